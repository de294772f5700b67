/- What the last text leans on, part 3 of 7: merged out of smaller texts. No condition. -/
import GoSem.ClaimChange
import Derived.Below
import Derived.KernelRfl
import Derived.Test.YtoengnbdallegaaGreatDoorQ1
open Int renaming ofNat -> AA,negSucc -> CG,tmod -> EW
open Bool renaming and_eq_true -> AF,or_eq_true -> BE,or_eq_false_iff -> BP,not_eq_true' -> CR,false_eq_true -> EF
open Nat renaming beq -> AK,le_refl -> AQ,beq_eq -> AU,ble -> Ag,add -> Ar,lt_or_ge -> Ax,le_trans -> BO,blt -> CJ,le_succ -> DQ,lt_of_lt_of_le -> GA,lt_succ_self -> Hw,zero_le -> Ke,sub_zero -> Lk,strongRecOn -> NJ,lt_succ_of_lt -> SQ,lt_trichotomy -> ADN
open Option renaming some -> AL
open List renaming mem_cons -> AS,replicate -> AY,mem_cons_self -> Aq,getElem?_eq_getElem -> A6,getElem?_eq_none -> BH,getElem?_map -> Bh,getElem?_cons_succ -> Bz,mem_cons_of_mem -> CE,map_cons -> CF,mem_map -> Du,range -> GB,getD_eq_getElem?_getD -> GC,cons_append -> Lq,mapM_cons -> SS,eq_nil_iff_forall_not_mem -> U1,mem_range -> wH
open Array renaming getElem?_setIfInBounds -> Aw,getElem?_eq_none -> Br,getElem?_eq_getElem -> B3,getElem?_toList -> Cq,size_setIfInBounds -> DY,getD_eq_getD_getElem? -> Dl,replicate -> Gc,mem_of_getElem? -> JR,getElem?_append_left -> Kh,mapM_eq_mapM_toList -> Ls,getElem?_eq_some_iff -> wM,getElem?_replicate -> AHH
set_option linter.unusedSimpArgs false
namespace Go.Og
variable {P:Program} {D:Al} {C:Cx}
theorem PL:∀{l:List BC},Sz l=true->∀o∈l,o.op ≠ .bad
 | [],_,o,ho=>by simp at ho
 | a::l,h,o,ho=>by
  simp only[Sz,AF]at h
  rcases AS.1 ho with rfl|ho
  ·intro hb;rw[hb]at h;cases h.1
  ·exact PL h.2 o ho
def rG (R:Ren) (B:Bs) (x:Option Value):Oc->Prop
 | .val v=>∃y,x=some y/\Am R v=some y
 | .mark m off=>∃i,B m=some i/\x=some (.pointer (some ⟨i.blk,i.shift+off,none⟩))
 | .pal d _=>∃i,B d=some i/\x=some (.pointer (some ⟨i.blk,i.shift+0,none⟩))
theorem rG.mono {R R':Ren} {B B':Bs} {x:Option Value} {c:Oc} (h:rG R B x c) (hR:Le R R') (hB:∀m i,B m=some i->B' m=some i):rG R' B' x c:=by
 cases c with
 | val v=>obtain⟨y,h1,h2⟩:=h;exact⟨y,h1,CV hR v y h2⟩
 | mark m off=>obtain⟨i,h1,h2⟩:=h;exact⟨i,hB _ _ h1,h2⟩
 | pal d z=>obtain⟨i,h1,h2⟩:=h;exact⟨i,hB _ _ h1,h2⟩
set_option maxHeartbeats 2000000 in
theorem iM (hD:∀f,CB P C.E C.G f (D f)) (hmix:P.follows .mixedOrders=true) {nR:Nat} {R0:Ren} {nt:Nat} (rid:Nat) {ops:Array Oper} {l:XL} {ancs:List Nat}
    (hflat:l.flat none=ops.toList.map (Az P C.G nt ops)) (hpl:List.zipWith DP.mk ancs l.lks=Fj ops) (hplan:NZ ops (ops.toList.map (Az P C.G nt ops)) (Fj ops)=true)
    (hok:l.okG none none=true) (hdo:aB (l.flat none) ancs=true) (hanl:ancs.length=l.lks.length) (hmk:l.makes=false) (hnb:Sz (l.flat none)=true)
    {s:St} {a0:Act} {w00:World} {J:Bk->Qs->Rg->H->AG} {res:V × H} (hpo:Nc s.q l.pals=true)
    (h:IA C.E D true true 0 l 0 s.e s.q s.r s.Z J=some res) (hI:Mt C nR R0 nt s a0 w00) (Q:Exit->Act->World->Prop)
    (hQ:∀s' a' w',J s'.e s'.q s'.r s'.Z=some res->Mt C nR R0 nt s' a' w'->Q .normal a' w'):(Code.region rid ops true).wp P Q a0 w00:=by
  obtain⟨s',hrun,hκ,_⟩:=HC l none none none true 0 s J res h hok (.inl ⟨rfl,rfl⟩) (fun _=>hmk)
  obtain⟨sts,oc,ex,hst0,hs',hat⟩:=Ws hrun
  rw[QU]at hs'
  obtain⟨hfl1,hfl2⟩:=GL l none
  have hsz:l.size=ops.size:=by rw[<-hfl1,hflat];simp
  generalize hnn:ops.size=n at *
  rw[hsz]at hs'
  have F:=PI (l:=ops.toList.map (Az P C.G nt ops)) (by simp) hplan
  have hgood:∀(i:Nat) (o:Oper),ops[i]? = some o->∃g,Az P C.G nt ops o=⟨o.dst,Ad P C.G o.op,g⟩/\N4 ops o.guard=some g/\Ff nt o.dst=true:=by
    intro i o ho
    have hmem:Az P C.G nt ops o∈l.flat none:=by
      rw[hflat,Du]
      exact⟨o,by simpa using JR ho,rfl⟩
    have hb:=PL hnb _ hmem
    unfold Az at hb ⊢
    split at hb
    · rename_i g h1 h2;exact⟨g,rfl,h1,h2⟩
    · exact(hb rfl).elim
  have hlt:∀{i:Nat} {o:Oper},ops[i]? = some o->i<n:=fun {i o} ho=>by
    rcases Ax i ops.size with h|h
    · omega
    · rw[Br h]at ho;cases ho
  have some3:∀(i:Nat),i<n->∃(o:Oper) (p:DP),ops[i]? = some o/\(Fj ops)[i]? = some p/\ancs.getD i 0=p.anc/\(l.flat none)[i]? = some (Az P C.G nt ops o)/\At C.E D (sts i) (Az P C.G nt ops o) p.looks (oc i) (ex i) (sts (i+1)):=by
    intro i hi
    have h1:i<ops.size:=by omega
    have ho:ops[i]? = some ops[i]:=B3 h1
    have hf:(l.flat none)[i]? = some (Az P C.G nt ops ops[i]):=by
      rw[hflat,Bh,Cq,ho];rfl
    have hk:l.lks[i]? = some (l.lks[i]'(by omega)):=A6 _
    have ha:ancs[i]? = some (ancs[i]'(by omega)):=A6 _
    refine⟨ops[i],⟨ancs[i]'(by omega),l.lks[i]'(by omega)⟩,ho,?_,?_,hf,?_⟩
    · rw[<-hpl,List.getElem?_zipWith,ha,hk]
    · rw[GC,ha];rfl
    · exact hat i _ _ (by rw[List.getElem?_zip_eq_some];exact⟨hf,hk⟩)
  have hdlt:∀(i:Nat) (o:Oper) (t:Nat),ops[i]? = some o->o.dst=some t->t<nt:=by
    intro i o t ho ht
    obtain⟨g,_,_,hd⟩:=hgood i o ho
    rw[ht]at hd;simpa[Ff]using hd
  have hdu:∀(i k:Nat) (o o':Oper) (t:Nat),i≠k->ops[i]? = some o->ops[k]? = some o'->o.dst=some t->o'.dst≠some t:=by
    intro i k o o' t hne ho ho' ht
    obtain⟨o1,p1,h1,h2,_⟩:=some3 i (hlt ho)
    obtain⟨o2,p2,h3,h4,_⟩:=some3 k (hlt ho')
    exact(F.dsts i k o o' p1 p2 hne ho ho' h2 h4 t ht).1
  have hpald:∀(k m:Nat) (z:List V),k<n->oc k = .pal m z->ex k=true/\∃(o:Oper) (el:TypeId),ops[k]? = some o/\o.dst=some m/\Ad P C.G o.op = .alloc el z:=by
    intro k m z hk hc
    obtain⟨o,p,ho,_,_,_,hA⟩:=some3 k hk
    obtain⟨g,hg,_,_⟩:=hgood k o ho
    rw[hg]at hA
    rw[hc]at hA
    generalize ex k=x at hA ⊢
    cases hA with
    | pal _ d el z hd ho' hw h=>exact⟨rfl,o,el,ho,hd,ho'⟩
  have hpalu:∀(k k' m:Nat) (z z':List V),k<n->k'<n->oc k = .pal m z->oc k' = .pal m z'->k=k':=by
    intro k k' m z z' hk hk' h1 h2
    rcases Nat.decEq k k' with hne|he
    · exfalso
      obtain⟨_,o,_,ho,hd,_⟩:=hpald k m z hk h1
      obtain⟨_,o',_,ho',hd',_⟩:=hpald k' m z' hk' h2
      exact hdu k k' o o' m hne ho ho' hd hd'
    · exact he
  let W:Nat->Prop:=fun i=>ex i=true/\∃o:Oper,ops[i]? = some o/\(Ad P C.G o.op).cls = .k
  have seg:∀(p i:Nat),p<=i->i<=n->(∀k:Nat,p<=k->k<i->¬W k)->(sts i).Z=(sts p).Z/\(∀m,(∀k z,p<=k->k<i->oc k ≠ .pal m z)->look (sts i).r m=look (sts p).r m) /\
      (∀k m z,p<=k->k<i->oc k = .pal m z->look (sts i).r m=some z):=by
    intro p i
    induction i with
    | zero=>
      intro hpi _ _
      have:p=0:=by omega
      subst this
      exact⟨rfl,fun _ _=>rfl,fun k m z h1 h2=>by omega⟩
    | succ i ih=>
      intro hpi' hin hW
      by_cases hpe:p=i+1
      · subst hpe;exact⟨rfl,fun _ _=>rfl,fun k m z h1 h2=>by omega⟩
      have hpi:p<=i:=by omega
      have ih:=ih hpi
      obtain⟨h1,h2,h3⟩:=ih (by omega) (fun k hk1 hk2=>hW k hk1 (by omega))
      obtain⟨o,p',ho,_,_,_,hA⟩:=some3 i (by omega)
      obtain⟨g,hg,_,_⟩:=hgood i o ho
      rw[hg]at hA
      have same:(sts (i+1)).Z=(sts i).Z->(sts (i+1)).r=(sts i).r->(∀m z,oc i ≠ .pal m z)->(sts (i+1)).Z=(sts p).Z/\(∀m,(∀k z,p<=k->k<i+1->oc k ≠ .pal m z)->look (sts (i+1)).r m=look (sts p).r m) /\
          (∀k m z,p<=k->k<i+1->oc k = .pal m z->look (sts (i+1)).r m=some z):=by
        intro e1 e2 hnp
        refine⟨e1.trans h1,fun m hm=>by rw[e2];exact h2 m (fun k z hk1 hk2=>hm k z hk1 (by omega)),fun k m z hk1 hk2 hkc=>?_⟩
        rw[e2]
        by_cases hki:k=i
        · subst hki;exact(hnp _ _ hkc).elim
        · exact h3 k m z hk1 (by omega) hkc
      have hWi:=hW i hpi (by omega)
      generalize hoc:oc i=c at hA
      generalize hex:ex i=x at hA
      cases hA with
      | skip _ hw h=>exact same h.2.2.2 h.2.2.1 (fun m z hh=>by rw[hoc]at hh;cases hh)
      | val _ pw v r' Z' hw hs hl hna h=>
        obtain⟨e1,e2⟩:=NQ hs (fun hk=>hWi ⟨hex,o,ho,hk⟩) hna
        exact same (h.2.2.2.trans e2) (h.2.2.1.trans e1) (fun m z hh=>by rw[hoc]at hh;cases hh)
      | mark _ pw id nx m off hw hs h=>exact same h.2.2.2 h.2.2.1 (fun m z hh=>by rw[hoc]at hh;cases hh)
      | pal _ d el z hd ho' hw h=>
        have hr:(sts (i+1)).r=(d,z)::BT [d] (sts i).r:=h.2.2.1
        have hne:∀m,m≠d->look (sts (i+1)).r m=look (sts i).r m:=fun m hm=>by
          rw[hr]
          simp only[look,AU]
          rw[if_neg (Ne.symm hm),B8,if_neg (fun hh=>hm ((GI d m).1 hh).symm)]
        refine⟨h.2.2.2.trans h1,fun m hm=>?_,fun k m z' hk1 hk2 hkc=>?_⟩
        · have hmd:m≠d:=fun he=>hm i z hpi (by omega) (by rw[hoc,he])
          rw[hne m hmd]
          exact h2 m (fun k z hk1 hk2=>hm k z hk1 (by omega))
        · by_cases hki:k=i
          · subst hki
            rw[hoc]at hkc;cases hkc
            rw[hr];simp[look]
          · have hmd:m≠d:=fun he=>hki (hpalu k i d z' z (by omega) (by omega) (by rw[hkc,he]) hoc)
            rw[hne m hmd]
            exact h3 k m z' hk1 (by omega) hkc
  have roots:∀(i:Nat),i<=n->∀(t m off:Nat),look (sts i).q t=some (m,off)->∀k z,k<n->oc k = .pal m z->k<i:=by
    intro i
    induction i with
    | zero=>
      intro _ t m off hl k z hk hc
      exfalso
      obtain⟨_,o,el,ho,hd,hcc⟩:=hpald k m z hk hc
      obtain⟨g,hg,_,_⟩:=hgood k o ho
      have hmem:Az P C.G nt ops o∈l.flat none:=by
        rw[hflat,Du]
        exact⟨o,by simpa using JR ho,rfl⟩
      have:=H6 l none hmk _ hmem m (by rw[hg];simp only[hcc];rfl) (by rw[hg];exact hd)
      exact KA hpo m this t off (hst0.2.1 t _ hl)
    | succ i ih=>
      intro hin t m off hl k z hk hc
      have ih:=ih (by omega)
      obtain⟨o,p',ho,_,_,_,hA⟩:=some3 i (by omega)
      generalize hoc:oc i=c at hA
      generalize hex:ex i=x at hA
      have old:∀t,look (sts i).q t=some (m,off)->k<i+1:=fun t ht=>SQ (ih t m off ht k z hk hc)
      cases hA with
      | skip _ hw h=>
        have:=h.2.1 t _ hl
        rw[Bt]at this
        split at this
        · cases this
        · exact old t this
      | val _ pw v r' Z' hw hs hl' hna h=>
        have:=h.2.1 t _ hl
        rw[Bt]at this
        split at this
        · cases this
        · exact old t this
      | mark _ pw id nx m' off' hw hs h=>
        have:=h.2.1 t _ hl
        rw[JY]at this
        split at this
        · simp only[AL.injEq,Prod.mk.injEq]at this
          obtain⟨rfl,rfl⟩:=this
          obtain⟨x,off2,hx⟩:=W5 hs
          cases x with
          | con v=>cases hx
          | tmp u=>
            have hx:look (J7 p'.looks (sts i).q) u=some (m',off2):=hx
            exact SQ (ih u m' off2 (GJ _ _ _ _ hx).1 k z hk hc)
        · rw[Bt]at this
          split at this
          · cases this
          · exact old t this
      | pal _ d el z' hd ho' hw h=>
        have:=h.2.1 t _ hl
        simp only[look,AU]at this
        split at this
        · simp only[AL.injEq,Prod.mk.injEq]at this
          obtain⟨rfl,rfl⟩:=this
          have:=hpalu k i d z z' hk (by omega) hc hoc
          omega
        · have h2:=(I3 _ _ _ _ this).2
          rw[B8]at h2
          split at h2
          · cases h2
          · exact old t h2
  have srcE:∀(i:Nat),i<=n->∀(t:Nat) (v:V),look (sts i).e t=some v->(∃(k:Nat) (o':Oper),k<i/\ops[k]? = some o'/\o'.dst=some t/\oc k = .val v)\/(look s.e t=some v/\∀(k:Nat) (o':Oper),k<i->ops[k]? = some o'->o'.dst≠some t):=by
    intro i
    induction i with
    | zero=>intro _ t v hl;exact .inr ⟨hst0.1 t v hl,fun k o' hk=>by omega⟩
    | succ i ih=>
      intro hin t v hl
      have ih:=ih (by omega)
      obtain⟨o,p',ho,_,_,_,hA⟩:=some3 i (by omega)
      obtain⟨g,hg,_,_⟩:=hgood i o ho
      rw[hg]at hA
      generalize hoc:oc i=c at hA
      generalize hex:ex i=x at hA
      have old:o.dst≠some t->look (sts i).e t=some v->(∃(k:Nat) (o':Oper),k<i+1/\ops[k]? = some o'/\o'.dst=some t/\oc k = .val v)\/(look s.e t=some v/\∀(k:Nat) (o':Oper),k<i+1->ops[k]? = some o'->o'.dst≠some t):=by
        intro hne ht
        rcases ih t v ht with ⟨k,o',h1,h2,h3,h4⟩|⟨h1,h2⟩
        · exact .inl ⟨k,o',by omega,h2,h3,h4⟩
        · refine .inr ⟨h1,fun k o' hk ho'=>?_⟩
          by_cases hki:k=i
          · subst hki;rw[ho]at ho';cases ho';exact hne
          · exact h2 k o' (by omega) ho'
      cases hA with
      | skip _ hw h=>
        have:=h.1 t _ hl
        rw[Fp]at this
        split at this
        · rename_i hd;cases this;exact .inl ⟨i,o,by omega,ho,hd,hoc⟩
        · rename_i hd;exact old hd this
      | val _ pw v' r' Z' hw hs hl' hna h=>
        have:=h.1 t _ hl
        rw[Fp]at this
        split at this
        · rename_i hd;cases this;exact .inl ⟨i,o,by omega,ho,hd,hoc⟩
        · rename_i hd;exact old hd this
      | mark _ pw id nx m' off' hw hs h=>
        have:=h.1 t _ hl
        rw[Bt]at this
        split at this
        · cases this
        · rename_i hd;exact old hd this
      | pal _ d el z' hd ho' hw h=>
        have:=h.1 t _ hl
        rw[B8]at this
        split at this
        · cases this
        · rename_i hm
          exact old (fun hh=>hm ((GI d t).2 (by rw[show o.dst=some d from hd]at hh;simpa using hh))) this
  have srcQ:∀(i:Nat),i<=n->∀(t m off:Nat),look (sts i).q t=some (m,off)->(∃(k:Nat) (o':Oper),k<i/\ops[k]? = some o'/\o'.dst=some t/\(oc k = .mark m off\/∃z,oc k = .pal m z/\off=0)) \/
      (look s.q t=some (m,off)/\∀(k:Nat) (o':Oper),k<i->ops[k]? = some o'->o'.dst≠some t):=by
    intro i
    induction i with
    | zero=>intro _ t m off hl;exact .inr ⟨hst0.2.1 t _ hl,fun k o' hk=>by omega⟩
    | succ i ih=>
      intro hin t m off hl
      have ih:=ih (by omega)
      obtain⟨o,p',ho,_,_,_,hA⟩:=some3 i (by omega)
      obtain⟨g,hg,_,_⟩:=hgood i o ho
      rw[hg]at hA
      generalize hoc:oc i=c at hA
      generalize hex:ex i=x at hA
      have old:o.dst≠some t->look (sts i).q t=some (m,off)->(∃(k:Nat) (o':Oper),k<i+1/\ops[k]? = some o'/\o'.dst=some t/\(oc k = .mark m off\/∃z,oc k = .pal m z/\off=0)) \/
          (look s.q t=some (m,off)/\∀(k:Nat) (o':Oper),k<i+1->ops[k]? = some o'->o'.dst≠some t):=by
        intro hne ht
        rcases ih t m off ht with ⟨k,o',h1,h2,h3,h4⟩|⟨h1,h2⟩
        · exact .inl ⟨k,o',by omega,h2,h3,h4⟩
        · refine .inr ⟨h1,fun k o' hk ho'=>?_⟩
          by_cases hki:k=i
          · subst hki;rw[ho]at ho';cases ho';exact hne
          · exact h2 k o' (by omega) ho'
      cases hA with
      | skip _ hw h=>
        have:=h.2.1 t _ hl
        rw[Bt]at this
        split at this
        · cases this
        · rename_i hd;exact old hd this
      | val _ pw v' r' Z' hw hs hl' hna h=>
        have:=h.2.1 t _ hl
        rw[Bt]at this
        split at this
        · cases this
        · rename_i hd;exact old hd this
      | mark _ pw id nx m' off' hw hs h=>
        have:=h.2.1 t _ hl
        rw[JY]at this
        split at this
        · rename_i hd
          simp only[AL.injEq,Prod.mk.injEq]at this
          obtain⟨rfl,rfl⟩:=this
          exact .inl ⟨i,o,by omega,ho,hd,.inl hoc⟩
        · rename_i hd
          rw[Bt,if_neg hd]at this
          exact old hd this
      | pal _ d el z' hd ho' hw h=>
        have:=h.2.1 t _ hl
        simp only[look,AU]at this
        split at this
        · rename_i hdt
          simp only[AL.injEq,Prod.mk.injEq]at this
          obtain⟨rfl,rfl⟩:=this
          exact .inl ⟨i,o,by omega,ho,by rw[<-hdt];exact hd,.inr ⟨z',hoc,rfl⟩⟩
        · rename_i hdt
          have h2:=(I3 _ _ _ _ this).2
          rw[B8]at h2
          split at h2
          · cases h2
          · exact old (fun hh=>hdt (by rw[show o.dst=some d from hd]at hh;simpa using hh)) h2
  obtain⟨Rs,Bs0,hx0,hn0,hm0,he0,hq0,hnt0,hd0⟩:=hI
  let Bi:Bs:=fun m=>if BX l.pals m=true then none else Bs0 m
  have hpalm:∀(k m:Nat) (z:List V),k<n->oc k = .pal m z->BX l.pals m=true:=by
    intro k m z hk hc
    obtain⟨_,o,el,ho,hd,hcc⟩:=hpald k m z hk hc
    obtain⟨g,hg,_,_⟩:=hgood k o ho
    have hmem:Az P C.G nt ops o∈l.flat none:=by
      rw[hflat,Du]
      exact⟨o,by simpa using JR ho,rfl⟩
    exact H6 l none hmk _ hmem m (by rw[hg];simp only[hcc];rfl) (by rw[hg];exact hd)
  let Inv:Array Bool->Act->World->Prop:=fun listed a w=>
    listed.size=n/\(∀(i:Nat) (o:Oper),listed.getD i false=true->ops[i]? = some o->∀ed∈o.after,Region.binds .any ed=true->listed.getD ed.on false=true)/\a.defers=[] /\
    ∃(R:Ren) (B:Bs) (p:Nat) (rL:Rg),p<=n/\(p=0\/∃j,p=j+1/\W j/\listed.getD j false=true)/\(∀j,j<n->W j->(listed.getD j false=true↔j<p))/\GQ nR R0 R/\nR<=(sts p).Z.next /\
      SL C R B rL (sts p).Z w/\(∀k m z,p<=k->k<n->listed.getD k false=true->oc k = .pal m z->look rL m=some z) /\
      (∀m,(∀k z,p<=k->k<n->listed.getD k false=true->oc k ≠ .pal m z)->look rL m=look (sts p).r m) /\
      (∀k m z,k<n->oc k = .pal m z->listed.getD k false=false->B m=none)/\nt<=a.tmps.size /\
      (∀(i:Nat) (o:Oper) (t:Nat),listed.getD i false=true->ops[i]? = some o->o.dst=some t->rG R B a.tmps[t]? (oc i)) /\
      (∀t v,look s.e t=some v->(∀(i:Nat) (o:Oper),listed.getD i false=true->ops[i]? = some o->o.dst≠some t)->∃x,a.tmps[t]? = some x/\Am R v=some x) /\
      (∀t m off,look s.q t=some (m,off)->(∀(i:Nat) (o:Oper),listed.getD i false=true->ops[i]? = some o->o.dst≠some t)->∃i,B m=some i/\a.tmps[t]? = some (.pointer (some ⟨i.blk,i.shift+off,none⟩)))
  have hanc:∀(listed:Array Bool),(∀(i:Nat) (o:Oper),listed.getD i false=true->ops[i]? = some o->∀ed∈o.after,Region.binds .any ed=true->listed.getD ed.on false=true) ->
      ∀(i:Nat) (o:Oper) (p:DP),ops[i]? = some o->(Fj ops)[i]? = some p->(∀ed∈o.after,Region.binds .any ed=true->listed.getD ed.on false=true)->∀(k:Nat),k<n->p.anc.testBit k=true->listed.getD k false=true:=by
    intro listed hcl i
    induction i using NJ with
    | _ i ih=>
      intro o p ho hp hed k hk hb
      obtain⟨ed,hem,hbe,hr⟩:=F.anc i o p ho hp k (by omega) hb
      have hlt':=F.edges i o ho ed hem hbe
      have hli:=hed ed hem hbe
      rcases hr with rfl|hr
      · exact hli
      · have hin:i<n:=hlt ho
        obtain⟨o2,p2,h1,h3,_⟩:=some3 ed.on (by omega)
        exact ih ed.on hlt' o2 p2 h1 h3 (fun ed2 hm2 hb2=>hcl ed.on o2 hli h1 ed2 hm2 hb2) k hk (by rw[<-IG h3];exact hr)
  have hready_nil:∀listed:Array Bool,listed.size=n->Region.ready .any ops listed=[]->∀k,k<n->listed.getD k false=true:=by
    intro listed hsz' hr k
    induction k using NJ with
    | _ k ih=>
      intro hk
      cases hb:listed.getD k false with
      | true=>rfl
      | false=>
        exfalso
        obtain⟨o,p,h1,_⟩:=some3 k hk
        have:k∈Region.ready .any ops listed:=mem_ready.2 ⟨by rw[DE hsz' hk];exact hb,o,h1,fun ed hm hbd=>ih ed.on (F.edges k o h1 ed hm hbd) (by have:=F.edges k o h1 ed hm hbd;omega)⟩
        rw[hr]at this;cases this
  have hnone:∀(listed:Array Bool),(∀(i:Nat) (o:Oper),listed.getD i false=true->ops[i]? = some o->∀ed∈o.after,Region.binds .any ed=true->listed.getD ed.on false=true) ->
      ∀(j:Nat) (t:Nat),j<=n->(j<n->∃o p,ops[j]? = some o/\(Fj ops)[j]? = some p/\listed.getD j false=false/\BX p.looks t=true) ->
      (∀(k:Nat) (o':Oper),k<j->ops[k]? = some o'->o'.dst≠some t)->∀(i:Nat) (o:Oper),listed.getD i false=true->ops[i]? = some o->o.dst≠some t:=by
    intro listed hcl j t hj hrd hk2 i oi hli hoi hdst
    have hin:i<n:=hlt hoi
    by_cases hij:i<j
    · exact hk2 i oi hij hoi hdst
    · have hjn:j<n:=by omega
      obtain⟨o,p,ho,hp,hnl,hlook⟩:=hrd hjn
      by_cases hie:i=j
      · subst hie;rw[hnl]at hli;cases hli
      · obtain⟨o3,p3,h1,h3,_⟩:=some3 i hin
        rw[hoi]at h1;cases h1
        have hd:=(F.dsts i j oi o p3 p hie hoi ho h3 hp t hdst).2 hlook
        rcases hd with hd|hd
        · have:=F.ancLt j p hp i (by omega) hd;omega
        · have:=hanc listed hcl i oi p3 hoi h3 (fun ed hm hb=>hcl i oi hli hoi ed hm hb) j hjn hd
          rw[hnl]at this;cases this
  have hwritten:∀(listed:Array Bool),(∀(i:Nat) (o:Oper),listed.getD i false=true->ops[i]? = some o->∀ed∈o.after,Region.binds .any ed=true->listed.getD ed.on false=true) ->
      ∀(j t k:Nat) (ok:Oper),j<=n->(j=n->∀k,k<n->listed.getD k false=true)->(j<n->∃o p,ops[j]? = some o/\(Fj ops)[j]? = some p/\BX p.looks t=true/\(∀ed∈o.after,Region.binds .any ed=true->listed.getD ed.on false=true)) ->
      k<j->ops[k]? = some ok->ok.dst=some t->listed.getD k false=true:=by
    intro listed hcl j t k ok hj hall hrd hk hok' hdst
    by_cases hjn:j<n
    · obtain⟨o,p,ho,hp,hlook,hed⟩:=hrd hjn
      obtain⟨o3,p3,h1,h3,_⟩:=some3 k (by omega)
      rw[hok']at h1;cases h1
      have hd:=(F.dsts k j ok o p3 p (by omega) hok' ho h3 hp t hdst).2 hlook
      rcases hd with hd|hd
      · exact hanc listed hcl j o p ho hp hed k (by omega) hd
      · have:=F.ancLt k p3 h3 j (by omega) hd;omega
    · exact hall (by omega) k (by omega)
  have hput:∀(a:Act) (d:Option Nat) (x:Value) (t:Nat),d≠some t->(a.put d x).tmps[t]? = a.tmps[t]? := by
    intro a d x t hne
    cases d with
    | none=>rfl
    | some d=>
      simp only[Act.put,Aw]
      rw[if_neg (fun h=>hne (by rw[h]))]
  have hputsz:∀(a:Act) (d:Option Nat) (x:Value),(a.put d x).tmps.size=a.tmps.size:=by
    intro a d x;cases d<;>simp[Act.put]
  have hclsk:∀(listed:Array Bool),(∀(i:Nat) (o:Oper),listed.getD i false=true->ops[i]? = some o->∀ed∈o.after,Region.binds .any ed=true->listed.getD ed.on false=true) ->
      ∀(i:Nat) (o:Oper),ops[i]? = some o->listed.getD i false=false->(∀ed∈o.after,Region.binds .any ed=true->listed.getD ed.on false=true)->∀j,j<n->W j ->
        ((Ad P C.G o.op).cls = .k->(j<i->listed.getD j false=true)/\(i<j->listed.getD j false=false)) /\
        ((Ad P C.G o.op).cls = .l->(j<i->listed.getD j false=true)/\(i<j->listed.getD j false=false)) /\
        ((Ad P C.G o.op).cls = .a->(i<j->listed.getD j false=false)):=by
    intro listed hcl i o ho hnl hed j hj hWj
    obtain⟨hexj,oj,hoj,hcj⟩:=hWj
    have hi:i<n:=hlt ho
    obtain⟨o1,p1,e1,e2,e3,e4,_⟩:=some3 i hi
    rw[ho]at e1;cases e1
    obtain⟨o2,p2,f1,f2,f3,f4,_⟩:=some3 j hj
    rw[hoj]at f1;cases f1
    obtain⟨g1,hg1,_⟩:=hgood i o ho
    obtain⟨g2,hg2,_⟩:=hgood j oj hoj
    have hup:∀k,k<n->p1.anc.testBit k=true->listed.getD k false=true:=hanc listed hcl i o p1 ho e2 hed
    have hdown:p2.anc.testBit i=true->listed.getD j false=false:=by
      intro hb
      cases hlj:listed.getD j false with
      | false=>rfl
      | true=>
        exfalso
        have:=hanc listed hcl j oj p2 hoj f2 (fun ed hm hb=>hcl j oj hlj hoj ed hm hb) i hi hb
        rw[hnl]at this;cases this
    have hl1:(ops.toList.map (Az P C.G nt ops))[i]? = some (Az P C.G nt ops o):=by rw[<-hflat];exact e4
    have hl2:(ops.toList.map (Az P C.G nt ops))[j]? = some (Az P C.G nt ops oj):=by rw[<-hflat];exact f4
    have hkj:(Az P C.G nt ops oj).op.cls = .k:=by rw[hg2];exact hcj
    have hdoj:=Gt hdo j (by rw[hfl1];omega)
    rw[f4]at hdoj
    simp only[hkj]at hdoj
    have hdoji:=Gt hdoj i (by rw[hfl1];omega)
    rw[e4]at hdoji
    rw[e3,f3]at hdoji
    refine⟨fun hk=>?_,fun hk=>?_,fun hk=>?_⟩
    · have hki:(Az P C.G nt ops o).op.cls = .k:=by rw[hg1];exact hk
      exact⟨fun hji=>hup j hj (F.kk j i _ _ p1 hji hl2 hl1 e2 hkj hki),fun hij=>hdown (F.kk i j _ _ p2 hij hl1 hl2 f2 hki hkj)⟩
    · have hki:(Az P C.G nt ops o).op.cls = .l:=by rw[hg1];exact hk
      simp only[hki,BE]at hdoji
      rcases hdoji with hb|hb
      · have:=F.ancLt i p1 e2 j (by omega) hb
        exact⟨fun _=>hup j hj hb,fun hij=>by omega⟩
      · have:=F.ancLt j p2 f2 i (by omega) hb
        exact⟨fun hji=>by omega,fun _=>hdown hb⟩
    · have hki:(Az P C.G nt ops o).op.cls = .a:=by rw[hg1];exact hk
      simp only[hki,BE,CR]at hdoji
      intro hij
      rcases hdoji with hb|hb
      · have:CJ i j=true:=by simpa using hij
        rw[this]at hb;cases hb
      · exact hdown hb
  have hallk:∀(listed:Array Bool),(∀(i:Nat) (o:Oper),listed.getD i false=true->ops[i]? = some o->∀ed∈o.after,Region.binds .any ed=true->listed.getD ed.on false=true) ->
      ∀(i:Nat) (o:Oper),ops[i]? = some o->(∀ed∈o.after,Region.binds .any ed=true->listed.getD ed.on false=true)->(Ad P C.G o.op).cls = .k->∀k m z,k<i->oc k = .pal m z->listed.getD k false=true:=by
    intro listed hcl i o ho hed hk k m z hki hc
    have hi:i<n:=hlt ho
    obtain⟨o1,p1,e1,e2,e3,e4,_⟩:=some3 i hi
    rw[ho]at e1;cases e1
    obtain⟨g1,hg1,_⟩:=hgood i o ho
    obtain⟨_,ok,el,hok',hdk,hck⟩:=hpald k m z (by omega) hc
    obtain⟨o2,p2,f1,f2,f3,f4,_⟩:=some3 k (by omega)
    rw[hok']at f1;cases f1
    obtain⟨g2,hg2,_⟩:=hgood k ok hok'
    have hkk:(Az P C.G nt ops o).op.cls = .k:=by rw[hg1];exact hk
    have hdoj:=Gt hdo i (by rw[hfl1];omega)
    rw[e4]at hdoj
    simp only[hkk]at hdoj
    have hdoji:=Gt hdoj k (by rw[hfl1];omega)
    rw[f4]at hdoji
    have hka:(Az P C.G nt ops ok).op.cls = .a:=by rw[hg2];simp only[hck];rfl
    rw[e3]at hdoji
    simp only[hka,BE,CR]at hdoji
    rcases hdoji with hb|hb
    · have:CJ k i=true:=by simpa using hki
      rw[this]at hb;cases hb
    · exact hanc listed hcl i o p1 ho e2 hed k (by omega) hb
  have hfin:∀listed a w,Inv listed a w->(∀k,k<n->listed.getD k false=true)->Q .normal a w:=by
    intro listed a w hI hall
    obtain⟨hls,hcl,hd,R,B,p,rL,hpn,hp0,hpw,hx,hnp,hmem,hr1,hr2,hbs,htsz,hw,hu,hqq⟩:=hI
    have hnW:∀k,p<=k->k<n->¬W k:=fun k h1 h2 hW=>by have:=(hpw k h2 hW).1 (hall k h2);omega
    obtain⟨s1,s2,s3⟩:=seg p n hpn (AQ _) hnW
    have hrr:∀m,look rL m=look (sts n).r m:=by
      intro m
      by_cases hex2:∃k z,p<=k/\k<n/\oc k = .pal m z
      · obtain⟨k,z,h1,h2,h3⟩:=hex2
        rw[hr1 k m z h1 h2 (hall k h2) h3,s3 k m z h1 h2 h3]
      · have hno:∀k z,p<=k->k<n->oc k ≠ .pal m z:=fun k z h1 h2 h3=>hex2 ⟨k,z,h1,h2,h3⟩
        rw[hr2 m (fun k z h1 h2 _=>hno k z h1 h2),s2 m hno]
    rw[hs']at hκ
    refine hQ (sts n) a w hκ ⟨R,B,hx,by rw[s1];exact hnp,⟨by rw[s1];exact hmem.rel,⟨fun m i hm=>?_,hmem.priv.inj,by rw[s1];exact hmem.priv.apart⟩⟩,⟨fun t v hv=>?_⟩,⟨fun t m off hv=>?_⟩,htsz,hd⟩
    · obtain⟨h1,l',h2,h3⟩:=hmem.priv.at_ m i hm
      exact⟨h1,l',by rw[<-hrr];exact h2,h3⟩
    · rcases srcE n (AQ _) t v hv with ⟨k,o',h1,h2,h3,h4⟩ | ⟨h1,h2⟩
      · have:=hw k o' t (hall k h1) h2 h3
        rw[h4]at this;exact this
      · exact hu t v h1 (hnone listed hcl n t (AQ _) (fun h=>by omega) h2)
    · rcases srcQ n (AQ _) t m off hv with ⟨k,o',h1,h2,h3,h4⟩ | ⟨h1,h2⟩
      · have:=hw k o' t (hall k h1) h2 h3
        rcases h4 with h4|⟨z,h4,rfl⟩
        · rw[h4]at this;exact this
        · rw[h4]at this;exact this
      · exact hqq t m off h1 (hnone listed hcl n t (AQ _) (fun h=>by omega) h2)
  have hstep:∀listed a w,Inv listed a w->∀i,i∈Region.ready .any ops listed->∀K:Act->World->Prop,(∀a' w',Inv (listed.setIfInBounds i true) a' w'->K a' w')->wpOp P ops Q i K a w:=by
    intro listed a w hI i hi K hK
    obtain⟨hls,hcl,hd,R,B,p,rL,hpn,hp0,hpw,hx,hnp,hmem,hr1,hr2,hbs,htsz,hw,hu,hqq⟩:=hI
    obtain⟨hli,o,ho,hed⟩:=mem_ready.1 hi
    have hin:i<n:=hlt ho
    have hnl:listed.getD i false=false:=by rw[<-DE hls hin];exact hli
    obtain⟨o2,pi,ho2,hpi,_,_,hA⟩:=some3 i hin
    rw[ho]at ho2;cases ho2
    obtain⟨g,hg,hcg,hdok⟩:=hgood i o ho
    rw[hg]at hA
    have hsz':i<listed.size:=by omega
    have hLs:∀k,(listed.setIfInBounds i true).getD k false=(decide (k=i) || listed.getD k false):=fun k=>H5 hsz'
    have hLi:(listed.setIfInBounds i true).getD i false=true:=by rw[hLs];simp
    have hLo:∀k,k≠i->(listed.setIfInBounds i true).getD k false=listed.getD k false:=fun k hk=>by rw[hLs];simp[hk]
    have hclk:=hclsk listed hcl i o ho hnl hed
    have hmw:=hmem.rel
    have hem:Gu R (Df true pi.looks (sts i).e) a.tmps:=by
      refine⟨fun t v hv=>?_⟩
      obtain⟨ht,hmemt⟩:=Fo _ _ _ _ hv
      rcases srcE i (by omega) t v ht with ⟨k,o',h1,h2,h3,h4⟩|⟨h1,h2⟩
      · have:=hw k o' t (hwritten listed hcl i t k o' (by omega) (fun h=>by omega) (fun _=>⟨o,pi,ho,hpi,hmemt,hed⟩) h1 h2 h3) h2 h3
        rw[h4]at this;exact this
      · exact hu t v h1 (hnone listed hcl i t (by omega) (fun _=>⟨o,pi,ho,hpi,hnl,hmemt⟩) h2)
    have hqm:SK B (Ji true pi.looks (sts i).q) a.tmps:=by
      refine⟨fun t m off hv=>?_⟩
      obtain⟨ht,hmemt⟩:=GJ _ _ _ _ hv
      rcases srcQ i (by omega) t m off ht with ⟨k,o',h1,h2,h3,h4⟩|⟨h1,h2⟩
      · have:=hw k o' t (hwritten listed hcl i t k o' (by omega) (fun h=>by omega) (fun _=>⟨o,pi,ho,hpi,hmemt,hed⟩) h1 h2 h3) h2 h3
        rcases h4 with h4|⟨z,h4,rfl⟩
        · rw[h4]at this;exact this
        · rw[h4]at this;exact this
      · exact hqq t m off h1 (hnone listed hcl i t (by omega) (fun _=>⟨o,pi,ho,hpi,hnl,hmemt⟩) h2)
    have mk:∀(R':Ren) (B':Bs) (p':Nat) (rL':Rg) (w':World) (x:Value),p'<=n->(p'=0\/∃j,p'=j+1/\W j/\(listed.setIfInBounds i true).getD j false=true) ->
        (∀j,j<n->W j->((listed.setIfInBounds i true).getD j false=true↔j<p'))->GQ nR R0 R'->nR<=(sts p').Z.next->SL C R' B' rL' (sts p').Z w' ->
        (∀k m z,p'<=k->k<n->(listed.setIfInBounds i true).getD k false=true->oc k = .pal m z->look rL' m=some z) ->
        (∀m,(∀k z,p'<=k->k<n->(listed.setIfInBounds i true).getD k false=true->oc k ≠ .pal m z)->look rL' m=look (sts p').r m) ->
        (∀k m z,k<n->oc k = .pal m z->(listed.setIfInBounds i true).getD k false=false->B' m=none)->Le R R'->(∀m b,B m=some b->B' m=some b) ->
        (∀t,o.dst=some t->rG R' B' (some x) (oc i))->K (a.put o.dst x) w':=by
      intro R' B' p' rL' w' x h1 h2 h3 h4 h5 h6 h7 h8 h9 h10 h11 h12
      refine hK _ _ ⟨by rw[DY];exact hls,?_,by rw[D6];exact hd,R',B',p',rL',h1,h2,h3,h4,h5,h6,h7,h8,h9,by rw[hputsz];exact htsz,?_,?_,?_⟩
      · intro i' o' hi' ho' ed hm' hb'
        rw[hLs]at hi' ⊢
        simp only[BE,decide_eq_true_eq]at hi' ⊢
        rcases hi' with rfl|hi'
        · rw[ho]at ho';cases ho'
          exact .inr (hed ed hm' hb')
        · exact .inr (hcl i' o' hi' ho' ed hm' hb')
      · intro i' o' t hi' ho' hdt
        rw[hLs]at hi'
        simp only[BE,decide_eq_true_eq]at hi'
        by_cases he:i'=i
        · subst he
          rw[ho]at ho';cases ho'
          have:=h12 t hdt
          have htl:t<a.tmps.size:=GA (hdlt i' o t ho hdt) htsz
          have hpt:(a.put o.dst x).tmps[t]? = some x:=by rw[hdt];simp[Act.put,Aw,htl]
          rw[hpt];exact this
        · have:=hw i' o' t (hi'.resolve_left he) ho' hdt
          rw[hput a o.dst x t (hdu i' i o' o t he ho' ho hdt)]
          exact this.mono h10 h11
      · intro t v hv hno
        rw[hput a o.dst x t (hno i o hLi ho)]
        obtain⟨y,hy1,hy2⟩:=hu t v hv (fun i' o' hi' ho'=>hno i' o' (by rw[hLs,hi'];simp) ho')
        exact⟨y,hy1,CV h10 v y hy2⟩
      · intro t m off hv hno
        rw[hput a o.dst x t (hno i o hLi ho)]
        obtain⟨b,hb1,hb2⟩:=hqq t m off hv (fun i' o' hi' ho'=>hno i' o' (by rw[hLs,hi'];simp) ho')
        exact⟨b,h11 m b hb1,hb2⟩
    have mk0:∀(R':Ren) (w':World) (x:Value),¬W i->(∀m z,oc i ≠ .pal m z)->GQ nR R0 R'->SL C R' B rL (sts p).Z w'->Le R R'->(∀t,o.dst=some t->rG R' B (some x) (oc i))->K (a.put o.dst x) w':=by
      intro R' w' x hnW hnp' h1 h2 h3 h4
      refine mk R' B p rL w' x hpn ?_ ?_ h1 hnp h2 ?_ ?_ ?_ h3 (fun _ _ h=>h) h4
      · rcases hp0 with h | ⟨j,h5,h6,h7⟩
        · exact .inl h
        · exact .inr ⟨j,h5,h6,by rw[hLs,h7];simp⟩
      · intro j hj hWj
        by_cases hji:j=i
        · subst hji;exact(hnW hWj).elim
        · rw[hLo j hji];exact hpw j hj hWj
      · intro k m z hk1 hk2 hk3 hk4
        by_cases hki:k=i
        · subst hki;exact(hnp' m z hk4).elim
        · rw[hLo k hki]at hk3;exact hr1 k m z hk1 hk2 hk3 hk4
      · intro m hm
        refine hr2 m (fun k z hk1 hk2 hk3=>?_)
        exact hm k z hk1 hk2 (by rw[hLs,hk3];simp)
      · intro k m z hk1 hk2 hk3
        by_cases hki:k=i
        · subst hki;rw[hLi]at hk3;cases hk3
        · rw[hLo k hki]at hk3;exact hbs k m z hk1 hk2 hk3
    have hext:∀R',(∀k,k<(sts p).Z.next->k≠(sts p).Z.next->R' k=R k)->GQ nR R0 R':=fun R' hk k hkn=>by rw[hk k (by omega) (by omega)];exact hx k hkn
    have hpi':(∀j,j<n->W j->i<j->listed.getD j false=false)->p<=i:=by
      intro hno
      rcases hp0 with h|⟨j,h1,h2,h3⟩
      · omega
      · rcases ADN j i with h4 | h4 | h4
        · omega
        · subst h4;rw[hnl]at h3;cases h3
        · have hW:=h2
          obtain⟨_,oj,hoj,_⟩:=h2
          rw[hno j (hlt hoj) hW h4]at h3;cases h3
    have hnoW:(∀j,j<n->W j->j<i->listed.getD j false=true)->∀k,p<=k->k<i->¬W k:=by
      intro hyes k hk1 hk2 hWk
      have:=(hpw k (by omega) hWk).1 (hyes k (by omega) hWk hk2)
      omega
    have hsame:p<=i->(∀k,p<=k->k<i->¬W k)->(sts i).Z=(sts p).Z/\∀x m off,Eo (Ji true pi.looks (sts i).q) x=some (m,off)->look rL m=look (sts i).r m:=by
      intro hpi2 hnW
      obtain⟨s1,s2,s3⟩:=seg p i hpi2 (by omega) hnW
      refine⟨s1,fun x m off hmx=>?_⟩
      cases x with
      | con v=>cases hmx
      | tmp u=>
        have hmx:look (Ji true pi.looks (sts i).q) u=some (m,off):=hmx
        obtain⟨b,hb,_⟩:=hqm.at_ u m off hmx
        have hroot:=roots i (by omega) u m off (GJ _ _ _ _ hmx).1
        by_cases hex2:∃k z,p<=k/\k<i/\oc k = .pal m z
        · obtain⟨k,z,h1,h2,h3⟩:=hex2
          have hlk:listed.getD k false=true:=by
            cases hlk:listed.getD k false with
            | true=>rfl
            | false=>have:=hbs k m z (by omega) h3 hlk;rw[hb]at this;cases this
          rw[hr1 k m z h1 (by omega) hlk h3,s3 k m z h1 h2 h3]
        · have hno:∀k z,p<=k->k<i->oc k ≠ .pal m z:=fun k z h1 h2 h3=>hex2 ⟨k,z,h1,h2,h3⟩
          rw[hr2 m (fun k z h1 h2 _ h3=>hno k z h1 (hroot k z h2 h3) h3),s2 m hno]
    have hgl:=hmw.globOk
    unfold wpOp
    rw[ho]
    simp only
    generalize hoc:oc i=c at hA
    generalize hexi:ex i=xx at hA
    cases hA with
    | skip _ hwn h=>
      rw[if_neg (by rw[C0 hem.env hcg hwn];simp)]
      exact mk0 R w undef (fun hW=>by have h9:=hW.1;rw[hexi]at h9;cases h9) (fun m z hh=>by rw[hoc]at hh;cases hh) hx hmem (Le.refl _) (fun t _=>by rw[hoc];exact⟨_,rfl,rfl⟩)
    | mark _ pw id nx m off hwn hs h=>
      rw[if_pos (C0 hem.env hcg hwn)]
      left
      have hs2:FZ C.E D pw (sts p).Z.next ((sts p).Z.next+1) (Ad P C.G o.op) (Df true pi.looks (sts i).e) (Ji true pi.looks (sts i).q) rL (sts p).Z (.mark m off):=ZC hs
      refine Kq hD hmem hem hqm o (hmw.fresh _ (AQ _)) (Hw _) (DQ _) hs2 K Q (fun v2 r2 Z2 heq=>by cases heq) (fun m2 off2 heq b hb=>?_)
      cases heq
      refine mk0 R w _ (fun hW=>?_) (fun m z hh=>by rw[hoc]at hh;cases hh) hx hmem (Le.refl _) (fun t _=>by rw[hoc];exact⟨b,hb,rfl⟩)
      obtain⟨_,o3,ho3,hc3⟩:=hW
      rw[ho]at ho3;cases ho3
      cases hs with
      | mv x _ _ hoo _=>have hoo:Ad P C.G o.op=_\/Ad P C.G o.op=_:=hoo;rcases hoo with hoo | hoo<;>(rw[hoo]at hc3;cases hc3)
      | fa d x _ _ hoo _=>have hoo:Ad P C.G o.op=_:=hoo;rw[hoo]at hc3;cases hc3
    | pal _ d el z hdd hoo hwn h=>
      rw[if_pos (C0 hem.env hcg hwn)]
      left
      have hoo:Ad P C.G o.op = .alloc el z:=hoo
      have hdd:o.dst=some d:=hdd
      have hca:(Ad P C.G o.op).cls = .a:=by rw[hoo];rfl
      have hple:=hpi' (fun j hj hW hij=>(hclk j hj hW).2.2 hca hij)
      have hBd:B d=none:=hbs i d z hin hoc hnl
      refine Yz hmem o (d:=d) hoo K Q (fun b w' hmem'=>?_)
      refine mk R (fun m=>if m=d then some b else B m) p ((d,z)::BT [d] rL) w' _ hpn ?_ ?_ hx hnp hmem' ?_ ?_ ?_ (Le.refl _) (fun m b' hb'=>?_) (fun t _=>?_)
      · rcases hp0 with h | ⟨j,h5,h6,h7⟩
        · exact .inl h
        · exact .inr ⟨j,h5,h6,by rw[hLs,h7];simp⟩
      · intro j hj hWj
        by_cases hji:j=i
        · subst hji
          obtain⟨_,o3,ho3,hc3⟩:=hWj
          rw[ho]at ho3;cases ho3
          rw[hca]at hc3;cases hc3
        · rw[hLo j hji];exact hpw j hj hWj
      · intro k m z' hk1 hk2 hk3 hk4
        by_cases hki:k=i
        · subst hki;rw[hoc]at hk4;cases hk4;simp[look]
        · rw[hLo k hki]at hk3
          have hmd:¬d=m:=fun he=>hki (hpalu k i m z' z hk2 hin hk4 (by rw[hoc,he]))
          simp only[look,AU]
          rw[if_neg hmd,B8,if_neg (fun hh=>hmd ((GI d m).1 hh))]
          exact hr1 k m z' hk1 hk2 hk3 hk4
      · intro m hm
        have hmd:¬d=m:=fun he=>hm i z hple hin hLi (by rw[hoc,he])
        simp only[look,AU]
        rw[if_neg hmd,B8,if_neg (fun hh=>hmd ((GI d m).1 hh))]
        exact hr2 m (fun k z' hk1 hk2 hk3=>hm k z' hk1 hk2 (by rw[hLs,hk3];simp))
      · intro k m z' hk1 hk2 hk3
        by_cases hki:k=i
        · subst hki;rw[hLi]at hk3;cases hk3
        · rw[hLo k hki]at hk3
          have hmd:¬m=d:=fun he=>hki (hpalu k i m z' z hk1 hin hk2 (by rw[hoc,he]))
          rw[if_neg hmd];exact hbs k m z' hk1 hk2 hk3
      · by_cases hmd:m=d
        · subst hmd;rw[hBd]at hb';cases hb'
        · rw[if_neg hmd];exact hb'
      · rw[hoc];exact⟨b,by simp,rfl⟩
    | val _ pw v r' Z' hwn hs hl' hna h=>
      rw[if_pos (C0 hem.env hcg hwn)]
      left
      have hs:FZ C.E D pw (sts i).Z.next ((sts i).Z.next+1) (Ad P C.G o.op) (Df true pi.looks (sts i).e) (Ji true pi.looks (sts i).q) (sts i).r (sts i).Z (.val v r' Z'):=hs
      have hl':o.dst=none\/v.live=true\/(Ad P C.G o.op).cls ≠ .k:=hl'
      have hna:(Ad P C.G o.op).cls ≠ .a:=hna
      have htok:∀(R':Ren) (x:Value),((v = .dead/\(Ad P C.G o.op).cls = .k)\/Am R' v=some x)->∀t,o.dst=some t->rG R' B (some x) (oc i):=by
        intro R' x hv t ht
        rw[hoc]
        refine⟨x,rfl,?_⟩
        rcases hv with ⟨rfl,hc⟩|hv
        · rcases hl' with h | h | h
          · rw[ht]at h;cases h
          · cases h
          · exact(h hc).elim
        · exact hv
      by_cases hck:(Ad P C.G o.op).cls = .k
      ·
        have hWi:W i:=⟨hexi,o,ho,hck⟩
        have hple:=hpi' (fun j hj hW hij=>((hclk j hj hW).1 hck).2 hij)
        have hnW:=hnoW (fun j hj hW hji=>((hclk j hj hW).1 hck).1 hji)
        obtain⟨hσ,hrm⟩:=hsame hple hnW
        obtain⟨s1,s2,s3⟩:=seg p i hple (by omega) hnW
        rw[hσ]at hs
        obtain⟨rL',hs2,hrel⟩:=PE (rL:=rL) hs hrm
        refine Kq hD hmem hem hqm o (hmw.fresh _ (AQ _)) (Hw _) (DQ _) hs2 K Q (fun v2 r2 Z2 heq R' w' x hle hk hn' hmem' hv=>?_) (fun m off heq=>by cases heq)
        cases heq
        have hσ':(sts (i+1)).Z=Z':=h.2.2.2
        have hr':(sts (i+1)).r=r':=h.2.2.1
        have hall:=hallk listed hcl i o ho hed hck
        have hold:∀m,(∀k z,i<=k->k<n->(listed.setIfInBounds i true).getD k false=true->oc k ≠ .pal m z)->look rL m=look (sts i).r m:=by
          intro m hm
          by_cases hex2:∃k z,p<=k/\k<i/\oc k = .pal m z
          · obtain⟨k,z,h1,h2,h3⟩:=hex2
            rw[hr1 k m z h1 (by omega) (hall k m z h2 h3) h3,s3 k m z h1 h2 h3]
          · have hno:∀k z,p<=k->k<i->oc k ≠ .pal m z:=fun k z h1 h2 h3=>hex2 ⟨k,z,h1,h2,h3⟩
            rw[hr2 m (fun k z h1 h2 h3 h4=>?_),s2 m hno]
            rcases Ax k i with h5|h5
            · exact hno k z h1 h5 h4
            · exact hm k z h5 h2 (by rw[hLs,h3];simp) h4
        have hmroot:∀x m off,Eo (Ji true pi.looks (sts i).q) x=some (m,off)->∀k z,k<n->oc k = .pal m z->k<i:=by
          intro x m off hmx
          cases x with
          | con v=>cases hmx
          | tmp u=>
            have hmx:look (Ji true pi.looks (sts i).q) u=some (m,off):=hmx
            exact roots i (by omega) u m off (GJ _ _ _ _ hmx).1
        refine mk R' B (i+1) rL' w' x (by omega) (.inr ⟨i,rfl,hWi,hLi⟩) ?_ (hext R' hk) (by rw[hσ'];omega) (by rw[hσ'];exact hmem') ?_ ?_ ?_ hle (fun _ _ h=>h) (htok R' x hv)
        · intro j hj hWj
          by_cases hji:j=i
          · subst hji;rw[hLi];simp
          · rw[hLo j hji]
            rcases ADN j i with h4|h4|h4
            · rw[((hclk j hj hWj).1 hck).1 h4];simp;omega
            · exact(hji h4).elim
            · rw[((hclk j hj hWj).1 hck).2 h4];simp;omega
        · intro k m z hk1 hk2 hk3 hk4
          have hk3':listed.getD k false=true:=by rw[hLo k (by omega)]at hk3;exact hk3
          have hb:=hr1 k m z (by omega) hk2 hk3' hk4
          rcases hrel with ⟨_,h6⟩|⟨x',m',off',c',l',h6,h7,_,h8⟩
          · rw[h6];exact hb
          · rw[h8]
            have hne:¬m'=m:=fun he=>by have:=hmroot x' m' off' h6 k z hk2 (by rw[he];exact hk4);omega
            rw[G9 (by rw[hrm x' m' off' h6];exact h7),if_neg hne];exact hb
        · intro m hm
          have hb:=hold m (fun k z hk1 hk2 hk3 hk4=>by
            rcases Nat.eq_or_lt_of_le hk1 with h5|h5
            · subst h5;rw[hoc]at hk4;cases hk4
            · exact hm k z (by omega) hk2 hk3 hk4)
          rw[hr']
          rcases hrel with ⟨h5,h6⟩|⟨x',m',off',c',l',h6,h7,h8,h9⟩
          · rw[h5,h6];exact hb
          · rw[h8,h9,G9 (by rw[hrm x' m' off' h6];exact h7),G9 h7,hb]
        · intro k m z hk1 hk2 hk3
          by_cases hki:k=i
          · subst hki;rw[hLi]at hk3;cases hk3
          · rw[hLo k hki]at hk3;exact hbs k m z hk1 hk2 hk3
      ·
        have hnWi:¬W i:=fun hW=>by
          obtain⟨_,o3,ho3,hc3⟩:=hW
          rw[ho]at ho3;cases ho3
          exact hck hc3
        have go:FZ C.E D pw (sts p).Z.next ((sts p).Z.next+1) (Ad P C.G o.op) (Df true pi.looks (sts i).e) (Ji true pi.looks (sts i).q) rL (sts p).Z (.val v rL (sts p).Z)->o.wp P a w K Q:=by
          intro hs2
          refine Kq hD hmem hem hqm o (hmw.fresh _ (AQ _)) (Hw _) (DQ _) hs2 K Q (fun v2 r2 Z2 heq R' w' x hle hk hn' hmem' hv=>?_) (fun m off heq=>by cases heq)
          cases heq
          exact mk0 R' w' x hnWi (fun m z hh=>by rw[hoc]at hh;cases hh) (hext R' hk) hmem' hle (htok R' x hv)
        cases hcls:(Ad P C.G o.op).cls with
        | k=>exact(hck hcls).elim
        | a=>exact(hna hcls).elim
        | p=>
          refine go ?_
          cases hs with
          | p _ hc h9=>exact .p v hc h9
          | l _ hc h9=>rw[hcls]at hc;cases hc
          | a _ b hc h9=>rw[hcls]at hc;cases hc
          | k _ Z1 _ hc h hs=>rw[hcls]at hc;cases hc
          | ld x m off l _ hoo hm hl h=>rw[hoo]at hcls;cases hcls
          | ldn n x m off l hoo hm hl h=>rw[hoo]at hcls;cases hcls
          | st n x y m off l cs u hw hoo hm hl hn hu hlu hcs h1 hlen h=>rw[hoo]at hcls;cases hcls
        | l=>
          have hple:=hpi' (fun j hj hW hij=>((hclk j hj hW).2.1 hcls).2 hij)
          have hnW:=hnoW (fun j hj hW hji=>((hclk j hj hW).2.1 hcls).1 hji)
          obtain⟨hσ,hrm⟩:=hsame hple hnW
          rw[hσ]at hs
          obtain⟨rL',hs2,_⟩:=PE (rL:=rL) hs hrm
          obtain⟨e1,e2⟩:=NQ hs2 hck hna
          rw[e1,e2]at hs2
          exact go hs2
  have hany:∀fuel listed a w,Inv listed a w->(GB n).countP (fun k=>!listed.getD k false)<=fuel->wpAny P .any ops Q fuel listed a w:=by
    intro fuel
    induction fuel with
    | zero=>
      intro listed a w hI hcnt
      have hall:∀k,k<n->listed.getD k false=true:=by
        intro k hk
        have h0:(GB n).countP (fun k=>!listed.getD k false)=0:=by omega
        have:=List.countP_eq_zero.1 h0 k (wH.2 hk)
        simpa using this
      refine⟨?_,hfin listed a w hI hall⟩
      apply U1.2
      intro j hj
      obtain⟨h1,o,h2,_⟩:=mem_ready.1 hj
      have hjn:j<n:=hlt h2
      rw[DE hI.1 hjn,hall j hjn]at h1
      cases h1
    | succ fuel ih=>
      intro listed a w hI hcnt
      refine⟨fun hr=>hfin listed a w hI (hready_nil listed hI.1 hr),fun i hi=>?_⟩
      have hin:i<n:=by
        obtain⟨_,o,h2,_⟩:=mem_ready.1 hi
        exact hlt h2
      have hnl:listed.getD i false=false:=by rw[<-DE hI.1 hin];exact(mem_ready.1 hi).1
      refine hstep listed a w hI i hi _ (fun a' w' hI'=>ih _ a' w' hI' ?_)
      have hsz':i<listed.size:=by rw[hI.1];exact hin
      have:=US (p:=fun k=>!(listed.setIfInBounds i true).getD k false) (q:=fun k=>!listed.getD k false) (fun k hk=>by
        simp only[CR]at hk ⊢
        rw[H5 hsz']at hk
        simp only[BP]at hk
        exact hk.2) (i:=i) (by simp only[hnl];rfl) (by simp only[H5 hsz'];simp) (GB n) (wH.2 hin)
      omega
  refine wp_region_any hmix ?_
  rw[hnn]
  have hrepl:∀k,(Gc n false).getD k false=false:=fun k=>by
    simp only[Dl,AHH]
    split<;>rfl
  refine hany n _ a0 _ ⟨by simp,?_,hd0,Rs,Bi,0,s.r,Ke _,.inl rfl,?_,hx0,by rw[hst0.2.2.2];exact hn0,?_,?_,?_,?_,hnt0,?_,?_,?_⟩ ?_
  · intro i o hi;rw[hrepl]at hi;cases hi
  · intro j hj hW;rw[hrepl];simp
  · rw[hst0.2.2.2]
    refine⟨hm0.rel.drawn _,⟨fun m i hm=>?_,fun m m' i i' hm hm' hb=>?_,fun m i hm=>?_⟩⟩
    · simp only[Bi]at hm
      split at hm
      · cases hm
      · exact hm0.priv.at_ m i hm
    · simp only[Bi]at hm hm'
      split at hm
      · cases hm
      · split at hm'
        · cases hm'
        · exact hm0.priv.inj m m' i i' hm hm' hb
    · simp only[Bi]at hm
      split at hm
      · cases hm
      · exact hm0.priv.apart m i hm
  · intro k m z h1 h2 h3;rw[hrepl]at h3;cases h3
  · intro m _;rw[hst0.2.2.1]
  · intro k m z h1 h2 _
    simp only[Bi]
    rw[if_pos (hpalm k m z h1 h2)]
  · intro i o t hi;rw[hrepl]at hi;cases hi
  · intro t v hv _;exact he0.at_ t v hv
  · intro t m off hv _
    obtain⟨i,h1,h2⟩:=hq0.at_ t m off hv
    refine⟨i,?_,h2⟩
    simp only[Bi]
    rw[if_neg (fun hh=>KA hpo m hh t off hv)]
    exact h1
  · refine BO (List.countP_le_length) (by simp)
end Go.Og
namespace Go.Og
variable {P:Program} {D:Al} {C:Cx}
theorem Ey {α:Type}:∀{l:List (Nat × α)} {k:Nat} {a:α},look l k=some a->(k,a)∈l
 | [],k,a,h=>by simp[look]at h
 | (m,b)::l,k,a,h=>by
  simp only[look,AU]at h
  split at h
  ·rename_i he;subst he;cases h;exact Aq
  ·exact CE _ (Ey h)
theorem Nr {e:Bk}:∀(ts:List (Nat × Co)) (J:Bk->AG) (res:V × H),VU e ts J=some res->∃e',(∀t v,look e' t=some v->look e t=some v)/\J e'=some res
 | [],J,res,h=>⟨[],fun t v hv=>by simp[look]at hv,h⟩
 | (t,ty)::l,J,res,h=>by
  simp only[VU]at h
  unfold B9 at h
  simp only at h
  cases hl:look e t with
  | none=>rw[hl]at h;cases h
  | some v=>
   rw[hl]at h
   have h2:=Gf _ _ _ _ h
   obtain⟨e',h3,h4⟩:=Nr l _ res h2
   refine⟨_,fun u w hu=>?_,h4⟩
   simp only[look,AU]at hu
   split at hu
   ·rename_i he;subst he;cases hu;exact hl
   ·exact h3 u w hu
theorem Nq {e:Bk}:∀(ts:List (Nat × Co)) (J:Bk->AG) (res:V × H),S4 e ts J=some res->∃e',(∀t v,look e' t=some v->look e t=some v/\v.live=true)/\J e'=some res
 | [],J,res,h=>⟨[],fun t v hv=>by simp[look]at hv,h⟩
 | (t,ty)::l,J,res,h=>by
  simp only[S4,BR]at h
  cases hl:look e t with
  | none=>rw[hl]at h;cases h
  | some v=>
   rw[hl]at h
   obtain⟨hlv,h⟩:=DL h
   have h2:=Gf _ _ _ _ h
   obtain⟨e',h3,h4⟩:=Nq l _ res h2
   refine⟨_,fun u w hu=>?_,h4⟩
   simp only[look,AU]at hu
   split at hu
   ·rename_i he;subst he;cases hu;exact⟨hl,hlv⟩
   ·exact h3 u w hu
theorem No {r:Rg}:∀(rs:List (Nat × List Co)) (J:Rg->AG) (res:V × H),VT r rs J=some res->∃r',(∀m l,look r' m=some l->look r m=some l)/\(∀m,BX (rs.map Prod.fst) m=true->∃l,look r' m=some l)/\J r'=some res
 | [],J,res,h=>⟨[],fun t v hv=>by simp[look]at hv,fun m hm=>by simp[BX]at hm,h⟩
 | (m,tys)::l,J,res,h=>by
  simp only[VT]at h
  cases hl:look r m with
  | none=>rw[hl]at h;cases h
  | some cs=>
   rw[hl]at h
   have h2:=Ix _ _ _ _ h
   obtain⟨r',h3,h4,h5⟩:=No l _ res h2
   refine⟨_,fun u w hu=>?_,fun u hu=>?_,h5⟩
   ·simp only[look,AU]at hu
    split at hu
    ·rename_i he;subst he;cases hu;exact hl
    ·exact h3 u w hu
   ·simp only[look,AU]
    by_cases he:m=u
    ·exact⟨cs,by rw[if_pos he]⟩
    ·rw[if_neg he]
     simp only[CF]at hu
     exact h4 u (((Ch m _ u).1 hu).resolve_left he)
theorem IP:∀(ms rs:List Nat) (q:Qs) (t:Nat) (p:Nat × Nat),look (Np ms rs q) t=some p->look q t=some p/\BX rs p.1=true
 | [],rs,q,t,p,h=>by simp[Np,look]at h
 | a::l,rs,q,t,p,h=>by
  simp only[Np]at h
  split at h
  ·rename_i p' hp
   split at h
   ·rename_i hm
    simp only[look,AU]at h
    split at h
    ·rename_i he;subst he;cases h;exact⟨hp,hm⟩
    ·exact IP l rs q t p h
   ·exact IP l rs q t p h
  ·exact IP l rs q t p h
theorem Nn {nR:Nat} {R0:Ren} {nt:Nat} {ts:List (Nat × Co)} {ms:List Nat} {rs:List (Nat × List Co)} {s:St} {J:St->AG} {res:V × H} (h:Ii ts ms rs s J=some res) {a:Act} {w:World} (hI:Mt C nR R0 nt s a w) :
  ∃s0,J s0=some res/\Mt C nR R0 nt s0 a w:=by
 unfold Ii at h
 obtain⟨e',he',h⟩:=Nr _ _ _ h
 obtain⟨r',hr1,hr2,h⟩:=No _ _ _ h
 obtain⟨R,B,h1,h2,h3,h4,h5,h6,h7⟩:=hI
 refine⟨_,h,R,fun m=>if BX (rs.map Prod.fst) m=true then B m else none,h1,h2,⟨h3.rel,⟨fun m i hm=>?_,fun m m' i i' hm hm'=>?_,fun m i hm=>?_⟩⟩,h4.sub he',⟨fun t m off hq=>?_⟩,h6,h7⟩
 ·split at hm
  ·rename_i hmem
   obtain⟨hO,l,hl,hok'⟩:=h3.priv.at_ m i hm
   obtain⟨l',hl'⟩:=hr2 m hmem
   have:=hr1 m l' hl'
   rw[hl]at this;cases this
   exact⟨hO,l,hl',hok'⟩
  ·cases hm
 ·split at hm
  ·split at hm'
   ·exact h3.priv.inj m m' i i' hm hm'
   ·cases hm'
  ·cases hm
 ·split at hm
  ·exact h3.priv.apart m i hm
  ·cases hm
 ·obtain⟨hq1,hq2⟩:=IP _ _ _ _ _ hq
  obtain⟨i,hi1,hi2⟩:=h5.at_ t m off hq1
  refine⟨i,?_,hi2⟩
  rw[if_pos hq2];exact hi1
theorem iO (hD:∀f,CB P C.E C.G f (D f)) {W:AE} (hW:OF P C.E C.G W) (hmix:P.follows .mixedOrders=true) (N nt:Nat) {nR:Nat} {R0:Ren} {res:V × H} :
  ∀(xc:XC) (c:Code),xc.strip=CD P C.G nt c->xc.ok=true->∀(s:St) (kn:St->AG) (kx:Nat->St->AG) (kr:St->AG),AM C.E D W N xc s kn kx kr=some res ->
   ∀(a:Act) (w:World) (Q:Exit->Act->World->Prop),Mt C nR R0 nt s a w->(∀s' a' w',kn s'=some res->Mt C nR R0 nt s' a' w'->Q .normal a' w') ->
    (∀id s' a' w',kx id s'=some res->Mt C nR R0 nt s' a' w'->Q (.exit id) a' w')->(∀s' a' w',kr s'=some res->Mt C nR R0 nt s' a' w'->Q .ret a' w')->c.wp P Q a w:=by
 intro xc
 induction xc with
 | bad=>intro c _ _ s kn kx kr h;cases h
 | keep ts ms rs xc ih=>
  intro c hs hok s kn kx kr h a w Q hI hn hx hr
  rw[Xk]at h
  obtain⟨s0,h,hI⟩:=Nn h hI
  exact ih c hs hok s0 kn kx kr h a w Q hI hn hx hr
 | skip=>
  intro c hs hok s kn kx kr h a w Q hI hn hx hr
  cases c<;>simp only[XC.strip,CD]at hs<;>(try (cases hs;done))
  ·exact wp_skip (hn s a w h hI)
  ·rename_i i o d;cases d<;>(first | (cases hs;done) | (simp only[CD]at hs;split at hs<;>cases hs))
 | exit id=>
  intro c hs hok s kn kx kr h a w Q hI hn hx hr
  cases c<;>simp only[XC.strip,CD]at hs<;>(try (cases hs;done))
  ·rename_i i o d;cases d<;>(first | (cases hs;done) | (simp only[CD]at hs;split at hs<;>cases hs))
  ·cases hs;exact wp_exit (hx id s a w h hI)
 | ret=>
  intro c hs hok s kn kx kr h a w Q hI hn hx hr
  cases c<;>simp only[XC.strip,CD]at hs<;>(try (cases hs;done))
  ·rename_i i o d;cases d<;>(first | (cases hs;done) | (simp only[CD]at hs;split at hs<;>cases hs))
  ·exact wp_ret (hr s a w h hI)
 | ops l=>
  intro c hs hok s kn kx kr h a w Q hI hn hx hr
  cases c<;>simp only[XC.strip,CD]at hs<;>(try (cases hs;done))
  rename_i i o d
  cases d
  case true=>simp only[CD]at hs;split at hs<;>cases hs
  simp only[CD,AC.region.injEq]at hs
  rw[aH]at h
  obtain⟨s',hrun,hκ,_⟩:=HC l none none none true 0 s _ res h hok (.inl ⟨rfl,rfl⟩) (fun h=>by cases h)
  refine wp_region_list (gN hD hrun o.toList a w ?_ hI (fun a' w' hI'=>hn _ a' w' hκ hI'))
  obtain⟨h1,h2⟩:=GL l none
  rw[List.map_fst_zip (by omega),hs]
 | draw l ancs=>
  intro c hs hok s kn kx kr h a w Q hI hn hx hr
  cases c<;>simp only[XC.strip,CD]at hs<;>(try (cases hs;done))
  rename_i i o d
  cases d<;>simp only[CD]at hs<;>(try (cases hs;done))
  split at hs
  case isFalse=>cases hs
  rename_i hplan
  simp only[AC.draw.injEq]at hs
  rw[Xl]at h
  unfold aC at h
  split at h
  ·rename_i hpo
   simp only[XC.ok,AF,AU,CR]at hok
   obtain⟨⟨⟨⟨k1,k2⟩,k3⟩,k4⟩,k5⟩:=hok
   exact iM hD hmix i hs.1 hs.2 hplan k1 k2 k3 k4 k5 hpo h hI Q (fun s' a' w' hκ hI'=>hn s' a' w' hκ hI')
  ·cases h
 | gdraw ops pl ts=>
  intro c hs hok s kn kx kr h a w Q hI hn hx hr
  cases c<;>simp only[XC.strip,CD]at hs<;>(try (cases hs;done))
  rename_i i o d
  cases d<;>simp only[CD]at hs<;>(try (cases hs;done))
  split at hs
  case isFalse=>cases hs
  rename_i hplan
  simp only[AC.draw.injEq]at hs
  obtain⟨rfl,rfl⟩:=hs
  rw[UO]at h
  cases h1:W (o.toList.map (Az P C.G nt o)) (Fj o) s.e s.Z with
  | none=>rw[h1]at h;cases h
  | some q=>
   obtain⟨e1,Z1⟩:=q
   rw[h1]at h
   obtain⟨e',he',h⟩:=Nq _ _ _ h
   obtain⟨R,B,g1,g2,g3,g4,g5,g6,g7⟩:=hI
   refine hW C rfl rfl nt i o s.e s.Z e1 Z1 hplan h1 R a w Q g3.rel g4.env g6 g7 (fun R' a' w' hx' hn' hrel' he1 hsz hd=>?_)
   refine hn _ a' w' h ⟨R',fun _=>none,g1.trans hx' g2,BO g2 hn',⟨hrel',⟨fun m i hm=>(by cases hm),fun m m' i i' hm=>(by cases hm),fun m i hm=>(by cases hm)⟩⟩,⟨fun t v hv=>?_⟩,⟨fun t m off hq=>(by simp[look]at hq)⟩,hsz,hd⟩
   obtain⟨h2,h3⟩:=he' t v hv
   rcases he1.at_ t v h2 with rfl|h4
   ·cases h3
   ·exact h4
 | seq p q ihp ihq=>
  intro c hs hok s kn kx kr h a w Q hI hn hx hr
  cases c<;>simp only[XC.strip,CD]at hs<;>(try (cases hs;done))
  ·rename_i i o d;cases d<;>(first | (cases hs;done) | (simp only[CD]at hs;split at hs<;>cases hs))
  rename_i c1 c2
  simp only[AC.seq.injEq]at hs
  simp only[XC.ok,AF]at hok
  rw[aG]at h
  refine wp_seq (ihp c1 hs.1 hok.1 s _ kx kr h a w _ hI (fun s' a' w' h' hI'=>?_) (fun id s' a' w' h' hI'=>hx id s' a' w' h' hI') (fun s' a' w' h' hI'=>hr s' a' w' h' hI'))
  exact ihq c2 hs.2 hok.2 s' kn kx kr h' a' w' Q hI' hn hx hr
 | cond o p q ihp ihq=>
  intro c hs hok s kn kx kr h a w Q hI hn hx hr
  cases c<;>simp only[XC.strip,CD]at hs<;>(try (cases hs;done))
  ·rename_i i o d;cases d<;>(first | (cases hs;done) | (simp only[CD]at hs;split at hs<;>cases hs))
  rename_i co c1 c2
  simp only[AC.cond.injEq]at hs
  obtain⟨rfl,h1,h2⟩:=hs
  simp only[XC.ok,AF]at hok
  rw[Xm]at h
  obtain⟨v,hv,_,h⟩:=Ae h
  obtain⟨cb,rfl,h9⟩:=Em h
  have hI2:=hI
  obtain⟨R,B,g1,g2,g3,g4,g5,g6,g7⟩:=hI2
  have hev:=Jd (a:=a) g4.env g3.rel.globOk hv
  cases cb with
  | true=>exact wp_cond_true hev (ihp c1 h1 hok.1 s kn kx kr h9 a w Q hI hn hx hr)
  | false=>exact wp_cond_false hev (ihq c2 h2 hok.2 s kn kx kr h9 a w Q hI hn hx hr)
 | block id p ih=>
  intro c hs hok s kn kx kr h a w Q hI hn hx hr
  cases c<;>simp only[XC.strip,CD]at hs<;>(try (cases hs;done))
  ·rename_i i o d;cases d<;>(first | (cases hs;done) | (simp only[CD]at hs;split at hs<;>cases hs))
  rename_i i c1
  simp only[AC.block.injEq]at hs
  obtain⟨rfl,hs⟩:=hs
  rw[UP]at h
  refine wp_block (ih c1 hs hok s kn _ kr h a w _ hI (fun s' a' w' h' hI'=>hn s' a' w' h' hI') (fun j s' a' w' h' hI'=>?_) (fun s' a' w' h' hI'=>hr s' a' w' h' hI'))
  show Exit.inBlock id Q (.exit j) a' w'
  simp only[Exit.inBlock]
  unfold BN at h'
  split at h'
  ·rename_i hj
   rw[AU]at hj
   rw[if_pos hj];exact hn s' a' w' h' hI'
  ·rename_i hj
   rw[if_neg (fun hh=>by rw[<-AU,hj]at hh;cases hh)];exact hx j s' a' w' h' hI'
 | loop ts ms rs p ih=>
  intro c hs hok s kn kx kr h a w Q hI hn hx hr
  cases c<;>simp only[XC.strip,CD]at hs<;>(try (cases hs;done))
  ·rename_i i o d;cases d<;>(first | (cases hs;done) | (simp only[CD]at hs;split at hs<;>cases hs))
  rename_i c1
  simp only[AC.loop.injEq]at hs
  rw[Xj]at h
  obtain⟨s0,h,hI⟩:=Nn h hI
  have key:∀(n:Nat) (s:St) (a:Act) (w:World),Af (fun rec s'=>AM C.E D W N p s' (fun s''=>Ii ts ms rs s'' rec) kx kr) n s=some res->Mt C nR R0 nt s a w->Code.rounds P c1 Q n a w:=by
   intro n
   induction n with
   | zero=>intro s a w h;cases h
   | succ n ihn=>
    intro s a w h hI
    have h:AM C.E D W N p s (fun s''=>Ii ts ms rs s'' (Af (fun rec s'=>AM C.E D W N p s' (fun s''=>Ii ts ms rs s'' rec) kx kr) n)) kx kr=some res:=h
    rw[rounds_succ]
    refine ih c1 hs hok s _ kx kr h a w _ hI (fun s' a' w' h' hI'=>?_) (fun id s' a' w' h' hI'=>hx id s' a' w' h' hI') (fun s' a' w' h' hI'=>hr s' a' w' h' hI')
    obtain⟨s2,h2,hI2⟩:=Nn h' hI'
    exact ihn s2 a' w' h2 hI2
  exact wp_loop_rounds N (key N s0 a w h hI)
theorem TX {α β:Type} {x:Result α} {g:α->World->Result β} {z:β} {w:World} (h:Result.andThen x g = .ok z w):∃y w2,x = .ok y w2/\g y w2 = .ok z w:=by
 cases x with
 | ok y w2=>exact⟨y,w2,rfl,h⟩
 | _=>cases h
theorem VA {R:Ren} {B:Bs} {s:St} {w:World} {a:Act} (hm:SL C R B s.r s.Z w) (he:Gu R s.e a.tmps) (hq:SK B s.q a.tmps):∀(rs:List ResultVar) (as:List AR) (J:List V->AG) (res:V × H),Fv P rs=some as->Cy C.E s as J=some res ->
  ∃l xs,J l=some res/\Au R l=some xs/\(rs.mapM (m:=Sem) fun
   | .tmp t=>pure (a.tmps.getD t undef)
   | .cell b t=>do loadVar t (<-asAddr (a.tmps.getD b undef))).run P w = .ok xs w
 | [],as,J,res,hc,h=>by
  simp only[Fv,AL.injEq]at hc;subst hc
  exact⟨[],[],h,rfl,rfl⟩
 | r::rs,as,J,res,hc,h=>by
  simp only[Fv]at hc
  cases hr:N3 P r with
  | none=>rw[hr]at hc;cases hc
  | some ar=>
   cases hrs:Fv P rs with
   | none=>rw[hr,hrs]at hc;cases hc
   | some as'=>
    rw[hr,hrs]at hc
    simp only[AL.injEq]at hc
    subst hc
    have one:∀(C2:Cx) (R2:Ren) (Z2:H) (e2:Bk) (v:V),DO C2 R2 Z2 w->Bf R2 e2 a.tmps->J8 C2.E e2 Z2 [ar]=some [v]->Le R R2->(∃x,Am R v=some x)->Cy C.E s as' (fun l=>J (v::l))=some res ->
      ∃l xs,J l=some res/\Au R l=some xs/\((r::rs).mapM (m:=Sem) fun
       | .tmp t=>pure (a.tmps.getD t undef)
       | .cell b t=>do loadVar t (<-asAddr (a.tmps.getD b undef))).run P w = .ok xs w:=by
     intro C2 R2 Z2 e2 v h1 h2 h3 hle ⟨x,hx⟩ h4
     obtain⟨xs,h5,h6⟩:=My (P:=P) h1 h2 [r] [ar] [v] (by simp only[Fv,hr]) h3
     obtain⟨y,ys,h7,h8,rfl⟩:=BF.1 h5
     simp only[Au,AL.injEq]at h8;subst h8
     have:=CV hle v x hx
     rw[h7]at this;cases this
     obtain⟨l,xs,g1,g2,g3⟩:=VA hm he hq rs as' _ res hrs h4
     refine⟨v::l,_,g1,BF.2 ⟨_,_,hx,g2,rfl⟩,?_⟩
     rw[SS]at h6 ⊢
     rw[Sem.run_bind]at h6 ⊢
     obtain⟨y2,w2,e1,e2⟩:=TX h6
     simp only[Sem.run_bind,List.mapM_nil,Sem.run_pure,Result.andThen_ok,Result.ok.injEq,List.cons.injEq,and_true]at e2
     obtain⟨rfl,rfl⟩:=e2
     refine(congrArg (fun r=>Result.andThen r _) e1).trans ?_
     simp only[Result.andThen_ok,Sem.run_bind,g3,Sem.run_pure]
    cases r with
    | tmp t=>
     simp only[N3,AL.injEq]at hr
     subst hr
     simp only[Cy]at h
     unfold B9 at h
     simp only at h
     cases hl:look s.e t with
     | none=>rw[hl]at h;cases h
     | some v=>
      rw[hl]at h
      obtain⟨x,hx1,hx2⟩:=he.at_ t v hl
      have hge:Ft s.e t=v:=by simp only[Ft,hl]
      refine one C R s.Z s.e v hm.rel he.env ?_ (Le.refl _) ⟨x,hx2⟩ h
      simp only[J8,hge,LC hx2]
    | cell t ty=>
     simp only[N3]at hr
     cases hs:GF P ty with
     | none=>rw[hs]at hr;cases hr
     | some n=>
      rw[hs]at hr
      simp only[AL.injEq]at hr
      subst hr
      simp only[Cy]at h
      split at h
      ·rename_i m off hqt
       obtain⟨i,hi1,hi2⟩:=hq.at_ t m off hqt
       split at h
       ·rename_i cs hcs
        have hr2:=hm.priv.one hm.rel hi1 hcs
        have he2:Bf (Hy R s.Z.next i) [(t,.ptr s.Z.next off)] a.tmps:=Bf.cons ⟨fun k v hk=>by simp[look]at hk⟩ hi2 (Ci (B0 _ _ _))
        have hle:Le R (Hy R s.Z.next i):=(EG R s.Z.next i).le hm.rel.fresh
        obtain⟨_,l',hl',hok⟩:=hm.priv.at_ m i hi1
        rw[hcs]at hl';cases hl'
        obtain⟨arr,el,lo,hi,_,hh,_⟩:=hok
        have hgp:Ft [(t,V.ptr s.Z.next off)] t = .ptr s.Z.next off:=by simp[Ft,look]
        have hrd:rd C.E ⟨s.Z.next+1,[(s.Z.next,.cells cs)]⟩ s.Z.next=some cs:=by simp[rd,look]
        split at h
        ·obtain⟨v,hv,h⟩:=Fk h
         obtain⟨x,hx,_⟩:=hh off v hv
         refine one _ _ _ _ v hr2 he2 ?_ hle ⟨x,hx⟩ h
         simp only[J8,hgp,hrd,hv]
        ·rename_i n
         obtain⟨hb,h⟩:=Fh h
         obtain⟨xs,hxs,_⟩:=hh.cells (by simpa using hb)
         refine one _ _ _ _ _ hr2 he2 ?_ hle ⟨_,DF hxs⟩ h
         simp only[J8,hgp,Ki,hrd,hb,if_true]
       ·cases h
      ·obtain⟨p,hp,_,h⟩:=Ae h
       obtain⟨b,o,rfl,h9⟩:=Dg h
       have hgp:Ft s.e t = .ptr b o:=hp
       cases n with
       | none=>
        simp only at h9
        obtain⟨l,hl,h9⟩:=Iy h9
        obtain⟨v,hv,h9⟩:=Fk h9
        obtain⟨i,arr,el,fr,_,_,hold⟩:=hm.rel.read hl
        obtain⟨x,hx,_⟩:=hold o v hv
        refine one C R s.Z s.e v hm.rel he.env ?_ (Le.refl _) ⟨x,hx⟩ h9
        simp only[J8,hgp,hl,hv]
       | some n=>
        simp only at h9
        obtain⟨l,hl,h9⟩:=Iy h9
        obtain⟨hb,h9⟩:=Fh h9
        obtain⟨i,arr,el,fr,_,_,hold⟩:=hm.rel.read hl
        obtain⟨xs,hxs,_⟩:=hold.cells (by simpa using hb)
        refine one C R s.Z s.e _ hm.rel he.env ?_ (Le.refl _) ⟨_,DF hxs⟩ h9
        simp only[J8,hgp,Ki,hl,hb,if_true]
theorem gP {E:EB} {G:Nat->Bool} (hD:∀f,CB P E G f (D f)) {W:AE} (hW:OF P E G W) (hmix:P.follows .mixedOrders=true) (N:Nat) {f:FuncId} {fn:Func} (hf:P.funcs[f]? = some fn)
  {xf:C9} {af':X8} (hc:LU P G fn=some af') (hs:xf.strip=af') (hxok:xf.body.ok=true) (hok:HF P f=true):CB P E G f (Be E D W N xf):=by
 intro C hE hG R Z w args xs v Z' h hrel hxs
 subst hE hG
 refine⟨hok,?_⟩
 unfold LU at hc
 cases hb:fn.body with
 | none=>rw[hb]at hc;cases hc
 | some c=>
  cases hr:Fv P fn.results.toList with
  | none=>rw[hb,hr]at hc;cases hc
  | some rs=>
   rw[hb,hr]at hc
   simp only[AL.injEq]at hc
   rw[<-hs]at hc
   obtain⟨nt,params,resl,body⟩:=xf
   simp only[C9.strip,X8.mk.injEq]at hc
   obtain⟨rfl,rfl,_,hbody⟩:=hc
   unfold Be at h
   simp only at h
   have h:=Ix _ _ _ _ h
   have hlen:=BM hxs
   refine calls_of_wp hf hb ?_
   have hsz:fn.ntmps<=(xs.toArray++Gc (fn.ntmps-xs.toArray.size) undef).size:=by simp;omega
   have harg:∀(l:List V) (ys:List Value) (k:Nat),Au R l=some ys->∀(t:Nat) (v:V),look (Ms k l) t=some v->∃y,k<=t/\ys[t-k]? = some y/\Am R v=some y:=by
    intro l
    induction l with
    | nil=>intro ys k _ t v h;simp[Ms,look]at h
    | cons u l ih=>
     intro ys k hc t v h
     obtain⟨y,zs,hy,hz,rfl⟩:=BF.1 hc
     simp only[Ms,look]at h
     by_cases hk:k=t
     ·subst hk
      rw[if_pos (by simp)]at h
      cases h
      exact⟨y,AQ _,by simp,hy⟩
     ·rw[if_neg (by simpa using hk)]at h
      obtain⟨q,h1,h2,h3⟩:=ih zs (k+1) hz t v h
      exact⟨q,by omega,by rw[show t-k=(t-(k+1))+1 by omega,Bz];exact h2,h3⟩
   have he0:Gu R (Ms 0 args) (xs.toArray++Gc (fn.ntmps-xs.toArray.size) undef):=by
    refine⟨fun k u hk=>?_⟩
    obtain⟨y,_,h2,h3⟩:=harg args xs 0 hxs k u hk
    refine⟨y,?_,h3⟩
    rw[Lk]at h2
    have hlt:k<xs.length:=by
     rcases Ax k xs.length with h|h
     ·exact h
     ·rw[BH h]at h2;cases h2
    rw[Kh (by simpa using hlt)]
    simpa using h2
   have fin:∀(s':St) (a':Act) (w':World),(Cy C.E s' rs fun l=>some (DH l,s'.Z))=some (v,Z')->Mt C Z.next R fn.ntmps s' a' w' ->
     a'.defers=[]/\∃x,(results fn a'.tmps).run P w' = .ok x w'/\∃R' x',GQ Z.next R R'/\Z.next<=Z'.next/\DO C R' Z' w'/\Am R' v=some x'/\Ending.returned x = .returned x':=by
    intro s' a' w' h' ⟨R1,B1,k1,k2,k3,k4,k5,k6,k7⟩
    obtain⟨l,ys,g1,g2,g3⟩:=VA (P:=P) k3 k4 k5 fn.results.toList rs _ _ hr h'
    simp only[AL.injEq,Prod.mk.injEq]at g1
    obtain⟨rfl,rfl⟩:=g1
    have hres:(results fn a'.tmps).run P w' = .ok (if h:ys.toArray.size=1 then ys.toArray[0] else .tuple ys.toArray) w':=by
     unfold results
     refine(Sem.run_bind P w' _ _).trans ?_
     rw[Ls,Sem.run_map]
     refine(congrArg (fun r=>Result.andThen (Result.andThen r _) _) g3).trans rfl
    exact⟨k7,_,hres,R1,_,k1,k2,k3.rel,VJ g2,rfl⟩
   refine iO (C:=C) hD hW hmix N fn.ntmps body c hbody.symm hxok _ _ _ _ h _ w _ ⟨R,fun _=>none,GQ.refl _ _,AQ _,⟨hrel,⟨fun m i hm=>(by cases hm),fun m m' i i' hm=>(by cases hm),fun m i hm=>(by cases hm)⟩⟩,he0,⟨fun t m off hq=>(by simp[look]at hq)⟩,hsz,rfl⟩ ?_ ?_ ?_
   ·intro s' a' w' h' hI'
    obtain⟨h1,x,h2,h3⟩:=fin s' a' w' h' hI'
    exact⟨h1,x,h2,h3⟩
   ·intro id s' a' w' h' _;cases h'
   ·intro s' a' w' h' hI'
    obtain⟨h1,x,h2,h3⟩:=fin s' a' w' h' hI'
    exact⟨h1,x,h2,h3⟩
end Go.Og
namespace Go.Og
def okB (a:AG):Bool:=match a with
 | some (.bool true,_)=>true
 | _=>false
theorem Y5 {a:AG} (h:okB a=true):∃Z,a=some (.bool true,Z):=by
 unfold okB at h
 split at h
 ·exact⟨_,rfl⟩
 ·cases h
def N9 (ng:Nat) (l:List (Nat × BI)):Ren:=fun id=>if id<ng then some ⟨id,0,0⟩else look l id
theorem II.lt {R:Ren} {i:BI} {b:Ea} {w:World} (h:II R i b w):i.blk<w.heap.size:=by
 cases b with
 | cells l=>
  obtain⟨arr,el,fr,h1,_⟩:=h
  exact(wM.1 h1).1
 | _=>exact h.elim
theorem T8 {G:Nat->Bool} {ng n0:Nat} (hG:∀g,G g=true->g<ng) (hn:ng<=n0) (l:List (Nat × BI)) (E:EB) (w:World) (hl:∀id i,look l id=some i->id<n0)
  (hE:∀id b,look E id=some b->∃i,N9 ng l id=some i/\II (N9 ng l) i b w) :
  DO ⟨fun blk=>w.heap.size<=blk,w,E,G⟩ (N9 ng l) ⟨n0,[]⟩ w where
 fresh id hid:=by
  have hid':n0<=id:=hid
  unfold N9;rw[if_neg (by omega)]
  cases hk:look l id with
  | none=>rfl
  | some i=>have:=hl id i hk;omega
 own id b hb:=by simp[look]at hb
 inj id id' b b' i i' hb:=by simp[look]at hb
 ext id b hb:=by
  obtain⟨i,h1,h2⟩:=hE id b hb
  exact⟨i,h1,Nat.not_le.2 h2.lt,h2⟩
 glob g hg:=⟨⟨g,0,0⟩,by unfold N9;rw[if_pos (hG g hg)],rfl,rfl⟩
 fr _ _:=rfl
 size:=AQ _
 new _ h:=h
 os:=rfl
 tape:=rfl
 output:=rfl
set_option linter.unusedVariables false
noncomputable section
section
variable {R S:Ren} {n0 d:Nat}
theorem I5 {α:Type}:∀(l m:List (Nat × α)) (id:Nat),look (l++m) id=match look l id with | some b=>some b | none=>look m id
 | [],m,id=>rfl
 | (k,b)::l,m,id=>by
  simp only[Lq,look]
  cases AK k id with
  | true=>rfl
  | false=>simpa using I5 l m id
end
def VD:List (V × V)->List (V × V)->Bool
 | [],[]=>true
 | p::l,q::m=>V.beq p.1 q.1&&V.beq p.2 q.2&&VD l m
 | _,_=>false
theorem Ss:∀{l m:List (V × V)},VD l m=true->l=m
 | [],[],_=>rfl
 | (a,b)::l,(c,d)::m,h=>by
  simp only[VD,AF]at h
  rw[L9 _ _ h.1.1,L9 _ _ h.1.2,Ss h.2]
 | [],_::_,h=>by cases h
 | _::_,[],h=>by cases h
def aS:Ea->Ea->Bool
 | .cells a,.cells b=>KR a b
 | .map a,.map b=>VD a b
 | _,_=>false
theorem aR {a b:Ea} (h:aS a b=true):a=b:=by
 cases a<;>cases b<;>simp only[aS,EF]at h
 ·rw[Jh _ _ h]
 ·rw[Ss h]
def XH:EB->EB->Bool
 | [],_=>true
 | p::l,m=>(match BB m p.1 with
  | some b=>aS b p.2
  | none=>false)&&XH l m
theorem M0:∀{l m:EB},XH l m=true->∀p∈l,look m p.1=some p.2
 | [],_,_,p,hp=>by cases hp
 | q::l,m,h,p,hp=>by
  simp only[XH,AF,Ap]at h
  rcases AS.1 hp with rfl|hp
  ·have h1:=h.1
   cases hb:look m p.1 with
   | none=>rw[hb]at h1;cases h1
   | some b=>rw[hb]at h1;rw[aR h1]
  ·exact M0 h.2 p hp
theorem UW {P:Program} {w:World} {r:Reach} {base:Nat} {t e:TypeId} {v:Value} (ht:P.underlying t=some (.slice e)) (h:Cell.okWide P w r base t v) :
  v = .slice none 0 0\/∃blk off len cap,v = .slice (some ⟨blk,off,none⟩) len cap:=by
 unfold Cell.okWide at h
 rw[ht]at h
 unfold Cell.ok at h
 rw[ht]at h
 cases v<;>simp at h
 rename_i a len cap
 cases a with
 | none=>
  cases len<;>cases cap<;>first | exact .inl rfl | simp at h
 | some a=>
  obtain⟨b,o,s⟩:=a
  simp only at h
  obtain⟨_,_,_,hs,_⟩:=h
  simp only at hs
  subst hs
  exact .inr ⟨_,_,_,_,rfl⟩
end
end Go.Og
set_option linter.all false
set_option maxRecDepth 100000
set_option maxHeartbeats 0
namespace Go.Proofs.YtoengnbdallegaaGreatDoor
open Go Go.Og
noncomputable section
variable (E:EB) (D:Al) (W:AE) (N:Nat)
def y0:V:=(V.int .i64 (AA 0))
def y1:Co:=(.agg [.i,.i,.any,.any,.i,.any])
def y2:Co:=(.agg [.i,.any,.bool,.bool,.bool,.bool,.i,.i,.any,.any,.i,.bool,.i])
def y3:V:=(V.bool false)
def y4:Co:=(.agg [.i,.i])
def y5:V:=(V.int .u8 (AA 0))
def y6:Co:=(.agg [.str,.any,.any,.any])
def y7:Co:=(.agg [.i,.str,.i])
def y8:V:=(V.str ⟨0,0⟩)
def y9:Dx:=(.mov (.t 0))
def T5:V:=(V.int .u64 (AA 0))
def kY:Co:=(.agg [.str,.i,.bool,.bool,.i,.i,.any,.any,.i,.any,.i])
def Io:Dx:=(.mov (.t 1))
def fY:V:=(V.bool true)
def QV:AO:=(.con fY)
def pX:Dx:=(.alloc 34 [y0,y0,V.nils,V.nils,y0,V.nils])
def ff:AO:=(.con (V.int .u8 (AA 45)))
def Wl:V:=(V.int .i64 (CG 0))
def fZ:AO:=(.con (V.int .u8 (AA 128)))
def Lr:XC:=(.exit 0)
def kW:XC:=(.cond (.tmp 9) .skip
 Lr)
def T4:Co:=(.agg [.i,.any])
def y20:XC:=(.cond (.tmp 16) (.z (.m 17 5<|
.m 4 17<|
.nil)
 .ret)
 .skip)
def y21:XC:=(.ops (.b 18 .add .none (.t 8) (.i 1)<|
.m 8 18<|
.nil))
def Kl:AO:=(.con y3)
def wj:XC:=(.ops (.m 17 7<|
.b 18 .add .none (.t 17) (.i 1)<|
.m 7 18<|
.nil))
def pW:AO:=(.con (V.int .u8 (AA 48)))
def y26:AO:=(.con (V.int .u64 (AA 7)))
def pV:Dx:=(.faddr 1 (.t 6))
def y28:Co:=(.agg [.bool,.bool,.bool,.bool,.i,.i])
def y29:Dx:=(.alloc 26 [y8,V.nils,V.nils,V.nils])
def y31:XC:=(.cond (.tmp 16) .skip
 Lr)
def nX:Nat->St->AG:=fun _ _=>none
def kX (ts:List (Nat × Co)) (ms:List Nat) (rs:List (Nat × List Co)) (J:St->AG):St->AG:=fun s=>Ii ts ms rs s J
def dX (E:EB) (D:Al) (W:AE) (N:Nat) (c:XC) (k:St->AG) (x:Nat->St->AG) (r:St->AG):St->AG:=fun s=>AM E D W N c s k x r
def q3a:List (Nat × Co):=[(7,.ptr),(8,.bool),(10,.any),(11,.bool),(12,.ptr)]
def ABR:List BC:=[⟨(some 74),.load (some 4) (.tmp 7),none⟩,⟨(some 75),.build [(V.int .i64 (AA 0)),(V.int .i64 (AA 0))] [(1,1,(.con (V.int .i64 (AA 16))))],none⟩,⟨(some 76),.mov (.tmp 10),none⟩,⟨(some 77),.call 8 [(.tmp 75),(.con (V.bool true)),(.tmp 76)],none⟩,⟨(some 78),.call 9 [(.tmp 74),(.con (V.int .i64 (AA 0))),(.tmp 77)],none⟩,⟨(some 73),.mov (.tmp 78),none⟩,⟨(some 79),.extract 0 (.tmp 73),none⟩,⟨(some 80),.extract 1 (.tmp 73),none⟩,⟨(some 14),.alloc 34 [(V.int .i64 (AA 0)),(V.int .i64 (AA 0)),V.nils,V.nils,(V.int .i64 (AA 0)),V.nils],none⟩,⟨none,.store 6 (.tmp 14) (.tmp 79),none⟩,⟨(some 15),.mov (.tmp 80),none⟩]
def ABP:List DP:=[⟨0,[7]⟩,⟨0,[]⟩,⟨0,[10]⟩,⟨6,[75,76]⟩,⟨15,[74,77]⟩,⟨31,[78]⟩,⟨63,[73]⟩,⟨63,[73]⟩,⟨0,[]⟩,⟨383,[14,79]⟩,⟨1023,[80]⟩]
def AGj (cc1:XC) (cc2:XC):XC:=(.z (.c 6 y3<|
.nil)
 (.z (.k 17 (.tup [y6,.bool]) 6 [(.con (V.str ⟨137,226512669145774835787552813045342205744664672948163956739964864073194674402257524072219146352772370422835385268860203894635856546299145261305076249863035954196228233577801936438188401159539121422570938484479284731963997307652805544338596275674289996615417362922097323455017081215090127200226272488853258482717530386776042823229517⟩))]<|
.m 16 17<|
.P 18 (.extract 0 (.t 16))<|
.P 19 (.extract 1 (.t 16))<|
.p 7 [] y29<|
.op none y6 [7,18] (.store 4 (.t 7) (.t 18))<|
.m 8 19<|
.nil)
 (.z (.m 20 0<|
.k 21 .one 7 [(.t 20)]<|
.m 9 21<|
.nil)
 (.z (.c 10 V.nils<|
.nil)
 (.z (.c 11 y3<|
.nil)
 (.z (.P 22 (.mkslice 34 6 96 [y0,y0,V.nils,V.nils,y0,V.nils] (.i 3) (.i 3))<|
.op (some 23) y1 [22] (.build [y0,y0,V.nils,V.nils,y0,V.nils] [(0,1,(.i 7)),(3,1,(.t 22))])<|
.p 12 [] pX<|
.op none y1 [12,23] (.store 6 (.t 12) (.t 23))<|
.nil)
 (.seq (.z (.m 24 2<|
.P 25 (.conv (.toInt .u64) (.t 24))<|
.b 26 .rem .none (.t 25) (.con (V.int .u64 (AA 4)))<|
.nil)
 (.block 0 (.z (.b 33 .eql .none (.t 26) (.con T5)<|
.m 32 33<|
.nil)
 (.cond (.tmp 32) (.z (.op (some 34) y4 [] (.build [y0,y0] [(0,1,(.i 2))])<|
.m 35 1<|
.p 36 [35] (.buildSlice 5 1 [y5] [(0,1,(.t 35))])<|
.k 37 .one 8 [(.t 34),Kl,(.t 36)]<|
.m 10 37<|
.nil)
 (.z (.m 38 1<|
.b 39 .eql .none (.t 38) (.con y5)<|
.m 40 39<|
.gO 40 false (.p 41 [1,40] Io<|
.p 42 [41,40] (.bin .eql .none (.t 41) (.con (V.int .u8 (AA 255))))<|
.nil) 43 40 42<|
.m 11 43<|
.nil)
 (.ops (.f 44 3 12<|
.l 45 .any 44<|
.m 46 1<|
.b 47 .and .none (.t 46) (.con (V.int .u8 (AA 1)))<|
.P 48 (.conv (.toInt .i64) (.t 47))<|
.op (some 49) y1 [48] (.build [y0,y0,V.nils,V.nils,y0,V.nils] [(0,1,(.i 1)),(1,1,(.t 48))])<|
.P 50 (.iaddrS 6 (.t 45) (.i 0))<|
.op none y1 [50,49] (.store 6 (.t 50) (.t 49))<|
.nil))))
 (.z (.b 52 .eql .none (.t 26) (.con (V.int .u64 (AA 1)))<|
.m 51 52<|
.nil)
 (.cond (.tmp 51) (.z (.op (some 53) y4 [] (.build [y0,y0] [(0,1,(.i 2)),(1,1,(.i 1))])<|
.m 54 9<|
.k 55 .one 8 [(.t 53),Kl,(.t 54)]<|
.m 10 55<|
.nil)
 (.z (.m 56 0<|
.b 57 .neq .none (.t 56) (.i 5)<|
.m 11 57<|
.nil)
 (.ops (.f 58 3 12<|
.l 59 .any 58<|
.m 60 0<|
.op (some 61) y1 [60] (.build [y0,y0,V.nils,V.nils,y0,V.nils] [(0,1,(.i 2)),(1,1,(.t 60))])<|
.P 62 (.iaddrS 6 (.t 59) (.i 1))<|
.op none y1 [62,61] (.store 6 (.t 62) (.t 61))<|
.nil))))
 (.z (.b 64 .eql .none (.t 26) (.con (V.int .u64 (AA 2)))<|
.m 63 64<|
.nil)
 (.cond (.tmp 63) (.z (.c 13 y5<|
.nil)
 (.seq (.z (.m 65 0<|
.b 66 .lss .none (.t 65) (.i 0)<|
.nil)
 (.cond (.tmp 66) (.ops (.c 13 (V.int .u8 (AA 255))<|
.nil))
 .skip))
 (.keep [(7,.ptr),(8,.bool),(9,.any),(11,.bool),(12,.ptr),(13,(.int .u8))] [] [] cc2)))
 (.ops (.op (some 27) y4 [] (.build [y0,y0] [(0,1,(.i 2)),(1,1,(.i 2))])<|
.op (some 28) y4 [] (.build [y0,y0] [(1,1,(.i 4))])<|
.m 29 9<|
.k 30 .one 8 [(.t 28),Kl,(.t 29)]<|
.k 31 .one 8 [(.t 27),QV,(.t 30)]<|
.m 10 31<|
.nil))))))))))
 (.keep q3a [] [] cc1))))))))
def AD4 (E:EB) (D:Al) (W:AE) (K1:Nat->Nat->Bool->V->Bool->Nat->Nat->H->AG) (K2:Nat->Nat->Bool->V->Bool->Nat->Nat->Int->H->AG) (a b c:Int) (Z:H):AG:=
 AV (D 6 [.str (BS.mk 137 226512669145774835787552813045342205744664672948163956739964864073194674402257524072219146352772370422835385268860203894635856546299145261305076249863035954196228233577801936438188401159539121422570938484479284731963997307652805544338596275674289996615417362922097323455017081215090127200226272488853258482717530386776042823229517)] Z) fun u1 s2=>
 C1 u1 fun l3=>
 AB l3 fun x4 l5=>
 Ba x4 fun l6=>
 Hz l6 fun x9 l8=>
 AB l8 fun x10 l11=>
 AB l11 fun x12 l13=>
 AB l13 fun x14 l15=>
 AT l15 (
 C7 l5 fun x18 l17=>
 AT l17 (
 let s19:=B6 s2 (.cells [.str ⟨0,0⟩,V.nils,V.nils,V.nils]);
 FY 4 (H.next s2) 0 (V.agg [.str x9,x10,x12,x14]) s19 fun s20=>
 AV (D 7 [.int .i64 a] s20) fun u21 s22=>
 BU u21 (
 Mz (AA 3) fun n23=>
 Mz (AA 3) fun n24=>
 Fx (Ag n23 n24&&Ag (n24*96) 281474976710656&&Ag n24 1000000000000) (
 let s25:=B6 s22 (.cells (AY n24 [.int .i64 (AA 0),.int .i64 (AA 0),V.nils,V.nils,.int .i64 (AA 0),V.nils]).flatten);
 let s26:=B6 s25 (.cells [.int .i64 (AA 0),.int .i64 (AA 0),V.nils,V.nils,.int .i64 (AA 0),V.nils]);
 FY 6 (H.next s25) 0 (V.agg [.int .i64 (AA 7),.int .i64 (AA 0),V.nils,.sl (H.next s22) 0 n23 (.ex n24),.int .i64 (AA 0),V.nils]) s26 fun s27=>
 AJ (B5 (EW (As .u64 c) (AA 4)) (AA 0)) (
 let s28:=B6 s27 (.cells [.int .u8 b]);
 AV (D 8 [.agg [.int .i64 (AA 2),.int .i64 (AA 0)],.bool false,.sl (H.next s27) 0 1 (.ex 1)] s28) fun u29 s30=>
 BU u29 (
 Ac (fun c31 s32=>
 BY E s32 (H.next s25) 3 fun u34=>
 Ab 6 u34 (AA 0) fun b35 o36=>
 FY 6 b35 o36 (V.agg [.int .i64 (AA 1),.int .i64 (As .i64 (HI .u8 b (AA 1))),V.nils,V.nils,.int .i64 (AA 0),V.nils]) s32 fun s37=>
 K1 (H.next s2) 0 x18 u29 c31 (H.next s25) 0 s37) fun k33=>
 AJ (B5 b (AA 0)) (
 k33 true s30) (
 k33 (B5 b (AA 255)) s30))) (
 AJ (B5 (EW (As .u64 c) (AA 4)) (AA 1)) (
 AV (D 8 [.agg [.int .i64 (AA 2),.int .i64 (AA 1)],.bool false,u21] s27) fun u38 s39=>
 BU u38 (
 BY E s39 (H.next s25) 3 fun u40=>
 Ab 6 u40 (AA 1) fun b41 o42=>
 FY 6 b41 o42 (V.agg [.int .i64 (AA 2),.int .i64 a,V.nils,V.nils,.int .i64 (AA 0),V.nils]) s39 fun s43=>
 K1 (H.next s2) 0 x18 u38 (not (B5 a (AA 5))) (H.next s25) 0 s43)) (
 AJ (B5 (EW (As .u64 c) (AA 4)) (AA 2)) (
 AJ (Cr a (AA 0)) (
 K2 (H.next s2) 0 x18 u21 false (H.next s25) 0 (AA 255) s27) (
 K2 (H.next s2) 0 x18 u21 false (H.next s25) 0 (AA 0) s27)) (
 AV (D 8 [.agg [.int .i64 (AA 0),.int .i64 (AA 4)],.bool false,u21] s27) fun u44 s45=>
 BU u44 (
 AV (D 8 [.agg [.int .i64 (AA 2),.int .i64 (AA 2)],.bool true,u44] s45) fun u46 s47=>
 BU u46 (
 K1 (H.next s2) 0 x18 u46 false (H.next s25) 0 s47)))))))))
def AGi:XC:=(.seq (.keep q3a [] [] (.gdraw ABR ABP [(8,.bool),(11,.bool),(12,.ptr),(14,.ptr),(15,.i)]))
 (.seq (.z (.m 81 11<|
.P 82 (.un .not (.t 81))<|
.nil)
 (.cond (.tmp 82) (.z (.k 83 .bool 10 []<|
.m 84 83<|
.gA 84 true (.p 85 [8,84] (.mov (.t 8))<|
.nil) 86 84 85<|
.m 87 86<|
.gA 87 true (.p 88 [15,87] (.mov (.t 15))<|
.p 89 [88,87] (.bin .eql .none (.t 88) (.i 4))<|
.nil) 90 87 89<|
.m 91 90<|
.gA 91 true (.op (some 92) y1 [14,91] (.load (some 6) (.t 14))<|
.op (some 93) y1 [91] (.build [y0,y0,V.nils,V.nils,y0,V.nils] [])<|
.op (some 94) .bool [92,93,91] (.call 11 [(.t 92),(.t 93)])<|
.nil) 95 91 94<|
.m 6 95<|
.nil)
 .ret)
 .skip))
 (.z (.k 96 .bool 10 []<|
.m 97 96<|
.gA 97 true (.p 98 [8,97] (.mov (.t 8))<|
.nil) 99 97 98<|
.m 100 99<|
.gA 100 true (.p 101 [15,100] (.mov (.t 15))<|
.p 102 [101,100] (.bin .eql .none (.t 101) (.i 0))<|
.nil) 103 100 102<|
.m 104 103<|
.gA 104 true (.op (some 105) y1 [14,104] (.load (some 6) (.t 14))<|
.op (some 106) y1 [12,104] (.load (some 6) (.t 12))<|
.op (some 107) .bool [105,106,104] (.call 11 [(.t 105),(.t 106)])<|
.nil) 108 104 107<|
.m 6 108<|
.nil)
 .ret)))
def AD3 (a b:Nat) (c:Bool) (d:V) (e:Bool) (f g:Nat) (Z:H):AG:=
 Cp (W ABR ABP [(7,.ptr a b),(8,.bool c),(10,d),(11,.bool e),(12,.ptr f g)] Z) fun e1 s2=>
 BR e1 8 fun u3=>
 Aa u3 fun x4=>
 BR e1 11 fun u5=>
 Aa u5 fun x6=>
 BR e1 12 fun u7=>
 Bv u7 fun b8 o9=>
 BR e1 14 fun u10=>
 Bv u10 fun b11 o12=>
 BR e1 15 fun u13=>
 Aj .i64 u13 fun x14=>
 AJ (not x6) (
 AV (D 10 [] s2) fun u15 s16=>
 Aa u15 fun x17=>
 Ac (fun c18 s19=>
 Ac (fun c21 s22=>
 Ac (fun c24 s25=>
 some ((V.bool c24),s25)) fun k26=>
 AJ c21 (
 BV E s22 b11 o12 6 fun l27=>
 Ah .i64 l27 fun x30 l29=>
 Ah .i64 l29 fun x33 l32=>
 AB l32 fun x34 l35=>
 AB l35 fun x36 l37=>
 Ah .i64 l37 fun x40 l39=>
 AB l39 fun x41 l42=>
 AT l42 (
 AV (D 11 [.agg [.int .i64 x30,.int .i64 x33,x34,x36,.int .i64 x40,x41],.agg [.int .i64 (AA 0),.int .i64 (AA 0),V.nils,V.nils,.int .i64 (AA 0),V.nils]] s22) fun u43 s44=>
 Aa u43 fun x45=>
 k26 x45 s44)) (
 k26 false s22)) fun k23=>
 AJ c18 (
 k23 (B5 x14 (AA 4)) s19) (
 k23 false s19)) fun k20=>
 AJ x17 (
 k20 x4 s16) (
 k20 false s16)) (
 AV (D 10 [] s2) fun u46 s47=>
 Aa u46 fun x48=>
 Ac (fun c49 s50=>
 Ac (fun c52 s53=>
 Ac (fun c55 s56=>
 some ((V.bool c55),s56)) fun k57=>
 AJ c52 (
 BV E s53 b11 o12 6 fun l58=>
 Ah .i64 l58 fun x61 l60=>
 Ah .i64 l60 fun x64 l63=>
 AB l63 fun x65 l66=>
 AB l66 fun x67 l68=>
 Ah .i64 l68 fun x71 l70=>
 AB l70 fun x72 l73=>
 AT l73 (
 BV E s53 b8 o9 6 fun l74=>
 Ah .i64 l74 fun x77 l76=>
 Ah .i64 l76 fun x80 l79=>
 AB l79 fun x81 l82=>
 AB l82 fun x83 l84=>
 Ah .i64 l84 fun x87 l86=>
 AB l86 fun x88 l89=>
 AT l89 (
 AV (D 11 [.agg [.int .i64 x61,.int .i64 x64,x65,x67,.int .i64 x71,x72],.agg [.int .i64 x77,.int .i64 x80,x81,x83,.int .i64 x87,x88]] s53) fun u90 s91=>
 Aa u90 fun x92=>
 k57 x92 s91))) (
 k57 false s53)) fun k54=>
 AJ c49 (
 k54 (B5 x14 (AA 0)) s50) (
 k54 false s50)) fun k51=>
 AJ x48 (
 k51 x4 s47) (
 k51 false s47))
def AGh:XC:=(.ops (.op (some 67) y4 [] (.build [y0,y0] [(0,1,(.i 2)),(1,1,(.i 1))])<|
.m 68 13<|
.p 69 [68] (.buildSlice 5 1 [y5] [(0,1,(.t 68))])<|
.m 70 9<|
.O 71 .one (.append 5 1 1 (.t 69) (.t 70))<|
.k 72 .one 8 [(.t 67),Kl,(.t 71)]<|
.m 10 72<|
.nil))
def AD2 (E:EB) (D:Al) (W:AE) (K1:Nat->Nat->Bool->V->Bool->Nat->Nat->H->AG) (a b:Nat) (c:Bool) (d:V) (e:Bool) (f g:Nat) (h:Int) (Z:H):AG:=
 let s1:=B6 Z (.cells [.int .u8 h]);
 DI E 1 1 (V.sl (H.next Z) 0 1 (.ex 1)) d s1 fun u2 s3=>
 BU u2 (
 AV (D 8 [.agg [.int .i64 (AA 2),.int .i64 (AA 1)],.bool false,u2] s3) fun u4 s5=>
 BU u4 (
 K1 a b c u4 e f g s5))
def ABL (E:EB) (D:Al) (W:AE) (N:Nat):=AD3 E D W
def AE7:=AD2 E D W (ABL E D W N )
def F3 (args:List V) (Z:H):AG:=
 Ah .i64 args fun x3 l2=>
 Ah .u8 l2 fun x6 l5=>
 Ah .i64 l5 fun x9 l8=>
 AT l8 (
 AD4 E D W (ABL E D W N ) (AE7 E D W N ) x3 x6 x9 Z)
def A3:C9:=⟨109,[.i,(.int .u8),.i],[(.tmp 6)],(AGj AGi AGh)⟩
theorem FE3 (args:List V) (Z:H):Be E D W N A3 args Z=F3 E D W N args Z:=by kernel_rfl
def gY:List (Nat × Co):=[(0,.any),(1,.bool),(6,.i),(7,.ptr),(8,.bool),(9,.any),(10,.any),(11,.ptr),(12,.bool),(13,.i)]
def q4b:List (Nat × Co):=[(6,.i),(7,.ptr),(8,.bool),(10,.any),(11,.ptr),(12,.bool)]
def X3:List BC:=[⟨(some 96),.load (some 4) (.tmp 7),none⟩,⟨(some 97),.mov (.tmp 6),none⟩,⟨(some 98),.build [(V.int .i64 (AA 0)),(V.int .i64 (AA 0))] [(1,1,(.tmp 97))],none⟩,⟨(some 99),.mov (.tmp 10),none⟩,⟨(some 100),.call 8 [(.tmp 98),(.con (V.bool true)),(.tmp 99)],none⟩,⟨(some 101),.call 9 [(.tmp 96),(.con (V.int .i64 (AA 0))),(.tmp 100)],none⟩,⟨(some 95),.mov (.tmp 101),none⟩,⟨(some 102),.extract 0 (.tmp 95),none⟩,⟨(some 103),.extract 1 (.tmp 95),none⟩,⟨(some 16),.alloc 34 [(V.int .i64 (AA 0)),(V.int .i64 (AA 0)),V.nils,V.nils,(V.int .i64 (AA 0)),V.nils],none⟩,⟨none,.store 6 (.tmp 16) (.tmp 102),none⟩,⟨(some 17),.mov (.tmp 103),none⟩]
def ec:List DP:=[⟨0,[7]⟩,⟨0,[6]⟩,⟨2,[97]⟩,⟨0,[10]⟩,⟨14,[98,99]⟩,⟨31,[96,100]⟩,⟨63,[101]⟩,⟨127,[95]⟩,⟨127,[95]⟩,⟨0,[]⟩,⟨767,[16,102]⟩,⟨2047,[103]⟩]
def FI (E:EB):St->AG:=fun s=>Cy E s [(.tmp 4)] fun l=>some (DH l,s.Z)
def rB (c0:XC):Nat->St->AG:=BN 0 (dX E D W N (.keep q4b [] [] c0) (FI E) nX (FI E)) nX
def vj (cc1:XC):XC:=(.z (.c 4 y3<|
.nil)
 (.seq (.z (.m 18 0<|
.u 19 18<|
.b 20 .gtr .none (.t 19) (.i 8)<|
.nil)
 (.cond (.tmp 20) (.z (.k 21 .bool 10 []<|
.m 4 21<|
.nil)
 .ret)
 .skip))
 (.z (.c 5 (V.str ⟨8,4990918871747741011⟩)<|
.q 6 16<|
.nil)
 (.seq (.z (.m 22 1<|
.nil)
 (.cond (.tmp 22) (.ops (.c 5 (V.str ⟨3,5522771⟩)<|
.q 6 17<|
.nil))
 .skip))
 (.keep [(0,.any),(1,.bool),(5,.str),(6,.i)] [] [] cc1)))))
def Ud (E:EB) (D:Al) (W:AE) (K1:V->Bool->BS->Int->H->AG) (a:V) (b:Bool) (Z:H):AG:=
 A0 a fun n1=>
 AJ (Cr (AA 8) (AA n1)) (
 AV (D 10 [] Z) fun u2 s3=>
 Aa u2 fun x4=>
 some ((V.bool x4),s3)) (
 AJ b (
 K1 a b (BS.mk 3 5522771) (AA 17) Z) (
 K1 a b (BS.mk 8 4990918871747741011) (AA 16) Z))
def fF (cc2:XC):XC:=(.z (.m 24 5<|
.b 25 .add .none (.con (V.str ⟨44,1155320174116467081354871280520271169385037154877160308527937316829095560925391585709334377032552200544333⟩)) (.t 24)<|
.b 26 .add .none (.t 25) (.con (V.str ⟨91,376750722060844764761047080813703211005890847229666167588776160204479610214849528601957395999892368467174249122725897177763287309276704095147666812449212167016852892595614218623795691234562836319994691495043923760413472⟩))<|
.k 27 (.tup [y6,.bool]) 6 [(.t 26)]<|
.m 23 27<|
.P 28 (.extract 0 (.t 23))<|
.P 29 (.extract 1 (.t 23))<|
.p 7 [] y29<|
.op none y6 [7,28] (.store 4 (.t 7) (.t 28))<|
.m 8 29<|
.nil)
 (.z (.p 30 [] (.buildSlice 3 4 [y0,y0,y0,y0] [(0,1,(.i 1)),(1,1,(.i 3)),(2,1,(.i 0)),(3,1,(.i 2))])<|
.m 9 30<|
.nil)
 (.z (.c 10 V.nils<|
.nil)
 (.z (.P 31 (.mkslice 34 6 96 [y0,y0,V.nils,V.nils,y0,V.nils] (.i 4) (.i 4))<|
.op (some 32) y1 [31] (.build [y0,y0,V.nils,V.nils,y0,V.nils] [(0,1,(.i 7)),(3,1,(.t 31))])<|
.p 11 [] pX<|
.op none y1 [11,32] (.store 6 (.t 11) (.t 32))<|
.nil)
 (.seq (.z (.m 33 1<|
.nil)
 (.cond (.tmp 33) (.ops (.f 34 0 11<|
.op none .any [34] (.store 1 (.t 34) (.i 8))<|
.nil))
 .skip))
 (.keep [(0,.any),(1,.bool),(6,.i),(7,.ptr),(8,.bool),(9,.any),(10,.any),(11,.ptr)] [] [] cc2))))))
def bD (E:EB) (D:Al) (W:AE) (K2:V->Bool->Int->Nat->Nat->Bool->V->V->Nat->Nat->H->AG) (a:V) (b:Bool) (c:BS) (d:Int) (Z:H):AG:=
 O7 (BS.mk 44 1155320174116467081354871280520271169385037154877160308527937316829095560925391585709334377032552200544333) c fun t1=>
 O7 t1 (BS.mk 91 376750722060844764761047080813703211005890847229666167588776160204479610214849528601957395999892368467174249122725897177763287309276704095147666812449212167016852892595614218623795691234562836319994691495043923760413472) fun t2=>
 AV (D 6 [.str t2] Z) fun u3 s4=>
 C1 u3 fun l5=>
 AB l5 fun x6 l7=>
 Ba x6 fun l8=>
 Hz l8 fun x11 l10=>
 AB l10 fun x12 l13=>
 AB l13 fun x14 l15=>
 AB l15 fun x16 l17=>
 AT l17 (
 C7 l7 fun x20 l19=>
 AT l19 (
 let s21:=B6 s4 (.cells [.str ⟨0,0⟩,V.nils,V.nils,V.nils]);
 FY 4 (H.next s4) 0 (V.agg [.str x11,x12,x14,x16]) s21 fun s22=>
 let s23:=B6 s22 (.cells [.int .i64 (AA 1),.int .i64 (AA 3),.int .i64 (AA 0),.int .i64 (AA 2)]);
 Mz (AA 4) fun n24=>
 Mz (AA 4) fun n25=>
 Fx (Ag n24 n25&&Ag (n25*96) 281474976710656&&Ag n25 1000000000000) (
 let s26:=B6 s23 (.cells (AY n25 [.int .i64 (AA 0),.int .i64 (AA 0),V.nils,V.nils,.int .i64 (AA 0),V.nils]).flatten);
 let s27:=B6 s26 (.cells [.int .i64 (AA 0),.int .i64 (AA 0),V.nils,V.nils,.int .i64 (AA 0),V.nils]);
 FY 6 (H.next s26) 0 (V.agg [.int .i64 (AA 7),.int .i64 (AA 0),V.nils,.sl (H.next s23) 0 n24 (.ex n25),.int .i64 (AA 0),V.nils]) s27 fun s28=>
 AJ b (
 FY 1 (H.next s26) 0 (V.int .i64 (AA 8)) s28 fun s29=>
 K2 a b d (H.next s4) 0 x20 (V.sl (H.next s22) 0 4 (.ex 4)) V.nils (H.next s26) 0 s29) (
 K2 a b d (H.next s4) 0 x20 (V.sl (H.next s22) 0 4 (.ex 4)) V.nils (H.next s26) 0 s28))))
def Um (cc3:XC) (cc4:XC):XC:=(.z (.c 12 fY<|
.nil)
 (.seq (.z (.q 13 0<|
.nil)
 (.block 0 (.loop gY [] [] cc4)))
 (.keep q4b [] [] cc3)))
def yc (E:EB) (D:Al) (W:AE) (K4:V->Bool->Int->Nat->Nat->Bool->V->V->Nat->Nat->Bool->Int->H->AG) (a:V) (b:Bool) (c:Int) (d e:Nat) (f:Bool) (g h:V) (i j:Nat) (Z:H):AG:=
 K4 a b c d e f g h i j true (AA 0) Z
def MH:XC:=(.seq (.keep q4b [] [] (.gdraw X3 ec [(8,.bool),(11,.ptr),(12,.bool),(16,.ptr),(17,.i)]))
 (.seq (.z (.m 104 12<|
.P 105 (.un .not (.t 104))<|
.nil)
 (.cond (.tmp 105) (.z (.k 106 .bool 10 []<|
.m 107 106<|
.gA 107 true (.p 108 [8,107] (.mov (.t 8))<|
.nil) 109 107 108<|
.m 110 109<|
.gA 110 true (.p 111 [17,110] (.mov (.t 17))<|
.p 112 [111,110] (.bin .eql .none (.t 111) (.i 4))<|
.nil) 113 110 112<|
.m 114 113<|
.gA 114 true (.op (some 115) y1 [16,114] (.load (some 6) (.t 16))<|
.op (some 116) y1 [114] (.build [y0,y0,V.nils,V.nils,y0,V.nils] [])<|
.op (some 117) .bool [115,116,114] (.call 11 [(.t 115),(.t 116)])<|
.nil) 118 114 117<|
.m 4 118<|
.nil)
 .ret)
 .skip))
 (.z (.k 119 .bool 10 []<|
.m 120 119<|
.gA 120 true (.p 121 [8,120] (.mov (.t 8))<|
.nil) 122 120 121<|
.m 123 122<|
.gA 123 true (.p 124 [17,123] (.mov (.t 17))<|
.p 125 [124,123] (.bin .eql .none (.t 124) (.i 0))<|
.nil) 126 123 125<|
.m 127 126<|
.gA 127 true (.op (some 128) y1 [16,127] (.load (some 6) (.t 16))<|
.op (some 129) y1 [11,127] (.load (some 6) (.t 11))<|
.op (some 130) .bool [128,129,127] (.call 11 [(.t 128),(.t 129)])<|
.nil) 131 127 130<|
.m 4 131<|
.nil)
 .ret)))
def jD (a:Int) (b c:Nat) (d:Bool) (e:V) (f g:Nat) (h:Bool) (Z:H):AG:=
 Cp (W X3 ec [(6,.int .i64 a),(7,.ptr b c),(8,.bool d),(10,e),(11,.ptr f g),(12,.bool h)] Z) fun e1 s2=>
 BR e1 8 fun u3=>
 Aa u3 fun x4=>
 BR e1 11 fun u5=>
 Bv u5 fun b6 o7=>
 BR e1 12 fun u8=>
 Aa u8 fun x9=>
 BR e1 16 fun u10=>
 Bv u10 fun b11 o12=>
 BR e1 17 fun u13=>
 Aj .i64 u13 fun x14=>
 AJ (not x9) (
 AV (D 10 [] s2) fun u15 s16=>
 Aa u15 fun x17=>
 Ac (fun c18 s19=>
 Ac (fun c21 s22=>
 Ac (fun c24 s25=>
 some ((V.bool c24),s25)) fun k26=>
 AJ c21 (
 BV E s22 b11 o12 6 fun l27=>
 Ah .i64 l27 fun x30 l29=>
 Ah .i64 l29 fun x33 l32=>
 AB l32 fun x34 l35=>
 AB l35 fun x36 l37=>
 Ah .i64 l37 fun x40 l39=>
 AB l39 fun x41 l42=>
 AT l42 (
 AV (D 11 [.agg [.int .i64 x30,.int .i64 x33,x34,x36,.int .i64 x40,x41],.agg [.int .i64 (AA 0),.int .i64 (AA 0),V.nils,V.nils,.int .i64 (AA 0),V.nils]] s22) fun u43 s44=>
 Aa u43 fun x45=>
 k26 x45 s44)) (
 k26 false s22)) fun k23=>
 AJ c18 (
 k23 (B5 x14 (AA 4)) s19) (
 k23 false s19)) fun k20=>
 AJ x17 (
 k20 x4 s16) (
 k20 false s16)) (
 AV (D 10 [] s2) fun u46 s47=>
 Aa u46 fun x48=>
 Ac (fun c49 s50=>
 Ac (fun c52 s53=>
 Ac (fun c55 s56=>
 some ((V.bool c55),s56)) fun k57=>
 AJ c52 (
 BV E s53 b11 o12 6 fun l58=>
 Ah .i64 l58 fun x61 l60=>
 Ah .i64 l60 fun x64 l63=>
 AB l63 fun x65 l66=>
 AB l66 fun x67 l68=>
 Ah .i64 l68 fun x71 l70=>
 AB l70 fun x72 l73=>
 AT l73 (
 BV E s53 b6 o7 6 fun l74=>
 Ah .i64 l74 fun x77 l76=>
 Ah .i64 l76 fun x80 l79=>
 AB l79 fun x81 l82=>
 AB l82 fun x83 l84=>
 Ah .i64 l84 fun x87 l86=>
 AB l86 fun x88 l89=>
 AT l89 (
 AV (D 11 [.agg [.int .i64 x61,.int .i64 x64,x65,x67,.int .i64 x71,x72],.agg [.int .i64 x77,.int .i64 x80,x81,x83,.int .i64 x87,x88]] s53) fun u90 s91=>
 Aa u90 fun x92=>
 k57 x92 s91))) (
 k57 false s53)) fun k54=>
 AJ c49 (
 k54 (B5 x14 (AA 0)) s50) (
 k54 false s50)) fun k51=>
 AJ x48 (
 k51 x4 s47) (
 k51 false s47))
def O9 (cc5:XC):XC:=(.seq (.z (.m 35 13<|
.m 36 0<|
.u 37 36<|
.b 38 .lss .none (.t 35) (.t 37)<|
.nil)
 (.cond (.tmp 38) .skip
 Lr))
 (.seq (.block 1 (.z (.m 41 0<|
.m 42 13<|
.s 43 1 41 42<|
.l 44 .i 43<|
.P 45 (.conv (.toInt .u64) (.t 44))<|
.b 46 .rem .none (.t 45) (.con (V.int .u64 (AA 4)))<|
.P 47 (.conv (.toInt .i64) (.t 46))<|
.m 14 47<|
.nil)
 (.z (.m 48 10<|
.m 49 14<|
.op (some 50) y4 [49] (.build [y0,y0] [(0,1,(.i 2)),(1,1,(.t 49))])<|
.k 51 .one 8 [(.t 50),Kl,(.con V.nils)]<|
.O 52 .one (.append 5 1 1 (.t 48) (.t 51))<|
.m 10 52<|
.nil)
 (.seq (.draw (.f 53 3 11<|
.l 54 .any 53<|
.m 55 9<|
.m 56 14<|
.s 57 1 55 56<|
.l 58 .i 57<|
.op (some 59) y1 [] (.build [y0,y0,V.nils,V.nils,y0,V.nils] [(0,1,(.i 4))])<|
.s 60 6 54 58<|
.op none y1 [60,59] (.store 6 (.t 60) (.t 59))<|
.nil) [0,1,0,0,12,28,0,127,255])
 (.z (.m 61 13<|
.b 62 .gtr .none (.t 61) (.i 0)<|
.nil)
 (.cond (.tmp 62) (.z (.m 63 0<|
.m 64 13<|
.b 65 .sub .none (.t 64) (.i 1)<|
.s 66 1 63 65<|
.l 67 .i 66<|
.P 68 (.conv (.toInt .u64) (.t 67))<|
.b 69 .rem .none (.t 68) (.con (V.int .u64 (AA 4)))<|
.P 70 (.conv (.toInt .i64) (.t 69))<|
.m 15 70<|
.nil)
 (.draw (.m 71 12<|
.m 72 71<|
.gA 72 true (.p 73 [1,72] Io<|
.p 74 [73,72] (.mov (.t 73))<|
.grp 74 true (.p 75 [14,74] (.mov (.t 14))<|
.p 76 [15,74] (.mov (.t 15))<|
.p 77 [75,76,74] (.bin .gtr .none (.t 75) (.t 76))<|
.nil) 78 [74,77,72] (.t 74) (.t 77) Kl<|
.p 79 [78,72] (.mov (.t 78))<|
.grp 79 false (.p 80 [1,79] Io<|
.p 81 [80,79] (.un .not (.t 80))<|
.p 82 [81,79] (.mov (.t 81))<|
.grp 82 true (.p 83 [9,82] (.mov (.t 9))<|
.p 84 [14,82] (.mov (.t 14))<|
.p 85 [83,84,82] (.iaddrS 1 (.t 83) (.t 84))<|
.op (some 86) .i [85,82] (.load none (.t 85))<|
.p 87 [9,82] (.mov (.t 9))<|
.p 88 [15,82] (.mov (.t 15))<|
.p 89 [87,88,82] (.iaddrS 1 (.t 87) (.t 88))<|
.op (some 90) .i [89,82] (.load none (.t 89))<|
.p 91 [86,90,82] (.bin .gtr .none (.t 86) (.t 90))<|
.nil) 92 [82,91,79] (.t 82) (.t 91) Kl<|
.nil) 93 [79,92,72] (.t 79) QV (.t 92)<|
.nil) 94 72 93<|
.m 12 94<|
.nil) [0,1,3,7,15,15,63,127,255,511,1023,2047,4095,4095,16383,32767,4095,4095,200703,462847,1048575,2097151,4194303,8388607,16777215]))
 .skip))))))
 (.keep gY [] [] cc5)))
def Xz (E:EB) (D:Al) (W:AE) (K3:Int->Nat->Nat->Bool->V->Nat->Nat->Bool->H->AG) (K5:V->Bool->Int->Nat->Nat->Bool->V->V->Nat->Nat->Bool->Int->H->AG) (a:V) (b:Bool) (c:Int) (d e:Nat) (f:Bool) (g h:V) (i j:Nat) (k:Bool) (l:Int) (Z:H):AG:=
 A0 a fun n1=>
 AJ (Cr l (AA n1)) (
 Ab 1 a l fun b2 o3=>
 BY E Z b2 o3 fun u4=>
 Aj .i64 u4 fun x5=>
 AV (D 8 [.agg [.int .i64 (AA 2),.int .i64 (As .i64 (EW (As .u64 x5) (AA 4)))],.bool false,V.nils] Z) fun u6 s7=>
 BU u6 (
 DI E 1 1 h u6 s7 fun u8 s9=>
 BU u8 (
 BY E s9 i (Ar j 3) fun u10=>
 Ab 1 g (As .i64 (EW (As .u64 x5) (AA 4))) fun b11 o12=>
 BY E s9 b11 o12 fun u13=>
 Aj .i64 u13 fun x14=>
 Ab 6 u10 x14 fun b15 o16=>
 FY 6 b15 o16 (V.agg [.int .i64 (AA 4),.int .i64 (AA 0),V.nils,V.nils,.int .i64 (AA 0),V.nils]) s9 fun s17=>
 AJ (Cr (AA 0) l) (
 Ab 1 a (D2 .i64 l (AA 1)) fun b18 o19=>
 BY E s17 b18 o19 fun u20=>
 Aj .i64 u20 fun x21=>
 Ac (fun c22 s23=>
 K5 a b c d e f g u8 i j c22 l s23) fun k24=>
 AJ k (
 Ac (fun c25 s26=>
 Ac (fun c28 s29=>
 k24 c28 s29) fun k30=>
 AJ c25 (
 k30 true s26) (
 Ac (fun c31 s32=>
 k30 c31 s32) fun k33=>
 AJ (not b) (
 Ab 1 g (As .i64 (EW (As .u64 x5) (AA 4))) fun b34 o35=>
 BY E s26 b34 o35 fun u36=>
 Aj .i64 u36 fun x37=>
 Ab 1 g (As .i64 (EW (As .u64 x21) (AA 4))) fun b38 o39=>
 BY E s26 b38 o39 fun u40=>
 Aj .i64 u40 fun x41=>
 k33 (Cr x41 x37) s26) (
 k33 false s26))) fun k27=>
 AJ b (
 k27 (Cr (As .i64 (EW (As .u64 x21) (AA 4))) (As .i64 (EW (As .u64 x5) (AA 4)))) s17) (
 k27 false s17)) (
 k24 false s17)) (
 K5 a b c d e f g u8 i j k l s17)))) (
 K3 c d e f h i j k Z)
def Mu:XC:=(.ops (.m 39 13<|
.b 40 .add .none (.t 39) (.i 1)<|
.m 13 40<|
.nil))
def jC (E:EB) (D:Al) (W:AE) (R4:V->Bool->Int->Nat->Nat->Bool->V->V->Nat->Nat->Bool->Int->H->AG) (a:V) (b:Bool) (c:Int) (d e:Nat) (f:Bool) (g h:V) (i j:Nat) (k:Bool) (l:Int) (Z:H):AG:=
 R4 a b c d e f g h i j k (CM .i64 l (AA 1)) Z
def ze (a:V) (b:Bool) (Z:H):St:=⟨[(0,a),(1,.bool b)],[],[],Z⟩
def sL (a:V) (b:Bool) (c:BS) (d:Int) (Z:H):St:=⟨[(0,a),(1,.bool b),(5,.str c),(6,.int .i64 d)],[],[],Z⟩
def sK (a:V) (b:Bool) (c:Int) (d e:Nat) (f:Bool) (g h:V) (i j:Nat) (Z:H):St:=⟨[(0,a),(1,.bool b),(6,.int .i64 c),(7,.ptr d e),(8,.bool f),(9,g),(10,h),(11,.ptr i j)],[],[],Z⟩
def zd (a:Int) (b c:Nat) (d:Bool) (e:V) (f g:Nat) (h:Bool) (Z:H):St:=⟨[(6,.int .i64 a),(7,.ptr b c),(8,.bool d),(10,e),(11,.ptr f g),(12,.bool h)],[],[],Z⟩
def Tj (a:V) (b:Bool) (c:Int) (d e:Nat) (f:Bool) (g h:V) (i j:Nat) (k:Bool) (l:Int) (Z:H):St:=⟨[(0,a),(1,.bool b),(6,.int .i64 c),(7,.ptr d e),(8,.bool f),(9,g),(10,h),(11,.ptr i j),(12,.bool k),(13,.int .i64 l)],[],[],Z⟩
theorem AE6 (cc1:XC) (a:V) (b:Bool) (Z:H) :
 AM E D W N (vj cc1) (ze a b Z) (FI E) nX (FI E) =
 Ud E D W (fun a b c d Z=>AM E D W N cc1 (sL a b c d Z) (FI E) nX (FI E)) a b Z:=by kernel_rfl
theorem AE5 (cc2:XC) (a:V) (b:Bool) (c:BS) (d:Int) (Z:H) :
 AM E D W N (fF cc2) (sL a b c d Z) (FI E) nX (FI E) =
 bD E D W (fun a b d e f g h i j k Z=>AM E D W N cc2 (sK a b d e f g h i j k Z) (FI E) nX (FI E)) a b c d Z:=by kernel_rfl
theorem AE4 (cc3:XC) (cc4:XC) (a:V) (b:Bool) (c:Int) (d e:Nat) (f:Bool) (g h:V) (i j:Nat) (Z:H) :
 AM E D W N (Um cc3 cc4) (sK a b c d e f g h i j Z) (FI E) nX (FI E) =
 yc E D W (fun a b c d e f g h i j k l Z=>Af (fun rec s'=>AM E D W N cc4 s' (kX gY [] [] rec) (rB E D W N cc3) (FI E)) N (Tj a b c d e f g h i j k l Z)) a b c d e f g h i j Z:=by kernel_rfl
theorem AE3 (cc3:XC) (cc5:XC) (li4:St->AG) (a:V) (b:Bool) (c:Int) (d e:Nat) (f:Bool) (g h:V) (i j:Nat) (k:Bool) (l:Int) (Z:H) :
 AM E D W N (O9 cc5) (Tj a b c d e f g h i j k l Z) (kX gY [] [] li4) (rB E D W N cc3) (FI E) =
 Xz E D W (fun c d e f h i j k Z=>AM E D W N cc3 (zd c d e f h i j k Z) (FI E) nX (FI E)) (fun a b c d e f g h i j k l Z=>AM E D W N cc5 (Tj a b c d e f g h i j k l Z) (kX gY [] [] li4) (rB E D W N cc3) (FI E)) a b c d e f g h i j k l Z:=by kernel_rfl
theorem AE2 (cc3:XC) (li4:St->AG) (a:V) (b:Bool) (c:Int) (d e:Nat) (f:Bool) (g h:V) (i j:Nat) (k:Bool) (l:Int) (Z:H) :
 AM E D W N (Mu ) (Tj a b c d e f g h i j k l Z) (kX gY [] [] li4) (rB E D W N cc3) (FI E) =
 jC E D W (fun a b c d e f g h i j k l Z=>li4 (Tj a b c d e f g h i j k l Z)) a b c d e f g h i j k l Z:=by kernel_rfl
def ABH (E:EB) (D:Al) (W:AE) (N:Nat):=jD E D W
theorem AA4 (a:Int) (b c:Nat) (d:Bool) (e:V) (f g:Nat) (h:Bool) (Z:H) :
 AM E D W N MH (zd a b c d e f g h Z) (FI E) nX (FI E)=ABH E D W N a b c d e f g h Z:=by kernel_rfl
def ABG (E:EB) (D:Al) (W:AE) (N:Nat) (R4:V->Bool->Int->Nat->Nat->Bool->V->V->Nat->Nat->Bool->Int->H->AG):=jC E D W R4
theorem AA3 (li4:St->AG) (a:V) (b:Bool) (c:Int) (d e:Nat) (f:Bool) (g h:V) (i j:Nat) (k:Bool) (l:Int) (Z:H) :
 AM E D W N Mu (Tj a b c d e f g h i j k l Z) (kX gY [] [] li4) (rB E D W N MH) (FI E)=ABG E D W N (fun a b c d e f g h i j k l Z=>li4 (Tj a b c d e f g h i j k l Z)) a b c d e f g h i j k l Z:=by
 refine(AE2 E D W N MH li4 a b c d e f g h i j k l Z).trans ?_
 kernel_rfl
def jc (n:Nat):V->Bool->Int->Nat->Nat->Bool->V->V->Nat->Nat->Bool->Int->H->AG:=
 Nat.rec (fun _ _ _ _ _ _ _ _ _ _ _ _ _=>none) (fun _ ih=>Xz E D W (ABH E D W N ) (ABG E D W N ih)) n
theorem AAu (n:Nat):∀(a:V) (b:Bool) (c:Int) (d e:Nat) (f:Bool) (g h:V) (i j:Nat) (k:Bool) (l:Int) (Z:H),
 Af (fun rec s'=>AM E D W N (O9 Mu) s' (kX gY [] [] rec) (rB E D W N MH) (FI E)) n (Tj a b c d e f g h i j k l Z)=jc E D W N n a b c d e f g h i j k l Z:=by
 induction n with
 | zero=>intro a b c d e f g h i j k l Z;rfl
 | succ n ihn=>
  intro a b c d e f g h i j k l Z
  rw[Ak]
  refine(AE3 E D W N MH Mu (Af (fun rec s'=>AM E D W N (O9 Mu) s' (kX gY [] [] rec) (rB E D W N MH) (FI E)) n) a b c d e f g h i j k l Z).trans ?_
  simp only[ihn,AA4,AA3]
  kernel_rfl
def vG:=yc E D W (jc E D W N N)
theorem AA5 (a:V) (b:Bool) (c:Int) (d e:Nat) (f:Bool) (g h:V) (i j:Nat) (Z:H) :
 AM E D W N (Um MH (O9 Mu)) (sK a b c d e f g h i j Z) (FI E) nX (FI E)=vG E D W N a b c d e f g h i j Z:=by
 refine(AE4 E D W N MH (O9 Mu)  a b c d e f g h i j Z).trans ?_
 simp only[AAu]
 kernel_rfl
def X2:=bD E D W (vG E D W N )
theorem AA6 (a:V) (b:Bool) (c:BS) (d:Int) (Z:H) :
 AM E D W N (fF (Um MH (O9 Mu))) (sL a b c d Z) (FI E) nX (FI E)=X2 E D W N a b c d Z:=by
 refine(AE5 E D W N (Um MH (O9 Mu))  a b c d Z).trans ?_
 simp only[AA5]
 kernel_rfl
def ABI:=Ud E D W (X2 E D W N )
theorem AA7 (a:V) (b:Bool) (Z:H) :
 AM E D W N (vj (fF (Um MH (O9 Mu)))) (ze a b Z) (FI E) nX (FI E)=ABI E D W N a b Z:=by
 refine(AE6 E D W N (fF (Um MH (O9 Mu)))  a b Z).trans ?_
 simp only[AA6]
 kernel_rfl
def F4 (args:List V) (Z:H):AG:=
 AB args fun x1 l2=>
 C7 l2 fun x5 l4=>
 AT l4 (
 ABI E D W N x1 x5 Z)
def A4:C9:=⟨132,[.any,.bool],[(.tmp 4)],(vj (fF (Um MH (O9 Mu))))⟩
theorem FE4 (args:List V) (Z:H):Be E D W N A4 args Z=F4 E D W N args Z:=by
 unfold F4
 simp only[<-AA7]
 kernel_rfl
def xO:List (Nat × Co):=[(0,.any),(1,.any),(2,.bool),(8,.ptr),(9,.bool),(10,.any),(11,.ptr),(12,.i)]
def q5b:List (Nat × Co):=[(0,.any),(2,.bool),(8,.ptr),(9,.bool),(10,.any),(11,.ptr)]
def ABQ:List BC:=[⟨(some 80),.load (some 4) (.tmp 8),none⟩,⟨(some 81),.build [(V.int .i64 (AA 0)),(V.int .i64 (AA 0))] [(1,1,(.con (V.int .i64 (AA 16))))],none⟩,⟨(some 82),.mov (.tmp 10),none⟩,⟨(some 83),.call 8 [(.tmp 81),(.con (V.bool true)),(.tmp 82)],none⟩,⟨(some 84),.call 9 [(.tmp 80),(.con (V.int .i64 (AA 0))),(.tmp 83)],none⟩,⟨(some 79),.mov (.tmp 84),none⟩,⟨(some 85),.extract 0 (.tmp 79),none⟩,⟨(some 86),.extract 1 (.tmp 79),none⟩,⟨(some 14),.alloc 34 [(V.int .i64 (AA 0)),(V.int .i64 (AA 0)),V.nils,V.nils,(V.int .i64 (AA 0)),V.nils],none⟩,⟨none,.store 6 (.tmp 14) (.tmp 85),none⟩,⟨(some 15),.mov (.tmp 86),none⟩]
def ABO:List DP:=[⟨0,[8]⟩,⟨0,[]⟩,⟨0,[10]⟩,⟨6,[81,82]⟩,⟨15,[80,83]⟩,⟨31,[84]⟩,⟨63,[79]⟩,⟨63,[79]⟩,⟨0,[]⟩,⟨383,[14,85]⟩,⟨1023,[86]⟩]
def GO (E:EB):St->AG:=fun s=>Cy E s [(.tmp 6)] fun l=>some (DH l,s.Z)
def b5a (c0:XC):Nat->St->AG:=BN 0 (dX E D W N (.keep q5b [] [] c0) (GO E) nX (GO E)) nX
def vi (cc1:XC):XC:=(.z (.c 6 y3<|
.nil)
 (.seq (.z (.m 16 0<|
.u 17 16<|
.b 18 .gtr .none (.t 17) (.i 6)<|
.m 19 18<|
.gO 19 false (.p 20 [1,19] Io<|
.p 21 [20,19] (.len false (.t 20))<|
.p 22 [21,19] (.bin .gtr .none (.t 21) (.i 200))<|
.nil) 23 19 22<|
.nil)
 (.cond (.tmp 23) (.z (.k 24 .bool 10 []<|
.m 6 24<|
.nil)
 .ret)
 .skip))
 (.z (.c 7 y8<|
.nil)
 (.seq (.z (.m 25 2<|
.nil)
 (.cond (.tmp 25) (.ops (.c 7 (V.str ⟨17,25962924143496044348805328506428802867244⟩)<|
.nil))
 .skip))
 (.keep [(0,.any),(1,.any),(2,.bool),(7,.str)] [] [] cc1)))))
def yb (E:EB) (D:Al) (W:AE) (K1:V->V->Bool->BS->H->AG) (a b:V) (c:Bool) (Z:H):AG:=
 A0 a fun n1=>
 Ac (fun c2 s3=>
 AJ c2 (
 AV (D 10 [] s3) fun u5 s6=>
 Aa u5 fun x7=>
 some ((V.bool x7),s6)) (
 AJ c (
 K1 a b c (BS.mk 17 25962924143496044348805328506428802867244) s3) (
 K1 a b c (BS.mk 0 0) s3))) fun k4=>
 AJ (Cr (AA 6) (AA n1)) (
 k4 true Z) (
 A0 b fun n8=>
 k4 (Cr (AA 200) (AA n8)) Z)
def fC (cc2:XC):XC:=(.z (.m 27 7<|
.b 28 .add .none (.con (V.str ⟨65,1022991297978550918763531518100076596597439128229847856144595860105991981592474693566084643732619912364361758549582870352320423856401045820393126642766323789⟩)) (.t 27)<|
.b 29 .add .none (.t 28) (.con (V.str ⟨6,75102957894944⟩))<|
.k 30 (.tup [y6,.bool]) 6 [(.t 29)]<|
.m 26 30<|
.P 31 (.extract 0 (.t 26))<|
.P 32 (.extract 1 (.t 26))<|
.p 8 [] y29<|
.op none y6 [8,31] (.store 4 (.t 8) (.t 31))<|
.m 9 32<|
.nil)
 (.z (.op (some 33) y4 [] (.build [y0,y0] [(0,1,(.i 2))])<|
.k 34 .one 8 [(.t 33),Kl,(.con V.nils)]<|
.m 10 34<|
.nil)
 (.z (.op (some 35) y1 [] (.build [y0,y0,V.nils,V.nils,y0,V.nils] [(0,1,(.i 4))])<|
.p 36 [35] (.buildSlice 34 1 [y0,y0,V.nils,V.nils,y0,V.nils] [(0,6,(.t 35))])<|
.op (some 37) y1 [36] (.build [y0,y0,V.nils,V.nils,y0,V.nils] [(0,1,(.i 7)),(3,1,(.t 36))])<|
.p 11 [] pX<|
.op none y1 [11,37] (.store 6 (.t 11) (.t 37))<|
.nil)
 (.seq (.z (.m 38 2<|
.nil)
 (.cond (.tmp 38) (.ops (.f 39 3 11<|
.l 40 .any 39<|
.op (some 41) y1 [] (.build [y0,y0,V.nils,V.nils,y0,V.nils] [])<|
.p 42 [41] (.buildSlice 34 1 [y0,y0,V.nils,V.nils,y0,V.nils] [(0,6,(.t 41))])<|
.O 43 .one (.append 34 6 96 (.t 40) (.t 42))<|
.f 44 3 11<|
.w 1 44 43<|
.nil))
 .skip))
 (.keep [(0,.any),(1,.any),(2,.bool),(8,.ptr),(9,.bool),(10,.any),(11,.ptr)] [] [] cc2)))))
def ya (E:EB) (D:Al) (W:AE) (K2:V->V->Bool->Nat->Nat->Bool->V->Nat->Nat->H->AG) (a b:V) (c:Bool) (d:BS) (Z:H):AG:=
 O7 (BS.mk 65 1022991297978550918763531518100076596597439128229847856144595860105991981592474693566084643732619912364361758549582870352320423856401045820393126642766323789) d fun t1=>
 O7 t1 (BS.mk 6 75102957894944) fun t2=>
 AV (D 6 [.str t2] Z) fun u3 s4=>
 C1 u3 fun l5=>
 AB l5 fun x6 l7=>
 Ba x6 fun l8=>
 Hz l8 fun x11 l10=>
 AB l10 fun x12 l13=>
 AB l13 fun x14 l15=>
 AB l15 fun x16 l17=>
 AT l17 (
 C7 l7 fun x20 l19=>
 AT l19 (
 let s21:=B6 s4 (.cells [.str ⟨0,0⟩,V.nils,V.nils,V.nils]);
 FY 4 (H.next s4) 0 (V.agg [.str x11,x12,x14,x16]) s21 fun s22=>
 AV (D 8 [.agg [.int .i64 (AA 2),.int .i64 (AA 0)],.bool false,V.nils] s22) fun u23 s24=>
 BU u23 (
 let s25:=B6 s24 (.cells [.int .i64 (AA 4),.int .i64 (AA 0),V.nils,V.nils,.int .i64 (AA 0),V.nils]);
 let s26:=B6 s25 (.cells [.int .i64 (AA 0),.int .i64 (AA 0),V.nils,V.nils,.int .i64 (AA 0),V.nils]);
 FY 6 (H.next s25) 0 (V.agg [.int .i64 (AA 7),.int .i64 (AA 0),V.nils,.sl (H.next s24) 0 1 (.ex 1),.int .i64 (AA 0),V.nils]) s26 fun s27=>
 AJ c (
 BY E s27 (H.next s25) 3 fun u28=>
 let s29:=B6 s27 (.cells [.int .i64 (AA 0),.int .i64 (AA 0),V.nils,V.nils,.int .i64 (AA 0),V.nils]);
 DI E 6 96 u28 (V.sl (H.next s27) 0 1 (.ex 1)) s29 fun u30 s31=>
 BU u30 (
 FY 1 (H.next s25) 3 u30 s31 fun s32=>
 K2 a b c (H.next s4) 0 x20 u23 (H.next s25) 0 s32)) (
 K2 a b c (H.next s4) 0 x20 u23 (H.next s25) 0 s27))))
def Ul (cc3:XC) (cc4:XC):XC:=(.seq (.z (.q 12 0<|
.nil)
 (.block 0 (.loop xO [] [] cc4)))
 (.keep q5b [] [] cc3))
def yZ (E:EB) (D:Al) (W:AE) (K4:V->V->Bool->Nat->Nat->Bool->V->Nat->Nat->Int->H->AG) (a b:V) (c:Bool) (d e:Nat) (f:Bool) (g:V) (h i:Nat) (Z:H):AG:=
 K4 a b c d e f g h i (AA 0) Z
def OQ:XC:=(.seq (.keep q5b [] [] (.gdraw ABQ ABO [(0,.any),(2,.bool),(9,.bool),(11,.ptr),(14,.ptr),(15,.i)]))
 (.seq (.z (.m 87 2<|
.P 88 (.un .not (.t 87))<|
.m 89 88<|
.gA 89 true (.p 90 [0,89] y9<|
.p 91 [90,89] (.len false (.t 90))<|
.p 92 [91,89] (.bin .gtr .none (.t 91) (.i 0))<|
.nil) 93 89 92<|
.nil)
 (.cond (.tmp 93) (.z (.k 94 .bool 10 []<|
.m 95 94<|
.gA 95 true (.p 96 [9,95] (.mov (.t 9))<|
.nil) 97 95 96<|
.m 98 97<|
.gA 98 true (.p 99 [15,98] (.mov (.t 15))<|
.p 100 [99,98] (.bin .eql .none (.t 99) (.i 4))<|
.nil) 101 98 100<|
.m 102 101<|
.gA 102 true (.op (some 103) y1 [14,102] (.load (some 6) (.t 14))<|
.op (some 104) y1 [102] (.build [y0,y0,V.nils,V.nils,y0,V.nils] [])<|
.op (some 105) .bool [103,104,102] (.call 11 [(.t 103),(.t 104)])<|
.nil) 106 102 105<|
.m 6 106<|
.nil)
 .ret)
 .skip))
 (.z (.k 107 .bool 10 []<|
.m 108 107<|
.gA 108 true (.p 109 [9,108] (.mov (.t 9))<|
.nil) 110 108 109<|
.m 111 110<|
.gA 111 true (.p 112 [15,111] (.mov (.t 15))<|
.p 113 [112,111] (.bin .eql .none (.t 112) (.i 0))<|
.nil) 114 111 113<|
.m 115 114<|
.gA 115 true (.op (some 116) y1 [14,115] (.load (some 6) (.t 14))<|
.op (some 117) y1 [11,115] (.load (some 6) (.t 11))<|
.op (some 118) .bool [116,117,115] (.call 11 [(.t 116),(.t 117)])<|
.nil) 119 115 118<|
.m 6 119<|
.nil)
 .ret)))
def AD1 (a:V) (b:Bool) (c d:Nat) (e:Bool) (f:V) (g h:Nat) (Z:H):AG:=
 Cp (W ABQ ABO [(0,a),(2,.bool b),(8,.ptr c d),(9,.bool e),(10,f),(11,.ptr g h)] Z) fun e1 s2=>
 BR e1 0 fun u3=>
 BR e1 2 fun u4=>
 Aa u4 fun x5=>
 BR e1 9 fun u6=>
 Aa u6 fun x7=>
 BR e1 11 fun u8=>
 Bv u8 fun b9 o10=>
 BR e1 14 fun u11=>
 Bv u11 fun b12 o13=>
 BR e1 15 fun u14=>
 Aj .i64 u14 fun x15=>
 Ac (fun c16 s17=>
 AJ c16 (
 AV (D 10 [] s17) fun u19 s20=>
 Aa u19 fun x21=>
 Ac (fun c22 s23=>
 Ac (fun c25 s26=>
 Ac (fun c28 s29=>
 some ((V.bool c28),s29)) fun k30=>
 AJ c25 (
 BV E s26 b12 o13 6 fun l31=>
 Ah .i64 l31 fun x34 l33=>
 Ah .i64 l33 fun x37 l36=>
 AB l36 fun x38 l39=>
 AB l39 fun x40 l41=>
 Ah .i64 l41 fun x44 l43=>
 AB l43 fun x45 l46=>
 AT l46 (
 AV (D 11 [.agg [.int .i64 x34,.int .i64 x37,x38,x40,.int .i64 x44,x45],.agg [.int .i64 (AA 0),.int .i64 (AA 0),V.nils,V.nils,.int .i64 (AA 0),V.nils]] s26) fun u47 s48=>
 Aa u47 fun x49=>
 k30 x49 s48)) (
 k30 false s26)) fun k27=>
 AJ c22 (
 k27 (B5 x15 (AA 4)) s23) (
 k27 false s23)) fun k24=>
 AJ x21 (
 k24 x7 s20) (
 k24 false s20)) (
 AV (D 10 [] s17) fun u50 s51=>
 Aa u50 fun x52=>
 Ac (fun c53 s54=>
 Ac (fun c56 s57=>
 Ac (fun c59 s60=>
 some ((V.bool c59),s60)) fun k61=>
 AJ c56 (
 BV E s57 b12 o13 6 fun l62=>
 Ah .i64 l62 fun x65 l64=>
 Ah .i64 l64 fun x68 l67=>
 AB l67 fun x69 l70=>
 AB l70 fun x71 l72=>
 Ah .i64 l72 fun x75 l74=>
 AB l74 fun x76 l77=>
 AT l77 (
 BV E s57 b9 o10 6 fun l78=>
 Ah .i64 l78 fun x81 l80=>
 Ah .i64 l80 fun x84 l83=>
 AB l83 fun x85 l86=>
 AB l86 fun x87 l88=>
 Ah .i64 l88 fun x91 l90=>
 AB l90 fun x92 l93=>
 AT l93 (
 AV (D 11 [.agg [.int .i64 x65,.int .i64 x68,x69,x71,.int .i64 x75,x76],.agg [.int .i64 x81,.int .i64 x84,x85,x87,.int .i64 x91,x92]] s57) fun u94 s95=>
 Aa u94 fun x96=>
 k61 x96 s95))) (
 k61 false s57)) fun k58=>
 AJ c53 (
 k58 (B5 x15 (AA 0)) s54) (
 k58 false s54)) fun k55=>
 AJ x52 (
 k55 x7 s51) (
 k55 false s51))) fun k18=>
 AJ (not x5) (
 A0 u3 fun n97=>
 k18 (Cr (AA 0) (AA n97)) s2) (
 k18 false s2)
def O8:XC:=(.seq (.z (.m 45 12<|
.m 46 0<|
.u 47 46<|
.b 48 .lss .none (.t 45) (.t 47)<|
.nil)
 (.cond (.tmp 48) .skip
 Lr))
 (.seq (.block 1 (.seq (.draw (.m 51 0<|
.m 52 12<|
.s 53 1 51 52<|
.l 54 .i 53<|
.P 55 (.conv (.toInt .u64) (.t 54))<|
.b 56 .rem .none (.t 55) (.con (V.int .u64 (AA 5000)))<|
.P 57 (.conv (.toInt .i64) (.t 56))<|
.b 58 .add .none (.i 2) (.t 57)<|
.op (some 59) y4 [58] (.build [y0,y0] [(0,1,(.i 2)),(1,1,(.t 58))])<|
.m 60 0<|
.m 61 12<|
.s 62 1 60 61<|
.l 63 .i 62<|
.b 64 .and .none (.t 63) (.i 1)<|
.b 65 .eql .none (.t 64) (.i 0)<|
.m 66 1<|
.k 67 .one 8 [(.t 59),(.t 65),(.t 66)]<|
.m 13 67<|
.nil) [0,0,3,7,15,31,63,127,255,0,0,1536,3584,7680,15872,0,65535,131071])
 (.z (.m 68 10<|
.m 69 13<|
.O 70 .one (.append 5 1 1 (.t 68) (.t 69))<|
.m 10 70<|
.nil)
 (.z (.f 71 4 11<|
.op none .any [71] (.store 1 (.t 71) (.i 1))<|
.nil)
 (.ops (.f 72 5 11<|
.l 73 .any 72<|
.m 74 13<|
.op (some 75) T4 [74] (.build [y0,V.nils] [(1,1,(.t 74))])<|
.p 76 [75] (.buildSlice 47 1 [y0,V.nils] [(0,2,(.t 75))])<|
.O 77 .one (.append 47 2 32 (.t 73) (.t 76))<|
.f 78 5 11<|
.w 1 78 77<|
.nil))))))
 (.ops (.m 49 12<|
.b 50 .add .none (.t 49) (.i 1)<|
.m 12 50<|
.nil))))
def yY (E:EB) (D:Al) (W:AE) (K3:V->Bool->Nat->Nat->Bool->V->Nat->Nat->H->AG) (R4:V->V->Bool->Nat->Nat->Bool->V->Nat->Nat->Int->H->AG) (a b:V) (c:Bool) (d e:Nat) (f:Bool) (g:V) (h i:Nat) (j:Int) (Z:H):AG:=
 A0 a fun n1=>
 AJ (Cr j (AA n1)) (
 Ab 1 a j fun b2 o3=>
 BY E Z b2 o3 fun u4=>
 Aj .i64 u4 fun x5=>
 Ab 1 a j fun b6 o7=>
 BY E Z b6 o7 fun u8=>
 Aj .i64 u8 fun x9=>
 AV (D 8 [.agg [.int .i64 (AA 2),.int .i64 (CM .i64 (AA 2) (As .i64 (EW (As .u64 x5) (AA 5000))))],.bool (B5 (HI .i64 x9 (AA 1)) (AA 0)),b] Z) fun u10 s11=>
 BU u10 (
 DI E 1 1 g u10 s11 fun u12 s13=>
 BU u12 (
 FY 1 h (Ar i 4) (V.int .i64 (AA 1)) s13 fun s14=>
 BY E s14 h (Ar i 5) fun u15=>
 H7 [(1,1,u10)] [.int .i64 (AA 0),V.nils] fun l16=>
 Ah .i64 l16 fun x19 l18=>
 AB l18 fun x20 l21=>
 AT l21 (
 Fx (allOne [.int .i64 x19,x20]) (
 let s22:=B6 s14 (.cells [.int .i64 x19,x20]);
 DI E 2 32 u15 (V.sl (H.next s14) 0 1 (.ex 1)) s22 fun u23 s24=>
 BU u23 (
 FY 1 h (Ar i 5) u23 s24 fun s25=>
 R4 a b c d e f u12 h i (CM .i64 j (AA 1)) s25)))))) (
 K3 a c d e f g h i Z)
def zc (a b:V) (c:Bool) (Z:H):St:=⟨[(0,a),(1,b),(2,.bool c)],[],[],Z⟩
def sJ (a b:V) (c:Bool) (d:BS) (Z:H):St:=⟨[(0,a),(1,b),(2,.bool c),(7,.str d)],[],[],Z⟩
def sI (a b:V) (c:Bool) (d e:Nat) (f:Bool) (g:V) (h i:Nat) (Z:H):St:=⟨[(0,a),(1,b),(2,.bool c),(8,.ptr d e),(9,.bool f),(10,g),(11,.ptr h i)],[],[],Z⟩
def zb (a:V) (b:Bool) (c d:Nat) (e:Bool) (f:V) (g h:Nat) (Z:H):St:=⟨[(0,a),(2,.bool b),(8,.ptr c d),(9,.bool e),(10,f),(11,.ptr g h)],[],[],Z⟩
def jI (a b:V) (c:Bool) (d e:Nat) (f:Bool) (g:V) (h i:Nat) (j:Int) (Z:H):St:=⟨[(0,a),(1,b),(2,.bool c),(8,.ptr d e),(9,.bool f),(10,g),(11,.ptr h i),(12,.int .i64 j)],[],[],Z⟩
theorem AE1 (cc1:XC) (a b:V) (c:Bool) (Z:H) :
 AM E D W N (vi cc1) (zc a b c Z) (GO E) nX (GO E) =
 yb E D W (fun a b c d Z=>AM E D W N cc1 (sJ a b c d Z) (GO E) nX (GO E)) a b c Z:=by kernel_rfl
theorem AE0 (cc2:XC) (a b:V) (c:Bool) (d:BS) (Z:H) :
 AM E D W N (fC cc2) (sJ a b c d Z) (GO E) nX (GO E) =
 ya E D W (fun a b c e f g h i j Z=>AM E D W N cc2 (sI a b c e f g h i j Z) (GO E) nX (GO E)) a b c d Z:=by kernel_rfl
theorem AEz (cc3:XC) (cc4:XC) (a b:V) (c:Bool) (d e:Nat) (f:Bool) (g:V) (h i:Nat) (Z:H) :
 AM E D W N (Ul cc3 cc4) (sI a b c d e f g h i Z) (GO E) nX (GO E) =
 yZ E D W (fun a b c d e f g h i j Z=>Af (fun rec s'=>AM E D W N cc4 s' (kX xO [] [] rec) (b5a E D W N cc3) (GO E)) N (jI a b c d e f g h i j Z)) a b c d e f g h i Z:=by kernel_rfl
theorem AEy (cc3:XC) (li4:St->AG) (a b:V) (c:Bool) (d e:Nat) (f:Bool) (g:V) (h i:Nat) (j:Int) (Z:H) :
 AM E D W N (O8 ) (jI a b c d e f g h i j Z) (kX xO [] [] li4) (b5a E D W N cc3) (GO E) =
 yY E D W (fun a c d e f g h i Z=>AM E D W N cc3 (zb a c d e f g h i Z) (GO E) nX (GO E)) (fun a b c d e f g h i j Z=>li4 (jI a b c d e f g h i j Z)) a b c d e f g h i j Z:=by kernel_rfl
def ABC (E:EB) (D:Al) (W:AE) (N:Nat):=AD1 E D W
theorem AAz (a:V) (b:Bool) (c d:Nat) (e:Bool) (f:V) (g h:Nat) (Z:H) :
 AM E D W N OQ (zb a b c d e f g h Z) (GO E) nX (GO E)=ABC E D W N a b c d e f g h Z:=by kernel_rfl
def AAw (n:Nat):V->V->Bool->Nat->Nat->Bool->V->Nat->Nat->Int->H->AG:=
 Nat.rec (fun _ _ _ _ _ _ _ _ _ _ _=>none) (fun _ ih=>yY E D W (ABC E D W N ) ih) n
theorem AAt (n:Nat):∀(a b:V) (c:Bool) (d e:Nat) (f:Bool) (g:V) (h i:Nat) (j:Int) (Z:H),
 Af (fun rec s'=>AM E D W N O8 s' (kX xO [] [] rec) (b5a E D W N OQ) (GO E)) n (jI a b c d e f g h i j Z)=AAw E D W N n a b c d e f g h i j Z:=by
 induction n with
 | zero=>intro a b c d e f g h i j Z;rfl
 | succ n ihn=>
  intro a b c d e f g h i j Z
  rw[Ak]
  refine(AEy E D W N OQ (Af (fun rec s'=>AM E D W N O8 s' (kX xO [] [] rec) (b5a E D W N OQ) (GO E)) n) a b c d e f g h i j Z).trans ?_
  simp only[ihn,AAz]
  kernel_rfl
def ABD:=yZ E D W (AAw E D W N N)
theorem AA0 (a b:V) (c:Bool) (d e:Nat) (f:Bool) (g:V) (h i:Nat) (Z:H) :
 AM E D W N (Ul OQ O8) (sI a b c d e f g h i Z) (GO E) nX (GO E)=ABD E D W N a b c d e f g h i Z:=by
 refine(AEz E D W N OQ O8  a b c d e f g h i Z).trans ?_
 simp only[AAt]
 kernel_rfl
def ABE:=ya E D W (ABD E D W N )
theorem AA1 (a b:V) (c:Bool) (d:BS) (Z:H) :
 AM E D W N (fC (Ul OQ O8)) (sJ a b c d Z) (GO E) nX (GO E)=ABE E D W N a b c d Z:=by
 refine(AE0 E D W N (Ul OQ O8)  a b c d Z).trans ?_
 simp only[AA0]
 kernel_rfl
def ABF:=yb E D W (ABE E D W N )
theorem AA2 (a b:V) (c:Bool) (Z:H) :
 AM E D W N (vi (fC (Ul OQ O8))) (zc a b c Z) (GO E) nX (GO E)=ABF E D W N a b c Z:=by
 refine(AE1 E D W N (fC (Ul OQ O8))  a b c Z).trans ?_
 simp only[AA1]
 kernel_rfl
def F5 (args:List V) (Z:H):AG:=
 AB args fun x1 l2=>
 AB l2 fun x3 l4=>
 C7 l4 fun x7 l6=>
 AT l6 (
 ABF E D W N x1 x3 x7 Z)
def A5:C9:=⟨120,[.any,.any,.bool],[(.tmp 6)],(vi (fC (Ul OQ O8)))⟩
theorem FE5 (args:List V) (Z:H):Be E D W N A5 args Z=F5 E D W N args Z:=by
 unfold F5
 simp only[<-AA2]
 kernel_rfl
def Ld (E:EB):St->AG:=fun s=>Cy E s [(.tmp 2)] fun l=>some (DH l,s.Z)
def b7a (c0:XC):Nat->St->AG:=BN 0 (dX E D W N (.keep [(3,.any)] [] [] c0) (Ld E) nX (Ld E)) nX
def vh (cc1:XC) (cc2:XC):XC:=(.z (.c 2 V.nils<|
.nil)
 (.z (.m 4 0<|
.P 5 (.conv (.toInt .u8) (.t 4))<|
.p 6 [5] (.buildSlice 5 1 [y5] [(0,1,(.t 5))])<|
.m 3 6<|
.nil)
 (.seq (.block 0 (.loop [(0,.i),(3,.any)] [] [] cc2))
 (.keep [(3,.any)] [] [] cc1))))
def yL (E:EB) (D:Al) (W:AE) (K2:Int->V->H->AG) (a:Int) (Z:H):AG:=
 let s1:=B6 Z (.cells [.int .u8 (As .u8 a)]);
 K2 a (V.sl (H.next Z) 0 1 (.ex 1)) s1
def Uk:XC:=(.z (.m 20 3<|
.m 2 20<|
.nil)
 .ret)
def AD0 (E:EB) (D:Al) (W:AE) (a:V) (Z:H):AG:=
 some (a,Z)
def X7:XC:=(.seq (.z (.m 7 0<|
.b 8 .lss .none (.t 7) (.con (V.int .i64 (CG 127)))<|
.m 9 8<|
.gO 9 false (.p 10 [0,9] y9<|
.p 11 [10,9] (.bin .gtr .none (.t 10) (.i 127))<|
.nil) 12 9 11<|
.nil)
 (.cond (.tmp 12) .skip
 Lr))
 (.block 1 (.z (.m 13 0<|
.b 14 .shr .none (.t 13) (.con (V.int .u64 (AA 8)))<|
.m 0 14<|
.nil)
 (.ops (.m 15 0<|
.P 16 (.conv (.toInt .u8) (.t 15))<|
.p 17 [16] (.buildSlice 5 1 [y5] [(0,1,(.t 16))])<|
.m 18 3<|
.O 19 .one (.append 5 1 1 (.t 17) (.t 18))<|
.m 3 19<|
.nil)))))
def yK (E:EB) (D:Al) (W:AE) (K1:V->H->AG) (R2:Int->V->H->AG) (a:Int) (b:V) (Z:H):AG:=
 Ac (fun c1 s2=>
 AJ c1 (
 let s4:=B6 s2 (.cells [.int .u8 (As .u8 (Ge .i64 a 8))]);
 DI E 1 1 (V.sl (H.next s2) 0 1 (.ex 1)) b s4 fun u5 s6=>
 BU u5 (
 R2 (Ge .i64 a 8) u5 s6)) (
 K1 b s2)) fun k3=>
 AJ (Cr a (CG 127)) (
 k3 true Z) (
 k3 (Cr (AA 127) a) Z)
def za (a:Int) (Z:H):St:=⟨[(0,.int .i64 a)],[],[],Z⟩
def zZ (a:V) (Z:H):St:=⟨[(3,a)],[],[],Z⟩
def jH (a:Int) (b:V) (Z:H):St:=⟨[(0,.int .i64 a),(3,b)],[],[],Z⟩
theorem AEx (cc1:XC) (cc2:XC) (a:Int) (Z:H) :
 AM E D W N (vh cc1 cc2) (za a Z) (Ld E) nX (Ld E) =
 yL E D W (fun a b Z=>Af (fun rec s'=>AM E D W N cc2 s' (kX [(0,.i),(3,.any)] [] [] rec) (b7a E D W N cc1) (Ld E)) N (jH a b Z)) a Z:=by kernel_rfl
theorem AEw (cc1:XC) (li2:St->AG) (a:Int) (b:V) (Z:H) :
 AM E D W N (X7 ) (jH a b Z) (kX [(0,.i),(3,.any)] [] [] li2) (b7a E D W N cc1) (Ld E) =
 yK E D W (fun b Z=>AM E D W N cc1 (zZ b Z) (Ld E) nX (Ld E)) (fun a b Z=>li2 (jH a b Z)) a b Z:=by kernel_rfl
def AA8 (E:EB) (D:Al) (W:AE) (N:Nat):=AD0 E D W
theorem AAx (a:V) (Z:H) :
 AM E D W N Uk (zZ a Z) (Ld E) nX (Ld E)=AA8 E D W N a Z:=by kernel_rfl
def AAv (n:Nat):Int->V->H->AG:=
 Nat.rec (fun _ _ _=>none) (fun _ ih=>yK E D W (AA8 E D W N ) ih) n
theorem AAs (n:Nat):∀(a:Int) (b:V) (Z:H),
 Af (fun rec s'=>AM E D W N X7 s' (kX [(0,.i),(3,.any)] [] [] rec) (b7a E D W N Uk) (Ld E)) n (jH a b Z)=AAv E D W N n a b Z:=by
 induction n with
 | zero=>intro a b Z;rfl
 | succ n ihn=>
  intro a b Z
  rw[Ak]
  refine(AEw E D W N Uk (Af (fun rec s'=>AM E D W N X7 s' (kX [(0,.i),(3,.any)] [] [] rec) (b7a E D W N Uk) (Ld E)) n) a b Z).trans ?_
  simp only[ihn,AAx]
  kernel_rfl
def AA9:=yL E D W (AAv E D W N N)
theorem AAy (a:Int) (Z:H) :
 AM E D W N (vh Uk X7) (za a Z) (Ld E) nX (Ld E)=AA9 E D W N a Z:=by
 refine(AEx E D W N Uk X7  a Z).trans ?_
 simp only[AAs]
 kernel_rfl
def F7 (args:List V) (Z:H):AG:=
 Ah .i64 args fun x3 l2=>
 AT l2 (
 AA9 E D W N x3 Z)
def A7:C9:=⟨21,[.i],[(.tmp 2)],(vh Uk X7)⟩
theorem FE7 (args:List V) (Z:H):Be E D W N A7 args Z=F7 E D W N args Z:=by
 unfold F7
 simp only[<-AAy]
 kernel_rfl
def AGg:XC:=(.z (.P 3 (.box 38 (.t 0))<|
.c 6 V.nils<|
.nil)
 (.z (.O 7 y4 (.load (some 2) (.t 3))<|
.m 8 1<|
.m 9 2<|
.u 10 9<|
.k 11 .one 14 [(.t 7),(.t 8),(.t 10)]<|
.m 12 2<|
.O 13 .one (.append 5 1 1 (.t 11) (.t 12))<|
.m 6 13<|
.nil)
 .ret))
def rH (E:EB) (D:Al) (W:AE) (a b:Int) (c:Bool) (d:V) (Z:H):AG:=
 Gi [.int .i64 a,.int .i64 b] Z fun s1=>
 BV E s1 (H.next Z) 0 2 fun l2=>
 Ah .i64 l2 fun x5 l4=>
 Ah .i64 l4 fun x8 l7=>
 AT l7 (
 A0 d fun n9=>
 AV (D 14 [.agg [.int .i64 x5,.int .i64 x8],.bool c,.int .i64 (AA n9)] s1) fun u10 s11=>
 BU u10 (
 DI E 1 1 u10 d s11 fun u12 s13=>
 BU u12 (
 some (u12,s13))))
def F8 (N:Nat) (args:List V) (Z:H):AG:=
 AB args fun x1 l2=>
 Ba x1 fun l3=>
 Ah .i64 l3 fun x6 l5=>
 Ah .i64 l5 fun x9 l8=>
 AT l8 (
 C7 l2 fun x12 l11=>
 AB l11 fun x13 l14=>
 AT l14 (
 rH E D W x6 x9 x12 x13 Z))
def A8:C9:=⟨14,[y4,.bool,.any],[(.tmp 6)],AGg⟩
theorem FE8 (args:List V) (Z:H):Be E D W N A8 args Z=F8 E D W N args Z:=by kernel_rfl
def AGf:XC:=(.z (.P 3 (.box 26 (.t 0))<|
.pal 6 [] 34 [y0,y0,V.nils,V.nils,y0,V.nils]<|
.q 7 0<|
.nil)
 (.seq (.block 0 (.z (.m 13 1<|
.b 14 .lss .none (.t 13) (.i 0)<|
.m 15 14<|
.gO 15 false (.p 16 [1,15] Io<|
.p 17 [3,15] (.faddr 3 (.t 3))<|
.p 18 [17,15] (.load none (.t 17))<|
.p 19 [18,15] (.len false (.t 18))<|
.p 20 [16,19,15] (.bin .geq .none (.t 16) (.t 19))<|
.nil) 21 15 20<|
.m 12 21<|
.nil)
 (.cond (.tmp 12) (.z (.op (some 22) y1 [] (.build [y0,y0,V.nils,V.nils,y0,V.nils] [])<|
.op none y1 [6,22] (.store 6 (.t 6) (.t 22))<|
.q 7 9<|
.nil)
 .ret)
 (.z (.m 24 2<|
.u 25 24<|
.b 26 .gtr .none (.t 25) (.i 70000)<|
.m 23 26<|
.nil)
 (.cond (.tmp 23) (.z (.op (some 27) y1 [] (.build [y0,y0,V.nils,V.nils,y0,V.nils] [])<|
.op none y1 [6,27] (.store 6 (.t 6) (.t 27))<|
.q 7 5<|
.nil)
 .ret)
 .skip)))))
 (.z (.O 28 y6 (.load (some 4) (.t 3))<|
.op (some 29) (.agg [.bool,.str,.any,.any,.any]) [28] (.build [y3,y8,V.nils,V.nils,V.nils] [(1,4,(.t 28))])<|
.P 30 (.box 61 (.t 29))<|
.m 8 30<|
.nil)
 (.z (.m 31 8<|
.m 32 1<|
.m 33 2<|
.k 34 y1 15 [(.t 31),(.t 32),(.t 33),(.i 1)]<|
.pal 9 [] 34 [y0,y0,V.nils,V.nils,y0,V.nils]<|
.op none y1 [9,34] (.store 6 (.t 9) (.t 34))<|
.nil)
 (.seq (.z (.m 35 8<|
.n 36 35<|
.f 37 0 36<|
.f 38 0 37<|
.l 39 .bool 38<|
.nil)
 (.cond (.tmp 39) (.z (.op (some 40) y1 [] (.build [y0,y0,V.nils,V.nils,y0,V.nils] [])<|
.op none y1 [6,40] (.store 6 (.t 6) (.t 40))<|
.q 7 4<|
.nil)
 .ret)
 .skip))
 (.seq (.z (.O 42 y6 (.load (some 4) (.t 3))<|
.m 43 1<|
.O 44 y1 (.load (some 6) (.t 9))<|
.k 45 (.tup [.any,.i]) 16 [(.t 42),(.t 43),(.t 44)]<|
.m 41 45<|
.P 46 (.extract 0 (.t 41))<|
.P 47 (.extract 1 (.t 41))<|
.m 10 46<|
.m 11 47<|
.nil)
 (.z (.m 48 11<|
.b 49 .neq .none (.t 48) (.i 0)<|
.m 50 49<|
.gO 50 false (.p 51 [10,50] (.mov (.t 10))<|
.p 52 [2,50] (.mov (.t 2))<|
.op (some 53) .bool [51,52,50] (.call 17 [(.t 51),(.t 52)])<|
.p 54 [53,50] (.un .not (.t 53))<|
.nil) 55 50 54<|
.nil)
 (.cond (.tmp 55) (.z (.op (some 56) y1 [] (.build [y0,y0,V.nils,V.nils,y0,V.nils] [])<|
.op none y1 [6,56] (.store 6 (.t 6) (.t 56))<|
.q 7 4<|
.nil)
 .ret)
 .skip)))
 (.z (.O 57 y1 (.load (some 6) (.t 9))<|
.op none y1 [6,57] (.store 6 (.t 6) (.t 57))<|
.q 7 0<|
.nil)
 .ret)))))))
def ah (E:EB) (D:Al) (W:AE) (a:BS) (b c d:V) (e:Int) (f:V) (Z:H):AG:=
 Gi [.str a,b,c,d] Z fun s1=>
 Ac (fun c2 s3=>
 AJ c2 (
 some ((V.tup [.agg [.int .i64 (AA 0),.int .i64 (AA 0),V.nils,V.nils,.int .i64 (AA 0),V.nils],.int .i64 (AA 9)]),s3)) (
 A0 f fun n5=>
 AJ (Cr (AA 70000) (AA n5)) (
 some ((V.tup [.agg [.int .i64 (AA 0),.int .i64 (AA 0),V.nils,V.nils,.int .i64 (AA 0),V.nils],.int .i64 (AA 5)]),s3)) (
 BV E s3 (H.next Z) 0 4 fun l6=>
 Hz l6 fun x9 l8=>
 AB l8 fun x10 l11=>
 AB l11 fun x12 l13=>
 AB l13 fun x14 l15=>
 AT l15 (
 Gi [.bool false,.str x9,x10,x12,x14] s3 fun s16=>
 AV (D 15 [.ptr (H.next s3) 0,.int .i64 e,f,.int .i64 (AA 1)] s16) fun u17 s18=>
 Ba u17 fun l19=>
 Ah .i64 l19 fun x22 l21=>
 Ah .i64 l21 fun x25 l24=>
 AB l24 fun x26 l27=>
 AB l27 fun x28 l29=>
 Ah .i64 l29 fun x32 l31=>
 AB l31 fun x33 l34=>
 AT l34 (
 Fx (allOne [.int .i64 x22,.int .i64 x25,x26,x28,.int .i64 x32,x33]) (
 BY E s18 (H.next s3) 0 fun u35=>
 Aa u35 fun x36=>
 AJ x36 (
 some ((V.tup [.agg [.int .i64 (AA 0),.int .i64 (AA 0),V.nils,V.nils,.int .i64 (AA 0),V.nils],.int .i64 (AA 4)]),s18)) (
 BV E s18 (H.next Z) 0 4 fun l37=>
 Hz l37 fun x40 l39=>
 AB l39 fun x41 l42=>
 AB l42 fun x43 l44=>
 AB l44 fun x45 l46=>
 AT l46 (
 AV (D 16 [.agg [.str x40,x41,x43,x45],.int .i64 e,.agg [.int .i64 x22,.int .i64 x25,x26,x28,.int .i64 x32,x33]] s18) fun u47 s48=>
 C1 u47 fun l49=>
 AB l49 fun x50 l51=>
 Ah .i64 l51 fun x54 l53=>
 AT l53 (
 Ac (fun c55 s56=>
 AJ c55 (
 some ((V.tup [.agg [.int .i64 (AA 0),.int .i64 (AA 0),V.nils,V.nils,.int .i64 (AA 0),V.nils],.int .i64 (AA 4)]),s56)) (
 Fx (allOne [.int .i64 x22,.int .i64 x25,x26,x28,.int .i64 x32,x33]) (
 some ((V.tup [.agg [.int .i64 x22,.int .i64 x25,x26,x28,.int .i64 x32,x33],.int .i64 (AA 0)]),s56)))) fun k57=>
 AJ (not (B5 x54 (AA 0))) (
 k57 true s48) (
 AV (D 17 [x50,f] s48) fun u58 s59=>
 Aa u58 fun x60=>
 k57 (not x60) s59)))))))))) fun k4=>
 AJ (Cr e (AA 0)) (
 k4 true s1) (
 BY E s1 (H.next Z) 3 fun u61=>
 A0 u61 fun n62=>
 k4 (I7 (AA n62) e) s1)
def F9 (N:Nat) (args:List V) (Z:H):AG:=
 AB args fun x1 l2=>
 Ba x1 fun l3=>
 Hz l3 fun x6 l5=>
 AB l5 fun x7 l8=>
 AB l8 fun x9 l10=>
 AB l10 fun x11 l12=>
 AT l12 (
 Ah .i64 l2 fun x15 l14=>
 AB l14 fun x16 l17=>
 AT l17 (
 ah E D W x6 x7 x9 x11 x15 x16 Z))
def A9:C9:=⟨58,[y6,.i,.any],[(.cell 6 (some 6)),(.tmp 7)],AGf⟩
theorem FE9 (args:List V) (Z:H):Be E D W N A9 args Z=F9 E D W N args Z:=by kernel_rfl
def ACw:XC:=(.z (.P 2 (.box 34 (.t 0))<|
.P 3 (.box 34 (.t 1))<|
.c 4 y3<|
.nil)
 (.z (.f 5 0 2<|
.l 6 .i 5<|
.f 7 0 3<|
.l 8 .i 7<|
.b 9 .eql .none (.t 6) (.t 8)<|
.m 10 9<|
.gA 10 true (.p 11 [2,10] (.faddr 1 (.t 2))<|
.op (some 12) .i [11,10] (.load none (.t 11))<|
.p 13 [3,10] (.faddr 1 (.t 3))<|
.op (some 14) .i [13,10] (.load none (.t 13))<|
.p 15 [12,14,10] (.bin .eql .none (.t 12) (.t 14))<|
.nil) 16 10 15<|
.m 17 16<|
.gA 17 true (.p 18 [2,17] (.faddr 2 (.t 2))<|
.p 19 [18,17] (.load none (.t 18))<|
.p 20 [3,17] (.faddr 2 (.t 3))<|
.p 21 [20,17] (.load none (.t 20))<|
.op (some 22) .bool [19,21,17] (.call 18 [(.t 19),(.t 21)])<|
.nil) 23 17 22<|
.m 24 23<|
.gA 24 true (.p 25 [2,24] (.faddr 3 (.t 2))<|
.p 26 [25,24] (.load none (.t 25))<|
.p 27 [3,24] (.faddr 3 (.t 3))<|
.p 28 [27,24] (.load none (.t 27))<|
.op (some 29) .bool [26,28,24] (.call 19 [(.t 26),(.t 28),(.con (V.fn 11 [] []))])<|
.nil) 30 24 29<|
.m 31 30<|
.gA 31 true (.p 32 [2,31] (.faddr 4 (.t 2))<|
.op (some 33) .i [32,31] (.load none (.t 32))<|
.p 34 [3,31] (.faddr 4 (.t 3))<|
.op (some 35) .i [34,31] (.load none (.t 34))<|
.p 36 [33,35,31] (.bin .eql .none (.t 33) (.t 35))<|
.nil) 37 31 36<|
.m 38 37<|
.gA 38 true (.p 39 [2,38] (.faddr 5 (.t 2))<|
.p 40 [39,38] (.load none (.t 39))<|
.p 41 [3,38] (.faddr 5 (.t 3))<|
.p 42 [41,38] (.load none (.t 41))<|
.op (some 43) .bool [40,42,38] (.call 20 [(.t 40),(.t 42),(.con (V.fn 21 [] []))])<|
.nil) 44 38 43<|
.m 4 44<|
.nil)
 .ret))
def cB (E:EB) (D:Al) (W:AE) (a b:Int) (c d:V) (e:Int) (f:V) (g h:Int) (i j:V) (k:Int) (l:V) (Z:H):AG:=
 Gi [.int .i64 a,.int .i64 b,c,d,.int .i64 e,f] Z fun s1=>
 Gi [.int .i64 g,.int .i64 h,i,j,.int .i64 k,l] s1 fun s2=>
 BY E s2 (H.next Z) 0 fun u3=>
 Aj .i64 u3 fun x4=>
 BY E s2 (H.next s1) 0 fun u5=>
 Aj .i64 u5 fun x6=>
 Ac (fun c7 s8=>
 Ac (fun c10 s11=>
 Ac (fun c13 s14=>
 Ac (fun c16 s17=>
 Ac (fun c19 s20=>
 some ((V.bool c19),s20)) fun k21=>
 AJ c16 (
 BY E s17 (H.next Z) 5 fun u22=>
 BY E s17 (H.next s1) 5 fun u23=>
 AV (D 20 [u22,u23,.fn 21 [] []] s17) fun u24 s25=>
 Aa u24 fun x26=>
 k21 x26 s25) (
 k21 false s17)) fun k18=>
 AJ c13 (
 BY E s14 (H.next Z) 4 fun u27=>
 Aj .i64 u27 fun x28=>
 BY E s14 (H.next s1) 4 fun u29=>
 Aj .i64 u29 fun x30=>
 k18 (B5 x28 x30) s14) (
 k18 false s14)) fun k15=>
 AJ c10 (
 BY E s11 (H.next Z) 3 fun u31=>
 BY E s11 (H.next s1) 3 fun u32=>
 AV (D 19 [u31,u32,.fn 11 [] []] s11) fun u33 s34=>
 Aa u33 fun x35=>
 k15 x35 s34) (
 k15 false s11)) fun k12=>
 AJ c7 (
 BY E s8 (H.next Z) 2 fun u36=>
 BY E s8 (H.next s1) 2 fun u37=>
 AV (D 18 [u36,u37] s8) fun u38 s39=>
 Aa u38 fun x40=>
 k12 x40 s39) (
 k12 false s8)) fun k9=>
 AJ (B5 x4 x6) (
 BY E s2 (H.next Z) 1 fun u41=>
 Aj .i64 u41 fun x42=>
 BY E s2 (H.next s1) 1 fun u43=>
 Aj .i64 u43 fun x44=>
 k9 (B5 x42 x44) s2) (
 k9 false s2)
def vY (N:Nat) (args:List V) (Z:H):AG:=
 AB args fun x1 l2=>
 Ba x1 fun l3=>
 Ah .i64 l3 fun x6 l5=>
 Ah .i64 l5 fun x9 l8=>
 AB l8 fun x10 l11=>
 AB l11 fun x12 l13=>
 Ah .i64 l13 fun x16 l15=>
 AB l15 fun x17 l18=>
 AT l18 (
 AB l2 fun x19 l20=>
 Ba x19 fun l21=>
 Ah .i64 l21 fun x24 l23=>
 Ah .i64 l23 fun x27 l26=>
 AB l26 fun x28 l29=>
 AB l29 fun x30 l31=>
 Ah .i64 l31 fun x34 l33=>
 AB l33 fun x35 l36=>
 AT l36 (
 AT l20 (
 cB E D W x6 x9 x10 x12 x16 x17 x24 x27 x28 x30 x34 x35 Z)))
def A11:C9:=⟨45,[y1,y1],[(.tmp 4)],ACw⟩
theorem AFz (args:List V) (Z:H):Be E D W N A11 args Z=vY E D W N args Z:=by kernel_rfl
def ACv (cc1:XC):XC:=(.z (.P 3 (.box 38 (.t 0))<|
.c 6 V.nils<|
.nil)
 (.z (.f 12 0 3<|
.l 13 .i 12<|
.b 14 .and .none (.t 13) (.i 3)<|
.P 15 (.conv (.toInt .u8) (.t 14))<|
.b 16 .shl .none (.t 15) (.con (V.int .u64 (AA 6)))<|
.m 7 16<|
.nil)
 (.seq (.z (.m 17 1<|
.nil)
 (.cond (.tmp 17) (.ops (.m 18 7<|
.b 19 .or .none (.t 18) (.con (V.int .u8 (AA 32)))<|
.m 7 19<|
.nil))
 .skip))
 (.keep [(2,.i),(3,.ptr),(7,(.int .u8))] [] [] cc1))))
def bY (E:EB) (D:Al) (W:AE) (K1:Int->Nat->Nat->Int->H->AG) (a b:Int) (c:Bool) (d:Int) (Z:H):AG:=
 Gi [.int .i64 a,.int .i64 b] Z fun s1=>
 BY E s1 (H.next Z) 0 fun u2=>
 Aj .i64 u2 fun x3=>
 AJ c (
 K1 d (H.next Z) 0 (K0 .u8 (Kt .u8 (As .u8 (HI .i64 x3 (AA 3))) 6) (AA 32)) s1) (
 K1 d (H.next Z) 0 (Kt .u8 (As .u8 (HI .i64 x3 (AA 3))) 6) s1)
def ACu (cc2:XC):XC:=(.z (.f 20 1 3<|
.l 21 .i 20<|
.p 22 [21] (.max (.i 0) [(.t 21)])<|
.m 8 22<|
.nil)
 (.z (.c 9 V.nils<|
.nil)
 (.seq (.z (.m 23 8<|
.b 24 .lss .none (.t 23) (.i 31)<|
.nil)
 (.cond (.tmp 24) (.ops (.m 25 7<|
.m 26 8<|
.P 27 (.conv (.toInt .u8) (.t 26))<|
.b 28 .or .none (.t 25) (.t 27)<|
.p 29 [28] (.buildSlice 5 1 [y5] [(0,1,(.t 28))])<|
.m 9 29<|
.nil))
 (.ops (.m 30 7<|
.b 31 .or .none (.t 30) (.con (V.int .u8 (AA 31)))<|
.p 32 [31] (.buildSlice 5 1 [y5] [(0,1,(.t 31))])<|
.m 33 8<|
.P 34 (.conv (.toInt .u64) (.t 33))<|
.k 35 .one 31 [(.t 34)]<|
.O 36 .one (.append 5 1 1 (.t 32) (.t 35))<|
.m 9 36<|
.nil))))
 (.keep [(2,.i),(9,.any)] [] [] cc2))))
def Pr (E:EB) (D:Al) (W:AE) (K2:Int->V->H->AG) (a:Int) (b c:Nat) (d:Int) (Z:H):AG:=
 BY E Z b (Ar c 1) fun u1=>
 Aj .i64 u1 fun x2=>
 AJ (Cr (K9 (AA 0) x2) (AA 31)) (
 let s3:=B6 Z (.cells [.int .u8 (K0 .u8 d (As .u8 (K9 (AA 0) x2)))]);
 K2 a (V.sl (H.next Z) 0 1 (.ex 1)) s3) (
 let s4:=B6 Z (.cells [.int .u8 (K0 .u8 d (AA 31))]);
 AV (D 31 [.int .u64 (As .u64 (K9 (AA 0) x2))] s4) fun u5 s6=>
 BU u5 (
 DI E 1 1 (V.sl (H.next Z) 0 1 (.ex 1)) u5 s6 fun u7 s8=>
 BU u7 (
 K2 a u7 s8)))
def ACt:XC:=(.z (.m 37 2<|
.p 38 [37] (.max (.i 0) [(.t 37)])<|
.m 10 38<|
.nil)
 (.seq (.z (.m 39 10<|
.b 40 .lss .none (.t 39) (.i 128)<|
.nil)
 (.cond (.tmp 40) (.z (.m 41 9<|
.m 42 10<|
.P 43 (.conv (.toInt .u8) (.t 42))<|
.p 44 [43] (.buildSlice 5 1 [y5] [(0,1,(.t 43))])<|
.O 45 .one (.append 5 1 1 (.t 41) (.t 44))<|
.m 6 45<|
.nil)
 .ret)
 .skip))
 (.z (.m 46 10<|
.P 47 (.conv (.toInt .u64) (.t 46))<|
.k 48 .one 32 [(.t 47)]<|
.m 11 48<|
.nil)
 (.z (.m 49 9<|
.m 50 11<|
.u 51 50<|
.P 52 (.conv (.toInt .u8) (.t 51))<|
.b 53 .or .none fZ (.t 52)<|
.p 54 [53] (.buildSlice 5 1 [y5] [(0,1,(.t 53))])<|
.O 55 .one (.append 5 1 1 (.t 49) (.t 54))<|
.m 9 55<|
.nil)
 (.z (.m 56 9<|
.m 57 11<|
.O 58 .one (.append 5 1 1 (.t 56) (.t 57))<|
.m 6 58<|
.nil)
 .ret)))))
def Pq (E:EB) (D:Al) (W:AE) (a:Int) (b:V) (Z:H):AG:=
 AJ (Cr (K9 (AA 0) a) (AA 128)) (
 let s1:=B6 Z (.cells [.int .u8 (As .u8 (K9 (AA 0) a))]);
 DI E 1 1 b (V.sl (H.next Z) 0 1 (.ex 1)) s1 fun u2 s3=>
 BU u2 (
 some (u2,s3))) (
 AV (D 32 [.int .u64 (As .u64 (K9 (AA 0) a))] Z) fun u4 s5=>
 BU u4 (
 A0 u4 fun n6=>
 let s7:=B6 s5 (.cells [.int .u8 (K0 .u8 (AA 128) (As .u8 (AA n6)))]);
 DI E 1 1 b (V.sl (H.next s5) 0 1 (.ex 1)) s7 fun u8 s9=>
 BU u8 (
 DI E 1 1 u8 u4 s9 fun u10 s11=>
 BU u10 (
 some (u10,s11)))))
def ABM (E:EB) (D:Al) (W:AE) (N:Nat):=Pq E D W
def ABN:=Pr E D W (ABM E D W N )
def fj (args:List V) (Z:H):AG:=
 AB args fun x1 l2=>
 Ba x1 fun l3=>
 Ah .i64 l3 fun x6 l5=>
 Ah .i64 l5 fun x9 l8=>
 AT l8 (
 C7 l2 fun x12 l11=>
 Ah .i64 l11 fun x15 l14=>
 AT l14 (
 bY E D W (ABN E D W N ) x6 x9 x12 x15 Z))
def A14:C9:=⟨59,[y4,.bool,.i],[(.tmp 6)],(ACv (ACu ACt))⟩
theorem AFy (args:List V) (Z:H):Be E D W N A14 args Z=fj E D W N args Z:=by kernel_rfl
def W1:List (Nat × Co):=[(0,.ptr),(3,.i),(8,.ptr),(9,.ptr),(11,.ptr),(130,.any),(131,.i),(132,.i)]
def xR:List (Nat × Co):=[(8,.ptr),(11,.ptr)]
def pR:List BC:=[⟨(some 141),.faddr 3 (.tmp 11),none⟩,⟨(some 142),.load none (.tmp 141),none⟩,⟨(some 143),.mov (.tmp 0),none⟩,⟨(some 144),.faddr 12 (.tmp 9),none⟩,⟨(some 145),.load none (.tmp 144),none⟩,⟨(some 146),.mov (.tmp 14),none⟩,⟨(some 147),.mov (.tmp 3),none⟩,⟨(some 148),.bin .add .none (.tmp 147) (.con (V.int .i64 (AA 1))),none⟩,⟨(some 149),.call 15 [(.tmp 143),(.tmp 145),(.tmp 146),(.tmp 148)],none⟩,⟨(some 150),.buildSlice 34 1 [(V.int .i64 (AA 0)),(V.int .i64 (AA 0)),V.nils,V.nils,(V.int .i64 (AA 0)),V.nils] [(0,6,(.tmp 149))],none⟩,⟨(some 151),.append 34 6 96 (.tmp 142) (.tmp 150),none⟩,⟨(some 152),.faddr 3 (.tmp 11),none⟩,⟨none,.store 1 (.tmp 152) (.tmp 151),none⟩]
def pL:List DP:=[⟨0,[11]⟩,⟨1,[141]⟩,⟨0,[0]⟩,⟨0,[9]⟩,⟨8,[144]⟩,⟨0,[14]⟩,⟨0,[3]⟩,⟨64,[147]⟩,⟨252,[143,145,146,148]⟩,⟨508,[149]⟩,⟨1023,[142,150]⟩,⟨2047,[11]⟩,⟨4095,[152,151]⟩]
def P9:List BC:=[⟨(some 157),.mov (.tmp 0),none⟩,⟨(some 158),.load (some 13) (.tmp 9),none⟩,⟨(some 159),.mov (.tmp 0),none⟩,⟨(some 160),.nilck (.tmp 159),none⟩,⟨(some 161),.faddr 0 (.tmp 160),none⟩,⟨(some 162),.mov (.tmp 10),none⟩,⟨(some 163),.call 38 [(.tmp 161),(.tmp 162)],none⟩,⟨(some 164),.mov (.tmp 3),none⟩,⟨(some 165),.call 39 [(.tmp 157),(.tmp 158),(.tmp 163),(.tmp 164)],none⟩,⟨none,.store 6 (.tmp 8) (.tmp 165),none⟩]
def Tu:List DP:=[⟨0,[0]⟩,⟨0,[9]⟩,⟨0,[0]⟩,⟨4,[159]⟩,⟨12,[160]⟩,⟨0,[10]⟩,⟨60,[161,162]⟩,⟨0,[3]⟩,⟨255,[157,158,163,164]⟩,⟨511,[8,165]⟩]
def DG (E:EB):St->AG:=fun s=>Cy E s [(.cell 8 (some 6))] fun l=>some (DH l,s.Z)
def IE (c0:XC):St->AG:=dX E D W N (.keep xR [] [] c0) (DG E) nX (DG E)
def fS (cc1:XC):XC:=(.z (.p 8 [] pX<|
.nil)
 (.seq (.z (.m 15 1<|
.b 16 .lss .none (.t 15) (.i 0)<|
.m 17 16<|
.gO 17 false (.p 18 [1,17] Io<|
.p 19 [0,17] y9<|
.p 20 [19,17] (.nilck (.t 19))<|
.p 21 [20,17] (.faddr 1 (.t 20))<|
.p 22 [21,17] (.faddr 3 (.t 21))<|
.p 23 [22,17] (.load none (.t 22))<|
.p 24 [23,17] (.len false (.t 23))<|
.p 25 [18,24,17] (.bin .geq .none (.t 18) (.t 24))<|
.nil) 26 17 25<|
.m 27 26<|
.gO 27 false (.p 28 [3,27] (.mov (.t 3))<|
.p 29 [28,27] (.bin .gtr .none (.t 28) (.i 17))<|
.nil) 30 27 29<|
.nil)
 (.cond (.tmp 30) (.ops (.m 31 0<|
.n 32 31<|
.f 33 0 32<|
.f 34 0 33<|
.op none .any [34] (.store 1 (.t 34) QV)<|
.nil))
 .skip))
 (.keep [(0,.ptr),(1,.i),(2,.any),(3,.i),(8,.ptr)] [] [] cc1)))
def Mi (E:EB) (D:Al) (W:AE) (K1:Nat->Nat->Int->V->Int->Nat->Nat->H->AG) (a b:Nat) (c:Int) (d:V) (e:Int) (Z:H):AG:=
 let s1:=B6 Z (.cells [.int .i64 (AA 0),.int .i64 (AA 0),V.nils,V.nils,.int .i64 (AA 0),V.nils]);
 Ac (fun c2 s3=>
 Ac (fun c5 s6=>
 AJ c5 (
 FY 1 a b (V.bool true) s6 fun s8=>
 K1 a b c d e (H.next Z) 0 s8) (
 K1 a b c d e (H.next Z) 0 s6)) fun k7=>
 AJ c2 (
 k7 true s3) (
 k7 (Cr (AA 17) e) s3)) fun k4=>
 AJ (Cr c (AA 0)) (
 k4 true s1) (
 BY E s1 a (Ar (Ar b 1) 3) fun u9=>
 A0 u9 fun n10=>
 k4 (I7 (AA n10) c) s1)
def Tz (cc2:XC) (cc3:XC):XC:=(.seq (.z (.m 35 0<|
.n 36 35<|
.f 37 0 36<|
.f 38 0 37<|
.l 39 .bool 38<|
.nil)
 (.cond (.tmp 39) (.z (.op (some 40) y1 [] (.build [y0,y0,V.nils,V.nils,y0,V.nils] [])<|
.op none y1 [8,40] (.store 6 (.t 8) (.t 40))<|
.nil)
 .ret)
 .skip))
 (.z (.m 41 0<|
.n 42 41<|
.f 43 1 42<|
.f 44 3 43<|
.l 45 .any 44<|
.m 46 1<|
.s 47 13 45 46<|
.O 48 y2 (.load (some 13) (.t 47))<|
.p 9 [] (.alloc 97 [y0,V.nils,y3,y3,y3,y3,y0,y0,V.nils,V.nils,y0,y3,y0])<|
.op none y2 [9,48] (.store 13 (.t 9) (.t 48))<|
.nil)
 (.seq (.draw (.m 49 0<|
.n 50 49<|
.f 51 0 50<|
.f 52 1 9<|
.l 53 .any 52<|
.m 54 2<|
.k 55 .one 33 [(.t 51),(.t 53),(.t 54)]<|
.m 10 55<|
.nil) [0,1,3,0,8,0,63,127])
 (.z (.f 56 0 9<|
.l 57 .i 56<|
.op (some 58) y1 [57] (.build [y0,y0,V.nils,V.nils,y0,V.nils] [(0,1,(.t 57))])<|
.p 11 [] pX<|
.op none y1 [11,58] (.store 6 (.t 11) (.t 58))<|
.nil)
 (.seq (.z (.f 59 0 9<|
.l 60 .i 59<|
.nil)
 (.block 0 (.z (.b 62 .eql .none (.t 60) (.i 1)<|
.m 61 62<|
.nil)
 (.cond (.tmp 61) (.z (.m 63 10<|
.u 64 63<|
.b 65 .gtr .none (.t 64) (.i 0)<|
.m 66 65<|
.gA 66 true (.p 67 [10,66] (.mov (.t 10))<|
.p 68 [67,66] (.iaddrS 1 (.t 67) (.i 0))<|
.op (some 69) (.int .u8) [68,66] (.load none (.t 68))<|
.p 70 [69,66] (.bin .neq .none (.t 69) (.con y5))<|
.nil) 71 66 70<|
.nil)
 (.cond (.tmp 71) (.ops (.f 72 1 11<|
.op none .any [72] (.store 1 (.t 72) (.i 1))<|
.nil))
 .skip))
 (.z (.b 74 .eql .none (.t 60) (.i 2)<|
.m 73 74<|
.nil)
 (.cond (.tmp 73) (.ops (.m 76 10<|
.k 77 (.tup [.i,.i]) 34 [(.t 76)]<|
.m 75 77<|
.P 78 (.extract 0 (.t 75))<|
.P 79 (.extract 1 (.t 75))<|
.f 80 1 11<|
.w 1 80 78<|
.nil))
 (.z (.b 82 .eql .none (.t 60) (.i 3)<|
.m 81 82<|
.nil)
 (.cond (.tmp 81) (.z (.m 84 10<|
.k 85 (.tup [.i,.i]) 34 [(.t 84)]<|
.m 83 85<|
.P 86 (.extract 0 (.t 83))<|
.P 87 (.extract 1 (.t 83))<|
.f 88 1 11<|
.w 1 88 86<|
.nil)
 (.z (.O 89 y2 (.load (some 13) (.t 9))<|
.f 90 1 11<|
.l 91 .i 90<|
.k 92 .i 35 [(.t 89),(.t 91)]<|
.b 93 .lss .none (.t 92) (.i 0)<|
.nil)
 (.cond (.tmp 93) (.ops (.f 94 0 11<|
.op none .any [94] (.store 1 (.t 94) (.i 12))<|
.f 95 4 11<|
.op none .any [95] (.store 1 (.t 95) (.i 1))<|
.nil))
 .skip)))
 (.seq (.z (.b 97 .eql .none (.t 60) (.i 5)<|
.m 96 97<|
.nil)
 (.cond (.tmp 96) .skip
 (.ops (.b 98 .eql .none (.t 60) (.i 6)<|
.m 96 98<|
.nil))))
 (.keep [(0,.ptr),(3,.i),(8,.ptr),(9,.ptr),(10,.any),(11,.ptr),(60,.i),(96,.bool)] [] [] cc3))))))))))
 (.keep xR [] [] cc2))))))
def JE (E:EB) (D:Al) (W:AE) (K2:Nat->Nat->Nat->Nat->H->AG) (K3:Nat->Nat->Int->Nat->Nat->Nat->Nat->V->Nat->Nat->Int->Bool->H->AG) (a b:Nat) (c:Int) (d:V) (e:Int) (f g:Nat) (Z:H):AG:=
 BY E Z a b fun u1=>
 Aa u1 fun x2=>
 AJ x2 (
 FY 6 f g (V.agg [.int .i64 (AA 0),.int .i64 (AA 0),V.nils,V.nils,.int .i64 (AA 0),V.nils]) Z fun s3=>
 BV E s3 f g 6 fun u4=>
 some ((V.agg u4),s3)) (
 BY E Z a (Ar (Ar b 1) 3) fun u5=>
 Ab 13 u5 c fun b6 o7=>
 BV E Z b6 o7 13 fun l8=>
 Ah .i64 l8 fun x11 l10=>
 AB l10 fun x12 l13=>
 C7 l13 fun x16 l15=>
 C7 l15 fun x19 l18=>
 C7 l18 fun x22 l21=>
 C7 l21 fun x25 l24=>
 Ah .i64 l24 fun x28 l27=>
 Ah .i64 l27 fun x31 l30=>
 AB l30 fun x32 l33=>
 AB l33 fun x34 l35=>
 Ah .i64 l35 fun x38 l37=>
 C7 l37 fun x41 l40=>
 Ah .i64 l40 fun x44 l43=>
 AT l43 (
 let s45:=B6 Z (.cells [.int .i64 (AA 0),V.nils,.bool false,.bool false,.bool false,.bool false,.int .i64 (AA 0),.int .i64 (AA 0),V.nils,V.nils,.int .i64 (AA 0),.bool false,.int .i64 (AA 0)]);
 FY 13 (H.next Z) 0 (V.agg [.int .i64 x11,x12,.bool x16,.bool x19,.bool x22,.bool x25,.int .i64 x28,.int .i64 x31,x32,x34,.int .i64 x38,.bool x41,.int .i64 x44]) s45 fun s46=>
 BY E s46 (H.next Z) 1 fun u47=>
 AV (D 33 [.ptr a b,u47,d] s46) fun u48 s49=>
 BU u48 (
 BY E s49 (H.next Z) 0 fun u50=>
 Aj .i64 u50 fun x51=>
 let s52:=B6 s49 (.cells [.int .i64 (AA 0),.int .i64 (AA 0),V.nils,V.nils,.int .i64 (AA 0),V.nils]);
 FY 6 (H.next s49) 0 (V.agg [.int .i64 x51,.int .i64 (AA 0),V.nils,V.nils,.int .i64 (AA 0),V.nils]) s52 fun s53=>
 BY E s53 (H.next Z) 0 fun u54=>
 Aj .i64 u54 fun x55=>
 AJ (B5 x55 (AA 1)) (
 A0 u48 fun n56=>
 Ac (fun c57 s58=>
 AJ c57 (
 FY 1 (H.next s49) 1 (V.int .i64 (AA 1)) s58 fun s60=>
 K2 f g (H.next s49) 0 s60) (
 K2 f g (H.next s49) 0 s58)) fun k59=>
 AJ (Cr (AA 0) (AA n56)) (
 Ab 1 u48 (AA 0) fun b61 o62=>
 BY E s53 b61 o62 fun u63=>
 Aj .u8 u63 fun x64=>
 k59 (not (B5 x64 (AA 0))) s53) (
 k59 false s53)) (
 AJ (B5 x55 (AA 2)) (
 AV (D 34 [u48] s53) fun u65 s66=>
 C1 u65 fun l67=>
 Ah .i64 l67 fun x70 l69=>
 Ah .i64 l69 fun x73 l72=>
 AT l72 (
 FY 1 (H.next s49) 1 (V.int .i64 x70) s66 fun s74=>
 K2 f g (H.next s49) 0 s74)) (
 AJ (B5 x55 (AA 3)) (
 AV (D 34 [u48] s53) fun u75 s76=>
 C1 u75 fun l77=>
 Ah .i64 l77 fun x80 l79=>
 Ah .i64 l79 fun x83 l82=>
 AT l82 (
 FY 1 (H.next s49) 1 (V.int .i64 x80) s76 fun s84=>
 BV E s84 (H.next Z) 0 13 fun l85=>
 Ah .i64 l85 fun x88 l87=>
 AB l87 fun x89 l90=>
 C7 l90 fun x93 l92=>
 C7 l92 fun x96 l95=>
 C7 l95 fun x99 l98=>
 C7 l98 fun x102 l101=>
 Ah .i64 l101 fun x105 l104=>
 Ah .i64 l104 fun x108 l107=>
 AB l107 fun x109 l110=>
 AB l110 fun x111 l112=>
 Ah .i64 l112 fun x115 l114=>
 C7 l114 fun x118 l117=>
 Ah .i64 l117 fun x121 l120=>
 AT l120 (
 BY E s84 (H.next s49) 1 fun u122=>
 Aj .i64 u122 fun x123=>
 AV (D 35 [.agg [.int .i64 x88,x89,.bool x93,.bool x96,.bool x99,.bool x102,.int .i64 x105,.int .i64 x108,x109,x111,.int .i64 x115,.bool x118,.int .i64 x121],.int .i64 x123] s84) fun u124 s125=>
 Aj .i64 u124 fun x126=>
 AJ (Cr x126 (AA 0)) (
 FY 1 (H.next s49) 0 (V.int .i64 (AA 12)) s125 fun s127=>
 FY 1 (H.next s49) 4 (V.int .i64 (AA 1)) s127 fun s128=>
 K2 f g (H.next s49) 0 s128) (
 K2 f g (H.next s49) 0 s125)))) (
 AJ (B5 x55 (AA 5)) (
 K3 a b e f g (H.next Z) 0 u48 (H.next s49) 0 x55 (B5 x55 (AA 5)) s53) (
 K3 a b e f g (H.next Z) 0 u48 (H.next s49) 0 x55 (B5 x55 (AA 6)) s53)))))))
def GP:XC:=(.z (.O 166 y1 (.load (some 6) (.t 11))<|
.op none y1 [8,166] (.store 6 (.t 8) (.t 166))<|
.nil)
 .ret)
def Mh (E:EB) (D:Al) (W:AE) (a b c d:Nat) (Z:H):AG:=
 BV E Z c d 6 fun l1=>
 Ah .i64 l1 fun x4 l3=>
 Ah .i64 l3 fun x7 l6=>
 AB l6 fun x8 l9=>
 AB l9 fun x10 l11=>
 Ah .i64 l11 fun x14 l13=>
 AB l13 fun x15 l16=>
 AT l16 (
 FY 6 a b (V.agg [.int .i64 x4,.int .i64 x7,x8,x10,.int .i64 x14,x15]) Z fun s17=>
 BV E s17 a b 6 fun u18=>
 some ((V.agg u18),s17))
def Ob (cc4:XC) (cc5:XC):XC:=(.cond (.tmp 96) (.ops (.m 99 10<|
.k 100 .one 36 [(.t 99)]<|
.f 101 2 11<|
.w 1 101 100<|
.nil))
 (.z (.b 103 .eql .none (.t 60) (.i 9)<|
.m 102 103<|
.nil)
 (.cond (.tmp 102) (.z (.m 104 0<|
.O 105 y2 (.load (some 13) (.t 9))<|
.m 106 10<|
.m 107 3<|
.k 108 y1 37 [(.t 104),(.t 105),(.t 106),(.t 107)]<|
.op none y1 [8,108] (.store 6 (.t 8) (.t 108))<|
.nil)
 .ret)
 (.z (.b 110 .eql .none (.t 60) (.i 10)<|
.m 109 110<|
.nil)
 (.cond (.tmp 109) (.z (.m 111 0<|
.n 112 111<|
.f 113 0 112<|
.m 114 10<|
.k 115 .one 38 [(.t 113),(.t 114)]<|
.m 12 115<|
.nil)
 (.z (.m 116 0<|
.m 117 0<|
.n 118 117<|
.f 119 0 118<|
.f 120 0 119<|
.l 121 .bool 120<|
.m 122 121<|
.gO 122 false (.p 123 [12,122] (.mov (.t 12))<|
.p 124 [123,122] (.len false (.t 123))<|
.p 125 [124,122] (.bin .gtr .none (.t 124) (.i 5000))<|
.nil) 126 122 125<|
.n 127 116<|
.f 128 0 127<|
.f 129 0 128<|
.w 1 129 126<|
.nil)
 (.z (.m 130 12<|
.u 131 130<|
.q 132 0<|
.nil)
 (.block 1 (.loop W1 [] [] cc4)))))
 (.seq (.z (.b 155 .eql .none (.t 60) (.i 7)<|
.m 154 155<|
.nil)
 (.cond (.tmp 154) .skip
 (.ops (.b 156 .eql .none (.t 60) (.i 8)<|
.m 154 156<|
.nil))))
 (.keep [(0,.ptr),(3,.i),(8,.ptr),(9,.ptr),(10,.any),(11,.ptr),(154,.bool)] [] [] cc5)))))))
def V8 (E:EB) (D:Al) (W:AE) (K2:Nat->Nat->Nat->Nat->H->AG) (K4:Nat->Nat->Int->Nat->Nat->Nat->Nat->Nat->Nat->V->Int->Int->H->AG) (K5:Nat->Nat->Int->Nat->Nat->Nat->Nat->V->Nat->Nat->Bool->H->AG) (a b:Nat) (c:Int) (d e f g:Nat) (h:V) (i j:Nat) (k:Int) (l:Bool) (Z:H):AG:=
 AJ l (
 AV (D 36 [h] Z) fun u1 s2=>
 BU u1 (
 FY 1 i (Ar j 2) u1 s2 fun s3=>
 K2 d e i j s3)) (
 AJ (B5 k (AA 9)) (
 BV E Z f g 13 fun l4=>
 Ah .i64 l4 fun x7 l6=>
 AB l6 fun x8 l9=>
 C7 l9 fun x12 l11=>
 C7 l11 fun x15 l14=>
 C7 l14 fun x18 l17=>
 C7 l17 fun x21 l20=>
 Ah .i64 l20 fun x24 l23=>
 Ah .i64 l23 fun x27 l26=>
 AB l26 fun x28 l29=>
 AB l29 fun x30 l31=>
 Ah .i64 l31 fun x34 l33=>
 C7 l33 fun x37 l36=>
 Ah .i64 l36 fun x40 l39=>
 AT l39 (
 AV (D 37 [.ptr a b,.agg [.int .i64 x7,x8,.bool x12,.bool x15,.bool x18,.bool x21,.int .i64 x24,.int .i64 x27,x28,x30,.int .i64 x34,.bool x37,.int .i64 x40],h,.int .i64 c] Z) fun u41 s42=>
 Ba u41 fun l43=>
 Ah .i64 l43 fun x46 l45=>
 Ah .i64 l45 fun x49 l48=>
 AB l48 fun x50 l51=>
 AB l51 fun x52 l53=>
 Ah .i64 l53 fun x56 l55=>
 AB l55 fun x57 l58=>
 AT l58 (
 FY 6 d e (V.agg [.int .i64 x46,.int .i64 x49,x50,x52,.int .i64 x56,x57]) s42 fun s59=>
 BV E s59 d e 6 fun u60=>
 some ((V.agg u60),s59)))) (
 AJ (B5 k (AA 10)) (
 AV (D 38 [.ptr a b,h] Z) fun u61 s62=>
 BU u61 (
 BY E s62 a b fun u63=>
 Aa u63 fun x64=>
 Ac (fun c65 s66=>
 FY 1 a b (V.bool c65) s66 fun s68=>
 A0 u61 fun n69=>
 K4 a b c d e f g i j u61 (AA n69) (AA 0) s68) fun k67=>
 AJ x64 (
 k67 true s62) (
 A0 u61 fun n70=>
 k67 (Cr (AA 5000) (AA n70)) s62))) (
 AJ (B5 k (AA 7)) (
 K5 a b c d e f g h i j (B5 k (AA 7)) Z) (
 K5 a b c d e f g h i j (B5 k (AA 8)) Z))))
def J2:XC:=(.z (.b 133 .lss .none (.t 132) (.t 131)<|
.nil)
 (.seq (.cond (.tmp 133) .skip
 (.exit 1))
 (.seq (.block 2 (.z (.s 134 1 130 132<|
.l 135 .any 134<|
.m 14 135<|
.nil)
 (.seq (.z (.m 136 0<|
.n 137 136<|
.f 138 0 137<|
.f 139 0 138<|
.l 140 .bool 139<|
.nil)
 (.cond (.tmp 140) (.exit 1)
 .skip))
 (.keep [(0,.ptr),(3,.i),(8,.ptr),(9,.ptr),(11,.ptr),(14,.any),(130,.any),(131,.i),(132,.i)] [] [] (.gdraw pR pL W1)))))
 (.ops (.b 153 .add .none (.t 132) (.i 1)<|
.m 132 153<|
.nil)))))
def mE (E:EB) (D:Al) (W:AE) (K2:Nat->Nat->Nat->Nat->H->AG) (R4:Nat->Nat->Int->Nat->Nat->Nat->Nat->Nat->Nat->V->Int->Int->H->AG) (a b:Nat) (c:Int) (d e f g h i:Nat) (j:V) (k l:Int) (Z:H):AG:=
 AJ (Cr l k) (
 Ab 1 j l fun b1 o2=>
 BY E Z b1 o2 fun u3=>
 BY E Z a b fun u4=>
 Aa u4 fun x5=>
 AJ x5 (
 K2 d e h i Z) (
 Cp (W pR pL [(0,.ptr a b),(3,.int .i64 c),(8,.ptr d e),(9,.ptr f g),(11,.ptr h i),(14,u3),(130,j),(131,.int .i64 k),(132,.int .i64 l)] Z) fun e6 s7=>
 BR e6 0 fun u8=>
 Bv u8 fun b9 o10=>
 BR e6 3 fun u11=>
 Aj .i64 u11 fun x12=>
 BR e6 8 fun u13=>
 Bv u13 fun b14 o15=>
 BR e6 9 fun u16=>
 Bv u16 fun b17 o18=>
 BR e6 11 fun u19=>
 Bv u19 fun b20 o21=>
 BR e6 130 fun u22=>
 BR e6 131 fun u23=>
 Aj .i64 u23 fun x24=>
 BR e6 132 fun u25=>
 Aj .i64 u25 fun x26=>
 R4 b9 o10 x12 b14 o15 b17 o18 b20 o21 u22 x24 (CM .i64 x26 (AA 1)) s7)) (
 K2 d e h i Z)
def Li:XC:=(.cond (.tmp 154) (.seq (.keep [(0,.ptr),(3,.i),(8,.ptr),(9,.ptr),(10,.any)] [] [] (.gdraw P9 Tu [(8,.ptr)]))
 .ret)
 .skip)
def V7 (E:EB) (D:Al) (W:AE) (K2:Nat->Nat->Nat->Nat->H->AG) (a b:Nat) (c:Int) (d e f g:Nat) (h:V) (i j:Nat) (k:Bool) (Z:H):AG:=
 AJ k (
 Cp (W P9 Tu [(0,.ptr a b),(3,.int .i64 c),(8,.ptr d e),(9,.ptr f g),(10,h)] Z) fun e1 s2=>
 BR e1 8 fun u3=>
 Bv u3 fun b4 o5=>
 BV E s2 b4 o5 6 fun u6=>
 some ((V.agg u6),s2)) (
 K2 d e i j Z)
def m4 (a b:Nat) (c:Int) (d:V) (e:Int) (Z:H):St:=⟨[(0,.ptr a b),(1,.int .i64 c),(2,d),(3,.int .i64 e)],[],[],Z⟩
def cZ (a b:Nat) (c:Int) (d:V) (e:Int) (f g:Nat) (Z:H):St:=⟨[(0,.ptr a b),(1,.int .i64 c),(2,d),(3,.int .i64 e),(8,.ptr f g)],[],[],Z⟩
def Tk (a b c d:Nat) (Z:H):St:=⟨[(8,.ptr a b),(11,.ptr c d)],[],[],Z⟩
def cY (a b:Nat) (c:Int) (d e f g:Nat) (h:V) (i j:Nat) (k:Int) (l:Bool) (Z:H):St:=⟨[(0,.ptr a b),(3,.int .i64 c),(8,.ptr d e),(9,.ptr f g),(10,h),(11,.ptr i j),(60,.int .i64 k),(96,.bool l)],[],[],Z⟩
def WX (a b:Nat) (c:Int) (d e f g h i:Nat) (j:V) (k l:Int) (Z:H):St:=⟨[(0,.ptr a b),(3,.int .i64 c),(8,.ptr d e),(9,.ptr f g),(11,.ptr h i),(130,j),(131,.int .i64 k),(132,.int .i64 l)],[],[],Z⟩
def cX (a b:Nat) (c:Int) (d e f g:Nat) (h:V) (i j:Nat) (k:Bool) (Z:H):St:=⟨[(0,.ptr a b),(3,.int .i64 c),(8,.ptr d e),(9,.ptr f g),(10,h),(11,.ptr i j),(154,.bool k)],[],[],Z⟩
theorem AAr (cc1:XC) (a b:Nat) (c:Int) (d:V) (e:Int) (Z:H) :
 AM E D W N (fS cc1) (m4 a b c d e Z) (DG E) nX (DG E) =
 Mi E D W (fun a b c d e f g Z=>AM E D W N cc1 (cZ a b c d e f g Z) (DG E) nX (DG E)) a b c d e Z:=by kernel_rfl
theorem AAq (cc2:XC) (cc3:XC) (a b:Nat) (c:Int) (d:V) (e:Int) (f g:Nat) (Z:H) :
 AM E D W N (Tz cc2 cc3) (cZ a b c d e f g Z) (DG E) nX (DG E) =
 JE E D W (fun f g h i Z=>AM E D W N cc2 (Tk f g h i Z) (DG E) nX (DG E)) (fun a b e f g j k l h i m o Z=>AM E D W N cc3 (cY a b e f g j k l h i m o Z) (IE E D W N cc2) (BN 0 (IE E D W N cc2) nX) (DG E)) a b c d e f g Z:=by kernel_rfl
theorem AAp (cc2:XC) (cc4:XC) (cc5:XC) (a b:Nat) (c:Int) (d e f g:Nat) (h:V) (i j:Nat) (k:Int) (l:Bool) (Z:H) :
 AM E D W N (Ob cc4 cc5) (cY a b c d e f g h i j k l Z) (IE E D W N cc2) (BN 0 (IE E D W N cc2) nX) (DG E) =
 V8 E D W (fun d e i j Z=>AM E D W N cc2 (Tk d e i j Z) (DG E) nX (DG E)) (fun a b c d e f g i j m o p Z=>Af (fun rec s'=>AM E D W N cc4 s' (kX W1 [] [] rec) (BN 1 (IE E D W N cc2) (BN 0 (IE E D W N cc2) nX)) (DG E)) N (WX a b c d e f g i j m o p Z)) (fun a b c d e f g h i j q Z=>AM E D W N cc5 (cX a b c d e f g h i j q Z) (IE E D W N cc2) (BN 0 (IE E D W N cc2) nX) (DG E)) a b c d e f g h i j k l Z:=by kernel_rfl
theorem AAo (cc2:XC) (li4:St->AG) (a b:Nat) (c:Int) (d e f g h i:Nat) (j:V) (k l:Int) (Z:H) :
 AM E D W N (J2 ) (WX a b c d e f g h i j k l Z) (kX W1 [] [] li4) (BN 1 (IE E D W N cc2) (BN 0 (IE E D W N cc2) nX)) (DG E) =
 mE E D W (fun d e h i Z=>AM E D W N cc2 (Tk d e h i Z) (DG E) nX (DG E)) (fun a b c d e f g h i j k l Z=>li4 (WX a b c d e f g h i j k l Z)) a b c d e f g h i j k l Z:=by kernel_rfl
theorem AAn (cc2:XC) (a b:Nat) (c:Int) (d e f g:Nat) (h:V) (i j:Nat) (k:Bool) (Z:H) :
 AM E D W N (Li ) (cX a b c d e f g h i j k Z) (IE E D W N cc2) (BN 0 (IE E D W N cc2) nX) (DG E) =
 V7 E D W (fun d e i j Z=>AM E D W N cc2 (Tk d e i j Z) (DG E) nX (DG E)) a b c d e f g h i j k Z:=by kernel_rfl
def P1 (E:EB) (D:Al) (W:AE) (N:Nat):=Mh E D W
theorem SN (a b c d:Nat) (Z:H) :
 AM E D W N GP (Tk a b c d Z) (DG E) nX (DG E)=P1 E D W N a b c d Z:=by kernel_rfl
def nO (n:Nat):Nat->Nat->Int->Nat->Nat->Nat->Nat->Nat->Nat->V->Int->Int->H->AG:=
 Nat.rec (fun _ _ _ _ _ _ _ _ _ _ _ _ _=>none) (fun _ ih=>mE E D W (P1 E D W N ) ih) n
theorem tn (n:Nat):∀(a b:Nat) (c:Int) (d e f g h i:Nat) (j:V) (k l:Int) (Z:H),
 Af (fun rec s'=>AM E D W N J2 s' (kX W1 [] [] rec) (BN 1 (IE E D W N GP) (BN 0 (IE E D W N GP) nX)) (DG E)) n (WX a b c d e f g h i j k l Z)=nO E D W N n a b c d e f g h i j k l Z:=by
 induction n with
 | zero=>intro a b c d e f g h i j k l Z;rfl
 | succ n ihn=>
  intro a b c d e f g h i j k l Z
  rw[Ak]
  refine(AAo E D W N GP (Af (fun rec s'=>AM E D W N J2 s' (kX W1 [] [] rec) (BN 1 (IE E D W N GP) (BN 0 (IE E D W N GP) nX)) (DG E)) n) a b c d e f g h i j k l Z).trans ?_
  simp only[ihn,SN]
  kernel_rfl
def pE:=V7 E D W (P1 E D W N )
theorem vC (a b:Nat) (c:Int) (d e f g:Nat) (h:V) (i j:Nat) (k:Bool) (Z:H) :
 AM E D W N Li (cX a b c d e f g h i j k Z) (IE E D W N GP) (BN 0 (IE E D W N GP) nX) (DG E)=pE E D W N a b c d e f g h i j k Z:=by
 refine(AAn E D W N GP  a b c d e f g h i j k Z).trans ?_
 simp only[SN]
 kernel_rfl
def Tp:=V8 E D W (P1 E D W N ) (nO E D W N N) (pE E D W N )
theorem vD (a b:Nat) (c:Int) (d e f g:Nat) (h:V) (i j:Nat) (k:Int) (l:Bool) (Z:H) :
 AM E D W N (Ob J2 Li) (cY a b c d e f g h i j k l Z) (IE E D W N GP) (BN 0 (IE E D W N GP) nX) (DG E)=Tp E D W N a b c d e f g h i j k l Z:=by
 refine(AAp E D W N GP J2 Li  a b c d e f g h i j k l Z).trans ?_
 simp only[SN,tn,vC]
 kernel_rfl
def We:=JE E D W (P1 E D W N ) (Tp E D W N )
theorem vE (a b:Nat) (c:Int) (d:V) (e:Int) (f g:Nat) (Z:H) :
 AM E D W N (Tz GP (Ob J2 Li)) (cZ a b c d e f g Z) (DG E) nX (DG E)=We E D W N a b c d e f g Z:=by
 refine(AAq E D W N GP (Ob J2 Li)  a b c d e f g Z).trans ?_
 simp only[SN,vD]
 kernel_rfl
def pF:=Mi E D W (We E D W N )
theorem vF (a b:Nat) (c:Int) (d:V) (e:Int) (Z:H) :
 AM E D W N (fS (Tz GP (Ob J2 Li))) (m4 a b c d e Z) (DG E) nX (DG E)=pF E D W N a b c d e Z:=by
 refine(AAr E D W N (Tz GP (Ob J2 Li))  a b c d e Z).trans ?_
 simp only[vE]
 kernel_rfl
def kK (args:List V) (Z:H):AG:=
 AB args fun x1 l2=>
 Bv x1 fun b3 o4=>
 Ah .i64 l2 fun x7 l6=>
 AB l6 fun x8 l9=>
 Ah .i64 l9 fun x12 l11=>
 AT l11 (
 pF E D W N b3 o4 x7 x8 x12 Z)
def A15:C9:=⟨167,[.ptr,.i,.any,.i],[(.cell 8 (some 6))],(fS (Tz GP (Ob J2 Li)))⟩
theorem AFx (args:List V) (Z:H):Be E D W N A15 args Z=kK E D W N args Z:=by
 unfold kK
 simp only[<-vF]
 kernel_rfl
def ACs:XC:=(.z (.P 3 (.box 26 (.t 0))<|
.P 5 (.box 34 (.t 2))<|
.c 6 V.nils<|
.q 7 0<|
.nil)
 (.seq (.block 0 (.z (.O 11 y6 (.load (some 4) (.t 3))<|
.m 12 1<|
.O 13 y1 (.load (some 6) (.t 5))<|
.k 14 .bool 40 [(.t 11),(.t 12),(.t 13)]<|
.P 15 (.un .not (.t 14))<|
.m 10 15<|
.nil)
 (.cond (.tmp 10) (.z (.c 6 V.nils<|
.q 7 13<|
.nil)
 .ret)
 (.z (.O 17 y1 (.load (some 6) (.t 5))<|
.k 18 .bool 41 [(.t 17),(.i 1)]<|
.P 19 (.un .not (.t 18))<|
.m 16 19<|
.nil)
 (.cond (.tmp 16) (.z (.c 6 V.nils<|
.q 7 16<|
.nil)
 .ret)
 .skip)))))
 (.z (.O 20 y6 (.load (some 4) (.t 3))<|
.op (some 21) y6 [20] (.build [y8,V.nils,V.nils,V.nils] [(0,4,(.t 20))])<|
.P 22 (.box 111 (.t 21))<|
.m 8 22<|
.nil)
 (.z (.m 23 8<|
.m 24 1<|
.O 25 y1 (.load (some 6) (.t 5))<|
.k 26 .one 42 [(.t 23),(.t 24),(.t 25)]<|
.m 9 26<|
.nil)
 (.seq (.z (.m 27 9<|
.u 28 27<|
.b 29 .gtr .none (.t 28) (.i 70000)<|
.nil)
 (.cond (.tmp 29) (.z (.c 6 V.nils<|
.q 7 5<|
.nil)
 .ret)
 .skip))
 (.z (.m 30 9<|
.m 6 30<|
.q 7 0<|
.nil)
 .ret))))))
def V6 (E:EB) (D:Al) (W:AE) (a:BS) (b c d:V) (e f g:Int) (h i:V) (j:Int) (k:V) (Z:H):AG:=
 Gi [.str a,b,c,d] Z fun s1=>
 Gi [.int .i64 f,.int .i64 g,h,i,.int .i64 j,k] s1 fun s2=>
 BV E s2 (H.next Z) 0 4 fun l3=>
 Hz l3 fun x6 l5=>
 AB l5 fun x7 l8=>
 AB l8 fun x9 l10=>
 AB l10 fun x11 l12=>
 AT l12 (
 BV E s2 (H.next s1) 0 6 fun l13=>
 Ah .i64 l13 fun x16 l15=>
 Ah .i64 l15 fun x19 l18=>
 AB l18 fun x20 l21=>
 AB l21 fun x22 l23=>
 Ah .i64 l23 fun x26 l25=>
 AB l25 fun x27 l28=>
 AT l28 (
 AV (D 40 [.agg [.str x6,x7,x9,x11],.int .i64 e,.agg [.int .i64 x16,.int .i64 x19,x20,x22,.int .i64 x26,x27]] s2) fun u29 s30=>
 Aa u29 fun x31=>
 AJ (not x31) (
 some ((V.tup [V.nils,.int .i64 (AA 13)]),s30)) (
 BV E s30 (H.next s1) 0 6 fun l32=>
 Ah .i64 l32 fun x35 l34=>
 Ah .i64 l34 fun x38 l37=>
 AB l37 fun x39 l40=>
 AB l40 fun x41 l42=>
 Ah .i64 l42 fun x45 l44=>
 AB l44 fun x46 l47=>
 AT l47 (
 AV (D 41 [.agg [.int .i64 x35,.int .i64 x38,x39,x41,.int .i64 x45,x46],.int .i64 (AA 1)] s30) fun u48 s49=>
 Aa u48 fun x50=>
 AJ (not x50) (
 some ((V.tup [V.nils,.int .i64 (AA 16)]),s49)) (
 BV E s49 (H.next Z) 0 4 fun l51=>
 Hz l51 fun x54 l53=>
 AB l53 fun x55 l56=>
 AB l56 fun x57 l58=>
 AB l58 fun x59 l60=>
 AT l60 (
 Gi [.str x54,x55,x57,x59] s49 fun s61=>
 BV E s61 (H.next s1) 0 6 fun l62=>
 Ah .i64 l62 fun x65 l64=>
 Ah .i64 l64 fun x68 l67=>
 AB l67 fun x69 l70=>
 AB l70 fun x71 l72=>
 Ah .i64 l72 fun x75 l74=>
 AB l74 fun x76 l77=>
 AT l77 (
 AV (D 42 [.ptr (H.next s49) 0,.int .i64 e,.agg [.int .i64 x65,.int .i64 x68,x69,x71,.int .i64 x75,x76]] s61) fun u78 s79=>
 BU u78 (
 A0 u78 fun n80=>
 AJ (Cr (AA 70000) (AA n80)) (
 some ((V.tup [V.nils,.int .i64 (AA 5)]),s79)) (
 some ((V.tup [u78,.int .i64 (AA 0)]),s79))))))))))
def pT (N:Nat) (args:List V) (Z:H):AG:=
 AB args fun x1 l2=>
 Ba x1 fun l3=>
 Hz l3 fun x6 l5=>
 AB l5 fun x7 l8=>
 AB l8 fun x9 l10=>
 AB l10 fun x11 l12=>
 AT l12 (
 Ah .i64 l2 fun x15 l14=>
 AB l14 fun x16 l17=>
 Ba x16 fun l18=>
 Ah .i64 l18 fun x21 l20=>
 Ah .i64 l20 fun x24 l23=>
 AB l23 fun x25 l26=>
 AB l26 fun x27 l28=>
 Ah .i64 l28 fun x31 l30=>
 AB l30 fun x32 l33=>
 AT l33 (
 AT l17 (
 V6 E D W x6 x7 x9 x11 x15 x21 x24 x25 x27 x31 x32 Z)))
def A16:C9:=⟨31,[y6,.i,y1],[(.tmp 6),(.tmp 7)],ACs⟩
theorem AFw (args:List V) (Z:H):Be E D W N A16 args Z=pT E D W N args Z:=by kernel_rfl
def ACr:XC:=(.z (.c 4 y3<|
.nil)
 (.z (.m 5 0<|
.P 6 (.conv .toStr (.t 5))<|
.m 7 1<|
.P 8 (.conv .toStr (.t 7))<|
.b 9 .eql .none (.t 6) (.t 8)<|
.m 4 9<|
.nil)
 .ret))
def bK (E:EB) (D:Al) (W:AE) (a b:V) (Z:H):AG:=
 Iv E Z a fun t1=>
 Iv E Z b fun t2=>
 some ((V.bool (BS.beq t1 t2)),Z)
def vN (N:Nat) (args:List V) (Z:H):AG:=
 AB args fun x1 l2=>
 AB l2 fun x3 l4=>
 AT l4 (
 bK E D W x1 x3 Z)
def A17:C9:=⟨10,[.any,.any],[(.tmp 4)],ACr⟩
theorem AFv (args:List V) (Z:H):Be E D W N A17 args Z=vN E D W N args Z:=by kernel_rfl
def ACq:XC:=(.z (.c 4 y3<|
.nil)
 (.z (.m 5 0<|
.P 6 (.conv .toStr (.t 5))<|
.m 7 1<|
.P 8 (.conv .toStr (.t 7))<|
.b 9 .eql .none (.t 6) (.t 8)<|
.m 4 9<|
.nil)
 .ret))
def yt (E:EB) (D:Al) (W:AE) (a b:V) (Z:H):AG:=
 Iv E Z a fun t1=>
 Iv E Z b fun t2=>
 some ((V.bool (BS.beq t1 t2)),Z)
def vM (N:Nat) (args:List V) (Z:H):AG:=
 AB args fun x1 l2=>
 AB l2 fun x3 l4=>
 AT l4 (
 yt E D W x1 x3 Z)
def A18:C9:=⟨10,[.any,.any],[(.tmp 4)],ACq⟩
theorem AFu (args:List V) (Z:H):Be E D W N A18 args Z=vM E D W N args Z:=by kernel_rfl
def Yr:List (Nat × Co):=[(0,.any),(1,.any),(2,.any),(7,.i)]
def Hp (E:EB):St->AG:=fun s=>Cy E s [(.tmp 6)] fun l=>some (DH l,s.Z)
def iy (c0:XC):Nat->St->AG:=BN 0 (dX E D W N (.keep [] [] [] c0) (Hp E) nX (Hp E)) nX
def fR (cc1:XC) (cc2:XC):XC:=(.z (.c 6 y3<|
.nil)
 (.seq (.z (.m 8 0<|
.u 9 8<|
.m 10 1<|
.u 11 10<|
.b 12 .neq .none (.t 9) (.t 11)<|
.nil)
 (.cond (.tmp 12) (.z (.c 6 y3<|
.nil)
 .ret)
 .skip))
 (.seq (.z (.q 7 0<|
.nil)
 (.block 0 (.loop Yr [] [] cc2)))
 (.keep [] [] [] cc1))))
def V5 (E:EB) (D:Al) (W:AE) (K2:V->V->V->Int->H->AG) (a b c:V) (Z:H):AG:=
 A0 a fun n1=>
 A0 b fun n2=>
 AJ (not (B5 (AA n1) (AA n2))) (
 some ((V.bool false),Z)) (
 K2 a b c (AA 0) Z)
def Oa:XC:=(.z (.c 6 fY<|
.nil)
 .ret)
def bJ (E:EB) (D:Al) (W:AE) (Z:H):AG:=
 some ((V.bool true),Z)
def QT:XC:=(.seq (.z (.m 13 7<|
.m 14 0<|
.u 15 14<|
.b 16 .lss .none (.t 13) (.t 15)<|
.nil)
 y31)
 (.seq (.block 1 (.seq (.draw (.m 19 2<|
.m 20 0<|
.m 21 7<|
.s 22 6 20 21<|
.O 23 y1 (.load (some 6) (.t 22))<|
.m 24 1<|
.m 25 7<|
.s 26 6 24 25<|
.O 27 y1 (.load (some 6) (.t 26))<|
.O 28 .bool (.callv (.t 19) [(.t 23),(.t 27)])<|
.P 29 (.un .not (.t 28))<|
.nil) [0,0,0,6,14,0,0,96,224,511,1023])
 (.cond (.tmp 29) (.z (.c 6 y3<|
.nil)
 .ret)
 .skip)))
 wj))
def Pp (E:EB) (D:Al) (W:AE) (K1:H->AG) (R2:V->V->V->Int->H->AG) (a b c:V) (d:Int) (Z:H):AG:=
 A0 a fun n1=>
 AJ (Cr d (AA n1)) (
 Ab 6 a d fun b2 o3=>
 BV E Z b2 o3 6 fun l4=>
 Ah .i64 l4 fun x7 l6=>
 Ah .i64 l6 fun x10 l9=>
 AB l9 fun x11 l12=>
 AB l12 fun x13 l14=>
 Ah .i64 l14 fun x17 l16=>
 AB l16 fun x18 l19=>
 AT l19 (
 Ab 6 b d fun b20 o21=>
 BV E Z b20 o21 6 fun l22=>
 Ah .i64 l22 fun x25 l24=>
 Ah .i64 l24 fun x28 l27=>
 AB l27 fun x29 l30=>
 AB l30 fun x31 l32=>
 Ah .i64 l32 fun x35 l34=>
 AB l34 fun x36 l37=>
 AT l37 (
 GV D c [.agg [.int .i64 x7,.int .i64 x10,x11,x13,.int .i64 x17,x18],.agg [.int .i64 x25,.int .i64 x28,x29,x31,.int .i64 x35,x36]] Z fun u38 s39=>
 Aa u38 fun x40=>
 AJ (not x40) (
 some ((V.bool false),s39)) (
 R2 a b c (CM .i64 d (AA 1)) s39)))) (
 K1 Z)
def m3 (a b c:V) (Z:H):St:=⟨[(0,a),(1,b),(2,c)],[],[],Z⟩
def m1 (Z:H):St:=⟨[],[],[],Z⟩
def WW (a b c:V) (d:Int) (Z:H):St:=⟨[(0,a),(1,b),(2,c),(7,.int .i64 d)],[],[],Z⟩
theorem AAm (cc1:XC) (cc2:XC) (a b c:V) (Z:H) :
 AM E D W N (fR cc1 cc2) (m3 a b c Z) (Hp E) nX (Hp E) =
 V5 E D W (fun a b c d Z=>Af (fun rec s'=>AM E D W N cc2 s' (kX Yr [] [] rec) (iy E D W N cc1) (Hp E)) N (WW a b c d Z)) a b c Z:=by kernel_rfl
theorem AAl (cc1:XC) (li2:St->AG) (a b c:V) (d:Int) (Z:H) :
 AM E D W N (QT ) (WW a b c d Z) (kX Yr [] [] li2) (iy E D W N cc1) (Hp E) =
 Pp E D W (fun  Z=>AM E D W N cc1 (m1 Z) (Hp E) nX (Hp E)) (fun a b c d Z=>li2 (WW a b c d Z)) a b c d Z:=by kernel_rfl
def pC (E:EB) (D:Al) (W:AE) (N:Nat):=bJ E D W
theorem u0 (Z:H) :
 AM E D W N Oa (m1 Z) (Hp E) nX (Hp E)=pC E D W N  Z:=by kernel_rfl
def Wc (n:Nat):V->V->V->Int->H->AG:=
 Nat.rec (fun _ _ _ _ _=>none) (fun _ ih=>Pp E D W (pC E D W N ) ih) n
theorem tm (n:Nat):∀(a b c:V) (d:Int) (Z:H),
 Af (fun rec s'=>AM E D W N QT s' (kX Yr [] [] rec) (iy E D W N Oa) (Hp E)) n (WW a b c d Z)=Wc E D W N n a b c d Z:=by
 induction n with
 | zero=>intro a b c d Z;rfl
 | succ n ihn=>
  intro a b c d Z
  rw[Ak]
  refine(AAl E D W N Oa (Af (fun rec s'=>AM E D W N QT s' (kX Yr [] [] rec) (iy E D W N Oa) (Hp E)) n) a b c d Z).trans ?_
  simp only[ihn,u0]
  kernel_rfl
def pD:=V5 E D W (Wc E D W N N)
theorem vA (a b c:V) (Z:H) :
 AM E D W N (fR Oa QT) (m3 a b c Z) (Hp E) nX (Hp E)=pD E D W N a b c Z:=by
 refine(AAm E D W N Oa QT  a b c Z).trans ?_
 simp only[tm]
 kernel_rfl
def vL (args:List V) (Z:H):AG:=
 AB args fun x1 l2=>
 AB l2 fun x3 l4=>
 AB l4 fun x5 l6=>
 AT l6 (
 pD E D W N x1 x3 x5 Z)
def A19:C9:=⟨30,[.any,.any,.any],[(.tmp 6)],(fR Oa QT)⟩
theorem AFt (args:List V) (Z:H):Be E D W N A19 args Z=vL E D W N args Z:=by
 unfold vL
 simp only[<-vA]
 kernel_rfl
def Yq:List (Nat × Co):=[(0,.any),(1,.any),(2,.any),(7,.i)]
def Ho (E:EB):St->AG:=fun s=>Cy E s [(.tmp 6)] fun l=>some (DH l,s.Z)
def ix (c0:XC):Nat->St->AG:=BN 0 (dX E D W N (.keep [] [] [] c0) (Ho E) nX (Ho E)) nX
def fQ (cc1:XC) (cc2:XC):XC:=(.z (.c 6 y3<|
.nil)
 (.seq (.z (.m 8 0<|
.u 9 8<|
.m 10 1<|
.u 11 10<|
.b 12 .neq .none (.t 9) (.t 11)<|
.nil)
 (.cond (.tmp 12) (.z (.c 6 y3<|
.nil)
 .ret)
 .skip))
 (.seq (.z (.q 7 0<|
.nil)
 (.block 0 (.loop Yq [] [] cc2)))
 (.keep [] [] [] cc1))))
def mD (E:EB) (D:Al) (W:AE) (K2:V->V->V->Int->H->AG) (a b c:V) (Z:H):AG:=
 A0 a fun n1=>
 A0 b fun n2=>
 AJ (not (B5 (AA n1) (AA n2))) (
 some ((V.bool false),Z)) (
 K2 a b c (AA 0) Z)
def OZ:XC:=(.z (.c 6 fY<|
.nil)
 .ret)
def yr (E:EB) (D:Al) (W:AE) (Z:H):AG:=
 some ((V.bool true),Z)
def QS:XC:=(.seq (.z (.m 13 7<|
.m 14 0<|
.u 15 14<|
.b 16 .lss .none (.t 13) (.t 15)<|
.nil)
 y31)
 (.seq (.block 1 (.seq (.draw (.m 19 2<|
.m 20 0<|
.m 21 7<|
.s 22 2 20 21<|
.O 23 T4 (.load (some 2) (.t 22))<|
.m 24 1<|
.m 25 7<|
.s 26 2 24 25<|
.O 27 T4 (.load (some 2) (.t 26))<|
.O 28 .bool (.callv (.t 19) [(.t 23),(.t 27)])<|
.P 29 (.un .not (.t 28))<|
.nil) [0,0,0,6,14,0,0,96,224,511,1023])
 (.cond (.tmp 29) (.z (.c 6 y3<|
.nil)
 .ret)
 .skip)))
 wj))
def mC (E:EB) (D:Al) (W:AE) (K1:H->AG) (R2:V->V->V->Int->H->AG) (a b c:V) (d:Int) (Z:H):AG:=
 A0 a fun n1=>
 AJ (Cr d (AA n1)) (
 Ab 2 a d fun b2 o3=>
 BV E Z b2 o3 2 fun l4=>
 Ah .i64 l4 fun x7 l6=>
 AB l6 fun x8 l9=>
 AT l9 (
 Ab 2 b d fun b10 o11=>
 BV E Z b10 o11 2 fun l12=>
 Ah .i64 l12 fun x15 l14=>
 AB l14 fun x16 l17=>
 AT l17 (
 GV D c [.agg [.int .i64 x7,x8],.agg [.int .i64 x15,x16]] Z fun u18 s19=>
 Aa u18 fun x20=>
 AJ (not x20) (
 some ((V.bool false),s19)) (
 R2 a b c (CM .i64 d (AA 1)) s19)))) (
 K1 Z)
def m0 (a b c:V) (Z:H):St:=⟨[(0,a),(1,b),(2,c)],[],[],Z⟩
def mz (Z:H):St:=⟨[],[],[],Z⟩
def WV (a b c:V) (d:Int) (Z:H):St:=⟨[(0,a),(1,b),(2,c),(7,.int .i64 d)],[],[],Z⟩
theorem AAk (cc1:XC) (cc2:XC) (a b c:V) (Z:H) :
 AM E D W N (fQ cc1 cc2) (m0 a b c Z) (Ho E) nX (Ho E) =
 mD E D W (fun a b c d Z=>Af (fun rec s'=>AM E D W N cc2 s' (kX Yq [] [] rec) (ix E D W N cc1) (Ho E)) N (WV a b c d Z)) a b c Z:=by kernel_rfl
theorem AAj (cc1:XC) (li2:St->AG) (a b c:V) (d:Int) (Z:H) :
 AM E D W N (QS ) (WV a b c d Z) (kX Yq [] [] li2) (ix E D W N cc1) (Ho E) =
 mC E D W (fun  Z=>AM E D W N cc1 (mz Z) (Ho E) nX (Ho E)) (fun a b c d Z=>li2 (WV a b c d Z)) a b c d Z:=by kernel_rfl
def pA (E:EB) (D:Al) (W:AE) (N:Nat):=yr E D W
theorem uy (Z:H) :
 AM E D W N OZ (mz Z) (Ho E) nX (Ho E)=pA E D W N  Z:=by kernel_rfl
def nN (n:Nat):V->V->V->Int->H->AG:=
 Nat.rec (fun _ _ _ _ _=>none) (fun _ ih=>mC E D W (pA E D W N ) ih) n
theorem tk (n:Nat):∀(a b c:V) (d:Int) (Z:H),
 Af (fun rec s'=>AM E D W N QS s' (kX Yq [] [] rec) (ix E D W N OZ) (Ho E)) n (WV a b c d Z)=nN E D W N n a b c d Z:=by
 induction n with
 | zero=>intro a b c d Z;rfl
 | succ n ihn=>
  intro a b c d Z
  rw[Ak]
  refine(AAj E D W N OZ (Af (fun rec s'=>AM E D W N QS s' (kX Yq [] [] rec) (ix E D W N OZ) (Ho E)) n) a b c d Z).trans ?_
  simp only[ihn,uy]
  kernel_rfl
def pB:=mD E D W (nN E D W N N)
theorem uz (a b c:V) (Z:H) :
 AM E D W N (fQ OZ QS) (m0 a b c Z) (Ho E) nX (Ho E)=pB E D W N a b c Z:=by
 refine(AAk E D W N OZ QS  a b c Z).trans ?_
 simp only[tk]
 kernel_rfl
def wh (args:List V) (Z:H):AG:=
 AB args fun x1 l2=>
 AB l2 fun x3 l4=>
 AB l4 fun x5 l6=>
 AT l6 (
 pB E D W N x1 x3 x5 Z)
def A20:C9:=⟨30,[.any,.any,.any],[(.tmp 6)],(fQ OZ QS)⟩
theorem AFs (args:List V) (Z:H):Be E D W N A20 args Z=wh E D W N args Z:=by
 unfold wh
 simp only[<-uz]
 kernel_rfl
def ACp:XC:=(.z (.P 2 (.box 47 (.t 0))<|
.P 3 (.box 47 (.t 1))<|
.c 4 y3<|
.nil)
 (.z (.f 5 0 2<|
.l 6 .i 5<|
.f 7 0 3<|
.l 8 .i 7<|
.b 9 .eql .none (.t 6) (.t 8)<|
.m 10 9<|
.gA 10 true (.p 11 [2,10] (.faddr 1 (.t 2))<|
.p 12 [11,10] (.load none (.t 11))<|
.p 13 [3,10] (.faddr 1 (.t 3))<|
.p 14 [13,10] (.load none (.t 13))<|
.op (some 15) .bool [12,14,10] (.call 18 [(.t 12),(.t 14)])<|
.nil) 16 10 15<|
.m 4 16<|
.nil)
 .ret))
def yq (E:EB) (D:Al) (W:AE) (a:Int) (b:V) (c:Int) (d:V) (Z:H):AG:=
 Gi [.int .i64 a,b] Z fun s1=>
 Gi [.int .i64 c,d] s1 fun s2=>
 BY E s2 (H.next Z) 0 fun u3=>
 Aj .i64 u3 fun x4=>
 BY E s2 (H.next s1) 0 fun u5=>
 Aj .i64 u5 fun x6=>
 Ac (fun c7 s8=>
 some ((V.bool c7),s8)) fun k9=>
 AJ (B5 x4 x6) (
 BY E s2 (H.next Z) 1 fun u10=>
 BY E s2 (H.next s1) 1 fun u11=>
 AV (D 18 [u10,u11] s2) fun u12 s13=>
 Aa u12 fun x14=>
 k9 x14 s13) (
 k9 false s2)
def F21 (N:Nat) (args:List V) (Z:H):AG:=
 AB args fun x1 l2=>
 Ba x1 fun l3=>
 Ah .i64 l3 fun x6 l5=>
 AB l5 fun x7 l8=>
 AT l8 (
 AB l2 fun x9 l10=>
 Ba x9 fun l11=>
 Ah .i64 l11 fun x14 l13=>
 AB l13 fun x15 l16=>
 AT l16 (
 AT l10 (
 yq E D W x6 x7 x14 x15 Z)))
def A21:C9:=⟨17,[T4,T4],[(.tmp 4)],ACp⟩
theorem AFr (args:List V) (Z:H):Be E D W N A21 args Z=F21 E D W N args Z:=by kernel_rfl
def Yp:List (Nat × Co):=[(0,.str),(5,.any),(6,.i)]
def Im (E:EB):St->AG:=fun s=>Cy E s [(.tmp 2),(.tmp 3),(.tmp 4)] fun l=>some (DH l,s.Z)
def fP (cc1:XC):XC:=(.z (.c 2 V.nils<|
.q 3 0<|
.q 4 0<|
.nil)
 (.seq (.z (.m 9 0<|
.P 10 (.len true (.t 9))<|
.b 11 .gtr .none (.t 10) (.i 8000)<|
.nil)
 (.cond (.tmp 11) (.z (.c 2 V.nils<|
.q 3 0<|
.q 4 5<|
.nil)
 .ret)
 .skip))
 (.z (.c 5 V.nils<|
.nil)
 (.z (.q 6 0<|
.nil)
 (.block 0 (.loop Yp [] [] cc1))))))
def mB (E:EB) (D:Al) (W:AE) (K1:BS->V->Int->H->AG) (a:BS) (Z:H):AG:=
 AJ (Cr (AA 8000) (AA (BS.len a))) (
 some ((V.tup [V.nils,.int .i64 (AA 0),.int .i64 (AA 5)]),Z)) (
 K1 a V.nils (AA 0) Z)
def QR:XC:=(.block 1 (.z (.m 12 0<|
.m 13 6<|
.k 14 .i 43 [(.t 12),(.t 13)]<|
.m 6 14<|
.nil)
 (.seq (.z (.m 15 6<|
.m 16 0<|
.P 17 (.len true (.t 16))<|
.b 18 .geq .none (.t 15) (.t 17)<|
.nil)
 (.cond (.tmp 18) (.z (.m 19 5<|
.m 20 0<|
.P 21 (.len true (.t 20))<|
.op (some 22) y7 [21] (.build [y0,y8,y0] [(2,1,(.t 21))])<|
.p 23 [22] (.buildSlice 79 1 [y0,y8,y0] [(0,3,(.t 22))])<|
.O 24 .one (.append 79 3 32 (.t 19) (.t 23))<|
.m 2 24<|
.q 3 0<|
.q 4 0<|
.nil)
 .ret)
 .skip))
 (.z (.m 26 0<|
.m 27 6<|
.k 28 (.tup [y7,.i]) 44 [(.t 26),(.t 27)]<|
.m 25 28<|
.P 29 (.extract 0 (.t 25))<|
.P 30 (.extract 1 (.t 25))<|
.pal 7 [] 79 [y0,y8,y0]<|
.op none y7 [7,29] (.store 3 (.t 7) (.t 29))<|
.m 8 30<|
.nil)
 (.seq (.z (.m 31 8<|
.b 32 .lss .none (.t 31) (.i 0)<|
.nil)
 (.cond (.tmp 32) (.z (.m 33 6<|
.c 2 V.nils<|
.m 3 33<|
.q 4 6<|
.nil)
 .ret)
 .skip))
 (.z (.m 34 5<|
.O 35 y7 (.load (some 3) (.t 7))<|
.p 36 [35] (.buildSlice 79 1 [y0,y8,y0] [(0,3,(.t 35))])<|
.O 37 .one (.append 79 3 32 (.t 34) (.t 36))<|
.m 5 37<|
.nil)
 (.ops (.m 38 8<|
.m 6 38<|
.nil))))))))
def mA (E:EB) (D:Al) (W:AE) (R1:BS->V->Int->H->AG) (a:BS) (b:V) (c:Int) (Z:H):AG:=
 AV (D 43 [.str a,.int .i64 c] Z) fun u1 s2=>
 Aj .i64 u1 fun x3=>
 AJ (I7 (AA (BS.len a)) x3) (
 let s4:=B6 s2 (.cells [.int .i64 (AA 0),.str (BS.mk 0 0),.int .i64 (AA (BS.len a))]);
 DI E 3 32 b (V.sl (H.next s2) 0 1 (.ex 1)) s4 fun u5 s6=>
 BU u5 (
 some ((V.tup [u5,.int .i64 (AA 0),.int .i64 (AA 0)]),s6))) (
 AV (D 44 [.str a,.int .i64 x3] s2) fun u7 s8=>
 C1 u7 fun l9=>
 AB l9 fun x10 l11=>
 Ba x10 fun l12=>
 Ah .i64 l12 fun x15 l14=>
 Hz l14 fun x18 l17=>
 Ah .i64 l17 fun x21 l20=>
 AT l20 (
 Ah .i64 l11 fun x24 l23=>
 AT l23 (
 AJ (Cr x24 (AA 0)) (
 some ((V.tup [V.nils,.int .i64 x3,.int .i64 (AA 6)]),s8)) (
 let s25:=B6 s8 (.cells [.int .i64 x15,.str x18,.int .i64 x21]);
 DI E 3 32 b (V.sl (H.next s8) 0 1 (.ex 1)) s25 fun u26 s27=>
 BU u26 (
 R1 a u26 x24 s27)))))
def my (a:BS) (Z:H):St:=⟨[(0,.str a)],[],[],Z⟩
def WU (a:BS) (b:V) (c:Int) (Z:H):St:=⟨[(0,.str a),(5,b),(6,.int .i64 c)],[],[],Z⟩
theorem AAi (cc1:XC) (a:BS) (Z:H) :
 AM E D W N (fP cc1) (my a Z) (Im E) nX (Im E) =
 mB E D W (fun a b c Z=>Af (fun rec s'=>AM E D W N cc1 s' (kX Yp [] [] rec) (BN 0 (Im E) nX) (Im E)) N (WU a b c Z)) a Z:=by kernel_rfl
theorem AAh (li1:St->AG) (a:BS) (b:V) (c:Int) (Z:H) :
 AM E D W N (QR ) (WU a b c Z) (kX Yp [] [] li1) (BN 0 (Im E) nX) (Im E) =
 mA E D W (fun a b c Z=>li1 (WU a b c Z)) a b c Z:=by kernel_rfl
def nM (E:EB) (D:Al) (W:AE) (N:Nat) (n:Nat):BS->V->Int->H->AG:=
 Nat.rec (fun _ _ _ _=>none) (fun _ ih=>mA E D W ih) n
theorem tj (n:Nat):∀(a:BS) (b:V) (c:Int) (Z:H),
 Af (fun rec s'=>AM E D W N QR s' (kX Yp [] [] rec) (BN 0 (Im E) nX) (Im E)) n (WU a b c Z)=nM E D W N n a b c Z:=by
 induction n with
 | zero=>intro a b c Z;rfl
 | succ n ihn=>
  intro a b c Z
  rw[Ak]
  refine(AAh E D W N  (Af (fun rec s'=>AM E D W N QR s' (kX Yp [] [] rec) (BN 0 (Im E) nX) (Im E)) n) a b c Z).trans ?_
  simp only[ihn]
  kernel_rfl
def o0:=mB E D W (nM E D W N N)
theorem ux (a:BS) (Z:H) :
 AM E D W N (fP QR) (my a Z) (Im E) nX (Im E)=o0 E D W N a Z:=by
 refine(AAi E D W N QR  a Z).trans ?_
 simp only[tj]
 kernel_rfl
def F22 (args:List V) (Z:H):AG:=
 Hz args fun x3 l2=>
 AT l2 (
 o0 E D W N x3 Z)
def A22:C9:=⟨39,[.str],[(.tmp 2),(.tmp 3),(.tmp 4)],(fP QR)⟩
theorem AFq (args:List V) (Z:H):Be E D W N A22 args Z=F22 E D W N args Z:=by
 unfold F22
 simp only[<-ux]
 kernel_rfl
def ACo:XC:=(.z (.c 4 y8<|
.nil)
 (.z (.m 6 0<|
.k 7 y7 26 [(.t 6)]<|
.pal 5 [] 79 [y0,y8,y0]<|
.op none y7 [5,7] (.store 3 (.t 5) (.t 7))<|
.nil)
 (.seq (.z (.m 8 0<|
.n 9 8<|
.f 10 7 9<|
.l 11 .i 10<|
.b 12 .neq .none (.t 11) (.i 0)<|
.m 13 12<|
.gO 13 false (.p 14 [5,13] (.faddr 0 (.t 5))<|
.op (some 15) .i [14,13] (.load none (.t 14))<|
.p 16 [1,13] Io<|
.p 17 [15,16,13] (.bin .neq .none (.t 15) (.t 16))<|
.nil) 18 13 17<|
.nil)
 (.cond (.tmp 18) (.z (.m 19 0<|
.O 20 y7 (.load (some 3) (.t 5))<|
.k 21 (.tup []) 27 [(.t 19),(.i 7),(.t 20)]<|
.nil)
 (.z (.c 4 y8<|
.nil)
 .ret))
 .skip))
 (.z (.m 22 0<|
.k 23 y7 45 [(.t 22)]<|
.O 24 .str (.field 1 none (.t 23))<|
.m 4 24<|
.nil)
 .ret))))
def yp (E:EB) (D:Al) (W:AE) (a b:Nat) (c:Int) (Z:H):AG:=
 AV (D 26 [.ptr a b] Z) fun u1 s2=>
 Ba u1 fun l3=>
 Ah .i64 l3 fun x6 l5=>
 Hz l5 fun x9 l8=>
 Ah .i64 l8 fun x12 l11=>
 AT l11 (
 BY E s2 a (Ar b 7) fun u13=>
 Aj .i64 u13 fun x14=>
 Ac (fun c15 s16=>
 AJ c15 (
 AV (D 27 [.ptr a b,.int .i64 (AA 7),.agg [.int .i64 x6,.str x9,.int .i64 x12]] s16) fun u18 s19=>
 C1 u18 fun l20=>
 AT l20 (
 some ((V.str (BS.mk 0 0)),s19))) (
 AV (D 45 [.ptr a b] s16) fun u21 s22=>
 Ba u21 fun l23=>
 Ah .i64 l23 fun x26 l25=>
 Hz l25 fun x29 l28=>
 Ah .i64 l28 fun x32 l31=>
 AT l31 (
 some ((V.str x29),s22)))) fun k17=>
 AJ (not (B5 x14 (AA 0))) (
 k17 true s2) (
 k17 (not (B5 x6 c)) s2))
def F23 (N:Nat) (args:List V) (Z:H):AG:=
 AB args fun x1 l2=>
 Bv x1 fun b3 o4=>
 Ah .i64 l2 fun x7 l6=>
 AT l6 (
 yp E D W b3 o4 x7 Z)
def A23:C9:=⟨25,[.ptr,.i],[(.tmp 4)],ACo⟩
theorem AFp (args:List V) (Z:H):Be E D W N A23 args Z=F23 E D W N args Z:=by kernel_rfl
def ACn:XC:=(.z (.m 4 0<|
.n 5 4<|
.f 6 7 5<|
.l 7 .i 6<|
.b 8 .eql .none (.t 7) (.i 0)<|
.m 9 8<|
.gA 9 true (.p 10 [0,9] y9<|
.p 11 [1,9] Io<|
.op (some 12) .bool [10,11,9] (.call 25 [(.t 10),(.t 11)])<|
.p 13 [12,9] (.un .not (.t 12))<|
.nil) 14 9 13<|
.nil)
 (.cond (.tmp 14) (.ops (.m 15 0<|
.m 16 0<|
.k 17 y7 26 [(.t 16)]<|
.k 18 (.tup []) 27 [(.t 15),(.i 7),(.t 17)]<|
.nil))
 .skip))
def yo (E:EB) (D:Al) (W:AE) (a b:Nat) (c:BS) (Z:H):AG:=
 BY E Z a (Ar b 7) fun u1=>
 Aj .i64 u1 fun x2=>
 Ac (fun c3 s4=>
 AJ c3 (
 AV (D 26 [.ptr a b] s4) fun u6 s7=>
 Ba u6 fun l8=>
 Ah .i64 l8 fun x11 l10=>
 Hz l10 fun x14 l13=>
 Ah .i64 l13 fun x17 l16=>
 AT l16 (
 AV (D 27 [.ptr a b,.int .i64 (AA 7),.agg [.int .i64 x11,.str x14,.int .i64 x17]] s7) fun u18 s19=>
 C1 u18 fun l20=>
 AT l20 (
 some ((V.tup []),s19)))) (
 some ((V.tup []),s4))) fun k5=>
 AJ (B5 x2 (AA 0)) (
 AV (D 25 [.ptr a b,.str c] Z) fun u21 s22=>
 Aa u21 fun x23=>
 k5 (not x23) s22) (
 k5 false Z)
def F24 (N:Nat) (args:List V) (Z:H):AG:=
 AB args fun x1 l2=>
 Bv x1 fun b3 o4=>
 Hz l2 fun x7 l6=>
 AT l6 (
 yo E D W b3 o4 x7 Z)
def A24:C9:=⟨19,[.ptr,.str],[],ACn⟩
theorem AFo (args:List V) (Z:H):Be E D W N A24 args Z=F24 E D W N args Z:=by kernel_rfl
def ACm:XC:=(.z (.c 4 y3<|
.nil)
 (.z (.m 6 0<|
.k 7 y7 26 [(.t 6)]<|
.pal 5 [] 79 [y0,y8,y0]<|
.op none y7 [5,7] (.store 3 (.t 5) (.t 7))<|
.nil)
 (.seq (.z (.m 8 0<|
.n 9 8<|
.f 10 7 9<|
.l 11 .i 10<|
.b 12 .eql .none (.t 11) (.i 0)<|
.m 13 12<|
.gA 13 true (.p 14 [5,13] (.faddr 0 (.t 5))<|
.op (some 15) .i [14,13] (.load none (.t 14))<|
.p 16 [15,13] (.bin .eql .none (.t 15) (.i 5))<|
.p 17 [16,13] (.mov (.t 16))<|
.grp 17 false (.p 18 [5,17] (.faddr 0 (.t 5))<|
.op (some 19) .i [18,17] (.load none (.t 18))<|
.p 20 [19,17] (.bin .eql .none (.t 19) (.i 6))<|
.nil) 21 [17,20,13] (.t 17) QV (.t 20)<|
.nil) 22 13 21<|
.m 23 22<|
.gA 23 true (.p 24 [5,23] (.faddr 1 (.t 5))<|
.op (some 25) .str [24,23] (.load none (.t 24))<|
.p 26 [1,23] Io<|
.p 27 [25,26,23] (.bin .eql .none (.t 25) (.t 26))<|
.nil) 28 23 27<|
.nil)
 (.cond (.tmp 28) (.z (.m 29 0<|
.k 30 y7 45 [(.t 29)]<|
.nil)
 (.z (.c 4 fY<|
.nil)
 .ret))
 .skip))
 (.z (.c 4 y3<|
.nil)
 .ret))))
def yn (E:EB) (D:Al) (W:AE) (a b:Nat) (c:BS) (Z:H):AG:=
 AV (D 26 [.ptr a b] Z) fun u1 s2=>
 Ba u1 fun l3=>
 Ah .i64 l3 fun x6 l5=>
 Hz l5 fun x9 l8=>
 Ah .i64 l8 fun x12 l11=>
 AT l11 (
 BY E s2 a (Ar b 7) fun u13=>
 Aj .i64 u13 fun x14=>
 Ac (fun c15 s16=>
 Ac (fun c18 s19=>
 AJ c18 (
 AV (D 45 [.ptr a b] s19) fun u21 s22=>
 Ba u21 fun l23=>
 Ah .i64 l23 fun x26 l25=>
 Hz l25 fun x29 l28=>
 Ah .i64 l28 fun x32 l31=>
 AT l31 (
 some ((V.bool true),s22))) (
 some ((V.bool false),s19))) fun k20=>
 AJ c15 (
 k20 (BS.beq x9 c) s16) (
 k20 false s16)) fun k17=>
 AJ (B5 x14 (AA 0)) (
 Ac (fun c33 s34=>
 k17 c33 s34) fun k35=>
 AJ (B5 x6 (AA 5)) (
 k35 true s2) (
 k35 (B5 x6 (AA 6)) s2)) (
 k17 false s2))
def F25 (N:Nat) (args:List V) (Z:H):AG:=
 AB args fun x1 l2=>
 Bv x1 fun b3 o4=>
 Hz l2 fun x7 l6=>
 AT l6 (
 yn E D W b3 o4 x7 Z)
def A25:C9:=⟨31,[.ptr,.str],[(.tmp 4)],ACm⟩
theorem AFm (args:List V) (Z:H):Be E D W N A25 args Z=F25 E D W N args Z:=by kernel_rfl
def ACl:XC:=(.z (.pal 2 [] 79 [y0,y8,y0]<|
.nil)
 (.seq (.draw (.m 3 0<|
.n 4 3<|
.f 5 0 4<|
.l 6 .any 5<|
.m 7 0<|
.n 8 7<|
.f 9 1 8<|
.l 10 .i 9<|
.s 11 3 6 10<|
.O 12 y7 (.load (some 3) (.t 11))<|
.op none y7 [2,12] (.store 3 (.t 2) (.t 12))<|
.nil) [0,1,3,7,0,16,48,112,255,511,1023])
 .ret))
def ym (E:EB) (D:Al) (W:AE) (a b:Nat) (Z:H):AG:=
 BY E Z a b fun u1=>
 BY E Z a (Ar b 1) fun u2=>
 Aj .i64 u2 fun x3=>
 Ab 3 u1 x3 fun b4 o5=>
 BV E Z b4 o5 3 fun l6=>
 Ah .i64 l6 fun x9 l8=>
 Hz l8 fun x12 l11=>
 Ah .i64 l11 fun x15 l14=>
 AT l14 (
 some ((V.agg [.int .i64 x9,.str x12,.int .i64 x15]),Z))
def F26 (N:Nat) (args:List V) (Z:H):AG:=
 AB args fun x1 l2=>
 Bv x1 fun b3 o4=>
 AT l2 (
 ym E D W b3 o4 Z)
def A26:C9:=⟨13,[.ptr],[(.cell 2 (some 3))],ACl⟩
theorem AFl (args:List V) (Z:H):Be E D W N A26 args Z=F26 E D W N args Z:=by kernel_rfl
def Yo:List (Nat × Co):=[(0,(.int .u64)),(3,.any)]
def Hn (E:EB):St->AG:=fun s=>Cy E s [(.tmp 2)] fun l=>some (DH l,s.Z)
def iw (c0:XC):Nat->St->AG:=BN 0 (dX E D W N (.keep [(3,.any)] [] [] c0) (Hn E) nX (Hn E)) nX
def fO (cc1:XC) (cc2:XC):XC:=(.z (.c 2 V.nils<|
.nil)
 (.z (.m 4 0<|
.b 5 .and .none (.t 4) (.con (V.int .u64 (AA 127)))<|
.P 6 (.conv (.toInt .u8) (.t 5))<|
.p 7 [6] (.buildSlice 5 1 [y5] [(0,1,(.t 6))])<|
.m 3 7<|
.nil)
 (.seq (.block 0 (.loop Yo [] [] cc2))
 (.keep [(3,.any)] [] [] cc1))))
def V4 (E:EB) (D:Al) (W:AE) (K2:Int->V->H->AG) (a:Int) (Z:H):AG:=
 let s1:=B6 Z (.cells [.int .u8 (As .u8 (HI .u64 a (AA 127)))]);
 K2 a (V.sl (H.next Z) 0 1 (.ex 1)) s1
def OY:XC:=(.z (.m 19 3<|
.m 2 19<|
.nil)
 .ret)
def bI (E:EB) (D:Al) (W:AE) (a:V) (Z:H):AG:=
 some (a,Z)
def QQ:XC:=(.seq (.z (.m 8 0<|
.b 9 .gtr .none (.t 8) (.con (V.int .u64 (AA 127)))<|
.nil)
 kW)
 (.block 1 (.z (.m 10 0<|
.b 11 .shr .none (.t 10) y26<|
.m 0 11<|
.nil)
 (.ops (.m 12 0<|
.b 13 .and .none (.t 12) (.con (V.int .u64 (AA 127)))<|
.P 14 (.conv (.toInt .u8) (.t 13))<|
.b 15 .or .none (.t 14) fZ<|
.p 16 [15] (.buildSlice 5 1 [y5] [(0,1,(.t 15))])<|
.m 17 3<|
.O 18 .one (.append 5 1 1 (.t 16) (.t 17))<|
.m 3 18<|
.nil)))))
def Po (E:EB) (D:Al) (W:AE) (K1:V->H->AG) (R2:Int->V->H->AG) (a:Int) (b:V) (Z:H):AG:=
 AJ (Cr (AA 127) a) (
 let s1:=B6 Z (.cells [.int .u8 (K0 .u8 (As .u8 (HI .u64 (Ge .u64 a 7) (AA 127))) (AA 128))]);
 DI E 1 1 (V.sl (H.next Z) 0 1 (.ex 1)) b s1 fun u2 s3=>
 BU u2 (
 R2 (Ge .u64 a 7) u2 s3)) (
 K1 b Z)
def mw (a:Int) (Z:H):St:=⟨[(0,.int .u64 a)],[],[],Z⟩
def mu (a:V) (Z:H):St:=⟨[(3,a)],[],[],Z⟩
def WT (a:Int) (b:V) (Z:H):St:=⟨[(0,.int .u64 a),(3,b)],[],[],Z⟩
theorem AAg (cc1:XC) (cc2:XC) (a:Int) (Z:H) :
 AM E D W N (fO cc1 cc2) (mw a Z) (Hn E) nX (Hn E) =
 V4 E D W (fun a b Z=>Af (fun rec s'=>AM E D W N cc2 s' (kX Yo [] [] rec) (iw E D W N cc1) (Hn E)) N (WT a b Z)) a Z:=by kernel_rfl
theorem AAf (cc1:XC) (li2:St->AG) (a:Int) (b:V) (Z:H) :
 AM E D W N (QQ ) (WT a b Z) (kX Yo [] [] li2) (iw E D W N cc1) (Hn E) =
 Po E D W (fun b Z=>AM E D W N cc1 (mu b Z) (Hn E) nX (Hn E)) (fun a b Z=>li2 (WT a b Z)) a b Z:=by kernel_rfl
def ot (E:EB) (D:Al) (W:AE) (N:Nat):=bI E D W
theorem uv (a:V) (Z:H) :
 AM E D W N OY (mu a Z) (Hn E) nX (Hn E)=ot E D W N a Z:=by kernel_rfl
def nL (n:Nat):Int->V->H->AG:=
 Nat.rec (fun _ _ _=>none) (fun _ ih=>Po E D W (ot E D W N ) ih) n
theorem ti (n:Nat):∀(a:Int) (b:V) (Z:H),
 Af (fun rec s'=>AM E D W N QQ s' (kX Yo [] [] rec) (iw E D W N OY) (Hn E)) n (WT a b Z)=nL E D W N n a b Z:=by
 induction n with
 | zero=>intro a b Z;rfl
 | succ n ihn=>
  intro a b Z
  rw[Ak]
  refine(AAf E D W N OY (Af (fun rec s'=>AM E D W N QQ s' (kX Yo [] [] rec) (iw E D W N OY) (Hn E)) n) a b Z).trans ?_
  simp only[ihn,uv]
  kernel_rfl
def ov:=V4 E D W (nL E D W N N)
theorem uw (a:Int) (Z:H) :
 AM E D W N (fO OY QQ) (mw a Z) (Hn E) nX (Hn E)=ov E D W N a Z:=by
 refine(AAg E D W N OY QQ  a Z).trans ?_
 simp only[ti]
 kernel_rfl
def wg (args:List V) (Z:H):AG:=
 Ah .u64 args fun x3 l2=>
 AT l2 (
 ov E D W N x3 Z)
def A31:C9:=⟨20,[(.int .u64)],[(.tmp 2)],(fO OY QQ)⟩
theorem AFk (args:List V) (Z:H):Be E D W N A31 args Z=wg E D W N args Z:=by
 unfold wg
 simp only[<-uw]
 kernel_rfl
def Yn:List (Nat × Co):=[(0,(.int .u64)),(3,.any)]
def Hm (E:EB):St->AG:=fun s=>Cy E s [(.tmp 2)] fun l=>some (DH l,s.Z)
def iv (c0:XC):Nat->St->AG:=BN 0 (dX E D W N (.keep [(3,.any)] [] [] c0) (Hm E) nX (Hm E)) nX
def fN (cc1:XC) (cc2:XC):XC:=(.z (.c 2 V.nils<|
.nil)
 (.z (.m 4 0<|
.P 5 (.conv (.toInt .u8) (.t 4))<|
.p 6 [5] (.buildSlice 5 1 [y5] [(0,1,(.t 5))])<|
.m 3 6<|
.nil)
 (.seq (.block 0 (.loop Yn [] [] cc2))
 (.keep [(3,.any)] [] [] cc1))))
def V3 (E:EB) (D:Al) (W:AE) (K2:Int->V->H->AG) (a:Int) (Z:H):AG:=
 let s1:=B6 Z (.cells [.int .u8 (As .u8 a)]);
 K2 a (V.sl (H.next Z) 0 1 (.ex 1)) s1
def OX:XC:=(.z (.m 16 3<|
.m 2 16<|
.nil)
 .ret)
def bH (E:EB) (D:Al) (W:AE) (a:V) (Z:H):AG:=
 some (a,Z)
def QP:XC:=(.seq (.z (.m 7 0<|
.b 8 .gtr .none (.t 7) (.con (V.int .u64 (AA 255)))<|
.nil)
 (.cond (.tmp 8) .skip
 Lr))
 (.block 1 (.z (.m 9 0<|
.b 10 .shr .none (.t 9) (.con (V.int .u64 (AA 8)))<|
.m 0 10<|
.nil)
 (.ops (.m 11 0<|
.P 12 (.conv (.toInt .u8) (.t 11))<|
.p 13 [12] (.buildSlice 5 1 [y5] [(0,1,(.t 12))])<|
.m 14 3<|
.O 15 .one (.append 5 1 1 (.t 13) (.t 14))<|
.m 3 15<|
.nil)))))
def Pn (E:EB) (D:Al) (W:AE) (K1:V->H->AG) (R2:Int->V->H->AG) (a:Int) (b:V) (Z:H):AG:=
 AJ (Cr (AA 255) a) (
 let s1:=B6 Z (.cells [.int .u8 (As .u8 (Ge .u64 a 8))]);
 DI E 1 1 (V.sl (H.next Z) 0 1 (.ex 1)) b s1 fun u2 s3=>
 BU u2 (
 R2 (Ge .u64 a 8) u2 s3)) (
 K1 b Z)
def mr (a:Int) (Z:H):St:=⟨[(0,.int .u64 a)],[],[],Z⟩
def mq (a:V) (Z:H):St:=⟨[(3,a)],[],[],Z⟩
def WS (a:Int) (b:V) (Z:H):St:=⟨[(0,.int .u64 a),(3,b)],[],[],Z⟩
theorem AAe (cc1:XC) (cc2:XC) (a:Int) (Z:H) :
 AM E D W N (fN cc1 cc2) (mr a Z) (Hm E) nX (Hm E) =
 V3 E D W (fun a b Z=>Af (fun rec s'=>AM E D W N cc2 s' (kX Yn [] [] rec) (iv E D W N cc1) (Hm E)) N (WS a b Z)) a Z:=by kernel_rfl
theorem AAd (cc1:XC) (li2:St->AG) (a:Int) (b:V) (Z:H) :
 AM E D W N (QP ) (WS a b Z) (kX Yn [] [] li2) (iv E D W N cc1) (Hm E) =
 Pn E D W (fun b Z=>AM E D W N cc1 (mq b Z) (Hm E) nX (Hm E)) (fun a b Z=>li2 (WS a b Z)) a b Z:=by kernel_rfl
def om (E:EB) (D:Al) (W:AE) (N:Nat):=bH E D W
theorem ur (a:V) (Z:H) :
 AM E D W N OX (mq a Z) (Hm E) nX (Hm E)=om E D W N a Z:=by kernel_rfl
def nK (n:Nat):Int->V->H->AG:=
 Nat.rec (fun _ _ _=>none) (fun _ ih=>Pn E D W (om E D W N ) ih) n
theorem th (n:Nat):∀(a:Int) (b:V) (Z:H),
 Af (fun rec s'=>AM E D W N QP s' (kX Yn [] [] rec) (iv E D W N OX) (Hm E)) n (WS a b Z)=nK E D W N n a b Z:=by
 induction n with
 | zero=>intro a b Z;rfl
 | succ n ihn=>
  intro a b Z
  rw[Ak]
  refine(AAd E D W N OX (Af (fun rec s'=>AM E D W N QP s' (kX Yn [] [] rec) (iv E D W N OX) (Hm E)) n) a b Z).trans ?_
  simp only[ihn,ur]
  kernel_rfl
def oq:=V3 E D W (nK E D W N N)
theorem uu (a:Int) (Z:H) :
 AM E D W N (fN OX QP) (mr a Z) (Hm E) nX (Hm E)=oq E D W N a Z:=by
 refine(AAe E D W N OX QP  a Z).trans ?_
 simp only[th]
 kernel_rfl
def we (args:List V) (Z:H):AG:=
 Ah .u64 args fun x3 l2=>
 AT l2 (
 oq E D W N x3 Z)
def A32:C9:=⟨17,[(.int .u64)],[(.tmp 2)],(fN OX QP)⟩
theorem AFj (args:List V) (Z:H):Be E D W N A32 args Z=we E D W N args Z:=by
 unfold we
 simp only[<-uu]
 kernel_rfl
def Ym:List (Nat × Co):=[(0,.ptr),(2,.any),(14,.any),(15,.i),(16,.i)]
def Hl (E:EB):St->AG:=fun s=>Cy E s [(.tmp 6)] fun l=>some (DH l,s.Z)
def iu (c0:XC):Nat->St->AG:=BN 0 (dX E D W N (.keep [(2,.any)] [] [] c0) (Hl E) nX (Hl E)) nX
def fM (cc1:XC) (cc2:XC):XC:=(.z (.c 6 V.nils<|
.nil)
 (.seq (.z (.m 14 1<|
.u 15 14<|
.q 16 0<|
.nil)
 (.block 0 (.loop Ym [] [] cc2)))
 (.keep [(2,.any)] [] [] cc1)))
def Tf (E:EB) (D:Al) (W:AE) (K2:Nat->Nat->V->V->Int->Int->H->AG) (a b:Nat) (c d:V) (Z:H):AG:=
 A0 c fun n1=>
 K2 a b d c (AA n1) (AA 0) Z
def OW:XC:=(.z (.m 46 2<|
.m 6 46<|
.nil)
 .ret)
def bG (E:EB) (D:Al) (W:AE) (a:V) (Z:H):AG:=
 some (a,Z)
def QO:XC:=(.z (.b 17 .lss .none (.t 16) (.t 15)<|
.nil)
 (.seq (.cond (.tmp 17) .skip
 Lr)
 (.seq (.block 1 (.z (.s 18 2 14 16<|
.O 19 y4 (.load (some 2) (.t 18))<|
.pal 8 [] 38 [y0,y0]<|
.op none y4 [8,19] (.store 2 (.t 8) (.t 19))<|
.nil)
 (.z (.m 21 2<|
.k 22 (.tup [y4,.bool,.any,.i,.i]) 57 [(.t 21)]<|
.m 20 22<|
.P 23 (.extract 0 (.t 20))<|
.P 24 (.extract 1 (.t 20))<|
.P 25 (.extract 2 (.t 20))<|
.P 26 (.extract 3 (.t 20))<|
.P 27 (.extract 4 (.t 20))<|
.pal 9 [] 38 [y0,y0]<|
.op none y4 [9,23] (.store 2 (.t 9) (.t 23))<|
.m 10 24<|
.m 11 25<|
.m 12 26<|
.m 13 27<|
.nil)
 (.seq (.z (.m 28 13<|
.b 29 .neq .none (.t 28) (.i 0)<|
.m 30 29<|
.gO 30 false (.p 31 [12,30] (.mov (.t 12))<|
.p 32 [2,30] (.mov (.t 2))<|
.p 33 [32,30] (.len false (.t 32))<|
.p 34 [31,33,30] (.bin .neq .none (.t 31) (.t 33))<|
.nil) 35 30 34<|
.m 36 35<|
.gO 36 false (.op (some 37) y4 [9,36] (.load (some 2) (.t 9))<|
.op (some 38) y4 [8,36] (.load (some 2) (.t 8))<|
.p 39 [37,38,36] (.bin .neq (.flat [(0,.int),(1,.int)]) (.t 37) (.t 38))<|
.nil) 40 36 39<|
.nil)
 (.cond (.tmp 40) (.z (.m 41 0<|
.n 42 41<|
.f 43 0 42<|
.op none .any [43] (.store 1 (.t 43) QV)<|
.nil)
 (.z (.c 6 V.nils<|
.nil)
 .ret))
 .skip))
 (.ops (.m 44 11<|
.m 2 44<|
.nil))))))
 (.ops (.b 45 .add .none (.t 16) (.i 1)<|
.m 16 45<|
.nil)))))
def Pm (E:EB) (D:Al) (W:AE) (K1:V->H->AG) (R2:Nat->Nat->V->V->Int->Int->H->AG) (a b:Nat) (c d:V) (e f:Int) (Z:H):AG:=
 AJ (Cr f e) (
 Ab 2 d f fun b1 o2=>
 BV E Z b1 o2 2 fun l3=>
 Ah .i64 l3 fun x6 l5=>
 Ah .i64 l5 fun x9 l8=>
 AT l8 (
 AV (D 57 [c] Z) fun u10 s11=>
 C1 u10 fun l12=>
 AB l12 fun x13 l14=>
 Ba x13 fun l15=>
 Ah .i64 l15 fun x18 l17=>
 Ah .i64 l17 fun x21 l20=>
 AT l20 (
 C7 l14 fun x24 l23=>
 AB l23 fun x25 l26=>
 Ah .i64 l26 fun x29 l28=>
 Ah .i64 l28 fun x32 l31=>
 AT l31 (
 Ac (fun c33 s34=>
 Ac (fun c36 s37=>
 AJ c36 (
 FY 1 a b (V.bool true) s37 fun s39=>
 some (V.nils,s39)) (
 R2 a b x25 d e (CM .i64 f (AA 1)) s37)) fun k38=>
 AJ c33 (
 k38 true s34) (
 YA (.flat [(0,.int),(1,.int)]) (V.agg [.int .i64 x18,.int .i64 x21]) (V.agg [.int .i64 x6,.int .i64 x9]) fun c40=>
 k38 (not c40) s34)) fun k35=>
 AJ (not (B5 x32 (AA 0))) (
 k35 true s11) (
 A0 c fun n41=>
 k35 (not (B5 x29 (AA n41))) s11))))) (
 K1 c Z)
def mn (a b:Nat) (c d:V) (Z:H):St:=⟨[(0,.ptr a b),(1,c),(2,d)],[],[],Z⟩
def mm (a:V) (Z:H):St:=⟨[(2,a)],[],[],Z⟩
def WR (a b:Nat) (c d:V) (e f:Int) (Z:H):St:=⟨[(0,.ptr a b),(2,c),(14,d),(15,.int .i64 e),(16,.int .i64 f)],[],[],Z⟩
theorem AAc (cc1:XC) (cc2:XC) (a b:Nat) (c d:V) (Z:H) :
 AM E D W N (fM cc1 cc2) (mn a b c d Z) (Hl E) nX (Hl E) =
 Tf E D W (fun a b d e f g Z=>Af (fun rec s'=>AM E D W N cc2 s' (kX Ym [] [] rec) (iu E D W N cc1) (Hl E)) N (WR a b d e f g Z)) a b c d Z:=by kernel_rfl
theorem AAb (cc1:XC) (li2:St->AG) (a b:Nat) (c d:V) (e f:Int) (Z:H) :
 AM E D W N (QO ) (WR a b c d e f Z) (kX Ym [] [] li2) (iu E D W N cc1) (Hl E) =
 Pm E D W (fun c Z=>AM E D W N cc1 (mm c Z) (Hl E) nX (Hl E)) (fun a b c d e f Z=>li2 (WR a b c d e f Z)) a b c d e f Z:=by kernel_rfl
def og (E:EB) (D:Al) (W:AE) (N:Nat):=bG E D W
theorem um (a:V) (Z:H) :
 AM E D W N OW (mm a Z) (Hl E) nX (Hl E)=og E D W N a Z:=by kernel_rfl
def dJ (n:Nat):Nat->Nat->V->V->Int->Int->H->AG:=
 Nat.rec (fun _ _ _ _ _ _ _=>none) (fun _ ih=>Pm E D W (og E D W N ) ih) n
theorem tf (n:Nat):∀(a b:Nat) (c d:V) (e f:Int) (Z:H),
 Af (fun rec s'=>AM E D W N QO s' (kX Ym [] [] rec) (iu E D W N OW) (Hl E)) n (WR a b c d e f Z)=dJ E D W N n a b c d e f Z:=by
 induction n with
 | zero=>intro a b c d e f Z;rfl
 | succ n ihn=>
  intro a b c d e f Z
  rw[Ak]
  refine(AAb E D W N OW (Af (fun rec s'=>AM E D W N QO s' (kX Ym [] [] rec) (iu E D W N OW) (Hl E)) n) a b c d e f Z).trans ?_
  simp only[ihn,um]
  kernel_rfl
def oh:=Tf E D W (dJ E D W N N)
theorem uq (a b:Nat) (c d:V) (Z:H) :
 AM E D W N (fM OW QO) (mn a b c d Z) (Hl E) nX (Hl E)=oh E D W N a b c d Z:=by
 refine(AAc E D W N OW QO  a b c d Z).trans ?_
 simp only[tf]
 kernel_rfl
def wa (args:List V) (Z:H):AG:=
 AB args fun x1 l2=>
 Bv x1 fun b3 o4=>
 AB l2 fun x5 l6=>
 AB l6 fun x7 l8=>
 AT l8 (
 oh E D W N b3 o4 x5 x7 Z)
def A33:C9:=⟨47,[.ptr,.any,.any],[(.tmp 6)],(fM OW QO)⟩
theorem AFi (args:List V) (Z:H):Be E D W N A33 args Z=wa E D W N args Z:=by
 unfold wa
 simp only[<-uq]
 kernel_rfl
def ACk (cc1:XC):XC:=(.z (.q 2 0<|
.q 3 0<|
.nil)
 (.seq (.z (.m 6 0<|
.u 7 6<|
.b 8 .eql .none (.t 7) (.i 0)<|
.nil)
 (.cond (.tmp 8) (.z (.q 2 0<|
.q 3 3<|
.nil)
 .ret)
 .skip))
 (.seq (.z (.m 9 0<|
.u 10 9<|
.b 11 .gtr .none (.t 10) (.i 8)<|
.nil)
 (.cond (.tmp 11) (.z (.q 2 0<|
.q 3 4<|
.nil)
 .ret)
 .skip))
 (.z (.m 12 0<|
.k 13 (.int .u64) 58 [(.t 12)]<|
.P 14 (.conv (.toInt .i64) (.t 13))<|
.m 4 14<|
.nil)
 (.seq (.z (.m 15 0<|
.u 16 15<|
.b 17 .mul .none (.i 8) (.t 16)<|
.b 18 .sub .none (.i 64) (.t 17)<|
.m 5 18<|
.nil)
 (.z (.m 19 5<|
.b 20 .gtr .none (.t 19) (.i 0)<|
.nil)
 (.cond (.tmp 20) (.ops (.m 21 4<|
.m 22 5<|
.b 23 .shl .none (.t 21) (.t 22)<|
.m 24 5<|
.b 25 .shr .none (.t 23) (.t 24)<|
.m 4 25<|
.nil))
 .skip)))
 (.keep [(0,.any),(4,.i)] [] [] cc1))))))
def Lb (E:EB) (D:Al) (W:AE) (K1:V->Int->H->AG) (a:V) (Z:H):AG:=
 A0 a fun n1=>
 AJ (B5 (AA n1) (AA 0)) (
 some ((V.tup [.int .i64 (AA 0),.int .i64 (AA 3)]),Z)) (
 A0 a fun n2=>
 AJ (Cr (AA 8) (AA n2)) (
 some ((V.tup [.int .i64 (AA 0),.int .i64 (AA 4)]),Z)) (
 AV (D 58 [a] Z) fun u3 s4=>
 Aj .u64 u3 fun x5=>
 A0 a fun n6=>
 AJ (Cr (AA 0) (D2 .i64 (AA 64) (Hr .i64 (AA 8) (AA n6)))) (
 Mz (D2 .i64 (AA 64) (Hr .i64 (AA 8) (AA n6))) fun n7=>
 Mz (D2 .i64 (AA 64) (Hr .i64 (AA 8) (AA n6))) fun n8=>
 K1 a (Ge .i64 (Kt .i64 (As .i64 x5) n7) n8) s4) (
 K1 a (As .i64 x5) s4)))
def ACj:XC:=(.seq (.z (.m 26 4<|
.k 27 .one 59 [(.t 26)]<|
.m 28 0<|
.k 29 .bool 17 [(.t 27),(.t 28)]<|
.P 30 (.un .not (.t 29))<|
.nil)
 (.cond (.tmp 30) (.z (.q 2 0<|
.q 3 4<|
.nil)
 .ret)
 .skip))
 (.z (.m 31 4<|
.m 2 31<|
.q 3 0<|
.nil)
 .ret))
def Te (E:EB) (D:Al) (W:AE) (a:V) (b:Int) (Z:H):AG:=
 AV (D 59 [.int .i64 b] Z) fun u1 s2=>
 BU u1 (
 AV (D 17 [u1,a] s2) fun u3 s4=>
 Aa u3 fun x5=>
 AJ (not x5) (
 some ((V.tup [.int .i64 (AA 0),.int .i64 (AA 4)]),s4)) (
 some ((V.tup [.int .i64 b,.int .i64 (AA 0)]),s4)))
def dn (E:EB) (D:Al) (W:AE) (N:Nat):=Te E D W
def F34 (args:List V) (Z:H):AG:=
 AB args fun x1 l2=>
 AT l2 (
 Lb E D W (dn E D W N ) x1 Z)
def A34:C9:=⟨32,[.any],[(.tmp 2),(.tmp 3)],(ACk ACj)⟩
theorem AFh (args:List V) (Z:H):Be E D W N A34 args Z=F34 E D W N args Z:=by kernel_rfl
def ACi:XC:=(.z (.c 2 V.nils<|
.nil)
 (.seq (.z (.m 3 0<|
.b 4 .eql .slice (.t 3) (.con V.nils)<|
.nil)
 (.cond (.tmp 4) (.z (.c 2 V.nils<|
.nil)
 .ret)
 .skip))
 (.z (.p 5 [] (.buildSlice 5 0 [] [])<|
.m 6 0<|
.O 7 .one (.append 5 1 1 (.t 5) (.t 6))<|
.m 2 7<|
.nil)
 .ret)))
def bF (E:EB) (D:Al) (W:AE) (a:V) (Z:H):AG:=
 YA .slice a V.nils fun c1=>
 AJ c1 (
 some (V.nils,Z)) (
 let s2:=B6 Z (.cells []);
 DI E 1 1 (V.sl (H.next Z) 0 0 (.ex 0)) a s2 fun u3 s4=>
 BU u3 (
 some (u3,s4)))
def F36 (N:Nat) (args:List V) (Z:H):AG:=
 AB args fun x1 l2=>
 AT l2 (
 bF E D W x1 Z)
def A36:C9:=⟨8,[.any],[(.tmp 2)],ACi⟩
theorem AFg (args:List V) (Z:H):Be E D W N A36 args Z=F36 E D W N args Z:=by kernel_rfl
def W0:List (Nat × Co):=[(0,.ptr),(1,.any),(5,.any)]
def P8:List BC:=[⟨(some 34),.mov (.tmp 5),none⟩,⟨(some 35),.mov (.tmp 1),none⟩,⟨(some 36),.mov (.tmp 9),none⟩,⟨(some 37),.sliceSl 1 (.tmp 35) none (some (.tmp 36)) none,none⟩,⟨(some 38),.buildSlice 29 1 [V.nils] [(0,1,(.tmp 37))],none⟩,⟨(some 39),.append 29 1 24 (.tmp 34) (.tmp 38),none⟩,⟨(some 40),.mov (.tmp 1),none⟩,⟨(some 41),.mov (.tmp 9),none⟩,⟨(some 42),.sliceSl 1 (.tmp 40) (some (.tmp 41)) none none,none⟩,⟨(some 5),.mov (.tmp 39),none⟩,⟨(some 1),.mov (.tmp 42),none⟩]
def Tt:List DP:=[⟨0,[5]⟩,⟨0,[1]⟩,⟨0,[9]⟩,⟨6,[35,36]⟩,⟨14,[37]⟩,⟨31,[34,38]⟩,⟨0,[1]⟩,⟨0,[9]⟩,⟨192,[40,41]⟩,⟨63,[39]⟩,⟨1023,[42]⟩]
def Hk (E:EB):St->AG:=fun s=>Cy E s [(.tmp 4)] fun l=>some (DH l,s.Z)
def ir (c0:XC):Nat->St->AG:=BN 0 (dX E D W N (.keep [(5,.any)] [] [] c0) (Hk E) nX (Hk E)) nX
def fK (cc1:XC) (cc2:XC):XC:=(.z (.c 4 V.nils<|
.nil)
 (.z (.c 5 V.nils<|
.nil)
 (.seq (.block 0 (.loop W0 [] [] cc2))
 (.keep [(5,.any)] [] [] cc1))))
def ly (E:EB) (D:Al) (W:AE) (K2:Nat->Nat->V->V->H->AG) (a b:Nat) (c:V) (Z:H):AG:=
 K2 a b c V.nils Z
def OV:XC:=(.z (.m 43 5<|
.m 4 43<|
.nil)
 .ret)
def V2 (E:EB) (D:Al) (W:AE) (a:V) (Z:H):AG:=
 some (a,Z)
def QN:XC:=(.seq (.z (.m 11 1<|
.u 12 11<|
.b 13 .gtr .none (.t 12) (.i 0)<|
.m 14 13<|
.gA 14 true (.p 15 [0,14] y9<|
.p 16 [15,14] (.nilck (.t 15))<|
.p 17 [16,14] (.faddr 0 (.t 16))<|
.op (some 18) .bool [17,14] (.load none (.t 17))<|
.p 19 [18,14] (.un .not (.t 18))<|
.nil) 20 14 19<|
.nil)
 (.cond (.tmp 20) .skip
 Lr))
 (.block 1 (.z (.m 22 1<|
.k 23 (.tup [y4,.bool,.any,.i,.i]) 57 [(.t 22)]<|
.m 21 23<|
.P 24 (.extract 0 (.t 21))<|
.P 25 (.extract 1 (.t 21))<|
.P 26 (.extract 2 (.t 21))<|
.P 27 (.extract 3 (.t 21))<|
.P 28 (.extract 4 (.t 21))<|
.pal 6 [] 38 [y0,y0]<|
.op none y4 [6,24] (.store 2 (.t 6) (.t 24))<|
.m 7 25<|
.m 8 26<|
.m 9 27<|
.m 10 28<|
.nil)
 (.seq (.z (.m 29 10<|
.b 30 .neq .none (.t 29) (.i 0)<|
.nil)
 (.cond (.tmp 30) (.z (.m 31 0<|
.n 32 31<|
.f 33 0 32<|
.op none .any [33] (.store 1 (.t 33) QV)<|
.nil)
 Lr)
 .skip))
 (.keep [(0,.ptr),(1,.any),(5,.any),(9,.i)] [] [] (.gdraw P8 Tt W0))))))
def Pk (K1:V->H->AG) (R2:Nat->Nat->V->V->H->AG) (a b:Nat) (c d:V) (Z:H):AG:=
 A0 c fun n1=>
 Ac (fun c2 s3=>
 AJ c2 (
 AV (D 57 [c] s3) fun u5 s6=>
 C1 u5 fun l7=>
 AB l7 fun x8 l9=>
 Ba x8 fun l10=>
 Ah .i64 l10 fun x13 l12=>
 Ah .i64 l12 fun x16 l15=>
 AT l15 (
 C7 l9 fun x19 l18=>
 AB l18 fun x20 l21=>
 Ah .i64 l21 fun x24 l23=>
 Ah .i64 l23 fun x27 l26=>
 AT l26 (
 AJ (not (B5 x27 (AA 0))) (
 FY 1 a b (V.bool true) s6 fun s28=>
 K1 d s28) (
 Cp (W P8 Tt [(0,.ptr a b),(1,c),(5,d),(9,.int .i64 x24)] s6) fun e29 s30=>
 BR e29 0 fun u31=>
 Bv u31 fun b32 o33=>
 BR e29 1 fun u34=>
 BR e29 5 fun u35=>
 R2 b32 o33 u34 u35 s30)))) (
 K1 d s3)) fun k4=>
 AJ (Cr (AA 0) (AA n1)) (
 BY E Z a b fun u36=>
 Aa u36 fun x37=>
 k4 (not x37) Z) (
 k4 false Z)
def ml (a b:Nat) (c:V) (Z:H):St:=⟨[(0,.ptr a b),(1,c)],[],[],Z⟩
def mj (a:V) (Z:H):St:=⟨[(5,a)],[],[],Z⟩
def WQ (a b:Nat) (c d:V) (Z:H):St:=⟨[(0,.ptr a b),(1,c),(5,d)],[],[],Z⟩
theorem AAa (cc1:XC) (cc2:XC) (a b:Nat) (c:V) (Z:H) :
 AM E D W N (fK cc1 cc2) (ml a b c Z) (Hk E) nX (Hk E) =
 ly E D W (fun a b c d Z=>Af (fun rec s'=>AM E D W N cc2 s' (kX W0 [] [] rec) (ir E D W N cc1) (Hk E)) N (WQ a b c d Z)) a b c Z:=by kernel_rfl
theorem AAZ (cc1:XC) (li2:St->AG) (a b:Nat) (c d:V) (Z:H) :
 AM E D W N (QN ) (WQ a b c d Z) (kX W0 [] [] li2) (ir E D W N cc1) (Hk E) =
 Pk E D W (fun d Z=>AM E D W N cc1 (mj d Z) (Hk E) nX (Hk E)) (fun a b c d Z=>li2 (WQ a b c d Z)) a b c d Z:=by kernel_rfl
def oa (E:EB) (D:Al) (W:AE) (N:Nat):=V2 E D W
theorem uj (a:V) (Z:H) :
 AM E D W N OV (mj a Z) (Hk E) nX (Hk E)=oa E D W N a Z:=by kernel_rfl
def dI (n:Nat):Nat->Nat->V->V->H->AG:=
 Nat.rec (fun _ _ _ _ _=>none) (fun _ ih=>Pk E D W (oa E D W N ) ih) n
theorem te (n:Nat):∀(a b:Nat) (c d:V) (Z:H),
 Af (fun rec s'=>AM E D W N QN s' (kX W0 [] [] rec) (ir E D W N OV) (Hk E)) n (WQ a b c d Z)=dI E D W N n a b c d Z:=by
 induction n with
 | zero=>intro a b c d Z;rfl
 | succ n ihn=>
  intro a b c d Z
  rw[Ak]
  refine(AAZ E D W N OV (Af (fun rec s'=>AM E D W N QN s' (kX W0 [] [] rec) (ir E D W N OV) (Hk E)) n) a b c d Z).trans ?_
  simp only[ihn,uj]
  kernel_rfl
def oe:=ly E D W (dI E D W N N)
theorem uk (a b:Nat) (c:V) (Z:H) :
 AM E D W N (fK OV QN) (ml a b c Z) (Hk E) nX (Hk E)=oe E D W N a b c Z:=by
 refine(AAa E D W N OV QN  a b c Z).trans ?_
 simp only[te]
 kernel_rfl
def wZ (args:List V) (Z:H):AG:=
 AB args fun x1 l2=>
 Bv x1 fun b3 o4=>
 AB l2 fun x5 l6=>
 AT l6 (
 oe E D W N b3 o4 x5 Z)
def A38:C9:=⟨44,[.ptr,.any],[(.tmp 4)],(fK OV QN)⟩
theorem AFf (args:List V) (Z:H):Be E D W N A38 args Z=wZ E D W N args Z:=by
 unfold wZ
 simp only[<-uk]
 kernel_rfl
def Qi:List (Nat × Co):=[(2,.any),(3,.i),(4,.ptr),(5,.ptr),(8,.ptr),(9,.ptr),(23,.any),(24,.i),(25,.i)]
def Wz:List (Nat × Co):=[(8,.ptr),(9,.ptr),(65,.any),(66,.i),(67,.i)]
def xQ:List (Nat × Co):=[(2,.any),(8,.ptr),(9,.ptr)]
def P7:List BC:=[⟨(some 15),.faddr 0 (.tmp 5),none⟩,⟨(some 16),.load none (.tmp 15),none⟩,⟨(some 17),.faddr 9 (.tmp 5),none⟩,⟨(some 18),.load none (.tmp 17),none⟩,⟨(some 19),.len false (.tmp 18),none⟩,⟨(some 20),.mkslice 34 6 96 [(V.int .i64 (AA 0)),(V.int .i64 (AA 0)),V.nils,V.nils,(V.int .i64 (AA 0)),V.nils] (.tmp 19) (.tmp 19),none⟩,⟨(some 21),.build [(V.int .i64 (AA 0)),(V.int .i64 (AA 0)),V.nils,V.nils,(V.int .i64 (AA 0)),V.nils] [(0,1,(.tmp 16)),(3,1,(.tmp 20))],none⟩,⟨(some 9),.alloc 34 [(V.int .i64 (AA 0)),(V.int .i64 (AA 0)),V.nils,V.nils,(V.int .i64 (AA 0)),V.nils],none⟩,⟨none,.store 6 (.tmp 9) (.tmp 21),none⟩]
def Ts:List DP:=[⟨0,[5]⟩,⟨1,[15]⟩,⟨0,[5]⟩,⟨4,[17]⟩,⟨12,[18]⟩,⟨28,[19,19]⟩,⟨63,[16,20]⟩,⟨0,[]⟩,⟨255,[9,21]⟩]
def P6:List BC:=[⟨(some 44),.faddr 3 (.tmp 9),none⟩,⟨(some 45),.load none (.tmp 44),none⟩,⟨(some 46),.mov (.tmp 10),none⟩,⟨(some 47),.load none (.tmp 4),none⟩,⟨(some 48),.faddr 1 (.tmp 11),none⟩,⟨(some 49),.load none (.tmp 48),none⟩,⟨(some 50),.mov (.tmp 2),none⟩,⟨(some 51),.mov (.tmp 12),none⟩,⟨(some 52),.iaddrS 1 (.tmp 50) (.tmp 51),none⟩,⟨(some 53),.load none (.tmp 52),none⟩,⟨(some 54),.mov (.tmp 3),none⟩,⟨(some 55),.bin .add .none (.tmp 54) (.con (V.int .i64 (AA 1))),none⟩,⟨(some 56),.call 15 [(.tmp 47),(.tmp 49),(.tmp 53),(.tmp 55)],none⟩,⟨(some 57),.iaddrS 6 (.tmp 45) (.tmp 46),none⟩,⟨none,.store 6 (.tmp 57) (.tmp 56),none⟩]
def Tq:List DP:=[⟨0,[9]⟩,⟨1,[44]⟩,⟨0,[10]⟩,⟨0,[4]⟩,⟨0,[11]⟩,⟨16,[48]⟩,⟨0,[2]⟩,⟨0,[12]⟩,⟨192,[50,51]⟩,⟨448,[52]⟩,⟨0,[3]⟩,⟨1024,[54]⟩,⟨4088,[47,49,53,55]⟩,⟨8191,[45,46]⟩,⟨16383,[57,56]⟩]
def P5:List BC:=[⟨(some 72),.faddr 5 (.tmp 9),none⟩,⟨(some 73),.load none (.tmp 72),none⟩,⟨(some 74),.mov (.tmp 14),none⟩,⟨(some 75),.call 36 [(.tmp 74)],none⟩,⟨(some 76),.build [(V.int .i64 (AA 0)),V.nils] [(1,1,(.tmp 75))],none⟩,⟨(some 77),.buildSlice 47 1 [(V.int .i64 (AA 0)),V.nils] [(0,2,(.tmp 76))],none⟩,⟨(some 78),.append 47 2 32 (.tmp 73) (.tmp 77),none⟩,⟨(some 79),.faddr 5 (.tmp 9),none⟩,⟨none,.store 1 (.tmp 79) (.tmp 78),none⟩]
def OJ:List DP:=[⟨0,[9]⟩,⟨1,[72]⟩,⟨0,[14]⟩,⟨4,[74]⟩,⟨12,[75]⟩,⟨28,[76]⟩,⟨63,[73,77]⟩,⟨127,[9]⟩,⟨255,[79,78]⟩]
def Dd (E:EB):St->AG:=fun s=>Cy E s [(.cell 8 (some 6))] fun l=>some (DH l,s.Z)
def Ua (c0:XC):Nat->St->AG:=BN 0 (dX E D W N (.keep xQ [] [] c0) (Dd E) nX (Dd E)) nX
def iq (c0:XC):Nat->St->AG:=BN 2 (dX E D W N (.keep [(8,.ptr),(9,.ptr)] [] [] c0) (Dd E) nX (Dd E)) nX
def fJ (cc1:XC) (cc2:XC):XC:=(.z (.P 4 (.box 57 (.t 0))<|
.P 5 (.box 97 (.t 1))<|
.p 8 [] pX<|
.nil)
 (.seq (.keep [(2,.any),(3,.i),(4,.ptr),(5,.ptr),(8,.ptr)] [] [] (.gdraw P7 Ts [(2,.any),(3,.i),(4,.ptr),(5,.ptr),(8,.ptr),(9,.ptr)]))
 (.seq (.z (.f 22 9 5<|
.l 23 .any 22<|
.u 24 23<|
.q 25 0<|
.nil)
 (.block 0 (.loop Qi [] [] cc2)))
 (.keep xQ [] [] cc1))))
def Td (E:EB) (D:Al) (W:AE) (K2:V->Int->Nat->Nat->Nat->Nat->Nat->Nat->Nat->Nat->V->Int->Int->H->AG) (a:V) (b:Int) (c:V) (d e f g:Bool) (h i:Int) (j k:V) (l:Int) (m:Bool) (o:Int) (p:V) (q:Int) (Z:H):AG:=
 Gi (V.cells a) Z fun s1=>
 Gi [.int .i64 b,c,.bool d,.bool e,.bool f,.bool g,.int .i64 h,.int .i64 i,j,k,.int .i64 l,.bool m,.int .i64 o] s1 fun s2=>
 let s3:=B6 s2 (.cells [.int .i64 (AA 0),.int .i64 (AA 0),V.nils,V.nils,.int .i64 (AA 0),V.nils]);
 Cp (W P7 Ts [(2,p),(3,.int .i64 q),(4,.ptr (H.next Z) 0),(5,.ptr (H.next s1) 0),(8,.ptr (H.next s2) 0)] s3) fun e4 s5=>
 BR e4 2 fun u6=>
 BR e4 3 fun u7=>
 Aj .i64 u7 fun x8=>
 BR e4 4 fun u9=>
 Bv u9 fun b10 o11=>
 BR e4 5 fun u12=>
 Bv u12 fun b13 o14=>
 BR e4 8 fun u15=>
 Bv u15 fun b16 o17=>
 BR e4 9 fun u18=>
 Bv u18 fun b19 o20=>
 BY E s5 b13 (Ar o14 9) fun u21=>
 A0 u21 fun n22=>
 K2 u6 x8 b10 o11 b13 o14 b16 o17 b19 o20 u21 (AA n22) (AA 0) s5
def J1 (cc4:XC) (cc5:XC):XC:=(.seq (.z (.m 65 2<|
.u 66 65<|
.q 67 0<|
.nil)
 (.block 2 (.loop Wz [] [] cc5)))
 (.keep [(8,.ptr),(9,.ptr)] [] [] cc4))
def V1 (E:EB) (D:Al) (W:AE) (K5:Nat->Nat->Nat->Nat->V->Int->Int->H->AG) (a:V) (b c d e:Nat) (Z:H):AG:=
 A0 a fun n1=>
 K5 b c d e a (AA n1) (AA 0) Z
def QM (cc3:XC):XC:=(.z (.b 26 .lss .none (.t 25) (.t 24)<|
.nil)
 (.seq (.cond (.tmp 26) .skip
 Lr)
 (.seq (.block 1 (.z (.m 27 25<|
.s 28 11 23 25<|
.O 29 kY (.load (some 11) (.t 28))<|
.p 11 [] (.alloc 142 [y8,y0,y3,y3,y0,y0,V.nils,V.nils,y0,V.nils,y0])<|
.m 10 27<|
.op none kY [11,29] (.store 11 (.t 11) (.t 29))<|
.nil)
 (.z (.m 30 2<|
.p 31 [4,11] (.mkfn 64 [] [(.t 4),(.t 11)])<|
.k 32 .i 63 [(.t 30),(.t 31)]<|
.m 12 32<|
.nil)
 (.seq (.z (.m 33 12<|
.b 34 .lss .none (.t 33) (.i 0)<|
.m 35 34<|
.gO 35 false (.p 36 [12,35] (.mov (.t 12))<|
.p 37 [36,35] (.bin .gtr .none (.t 36) (.i 0))<|
.p 38 [37,35] (.mov (.t 37))<|
.grp 38 true (.p 39 [5,38] (.faddr 0 (.t 5))<|
.op (some 40) .i [39,38] (.load none (.t 39))<|
.p 41 [40,38] (.bin .eql .none (.t 40) (.i 7))<|
.nil) 42 [38,41,35] (.t 38) (.t 41) Kl<|
.nil) 43 35 42<|
.nil)
 (.cond (.tmp 43) (.exit 1)
 .skip))
 (.seq (.keep [(2,.any),(3,.i),(4,.ptr),(5,.ptr),(8,.ptr),(9,.ptr),(10,.i),(11,.ptr),(12,.i),(23,.any),(24,.i),(25,.i)] [] [] (.gdraw P6 Tq [(2,.any),(3,.i),(4,.ptr),(5,.ptr),(8,.ptr),(9,.ptr),(12,.i),(23,.any),(24,.i),(25,.i)]))
 (.ops (.m 58 2<|
.k 59 .one 66 [(.t 58)]<|
.m 60 12<|
.m 61 12<|
.b 62 .add .none (.t 61) (.i 1)<|
.k 63 .one 65 [(.t 59),(.t 60),(.t 62)]<|
.m 2 63<|
.nil)))))))
 (.keep Qi [] [] cc3))))
def Ij (K1:V->Nat->Nat->Nat->Nat->H->AG) (K3:V->Int->Nat->Nat->Nat->Nat->Nat->Nat->Nat->Nat->V->Int->Int->H->AG) (a:V) (b:Int) (c d e f g h i j:Nat) (k:V) (l m:Int) (Z:H):AG:=
 AJ (Cr m l) (
 Ab 11 k m fun b1 o2=>
 BV E Z b1 o2 11 fun l3=>
 Hz l3 fun x6 l5=>
 Ah .i64 l5 fun x9 l8=>
 C7 l8 fun x12 l11=>
 C7 l11 fun x15 l14=>
 Ah .i64 l14 fun x18 l17=>
 Ah .i64 l17 fun x21 l20=>
 AB l20 fun x22 l23=>
 AB l23 fun x24 l25=>
 Ah .i64 l25 fun x28 l27=>
 AB l27 fun x29 l30=>
 Ah .i64 l30 fun x33 l32=>
 AT l32 (
 let s34:=B6 Z (.cells [.str ⟨0,0⟩,.int .i64 (AA 0),.bool false,.bool false,.int .i64 (AA 0),.int .i64 (AA 0),V.nils,V.nils,.int .i64 (AA 0),V.nils,.int .i64 (AA 0)]);
 FY 11 (H.next Z) 0 (V.agg [.str x6,.int .i64 x9,.bool x12,.bool x15,.int .i64 x18,.int .i64 x21,x22,x24,.int .i64 x28,x29,.int .i64 x33]) s34 fun s35=>
 AV (D 63 [a,.fn 64 [] [.ptr c d,.ptr (H.next Z) 0]] s35) fun u36 s37=>
 Aj .i64 u36 fun x38=>
 Ac (fun c39 s40=>
 AJ c39 (
 K3 a b c d e f g h i j k l m s40) (
 Cp (W P6 Tq [(2,a),(3,.int .i64 b),(4,.ptr c d),(5,.ptr e f),(8,.ptr g h),(9,.ptr i j),(10,.int .i64 m),(11,.ptr (H.next Z) 0),(12,.int .i64 x38),(23,k),(24,.int .i64 l),(25,.int .i64 m)] s40) fun e42 s43=>
 BR e42 2 fun u44=>
 BR e42 3 fun u45=>
 Aj .i64 u45 fun x46=>
 BR e42 4 fun u47=>
 Bv u47 fun b48 o49=>
 BR e42 5 fun u50=>
 Bv u50 fun b51 o52=>
 BR e42 8 fun u53=>
 Bv u53 fun b54 o55=>
 BR e42 9 fun u56=>
 Bv u56 fun b57 o58=>
 BR e42 12 fun u59=>
 Aj .i64 u59 fun x60=>
 BR e42 23 fun u61=>
 BR e42 24 fun u62=>
 Aj .i64 u62 fun x63=>
 BR e42 25 fun u64=>
 Aj .i64 u64 fun x65=>
 AV (D 66 [u44] s43) fun u66 s67=>
 BU u66 (
 AV (D 65 [u66,.int .i64 x60,.int .i64 (CM .i64 x60 (AA 1))] s67) fun u68 s69=>
 BU u68 (
 K3 u68 x46 b48 o49 b51 o52 b54 o55 b57 o58 u61 x63 x65 s69)))) fun k41=>
 AJ (Cr x38 (AA 0)) (
 k41 true s37) (
 Ac (fun c70 s71=>
 k41 c70 s71) fun k72=>
 AJ (Cr (AA 0) x38) (
 BY E s37 e f fun u73=>
 Aj .i64 u73 fun x74=>
 k72 (B5 x74 (AA 7)) s37) (
 k72 false s37)))) (
 K1 a g h i j Z)
def Mq:XC:=(.ops (.b 64 .add .none (.t 25) (.i 1)<|
.m 25 64<|
.nil))
def lx (E:EB) (D:Al) (W:AE) (R2:V->Int->Nat->Nat->Nat->Nat->Nat->Nat->Nat->Nat->V->Int->Int->H->AG) (a:V) (b:Int) (c d e f g h i j:Nat) (k:V) (l m:Int) (Z:H):AG:=
 R2 a b c d e f g h i j k l (CM .i64 m (AA 1)) Z
def Hq:XC:=(.z (.O 81 y1 (.load (some 6) (.t 9))<|
.op none y1 [8,81] (.store 6 (.t 8) (.t 81))<|
.nil)
 .ret)
def V0 (E:EB) (D:Al) (W:AE) (a b c d:Nat) (Z:H):AG:=
 BV E Z c d 6 fun l1=>
 Ah .i64 l1 fun x4 l3=>
 Ah .i64 l3 fun x7 l6=>
 AB l6 fun x8 l9=>
 AB l9 fun x10 l11=>
 Ah .i64 l11 fun x14 l13=>
 AB l13 fun x15 l16=>
 AT l16 (
 FY 6 a b (V.agg [.int .i64 x4,.int .i64 x7,x8,x10,.int .i64 x14,x15]) Z fun s17=>
 BV E s17 a b 6 fun u18=>
 some ((V.agg u18),s17))
def IK:XC:=(.z (.b 68 .lss .none (.t 67) (.t 66)<|
.nil)
 (.seq (.cond (.tmp 68) .skip
 (.exit 2))
 (.seq (.block 3 (.z (.s 69 1 65 67<|
.l 70 .any 69<|
.m 14 70<|
.nil)
 (.z (.f 71 4 9<|
.op none .any [71] (.store 1 (.t 71) (.i 1))<|
.nil)
 (.keep [(8,.ptr),(9,.ptr),(14,.any),(65,.any),(66,.i),(67,.i)] [] [] (.gdraw P5 OJ Wz)))))
 (.ops (.b 80 .add .none (.t 67) (.i 1)<|
.m 67 80<|
.nil)))))
def Pj (E:EB) (D:Al) (W:AE) (K4:Nat->Nat->Nat->Nat->H->AG) (R5:Nat->Nat->Nat->Nat->V->Int->Int->H->AG) (a b c d:Nat) (e:V) (f g:Int) (Z:H):AG:=
 AJ (Cr g f) (
 Ab 1 e g fun b1 o2=>
 BY E Z b1 o2 fun u3=>
 FY 1 c (Ar d 4) (V.int .i64 (AA 1)) Z fun s4=>
 Cp (W P5 OJ [(8,.ptr a b),(9,.ptr c d),(14,u3),(65,e),(66,.int .i64 f),(67,.int .i64 g)] s4) fun e5 s6=>
 BR e5 8 fun u7=>
 Bv u7 fun b8 o9=>
 BR e5 9 fun u10=>
 Bv u10 fun b11 o12=>
 BR e5 65 fun u13=>
 BR e5 66 fun u14=>
 Aj .i64 u14 fun x15=>
 BR e5 67 fun u16=>
 Aj .i64 u16 fun x17=>
 R5 b8 o9 b11 o12 u13 x15 (CM .i64 x17 (AA 1)) s6) (
 K4 a b c d Z)
def mi (a:V) (b:Int) (c:V) (d e f g:Bool) (h i:Int) (j k:V) (l:Int) (m:Bool) (o:Int) (p:V) (q:Int) (Z:H):St:=⟨[(0,a),(1,.agg [.int .i64 b,c,.bool d,.bool e,.bool f,.bool g,.int .i64 h,.int .i64 i,j,k,.int .i64 l,.bool m,.int .i64 o]),(2,p),(3,.int .i64 q)],[],[],Z⟩
def cU (a:V) (b c d e:Nat) (Z:H):St:=⟨[(2,a),(8,.ptr b c),(9,.ptr d e)],[],[],Z⟩
def Mk (a:V) (b:Int) (c d e f g h i j:Nat) (k:V) (l m:Int) (Z:H):St:=⟨[(2,a),(3,.int .i64 b),(4,.ptr c d),(5,.ptr e f),(8,.ptr g h),(9,.ptr i j),(23,k),(24,.int .i64 l),(25,.int .i64 m)],[],[],Z⟩
def mh (a b c d:Nat) (Z:H):St:=⟨[(8,.ptr a b),(9,.ptr c d)],[],[],Z⟩
def WO (a b c d:Nat) (e:V) (f g:Int) (Z:H):St:=⟨[(8,.ptr a b),(9,.ptr c d),(65,e),(66,.int .i64 f),(67,.int .i64 g)],[],[],Z⟩
theorem AAY (cc1:XC) (cc2:XC) (a:V) (b:Int) (c:V) (d e f g:Bool) (h i:Int) (j k:V) (l:Int) (m:Bool) (o:Int) (p:V) (q:Int) (Z:H) :
 AM E D W N (fJ cc1 cc2) (mi a b c d e f g h i j k l m o p q Z) (Dd E) nX (Dd E) =
 Td E D W (fun p q r s t u v w x y z B I Z=>Af (fun rec s'=>AM E D W N cc2 s' (kX Qi [] [] rec) (Ua E D W N cc1) (Dd E)) N (Mk p q r s t u v w x y z B I Z)) a b c d e f g h i j k l m o p q Z:=by kernel_rfl
theorem AAX (cc4:XC) (cc5:XC) (a:V) (b c d e:Nat) (Z:H) :
 AM E D W N (J1 cc4 cc5) (cU a b c d e Z) (Dd E) nX (Dd E) =
 V1 E D W (fun b c d e f g h Z=>Af (fun rec s'=>AM E D W N cc5 s' (kX Wz [] [] rec) (iq E D W N cc4) (Dd E)) N (WO b c d e f g h Z)) a b c d e Z:=by kernel_rfl
theorem AAW (cc1:XC) (cc3:XC) (li2:St->AG) (a:V) (b:Int) (c d e f g h i j:Nat) (k:V) (l m:Int) (Z:H) :
 AM E D W N (QM cc3) (Mk a b c d e f g h i j k l m Z) (kX Qi [] [] li2) (Ua E D W N cc1) (Dd E) =
 Ij E D W (fun a g h i j Z=>AM E D W N cc1 (cU a g h i j Z) (Dd E) nX (Dd E)) (fun a b c d e f g h i j k l m Z=>AM E D W N cc3 (Mk a b c d e f g h i j k l m Z) (kX Qi [] [] li2) (Ua E D W N cc1) (Dd E)) a b c d e f g h i j k l m Z:=by kernel_rfl
theorem AAV (cc1:XC) (li2:St->AG) (a:V) (b:Int) (c d e f g h i j:Nat) (k:V) (l m:Int) (Z:H) :
 AM E D W N (Mq ) (Mk a b c d e f g h i j k l m Z) (kX Qi [] [] li2) (Ua E D W N cc1) (Dd E) =
 lx E D W (fun a b c d e f g h i j k l m Z=>li2 (Mk a b c d e f g h i j k l m Z)) a b c d e f g h i j k l m Z:=by kernel_rfl
theorem AAU (cc4:XC) (li5:St->AG) (a b c d:Nat) (e:V) (f g:Int) (Z:H) :
 AM E D W N (IK ) (WO a b c d e f g Z) (kX Wz [] [] li5) (iq E D W N cc4) (Dd E) =
 Pj E D W (fun a b c d Z=>AM E D W N cc4 (mh a b c d Z) (Dd E) nX (Dd E)) (fun a b c d e f g Z=>li5 (WO a b c d e f g Z)) a b c d e f g Z:=by kernel_rfl
def oX (E:EB) (D:Al) (W:AE) (N:Nat):=V0 E D W
theorem uf (a b c d:Nat) (Z:H) :
 AM E D W N Hq (mh a b c d Z) (Dd E) nX (Dd E)=oX E D W N a b c d Z:=by kernel_rfl
def dH (n:Nat):Nat->Nat->Nat->Nat->V->Int->Int->H->AG:=
 Nat.rec (fun _ _ _ _ _ _ _ _=>none) (fun _ ih=>Pj E D W (oX E D W N ) ih) n
theorem tc (n:Nat):∀(a b c d:Nat) (e:V) (f g:Int) (Z:H),
 Af (fun rec s'=>AM E D W N IK s' (kX Wz [] [] rec) (iq E D W N Hq) (Dd E)) n (WO a b c d e f g Z)=dH E D W N n a b c d e f g Z:=by
 induction n with
 | zero=>intro a b c d e f g Z;rfl
 | succ n ihn=>
  intro a b c d e f g Z
  rw[Ak]
  refine(AAU E D W N Hq (Af (fun rec s'=>AM E D W N IK s' (kX Wz [] [] rec) (iq E D W N Hq) (Dd E)) n) a b c d e f g Z).trans ?_
  simp only[ihn,uf]
  kernel_rfl
def dm:=V1 E D W (dH E D W N N)
theorem uh (a:V) (b c d e:Nat) (Z:H) :
 AM E D W N (J1 Hq IK) (cU a b c d e Z) (Dd E) nX (Dd E)=dm E D W N a b c d e Z:=by
 refine(AAX E D W N Hq IK  a b c d e Z).trans ?_
 simp only[tc]
 kernel_rfl
def oY (E:EB) (D:Al) (W:AE) (N:Nat) (R2:V->Int->Nat->Nat->Nat->Nat->Nat->Nat->Nat->Nat->V->Int->Int->H->AG):=lx E D W R2
theorem ug (li2:St->AG) (a:V) (b:Int) (c d e f g h i j:Nat) (k:V) (l m:Int) (Z:H) :
 AM E D W N Mq (Mk a b c d e f g h i j k l m Z) (kX Qi [] [] li2) (Ua E D W N (J1 Hq IK)) (Dd E)=oY E D W N (fun a b c d e f g h i j k l m Z=>li2 (Mk a b c d e f g h i j k l m Z)) a b c d e f g h i j k l m Z:=by
 refine(AAV E D W N (J1 Hq IK) li2 a b c d e f g h i j k l m Z).trans ?_
 kernel_rfl
def To (n:Nat):V->Int->Nat->Nat->Nat->Nat->Nat->Nat->Nat->Nat->V->Int->Int->H->AG:=
 Nat.rec (fun _ _ _ _ _ _ _ _ _ _ _ _ _ _=>none) (fun _ ih=>Ij E D W (dm E D W N ) (oY E D W N ih)) n
theorem td (n:Nat):∀(a:V) (b:Int) (c d e f g h i j:Nat) (k:V) (l m:Int) (Z:H),
 Af (fun rec s'=>AM E D W N (QM Mq) s' (kX Qi [] [] rec) (Ua E D W N (J1 Hq IK)) (Dd E)) n (Mk a b c d e f g h i j k l m Z)=To E D W N n a b c d e f g h i j k l m Z:=by
 induction n with
 | zero=>intro a b c d e f g h i j k l m Z;rfl
 | succ n ihn=>
  intro a b c d e f g h i j k l m Z
  rw[Ak]
  refine(AAW E D W N (J1 Hq IK) Mq (Af (fun rec s'=>AM E D W N (QM Mq) s' (kX Qi [] [] rec) (Ua E D W N (J1 Hq IK)) (Dd E)) n) a b c d e f g h i j k l m Z).trans ?_
  simp only[ihn,uh,ug]
  kernel_rfl
def oZ:=Td E D W (To E D W N N)
theorem ui (a:V) (b:Int) (c:V) (d e f g:Bool) (h i:Int) (j k:V) (l:Int) (m:Bool) (o:Int) (p:V) (q:Int) (Z:H) :
 AM E D W N (fJ (J1 Hq IK) (QM Mq)) (mi a b c d e f g h i j k l m o p q Z) (Dd E) nX (Dd E)=oZ E D W N a b c d e f g h i j k l m o p q Z:=by
 refine(AAY E D W N (J1 Hq IK) (QM Mq)  a b c d e f g h i j k l m o p q Z).trans ?_
 simp only[td]
 kernel_rfl
def wY (args:List V) (Z:H):AG:=
 AB args fun x1 l2=>
 AB l2 fun x3 l4=>
 Ba x3 fun l5=>
 Ah .i64 l5 fun x8 l7=>
 AB l7 fun x9 l10=>
 C7 l10 fun x13 l12=>
 C7 l12 fun x16 l15=>
 C7 l15 fun x19 l18=>
 C7 l18 fun x22 l21=>
 Ah .i64 l21 fun x25 l24=>
 Ah .i64 l24 fun x28 l27=>
 AB l27 fun x29 l30=>
 AB l30 fun x31 l32=>
 Ah .i64 l32 fun x35 l34=>
 C7 l34 fun x38 l37=>
 Ah .i64 l37 fun x41 l40=>
 AT l40 (
 AB l4 fun x42 l43=>
 Ah .i64 l43 fun x46 l45=>
 AT l45 (
 oZ E D W N x1 x8 x9 x13 x16 x19 x22 x25 x28 x29 x31 x35 x38 x41 x42 x46 Z))
def A39:C9:=⟨82,[.any,y2,.any,.i],[(.cell 8 (some 6))],(fJ (J1 Hq IK) (QM Mq))⟩
theorem AFe (args:List V) (Z:H):Be E D W N A39 args Z=wY E D W N args Z:=by
 unfold wY
 simp only[<-ui]
 kernel_rfl
def ACh:XC:=(.z (.P 3 (.box 26 (.t 0))<|
.P 5 (.box 34 (.t 2))<|
.c 6 y3<|
.nil)
 (.z (.O 8 y6 (.load (some 4) (.t 3))<|
.op (some 9) y6 [8] (.build [y8,V.nils,V.nils,V.nils] [(0,4,(.t 8))])<|
.op (some 10) (.agg [.str,.any,.any,.any,.bool]) [9] (.build [y8,V.nils,V.nils,V.nils,y3] [(0,4,(.t 9))])<|
.P 11 (.box 152 (.t 10))<|
.m 7 11<|
.nil)
 (.z (.m 12 7<|
.m 13 1<|
.O 14 y1 (.load (some 6) (.t 5))<|
.k 15 .bool 67 [(.t 12),(.t 13),(.t 14),(.i 1)]<|
.m 16 15<|
.gA 16 true (.op (some 17) y1 [5,16] (.load (some 6) (.t 5))<|
.op (some 18) .i [17,16] (.call 68 [(.t 17)])<|
.p 19 [18,16] (.bin .leq .none (.t 18) (.i 5000))<|
.nil) 20 16 19<|
.m 6 20<|
.nil)
 .ret)))
def bE (E:EB) (D:Al) (W:AE) (a:BS) (b c d:V) (e f g:Int) (h i:V) (j:Int) (k:V) (Z:H):AG:=
 Gi [.str a,b,c,d] Z fun s1=>
 Gi [.int .i64 f,.int .i64 g,h,i,.int .i64 j,k] s1 fun s2=>
 BV E s2 (H.next Z) 0 4 fun l3=>
 Hz l3 fun x6 l5=>
 AB l5 fun x7 l8=>
 AB l8 fun x9 l10=>
 AB l10 fun x11 l12=>
 AT l12 (
 Gi [.str x6,x7,x9,x11,.bool false] s2 fun s13=>
 BV E s13 (H.next s1) 0 6 fun l14=>
 Ah .i64 l14 fun x17 l16=>
 Ah .i64 l16 fun x20 l19=>
 AB l19 fun x21 l22=>
 AB l22 fun x23 l24=>
 Ah .i64 l24 fun x27 l26=>
 AB l26 fun x28 l29=>
 AT l29 (
 AV (D 67 [.ptr (H.next s2) 0,.int .i64 e,.agg [.int .i64 x17,.int .i64 x20,x21,x23,.int .i64 x27,x28],.int .i64 (AA 1)] s13) fun u30 s31=>
 Aa u30 fun x32=>
 Ac (fun c33 s34=>
 some ((V.bool c33),s34)) fun k35=>
 AJ x32 (
 BV E s31 (H.next s1) 0 6 fun l36=>
 Ah .i64 l36 fun x39 l38=>
 Ah .i64 l38 fun x42 l41=>
 AB l41 fun x43 l44=>
 AB l44 fun x45 l46=>
 Ah .i64 l46 fun x49 l48=>
 AB l48 fun x50 l51=>
 AT l51 (
 AV (D 68 [.agg [.int .i64 x39,.int .i64 x42,x43,x45,.int .i64 x49,x50]] s31) fun u52 s53=>
 Aj .i64 u52 fun x54=>
 k35 (I7 x54 (AA 5000)) s53)) (
 k35 false s31)))
def F40 (N:Nat) (args:List V) (Z:H):AG:=
 AB args fun x1 l2=>
 Ba x1 fun l3=>
 Hz l3 fun x6 l5=>
 AB l5 fun x7 l8=>
 AB l8 fun x9 l10=>
 AB l10 fun x11 l12=>
 AT l12 (
 Ah .i64 l2 fun x15 l14=>
 AB l14 fun x16 l17=>
 Ba x16 fun l18=>
 Ah .i64 l18 fun x21 l20=>
 Ah .i64 l20 fun x24 l23=>
 AB l23 fun x25 l26=>
 AB l26 fun x27 l28=>
 Ah .i64 l28 fun x31 l30=>
 AB l30 fun x32 l33=>
 AT l33 (
 AT l17 (
 bE E D W x6 x7 x9 x11 x15 x21 x24 x25 x27 x31 x32 Z)))
def A40:C9:=⟨21,[y6,.i,y1],[(.tmp 6)],ACh⟩
theorem AFd (args:List V) (Z:H):Be E D W N A40 args Z=F40 E D W N args Z:=by kernel_rfl
def ACg:XC:=(.z (.P 2 (.box 34 (.t 0))<|
.P 3 (.box 3 (.t 1))<|
.c 4 y3<|
.nil)
 (.z (.f 5 4 2<|
.l 6 .i 5<|
.b 7 .eql .none (.t 6) (.i 0)<|
.m 8 7<|
.gO 8 false (.p 9 [2,8] (.faddr 4 (.t 2))<|
.op (some 10) .i [9,8] (.load none (.t 9))<|
.op (some 11) .i [3,8] (.load none (.t 3))<|
.p 12 [10,11,8] (.bin .eql .none (.t 10) (.t 11))<|
.nil) 13 8 12<|
.m 14 13<|
.gA 14 true (.p 15 [2,14] (.faddr 3 (.t 2))<|
.p 16 [15,14] (.load none (.t 15))<|
.p 17 [3,14] (.mkfn 70 [] [(.t 3)])<|
.op (some 18) .bool [16,17,14] (.call 69 [(.t 16),(.t 17)])<|
.p 19 [18,14] (.un .not (.t 18))<|
.nil) 20 14 19<|
.m 4 20<|
.nil)
 .ret))
def yl (E:EB) (D:Al) (W:AE) (a b:Int) (c d:V) (e:Int) (f:V) (g:Int) (Z:H):AG:=
 Gi [.int .i64 a,.int .i64 b,c,d,.int .i64 e,f] Z fun s1=>
 Gi (V.cells (V.int .i64 g)) s1 fun s2=>
 BY E s2 (H.next Z) 4 fun u3=>
 Aj .i64 u3 fun x4=>
 Ac (fun c5 s6=>
 Ac (fun c8 s9=>
 some ((V.bool c8),s9)) fun k10=>
 AJ c5 (
 BY E s6 (H.next Z) 3 fun u11=>
 AV (D 69 [u11,.fn 70 [] [.ptr (H.next s1) 0]] s6) fun u12 s13=>
 Aa u12 fun x14=>
 k10 (not x14) s13) (
 k10 false s6)) fun k7=>
 AJ (B5 x4 (AA 0)) (
 k7 true s2) (
 BY E s2 (H.next Z) 4 fun u15=>
 Aj .i64 u15 fun x16=>
 BY E s2 (H.next s1) 0 fun u17=>
 Aj .i64 u17 fun x18=>
 k7 (B5 x16 x18) s2)
def F41 (N:Nat) (args:List V) (Z:H):AG:=
 AB args fun x1 l2=>
 Ba x1 fun l3=>
 Ah .i64 l3 fun x6 l5=>
 Ah .i64 l5 fun x9 l8=>
 AB l8 fun x10 l11=>
 AB l11 fun x12 l13=>
 Ah .i64 l13 fun x16 l15=>
 AB l15 fun x17 l18=>
 AT l18 (
 Ah .i64 l2 fun x21 l20=>
 AT l20 (
 yl E D W x6 x9 x10 x12 x16 x17 x21 Z))
def A41:C9:=⟨21,[y1,.i],[(.tmp 4)],ACg⟩
theorem AFc (args:List V) (Z:H):Be E D W N A41 args Z=F41 E D W N args Z:=by kernel_rfl
end
end Go.Proofs.YtoengnbdallegaaGreatDoor
