/- What the last text leans on, part 3 of 7: merged out of smaller texts. No condition. -/
import GoSem.ClaimChange
import Derived.Below
import Derived.KernelRfl
import Derived.Test.YtnpcmeaplmfdlaaDoorQ1
open Int renaming ofNat -> AA
open Nat renaming le_refl -> AG,le_trans -> AN,beq_eq -> AQ,add -> AU,lt_or_ge -> Ad,beq -> Ag,zero_le -> CD,blt -> Cf,lt_of_lt_of_le -> Cz,le_succ -> D3,lt_succ_self -> IJ,sub_zero -> L5,strongRecOn -> NQ,lt_succ_of_lt -> RY,lt_trichotomy -> wR
open Bool renaming and_eq_true -> AF,or_eq_false_iff -> BN,or_eq_true -> Bg,false_eq_true -> Cd,not_eq_true' -> Cq
open Option renaming some -> AK
open List renaming getElem?_eq_getElem -> AY,getElem?_eq_none -> Af,mem_cons_of_mem -> Ah,mem_cons_self -> As,getD_eq_getElem?_getD -> BA,mem_cons -> BF,getElem?_map -> Bk,map_cons -> B3,getElem?_cons_succ -> CN,range -> Hi,mem_map -> I1,cons_append -> L8,mapM_cons -> RZ,eq_nil_iff_forall_not_mem -> UL,mem_range -> nL
open Array renaming getElem?_setIfInBounds -> A1,getElem?_eq_none -> Bq,getElem?_eq_getElem -> DY,size_setIfInBounds -> Dq,getD_eq_getD_getElem? -> D8,getElem?_toList -> GZ,replicate -> G2,mem_of_getElem? -> J0,getElem?_append_left -> LG,mapM_eq_mapM_toList -> MC,getElem?_eq_some_iff -> nN,getElem?_replicate -> ABj
set_option linter.unusedSimpArgs false
namespace Go.Og
variable {P:Program} {D:BB} {C:Cx}
theorem Px:∀{l:List BR},SA l=true->∀o∈l,o.op ≠ .bad
 | [],_,o,ho=>by simp at ho
 | a::l,h,o,ho=>by
  simp only[SA,AF]at h
  rcases BF.1 ho with rfl|ho
  ·intro hb;rw[hb]at h;cases h.1
  ·exact Px h.2 o ho
def A4 (R:Ren) (B:Bs) (x:Option Value):Oc->Prop
 | .val v=>∃y,x=some y/\Ar R v=some y
 | .mark m off=>∃i,B m=some i/\x=some (.pointer (some ⟨i.blk,i.shift+off,none⟩))
 | .pal d _=>∃i,B d=some i/\x=some (.pointer (some ⟨i.blk,i.shift+0,none⟩))
theorem A4.mono {R R':Ren} {B B':Bs} {x:Option Value} {c:Oc} (h:A4 R B x c) (hR:Le R R') (hB:∀m i,B m=some i->B' m=some i):A4 R' B' x c:=by
 cases c with
 | val v=>obtain⟨y,h1,h2⟩:=h;exact⟨y,h1,Ch hR v y h2⟩
 | mark m off=>obtain⟨i,h1,h2⟩:=h;exact⟨i,hB _ _ h1,h2⟩
 | pal d z=>obtain⟨i,h1,h2⟩:=h;exact⟨i,hB _ _ h1,h2⟩
set_option maxHeartbeats 2000000 in
theorem ch (hD:∀f,B5 P C.E C.G f (D f)) (hmix:P.follows .mixedOrders=true) {nR:Nat} {R0:Ren} {nt:Nat} (rid:Nat) {ops:Array Oper} {l:XL} {ancs:List Nat}
    (hflat:l.flat none=ops.toList.map (BC P C.G nt ops)) (hpl:List.zipWith DP.mk ancs l.lks=GK ops) (hplan:Ns ops (ops.toList.map (BC P C.G nt ops)) (GK ops)=true)
    (hok:l.okG none none=true) (hdo:Yp (l.flat none) ancs=true) (hanl:ancs.length=l.lks.length) (hmk:l.makes=false) (hnb:SA (l.flat none)=true)
    {s:St} {a0:Act} {w00:World} {J:Bt->Qs->Rg->H->AH} {res:V × H} (hpo:Il s.q l.pals=true)
    (h:GB C.E D true true 0 l 0 s.e s.q s.r s.Z J=some res) (hI:M7 C nR R0 nt s a0 w00) (Q:Exit->Act->World->Prop)
    (hQ:∀s' a' w',J s'.e s'.q s'.r s'.Z=some res->M7 C nR R0 nt s' a' w'->Q .normal a' w'):(Code.region rid ops true).wp P Q a0 w00:=by
  obtain⟨s',hrun,hκ,_⟩:=HX l none none none true 0 s J res h hok (.inl ⟨rfl,rfl⟩) (fun _=>hmk)
  obtain⟨sts,oc,ex,hst0,hs',hat⟩:=V0 hrun
  rw[Qv]at hs'
  obtain⟨hfl1,hfl2⟩:=Gk l none
  have hsz:l.size=ops.size:=by rw[<-hfl1,hflat];simp
  generalize hnn:ops.size=n at *
  rw[hsz]at hs'
  have F:=Pr (l:=ops.toList.map (BC P C.G nt ops)) (by simp) hplan
  have hgood:∀(i:Nat) (o:Oper),ops[i]? = some o->∃g,BC P C.G nt ops o=⟨o.dst,Ac P C.G o.op,g⟩/\OJ ops o.guard=some g/\GG nt o.dst=true:=by
    intro i o ho
    have hmem:BC P C.G nt ops o∈l.flat none:=by
      rw[hflat,I1]
      exact⟨o,by simpa using J0 ho,rfl⟩
    have hb:=Px hnb _ hmem
    unfold BC at hb ⊢
    split at hb
    · rename_i g h1 h2;exact⟨g,rfl,h1,h2⟩
    · exact(hb rfl).elim
  have hlt:∀{i:Nat} {o:Oper},ops[i]? = some o->i<n:=fun {i o} ho=>by
    rcases Ad i ops.size with h|h
    · omega
    · rw[Bq h]at ho;cases ho
  have some3:∀(i:Nat),i<n->∃(o:Oper) (p:DP),ops[i]? = some o/\(GK ops)[i]? = some p/\ancs.getD i 0=p.anc/\(l.flat none)[i]? = some (BC P C.G nt ops o)/\At C.E D (sts i) (BC P C.G nt ops o) p.looks (oc i) (ex i) (sts (i+1)):=by
    intro i hi
    have h1:i<ops.size:=by omega
    have ho:ops[i]? = some ops[i]:=DY h1
    have hf:(l.flat none)[i]? = some (BC P C.G nt ops ops[i]):=by
      rw[hflat,Bk,GZ,ho];rfl
    have hk:l.lks[i]? = some (l.lks[i]'(by omega)):=AY _
    have ha:ancs[i]? = some (ancs[i]'(by omega)):=AY _
    refine⟨ops[i],⟨ancs[i]'(by omega),l.lks[i]'(by omega)⟩,ho,?_,?_,hf,?_⟩
    · rw[<-hpl,List.getElem?_zipWith,ha,hk]
    · rw[BA,ha];rfl
    · exact hat i _ _ (by rw[List.getElem?_zip_eq_some];exact⟨hf,hk⟩)
  have hdlt:∀(i:Nat) (o:Oper) (t:Nat),ops[i]? = some o->o.dst=some t->t<nt:=by
    intro i o t ho ht
    obtain⟨g,_,_,hd⟩:=hgood i o ho
    rw[ht]at hd;simpa[GG]using hd
  have hdu:∀(i k:Nat) (o o':Oper) (t:Nat),i≠k->ops[i]? = some o->ops[k]? = some o'->o.dst=some t->o'.dst≠some t:=by
    intro i k o o' t hne ho ho' ht
    obtain⟨o1,p1,h1,h2,_⟩:=some3 i (hlt ho)
    obtain⟨o2,p2,h3,h4,_⟩:=some3 k (hlt ho')
    exact(F.dsts i k o o' p1 p2 hne ho ho' h2 h4 t ht).1
  have hpald:∀(k m:Nat) (z:List V),k<n->oc k = .pal m z->ex k=true/\∃(o:Oper) (el:TypeId),ops[k]? = some o/\o.dst=some m/\Ac P C.G o.op = .alloc el z:=by
    intro k m z hk hc
    obtain⟨o,p,ho,_,_,_,hA⟩:=some3 k hk
    obtain⟨g,hg,_,_⟩:=hgood k o ho
    rw[hg]at hA
    rw[hc]at hA
    generalize ex k=x at hA ⊢
    cases hA with
    | pal _ d el z hd ho' hw h=>exact⟨rfl,o,el,ho,hd,ho'⟩
  have hpalu:∀(k k' m:Nat) (z z':List V),k<n->k'<n->oc k = .pal m z->oc k' = .pal m z'->k=k':=by
    intro k k' m z z' hk hk' h1 h2
    rcases Nat.decEq k k' with hne|he
    · exfalso
      obtain⟨_,o,_,ho,hd,_⟩:=hpald k m z hk h1
      obtain⟨_,o',_,ho',hd',_⟩:=hpald k' m z' hk' h2
      exact hdu k k' o o' m hne ho ho' hd hd'
    · exact he
  let W:Nat->Prop:=fun i=>ex i=true/\∃o:Oper,ops[i]? = some o/\(Ac P C.G o.op).cls = .k
  have seg:∀(p i:Nat),p<=i->i<=n->(∀k:Nat,p<=k->k<i->¬W k)->(sts i).Z=(sts p).Z/\(∀m,(∀k z,p<=k->k<i->oc k ≠ .pal m z)->look (sts i).r m=look (sts p).r m) /\
      (∀k m z,p<=k->k<i->oc k = .pal m z->look (sts i).r m=some z):=by
    intro p i
    induction i with
    | zero=>
      intro hpi _ _
      have:p=0:=by omega
      subst this
      exact⟨rfl,fun _ _=>rfl,fun k m z h1 h2=>by omega⟩
    | succ i ih=>
      intro hpi' hin hW
      by_cases hpe:p=i+1
      · subst hpe;exact⟨rfl,fun _ _=>rfl,fun k m z h1 h2=>by omega⟩
      have hpi:p<=i:=by omega
      have ih:=ih hpi
      obtain⟨h1,h2,h3⟩:=ih (by omega) (fun k hk1 hk2=>hW k hk1 (by omega))
      obtain⟨o,p',ho,_,_,_,hA⟩:=some3 i (by omega)
      obtain⟨g,hg,_,_⟩:=hgood i o ho
      rw[hg]at hA
      have same:(sts (i+1)).Z=(sts i).Z->(sts (i+1)).r=(sts i).r->(∀m z,oc i ≠ .pal m z)->(sts (i+1)).Z=(sts p).Z/\(∀m,(∀k z,p<=k->k<i+1->oc k ≠ .pal m z)->look (sts (i+1)).r m=look (sts p).r m) /\
          (∀k m z,p<=k->k<i+1->oc k = .pal m z->look (sts (i+1)).r m=some z):=by
        intro e1 e2 hnp
        refine⟨e1.trans h1,fun m hm=>by rw[e2];exact h2 m (fun k z hk1 hk2=>hm k z hk1 (by omega)),fun k m z hk1 hk2 hkc=>?_⟩
        rw[e2]
        by_cases hki:k=i
        · subst hki;exact(hnp _ _ hkc).elim
        · exact h3 k m z hk1 (by omega) hkc
      have hWi:=hW i hpi (by omega)
      generalize hoc:oc i=c at hA
      generalize hex:ex i=x at hA
      cases hA with
      | skip _ hw h=>exact same h.2.2.2 h.2.2.1 (fun m z hh=>by rw[hoc]at hh;cases hh)
      | val _ pw v r' Z' hw hs hl hna h=>
        obtain⟨e1,e2⟩:=NY hs (fun hk=>hWi ⟨hex,o,ho,hk⟩) hna
        exact same (h.2.2.2.trans e2) (h.2.2.1.trans e1) (fun m z hh=>by rw[hoc]at hh;cases hh)
      | mark _ pw id nx m off hw hs h=>exact same h.2.2.2 h.2.2.1 (fun m z hh=>by rw[hoc]at hh;cases hh)
      | pal _ d el z hd ho' hw h=>
        have hr:(sts (i+1)).r=(d,z)::BY [d] (sts i).r:=h.2.2.1
        have hne:∀m,m≠d->look (sts (i+1)).r m=look (sts i).r m:=fun m hm=>by
          rw[hr]
          simp only[look,AQ]
          rw[if_neg (Ne.symm hm),B9,if_neg (fun hh=>hm ((Ge d m).1 hh).symm)]
        refine⟨h.2.2.2.trans h1,fun m hm=>?_,fun k m z' hk1 hk2 hkc=>?_⟩
        · have hmd:m≠d:=fun he=>hm i z hpi (by omega) (by rw[hoc,he])
          rw[hne m hmd]
          exact h2 m (fun k z hk1 hk2=>hm k z hk1 (by omega))
        · by_cases hki:k=i
          · subst hki
            rw[hoc]at hkc;cases hkc
            rw[hr];simp[look]
          · have hmd:m≠d:=fun he=>hki (hpalu k i d z' z (by omega) (by omega) (by rw[hkc,he]) hoc)
            rw[hne m hmd]
            exact h3 k m z' hk1 (by omega) hkc
  have roots:∀(i:Nat),i<=n->∀(t m off:Nat),look (sts i).q t=some (m,off)->∀k z,k<n->oc k = .pal m z->k<i:=by
    intro i
    induction i with
    | zero=>
      intro _ t m off hl k z hk hc
      exfalso
      obtain⟨_,o,el,ho,hd,hcc⟩:=hpald k m z hk hc
      obtain⟨g,hg,_,_⟩:=hgood k o ho
      have hmem:BC P C.G nt ops o∈l.flat none:=by
        rw[hflat,I1]
        exact⟨o,by simpa using J0 ho,rfl⟩
      have:=IV l none hmk _ hmem m (by rw[hg];simp only[hcc];rfl) (by rw[hg];exact hd)
      exact Km hpo m this t off (hst0.2.1 t _ hl)
    | succ i ih=>
      intro hin t m off hl k z hk hc
      have ih:=ih (by omega)
      obtain⟨o,p',ho,_,_,_,hA⟩:=some3 i (by omega)
      generalize hoc:oc i=c at hA
      generalize hex:ex i=x at hA
      have old:∀t,look (sts i).q t=some (m,off)->k<i+1:=fun t ht=>RY (ih t m off ht k z hk hc)
      cases hA with
      | skip _ hw h=>
        have:=h.2.1 t _ hl
        rw[Bu]at this
        split at this
        · cases this
        · exact old t this
      | val _ pw v r' Z' hw hs hl' hna h=>
        have:=h.2.1 t _ hl
        rw[Bu]at this
        split at this
        · cases this
        · exact old t this
      | mark _ pw id nx m' off' hw hs h=>
        have:=h.2.1 t _ hl
        rw[J8]at this
        split at this
        · simp only[AK.injEq,Prod.mk.injEq]at this
          obtain⟨rfl,rfl⟩:=this
          obtain⟨x,off2,hx⟩:=V5 hs
          cases x with
          | con v=>cases hx
          | tmp u=>
            have hx:look (Ki p'.looks (sts i).q) u=some (m',off2):=hx
            exact RY (ih u m' off2 (Gf _ _ _ _ hx).1 k z hk hc)
        · rw[Bu]at this
          split at this
          · cases this
          · exact old t this
      | pal _ d el z' hd ho' hw h=>
        have:=h.2.1 t _ hl
        simp only[look,AQ]at this
        split at this
        · simp only[AK.injEq,Prod.mk.injEq]at this
          obtain⟨rfl,rfl⟩:=this
          have:=hpalu k i d z z' hk (by omega) hc hoc
          omega
        · have h2:=(Jf _ _ _ _ this).2
          rw[B9]at h2
          split at h2
          · cases h2
          · exact old t h2
  have srcE:∀(i:Nat),i<=n->∀(t:Nat) (v:V),look (sts i).e t=some v->(∃(k:Nat) (o':Oper),k<i/\ops[k]? = some o'/\o'.dst=some t/\oc k = .val v)\/(look s.e t=some v/\∀(k:Nat) (o':Oper),k<i->ops[k]? = some o'->o'.dst≠some t):=by
    intro i
    induction i with
    | zero=>intro _ t v hl;exact .inr ⟨hst0.1 t v hl,fun k o' hk=>by omega⟩
    | succ i ih=>
      intro hin t v hl
      have ih:=ih (by omega)
      obtain⟨o,p',ho,_,_,_,hA⟩:=some3 i (by omega)
      obtain⟨g,hg,_,_⟩:=hgood i o ho
      rw[hg]at hA
      generalize hoc:oc i=c at hA
      generalize hex:ex i=x at hA
      have old:o.dst≠some t->look (sts i).e t=some v->(∃(k:Nat) (o':Oper),k<i+1/\ops[k]? = some o'/\o'.dst=some t/\oc k = .val v)\/(look s.e t=some v/\∀(k:Nat) (o':Oper),k<i+1->ops[k]? = some o'->o'.dst≠some t):=by
        intro hne ht
        rcases ih t v ht with ⟨k,o',h1,h2,h3,h4⟩|⟨h1,h2⟩
        · exact .inl ⟨k,o',by omega,h2,h3,h4⟩
        · refine .inr ⟨h1,fun k o' hk ho'=>?_⟩
          by_cases hki:k=i
          · subst hki;rw[ho]at ho';cases ho';exact hne
          · exact h2 k o' (by omega) ho'
      cases hA with
      | skip _ hw h=>
        have:=h.1 t _ hl
        rw[GO]at this
        split at this
        · rename_i hd;cases this;exact .inl ⟨i,o,by omega,ho,hd,hoc⟩
        · rename_i hd;exact old hd this
      | val _ pw v' r' Z' hw hs hl' hna h=>
        have:=h.1 t _ hl
        rw[GO]at this
        split at this
        · rename_i hd;cases this;exact .inl ⟨i,o,by omega,ho,hd,hoc⟩
        · rename_i hd;exact old hd this
      | mark _ pw id nx m' off' hw hs h=>
        have:=h.1 t _ hl
        rw[Bu]at this
        split at this
        · cases this
        · rename_i hd;exact old hd this
      | pal _ d el z' hd ho' hw h=>
        have:=h.1 t _ hl
        rw[B9]at this
        split at this
        · cases this
        · rename_i hm
          exact old (fun hh=>hm ((Ge d t).2 (by rw[show o.dst=some d from hd]at hh;simpa using hh))) this
  have srcQ:∀(i:Nat),i<=n->∀(t m off:Nat),look (sts i).q t=some (m,off)->(∃(k:Nat) (o':Oper),k<i/\ops[k]? = some o'/\o'.dst=some t/\(oc k = .mark m off\/∃z,oc k = .pal m z/\off=0)) \/
      (look s.q t=some (m,off)/\∀(k:Nat) (o':Oper),k<i->ops[k]? = some o'->o'.dst≠some t):=by
    intro i
    induction i with
    | zero=>intro _ t m off hl;exact .inr ⟨hst0.2.1 t _ hl,fun k o' hk=>by omega⟩
    | succ i ih=>
      intro hin t m off hl
      have ih:=ih (by omega)
      obtain⟨o,p',ho,_,_,_,hA⟩:=some3 i (by omega)
      obtain⟨g,hg,_,_⟩:=hgood i o ho
      rw[hg]at hA
      generalize hoc:oc i=c at hA
      generalize hex:ex i=x at hA
      have old:o.dst≠some t->look (sts i).q t=some (m,off)->(∃(k:Nat) (o':Oper),k<i+1/\ops[k]? = some o'/\o'.dst=some t/\(oc k = .mark m off\/∃z,oc k = .pal m z/\off=0)) \/
          (look s.q t=some (m,off)/\∀(k:Nat) (o':Oper),k<i+1->ops[k]? = some o'->o'.dst≠some t):=by
        intro hne ht
        rcases ih t m off ht with ⟨k,o',h1,h2,h3,h4⟩|⟨h1,h2⟩
        · exact .inl ⟨k,o',by omega,h2,h3,h4⟩
        · refine .inr ⟨h1,fun k o' hk ho'=>?_⟩
          by_cases hki:k=i
          · subst hki;rw[ho]at ho';cases ho';exact hne
          · exact h2 k o' (by omega) ho'
      cases hA with
      | skip _ hw h=>
        have:=h.2.1 t _ hl
        rw[Bu]at this
        split at this
        · cases this
        · rename_i hd;exact old hd this
      | val _ pw v' r' Z' hw hs hl' hna h=>
        have:=h.2.1 t _ hl
        rw[Bu]at this
        split at this
        · cases this
        · rename_i hd;exact old hd this
      | mark _ pw id nx m' off' hw hs h=>
        have:=h.2.1 t _ hl
        rw[J8]at this
        split at this
        · rename_i hd
          simp only[AK.injEq,Prod.mk.injEq]at this
          obtain⟨rfl,rfl⟩:=this
          exact .inl ⟨i,o,by omega,ho,hd,.inl hoc⟩
        · rename_i hd
          rw[Bu,if_neg hd]at this
          exact old hd this
      | pal _ d el z' hd ho' hw h=>
        have:=h.2.1 t _ hl
        simp only[look,AQ]at this
        split at this
        · rename_i hdt
          simp only[AK.injEq,Prod.mk.injEq]at this
          obtain⟨rfl,rfl⟩:=this
          exact .inl ⟨i,o,by omega,ho,by rw[<-hdt];exact hd,.inr ⟨z',hoc,rfl⟩⟩
        · rename_i hdt
          have h2:=(Jf _ _ _ _ this).2
          rw[B9]at h2
          split at h2
          · cases h2
          · exact old (fun hh=>hdt (by rw[show o.dst=some d from hd]at hh;simpa using hh)) h2
  obtain⟨Rs,Bs0,hx0,hn0,hm0,he0,hq0,hnt0,hd0⟩:=hI
  let Bi:Bs:=fun m=>if Bd l.pals m=true then none else Bs0 m
  have hpalm:∀(k m:Nat) (z:List V),k<n->oc k = .pal m z->Bd l.pals m=true:=by
    intro k m z hk hc
    obtain⟨_,o,el,ho,hd,hcc⟩:=hpald k m z hk hc
    obtain⟨g,hg,_,_⟩:=hgood k o ho
    have hmem:BC P C.G nt ops o∈l.flat none:=by
      rw[hflat,I1]
      exact⟨o,by simpa using J0 ho,rfl⟩
    exact IV l none hmk _ hmem m (by rw[hg];simp only[hcc];rfl) (by rw[hg];exact hd)
  let Inv:Array Bool->Act->World->Prop:=fun listed a w=>
    listed.size=n/\(∀(i:Nat) (o:Oper),listed.getD i false=true->ops[i]? = some o->∀ed∈o.after,Region.binds .any ed=true->listed.getD ed.on false=true)/\a.defers=[] /\
    ∃(R:Ren) (B:Bs) (p:Nat) (rL:Rg),p<=n/\(p=0\/∃j,p=j+1/\W j/\listed.getD j false=true)/\(∀j,j<n->W j->(listed.getD j false=true↔j<p))/\Gw nR R0 R/\nR<=(sts p).Z.next /\
      RV C R B rL (sts p).Z w/\(∀k m z,p<=k->k<n->listed.getD k false=true->oc k = .pal m z->look rL m=some z) /\
      (∀m,(∀k z,p<=k->k<n->listed.getD k false=true->oc k ≠ .pal m z)->look rL m=look (sts p).r m) /\
      (∀k m z,k<n->oc k = .pal m z->listed.getD k false=false->B m=none)/\nt<=a.tmps.size /\
      (∀(i:Nat) (o:Oper) (t:Nat),listed.getD i false=true->ops[i]? = some o->o.dst=some t->A4 R B a.tmps[t]? (oc i)) /\
      (∀t v,look s.e t=some v->(∀(i:Nat) (o:Oper),listed.getD i false=true->ops[i]? = some o->o.dst≠some t)->∃x,a.tmps[t]? = some x/\Ar R v=some x) /\
      (∀t m off,look s.q t=some (m,off)->(∀(i:Nat) (o:Oper),listed.getD i false=true->ops[i]? = some o->o.dst≠some t)->∃i,B m=some i/\a.tmps[t]? = some (.pointer (some ⟨i.blk,i.shift+off,none⟩)))
  have hanc:∀(listed:Array Bool),(∀(i:Nat) (o:Oper),listed.getD i false=true->ops[i]? = some o->∀ed∈o.after,Region.binds .any ed=true->listed.getD ed.on false=true) ->
      ∀(i:Nat) (o:Oper) (p:DP),ops[i]? = some o->(GK ops)[i]? = some p->(∀ed∈o.after,Region.binds .any ed=true->listed.getD ed.on false=true)->∀(k:Nat),k<n->p.anc.testBit k=true->listed.getD k false=true:=by
    intro listed hcl i
    induction i using NQ with
    | _ i ih=>
      intro o p ho hp hed k hk hb
      obtain⟨ed,hem,hbe,hr⟩:=F.anc i o p ho hp k (by omega) hb
      have hlt':=F.edges i o ho ed hem hbe
      have hli:=hed ed hem hbe
      rcases hr with rfl|hr
      · exact hli
      · have hin:i<n:=hlt ho
        obtain⟨o2,p2,h1,h3,_⟩:=some3 ed.on (by omega)
        exact ih ed.on hlt' o2 p2 h1 h3 (fun ed2 hm2 hb2=>hcl ed.on o2 hli h1 ed2 hm2 hb2) k hk (by rw[<-Ie h3];exact hr)
  have hready_nil:∀listed:Array Bool,listed.size=n->Region.ready .any ops listed=[]->∀k,k<n->listed.getD k false=true:=by
    intro listed hsz' hr k
    induction k using NQ with
    | _ k ih=>
      intro hk
      cases hb:listed.getD k false with
      | true=>rfl
      | false=>
        exfalso
        obtain⟨o,p,h1,_⟩:=some3 k hk
        have:k∈Region.ready .any ops listed:=mem_ready.2 ⟨by rw[DW hsz' hk];exact hb,o,h1,fun ed hm hbd=>ih ed.on (F.edges k o h1 ed hm hbd) (by have:=F.edges k o h1 ed hm hbd;omega)⟩
        rw[hr]at this;cases this
  have hnone:∀(listed:Array Bool),(∀(i:Nat) (o:Oper),listed.getD i false=true->ops[i]? = some o->∀ed∈o.after,Region.binds .any ed=true->listed.getD ed.on false=true) ->
      ∀(j:Nat) (t:Nat),j<=n->(j<n->∃o p,ops[j]? = some o/\(GK ops)[j]? = some p/\listed.getD j false=false/\Bd p.looks t=true) ->
      (∀(k:Nat) (o':Oper),k<j->ops[k]? = some o'->o'.dst≠some t)->∀(i:Nat) (o:Oper),listed.getD i false=true->ops[i]? = some o->o.dst≠some t:=by
    intro listed hcl j t hj hrd hk2 i oi hli hoi hdst
    have hin:i<n:=hlt hoi
    by_cases hij:i<j
    · exact hk2 i oi hij hoi hdst
    · have hjn:j<n:=by omega
      obtain⟨o,p,ho,hp,hnl,hlook⟩:=hrd hjn
      by_cases hie:i=j
      · subst hie;rw[hnl]at hli;cases hli
      · obtain⟨o3,p3,h1,h3,_⟩:=some3 i hin
        rw[hoi]at h1;cases h1
        have hd:=(F.dsts i j oi o p3 p hie hoi ho h3 hp t hdst).2 hlook
        rcases hd with hd|hd
        · have:=F.ancLt j p hp i (by omega) hd;omega
        · have:=hanc listed hcl i oi p3 hoi h3 (fun ed hm hb=>hcl i oi hli hoi ed hm hb) j hjn hd
          rw[hnl]at this;cases this
  have hwritten:∀(listed:Array Bool),(∀(i:Nat) (o:Oper),listed.getD i false=true->ops[i]? = some o->∀ed∈o.after,Region.binds .any ed=true->listed.getD ed.on false=true) ->
      ∀(j t k:Nat) (ok:Oper),j<=n->(j=n->∀k,k<n->listed.getD k false=true)->(j<n->∃o p,ops[j]? = some o/\(GK ops)[j]? = some p/\Bd p.looks t=true/\(∀ed∈o.after,Region.binds .any ed=true->listed.getD ed.on false=true)) ->
      k<j->ops[k]? = some ok->ok.dst=some t->listed.getD k false=true:=by
    intro listed hcl j t k ok hj hall hrd hk hok' hdst
    by_cases hjn:j<n
    · obtain⟨o,p,ho,hp,hlook,hed⟩:=hrd hjn
      obtain⟨o3,p3,h1,h3,_⟩:=some3 k (by omega)
      rw[hok']at h1;cases h1
      have hd:=(F.dsts k j ok o p3 p (by omega) hok' ho h3 hp t hdst).2 hlook
      rcases hd with hd|hd
      · exact hanc listed hcl j o p ho hp hed k (by omega) hd
      · have:=F.ancLt k p3 h3 j (by omega) hd;omega
    · exact hall (by omega) k (by omega)
  have hput:∀(a:Act) (d:Option Nat) (x:Value) (t:Nat),d≠some t->(a.put d x).tmps[t]? = a.tmps[t]? := by
    intro a d x t hne
    cases d with
    | none=>rfl
    | some d=>
      simp only[Act.put,A1]
      rw[if_neg (fun h=>hne (by rw[h]))]
  have hputsz:∀(a:Act) (d:Option Nat) (x:Value),(a.put d x).tmps.size=a.tmps.size:=by
    intro a d x;cases d<;>simp[Act.put]
  have hclsk:∀(listed:Array Bool),(∀(i:Nat) (o:Oper),listed.getD i false=true->ops[i]? = some o->∀ed∈o.after,Region.binds .any ed=true->listed.getD ed.on false=true) ->
      ∀(i:Nat) (o:Oper),ops[i]? = some o->listed.getD i false=false->(∀ed∈o.after,Region.binds .any ed=true->listed.getD ed.on false=true)->∀j,j<n->W j ->
        ((Ac P C.G o.op).cls = .k->(j<i->listed.getD j false=true)/\(i<j->listed.getD j false=false)) /\
        ((Ac P C.G o.op).cls = .l->(j<i->listed.getD j false=true)/\(i<j->listed.getD j false=false)) /\
        ((Ac P C.G o.op).cls = .a->(i<j->listed.getD j false=false)):=by
    intro listed hcl i o ho hnl hed j hj hWj
    obtain⟨hexj,oj,hoj,hcj⟩:=hWj
    have hi:i<n:=hlt ho
    obtain⟨o1,p1,e1,e2,e3,e4,_⟩:=some3 i hi
    rw[ho]at e1;cases e1
    obtain⟨o2,p2,f1,f2,f3,f4,_⟩:=some3 j hj
    rw[hoj]at f1;cases f1
    obtain⟨g1,hg1,_⟩:=hgood i o ho
    obtain⟨g2,hg2,_⟩:=hgood j oj hoj
    have hup:∀k,k<n->p1.anc.testBit k=true->listed.getD k false=true:=hanc listed hcl i o p1 ho e2 hed
    have hdown:p2.anc.testBit i=true->listed.getD j false=false:=by
      intro hb
      cases hlj:listed.getD j false with
      | false=>rfl
      | true=>
        exfalso
        have:=hanc listed hcl j oj p2 hoj f2 (fun ed hm hb=>hcl j oj hlj hoj ed hm hb) i hi hb
        rw[hnl]at this;cases this
    have hl1:(ops.toList.map (BC P C.G nt ops))[i]? = some (BC P C.G nt ops o):=by rw[<-hflat];exact e4
    have hl2:(ops.toList.map (BC P C.G nt ops))[j]? = some (BC P C.G nt ops oj):=by rw[<-hflat];exact f4
    have hkj:(BC P C.G nt ops oj).op.cls = .k:=by rw[hg2];exact hcj
    have hdoj:=HA hdo j (by rw[hfl1];omega)
    rw[f4]at hdoj
    simp only[hkj]at hdoj
    have hdoji:=HA hdoj i (by rw[hfl1];omega)
    rw[e4]at hdoji
    rw[e3,f3]at hdoji
    refine⟨fun hk=>?_,fun hk=>?_,fun hk=>?_⟩
    · have hki:(BC P C.G nt ops o).op.cls = .k:=by rw[hg1];exact hk
      exact⟨fun hji=>hup j hj (F.kk j i _ _ p1 hji hl2 hl1 e2 hkj hki),fun hij=>hdown (F.kk i j _ _ p2 hij hl1 hl2 f2 hki hkj)⟩
    · have hki:(BC P C.G nt ops o).op.cls = .l:=by rw[hg1];exact hk
      simp only[hki,Bg]at hdoji
      rcases hdoji with hb|hb
      · have:=F.ancLt i p1 e2 j (by omega) hb
        exact⟨fun _=>hup j hj hb,fun hij=>by omega⟩
      · have:=F.ancLt j p2 f2 i (by omega) hb
        exact⟨fun hji=>by omega,fun _=>hdown hb⟩
    · have hki:(BC P C.G nt ops o).op.cls = .a:=by rw[hg1];exact hk
      simp only[hki,Bg,Cq]at hdoji
      intro hij
      rcases hdoji with hb|hb
      · have:Cf i j=true:=by simpa using hij
        rw[this]at hb;cases hb
      · exact hdown hb
  have hallk:∀(listed:Array Bool),(∀(i:Nat) (o:Oper),listed.getD i false=true->ops[i]? = some o->∀ed∈o.after,Region.binds .any ed=true->listed.getD ed.on false=true) ->
      ∀(i:Nat) (o:Oper),ops[i]? = some o->(∀ed∈o.after,Region.binds .any ed=true->listed.getD ed.on false=true)->(Ac P C.G o.op).cls = .k->∀k m z,k<i->oc k = .pal m z->listed.getD k false=true:=by
    intro listed hcl i o ho hed hk k m z hki hc
    have hi:i<n:=hlt ho
    obtain⟨o1,p1,e1,e2,e3,e4,_⟩:=some3 i hi
    rw[ho]at e1;cases e1
    obtain⟨g1,hg1,_⟩:=hgood i o ho
    obtain⟨_,ok,el,hok',hdk,hck⟩:=hpald k m z (by omega) hc
    obtain⟨o2,p2,f1,f2,f3,f4,_⟩:=some3 k (by omega)
    rw[hok']at f1;cases f1
    obtain⟨g2,hg2,_⟩:=hgood k ok hok'
    have hkk:(BC P C.G nt ops o).op.cls = .k:=by rw[hg1];exact hk
    have hdoj:=HA hdo i (by rw[hfl1];omega)
    rw[e4]at hdoj
    simp only[hkk]at hdoj
    have hdoji:=HA hdoj k (by rw[hfl1];omega)
    rw[f4]at hdoji
    have hka:(BC P C.G nt ops ok).op.cls = .a:=by rw[hg2];simp only[hck];rfl
    rw[e3]at hdoji
    simp only[hka,Bg,Cq]at hdoji
    rcases hdoji with hb|hb
    · have:Cf k i=true:=by simpa using hki
      rw[this]at hb;cases hb
    · exact hanc listed hcl i o p1 ho e2 hed k (by omega) hb
  have hfin:∀listed a w,Inv listed a w->(∀k,k<n->listed.getD k false=true)->Q .normal a w:=by
    intro listed a w hI hall
    obtain⟨hls,hcl,hd,R,B,p,rL,hpn,hp0,hpw,hx,hnp,hmem,hr1,hr2,hbs,htsz,hw,hu,hqq⟩:=hI
    have hnW:∀k,p<=k->k<n->¬W k:=fun k h1 h2 hW=>by have:=(hpw k h2 hW).1 (hall k h2);omega
    obtain⟨s1,s2,s3⟩:=seg p n hpn (AG _) hnW
    have hrr:∀m,look rL m=look (sts n).r m:=by
      intro m
      by_cases hex2:∃k z,p<=k/\k<n/\oc k = .pal m z
      · obtain⟨k,z,h1,h2,h3⟩:=hex2
        rw[hr1 k m z h1 h2 (hall k h2) h3,s3 k m z h1 h2 h3]
      · have hno:∀k z,p<=k->k<n->oc k ≠ .pal m z:=fun k z h1 h2 h3=>hex2 ⟨k,z,h1,h2,h3⟩
        rw[hr2 m (fun k z h1 h2 _=>hno k z h1 h2),s2 m hno]
    rw[hs']at hκ
    refine hQ (sts n) a w hκ ⟨R,B,hx,by rw[s1];exact hnp,⟨by rw[s1];exact hmem.rel,⟨fun m i hm=>?_,hmem.priv.inj,by rw[s1];exact hmem.priv.apart⟩⟩,⟨fun t v hv=>?_⟩,⟨fun t m off hv=>?_⟩,htsz,hd⟩
    · obtain⟨h1,l',h2,h3⟩:=hmem.priv.at_ m i hm
      exact⟨h1,l',by rw[<-hrr];exact h2,h3⟩
    · rcases srcE n (AG _) t v hv with ⟨k,o',h1,h2,h3,h4⟩ | ⟨h1,h2⟩
      · have:=hw k o' t (hall k h1) h2 h3
        rw[h4]at this;exact this
      · exact hu t v h1 (hnone listed hcl n t (AG _) (fun h=>by omega) h2)
    · rcases srcQ n (AG _) t m off hv with ⟨k,o',h1,h2,h3,h4⟩ | ⟨h1,h2⟩
      · have:=hw k o' t (hall k h1) h2 h3
        rcases h4 with h4|⟨z,h4,rfl⟩
        · rw[h4]at this;exact this
        · rw[h4]at this;exact this
      · exact hqq t m off h1 (hnone listed hcl n t (AG _) (fun h=>by omega) h2)
  have hstep:∀listed a w,Inv listed a w->∀i,i∈Region.ready .any ops listed->∀K:Act->World->Prop,(∀a' w',Inv (listed.setIfInBounds i true) a' w'->K a' w')->wpOp P ops Q i K a w:=by
    intro listed a w hI i hi K hK
    obtain⟨hls,hcl,hd,R,B,p,rL,hpn,hp0,hpw,hx,hnp,hmem,hr1,hr2,hbs,htsz,hw,hu,hqq⟩:=hI
    obtain⟨hli,o,ho,hed⟩:=mem_ready.1 hi
    have hin:i<n:=hlt ho
    have hnl:listed.getD i false=false:=by rw[<-DW hls hin];exact hli
    obtain⟨o2,pi,ho2,hpi,_,_,hA⟩:=some3 i hin
    rw[ho]at ho2;cases ho2
    obtain⟨g,hg,hcg,hdok⟩:=hgood i o ho
    rw[hg]at hA
    have hsz':i<listed.size:=by omega
    have hLs:∀k,(listed.setIfInBounds i true).getD k false=(decide (k=i) || listed.getD k false):=fun k=>IQ hsz'
    have hLi:(listed.setIfInBounds i true).getD i false=true:=by rw[hLs];simp
    have hLo:∀k,k≠i->(listed.setIfInBounds i true).getD k false=listed.getD k false:=fun k hk=>by rw[hLs];simp[hk]
    have hclk:=hclsk listed hcl i o ho hnl hed
    have hmw:=hmem.rel
    have hem:HD R (Dv true pi.looks (sts i).e) a.tmps:=by
      refine⟨fun t v hv=>?_⟩
      obtain⟨ht,hmemt⟩:=GN _ _ _ _ hv
      rcases srcE i (by omega) t v ht with ⟨k,o',h1,h2,h3,h4⟩|⟨h1,h2⟩
      · have:=hw k o' t (hwritten listed hcl i t k o' (by omega) (fun h=>by omega) (fun _=>⟨o,pi,ho,hpi,hmemt,hed⟩) h1 h2 h3) h2 h3
        rw[h4]at this;exact this
      · exact hu t v h1 (hnone listed hcl i t (by omega) (fun _=>⟨o,pi,ho,hpi,hnl,hmemt⟩) h2)
    have hqm:RT B (KF true pi.looks (sts i).q) a.tmps:=by
      refine⟨fun t m off hv=>?_⟩
      obtain⟨ht,hmemt⟩:=Gf _ _ _ _ hv
      rcases srcQ i (by omega) t m off ht with ⟨k,o',h1,h2,h3,h4⟩|⟨h1,h2⟩
      · have:=hw k o' t (hwritten listed hcl i t k o' (by omega) (fun h=>by omega) (fun _=>⟨o,pi,ho,hpi,hmemt,hed⟩) h1 h2 h3) h2 h3
        rcases h4 with h4|⟨z,h4,rfl⟩
        · rw[h4]at this;exact this
        · rw[h4]at this;exact this
      · exact hqq t m off h1 (hnone listed hcl i t (by omega) (fun _=>⟨o,pi,ho,hpi,hnl,hmemt⟩) h2)
    have mk:∀(R':Ren) (B':Bs) (p':Nat) (rL':Rg) (w':World) (x:Value),p'<=n->(p'=0\/∃j,p'=j+1/\W j/\(listed.setIfInBounds i true).getD j false=true) ->
        (∀j,j<n->W j->((listed.setIfInBounds i true).getD j false=true↔j<p'))->Gw nR R0 R'->nR<=(sts p').Z.next->RV C R' B' rL' (sts p').Z w' ->
        (∀k m z,p'<=k->k<n->(listed.setIfInBounds i true).getD k false=true->oc k = .pal m z->look rL' m=some z) ->
        (∀m,(∀k z,p'<=k->k<n->(listed.setIfInBounds i true).getD k false=true->oc k ≠ .pal m z)->look rL' m=look (sts p').r m) ->
        (∀k m z,k<n->oc k = .pal m z->(listed.setIfInBounds i true).getD k false=false->B' m=none)->Le R R'->(∀m b,B m=some b->B' m=some b) ->
        (∀t,o.dst=some t->A4 R' B' (some x) (oc i))->K (a.put o.dst x) w':=by
      intro R' B' p' rL' w' x h1 h2 h3 h4 h5 h6 h7 h8 h9 h10 h11 h12
      refine hK _ _ ⟨by rw[Dq];exact hls,?_,by rw[Es];exact hd,R',B',p',rL',h1,h2,h3,h4,h5,h6,h7,h8,h9,by rw[hputsz];exact htsz,?_,?_,?_⟩
      · intro i' o' hi' ho' ed hm' hb'
        rw[hLs]at hi' ⊢
        simp only[Bg,decide_eq_true_eq]at hi' ⊢
        rcases hi' with rfl|hi'
        · rw[ho]at ho';cases ho'
          exact .inr (hed ed hm' hb')
        · exact .inr (hcl i' o' hi' ho' ed hm' hb')
      · intro i' o' t hi' ho' hdt
        rw[hLs]at hi'
        simp only[Bg,decide_eq_true_eq]at hi'
        by_cases he:i'=i
        · subst he
          rw[ho]at ho';cases ho'
          have:=h12 t hdt
          have htl:t<a.tmps.size:=Cz (hdlt i' o t ho hdt) htsz
          have hpt:(a.put o.dst x).tmps[t]? = some x:=by rw[hdt];simp[Act.put,A1,htl]
          rw[hpt];exact this
        · have:=hw i' o' t (hi'.resolve_left he) ho' hdt
          rw[hput a o.dst x t (hdu i' i o' o t he ho' ho hdt)]
          exact this.mono h10 h11
      · intro t v hv hno
        rw[hput a o.dst x t (hno i o hLi ho)]
        obtain⟨y,hy1,hy2⟩:=hu t v hv (fun i' o' hi' ho'=>hno i' o' (by rw[hLs,hi'];simp) ho')
        exact⟨y,hy1,Ch h10 v y hy2⟩
      · intro t m off hv hno
        rw[hput a o.dst x t (hno i o hLi ho)]
        obtain⟨b,hb1,hb2⟩:=hqq t m off hv (fun i' o' hi' ho'=>hno i' o' (by rw[hLs,hi'];simp) ho')
        exact⟨b,h11 m b hb1,hb2⟩
    have mk0:∀(R':Ren) (w':World) (x:Value),¬W i->(∀m z,oc i ≠ .pal m z)->Gw nR R0 R'->RV C R' B rL (sts p).Z w'->Le R R'->(∀t,o.dst=some t->A4 R' B (some x) (oc i))->K (a.put o.dst x) w':=by
      intro R' w' x hnW hnp' h1 h2 h3 h4
      refine mk R' B p rL w' x hpn ?_ ?_ h1 hnp h2 ?_ ?_ ?_ h3 (fun _ _ h=>h) h4
      · rcases hp0 with h | ⟨j,h5,h6,h7⟩
        · exact .inl h
        · exact .inr ⟨j,h5,h6,by rw[hLs,h7];simp⟩
      · intro j hj hWj
        by_cases hji:j=i
        · subst hji;exact(hnW hWj).elim
        · rw[hLo j hji];exact hpw j hj hWj
      · intro k m z hk1 hk2 hk3 hk4
        by_cases hki:k=i
        · subst hki;exact(hnp' m z hk4).elim
        · rw[hLo k hki]at hk3;exact hr1 k m z hk1 hk2 hk3 hk4
      · intro m hm
        refine hr2 m (fun k z hk1 hk2 hk3=>?_)
        exact hm k z hk1 hk2 (by rw[hLs,hk3];simp)
      · intro k m z hk1 hk2 hk3
        by_cases hki:k=i
        · subst hki;rw[hLi]at hk3;cases hk3
        · rw[hLo k hki]at hk3;exact hbs k m z hk1 hk2 hk3
    have hext:∀R',(∀k,k<(sts p).Z.next->k≠(sts p).Z.next->R' k=R k)->Gw nR R0 R':=fun R' hk k hkn=>by rw[hk k (by omega) (by omega)];exact hx k hkn
    have hpi':(∀j,j<n->W j->i<j->listed.getD j false=false)->p<=i:=by
      intro hno
      rcases hp0 with h|⟨j,h1,h2,h3⟩
      · omega
      · rcases wR j i with h4 | h4 | h4
        · omega
        · subst h4;rw[hnl]at h3;cases h3
        · have hW:=h2
          obtain⟨_,oj,hoj,_⟩:=h2
          rw[hno j (hlt hoj) hW h4]at h3;cases h3
    have hnoW:(∀j,j<n->W j->j<i->listed.getD j false=true)->∀k,p<=k->k<i->¬W k:=by
      intro hyes k hk1 hk2 hWk
      have:=(hpw k (by omega) hWk).1 (hyes k (by omega) hWk hk2)
      omega
    have hsame:p<=i->(∀k,p<=k->k<i->¬W k)->(sts i).Z=(sts p).Z/\∀x m off,Fb (KF true pi.looks (sts i).q) x=some (m,off)->look rL m=look (sts i).r m:=by
      intro hpi2 hnW
      obtain⟨s1,s2,s3⟩:=seg p i hpi2 (by omega) hnW
      refine⟨s1,fun x m off hmx=>?_⟩
      cases x with
      | con v=>cases hmx
      | tmp u=>
        have hmx:look (KF true pi.looks (sts i).q) u=some (m,off):=hmx
        obtain⟨b,hb,_⟩:=hqm.at_ u m off hmx
        have hroot:=roots i (by omega) u m off (Gf _ _ _ _ hmx).1
        by_cases hex2:∃k z,p<=k/\k<i/\oc k = .pal m z
        · obtain⟨k,z,h1,h2,h3⟩:=hex2
          have hlk:listed.getD k false=true:=by
            cases hlk:listed.getD k false with
            | true=>rfl
            | false=>have:=hbs k m z (by omega) h3 hlk;rw[hb]at this;cases this
          rw[hr1 k m z h1 (by omega) hlk h3,s3 k m z h1 h2 h3]
        · have hno:∀k z,p<=k->k<i->oc k ≠ .pal m z:=fun k z h1 h2 h3=>hex2 ⟨k,z,h1,h2,h3⟩
          rw[hr2 m (fun k z h1 h2 _ h3=>hno k z h1 (hroot k z h2 h3) h3),s2 m hno]
    have hgl:=hmw.globOk
    unfold wpOp
    rw[ho]
    simp only
    generalize hoc:oc i=c at hA
    generalize hexi:ex i=xx at hA
    cases hA with
    | skip _ hwn h=>
      rw[if_neg (by rw[DI hem.env hcg hwn];simp)]
      exact mk0 R w undef (fun hW=>by have h9:=hW.1;rw[hexi]at h9;cases h9) (fun m z hh=>by rw[hoc]at hh;cases hh) hx hmem (Le.refl _) (fun t _=>by rw[hoc];exact⟨_,rfl,rfl⟩)
    | mark _ pw id nx m off hwn hs h=>
      rw[if_pos (DI hem.env hcg hwn)]
      left
      have hs2:GC C.E D pw (sts p).Z.next ((sts p).Z.next+1) (Ac P C.G o.op) (Dv true pi.looks (sts i).e) (KF true pi.looks (sts i).q) rL (sts p).Z (.mark m off):=YF hs
      refine LM hD hmem hem hqm o (hmw.fresh _ (AG _)) (IJ _) (D3 _) hs2 K Q (fun v2 r2 Z2 heq=>by cases heq) (fun m2 off2 heq b hb=>?_)
      cases heq
      refine mk0 R w _ (fun hW=>?_) (fun m z hh=>by rw[hoc]at hh;cases hh) hx hmem (Le.refl _) (fun t _=>by rw[hoc];exact⟨b,hb,rfl⟩)
      obtain⟨_,o3,ho3,hc3⟩:=hW
      rw[ho]at ho3;cases ho3
      cases hs with
      | mv x _ _ hoo _=>have hoo:Ac P C.G o.op=_\/Ac P C.G o.op=_:=hoo;rcases hoo with hoo | hoo<;>(rw[hoo]at hc3;cases hc3)
      | fa d x _ _ hoo _=>have hoo:Ac P C.G o.op=_:=hoo;rw[hoo]at hc3;cases hc3
    | pal _ d el z hdd hoo hwn h=>
      rw[if_pos (DI hem.env hcg hwn)]
      left
      have hoo:Ac P C.G o.op = .alloc el z:=hoo
      have hdd:o.dst=some d:=hdd
      have hca:(Ac P C.G o.op).cls = .a:=by rw[hoo];rfl
      have hple:=hpi' (fun j hj hW hij=>(hclk j hj hW).2.2 hca hij)
      have hBd:B d=none:=hbs i d z hin hoc hnl
      refine X3 hmem o (d:=d) hoo K Q (fun b w' hmem'=>?_)
      refine mk R (fun m=>if m=d then some b else B m) p ((d,z)::BY [d] rL) w' _ hpn ?_ ?_ hx hnp hmem' ?_ ?_ ?_ (Le.refl _) (fun m b' hb'=>?_) (fun t _=>?_)
      · rcases hp0 with h | ⟨j,h5,h6,h7⟩
        · exact .inl h
        · exact .inr ⟨j,h5,h6,by rw[hLs,h7];simp⟩
      · intro j hj hWj
        by_cases hji:j=i
        · subst hji
          obtain⟨_,o3,ho3,hc3⟩:=hWj
          rw[ho]at ho3;cases ho3
          rw[hca]at hc3;cases hc3
        · rw[hLo j hji];exact hpw j hj hWj
      · intro k m z' hk1 hk2 hk3 hk4
        by_cases hki:k=i
        · subst hki;rw[hoc]at hk4;cases hk4;simp[look]
        · rw[hLo k hki]at hk3
          have hmd:¬d=m:=fun he=>hki (hpalu k i m z' z hk2 hin hk4 (by rw[hoc,he]))
          simp only[look,AQ]
          rw[if_neg hmd,B9,if_neg (fun hh=>hmd ((Ge d m).1 hh))]
          exact hr1 k m z' hk1 hk2 hk3 hk4
      · intro m hm
        have hmd:¬d=m:=fun he=>hm i z hple hin hLi (by rw[hoc,he])
        simp only[look,AQ]
        rw[if_neg hmd,B9,if_neg (fun hh=>hmd ((Ge d m).1 hh))]
        exact hr2 m (fun k z' hk1 hk2 hk3=>hm k z' hk1 hk2 (by rw[hLs,hk3];simp))
      · intro k m z' hk1 hk2 hk3
        by_cases hki:k=i
        · subst hki;rw[hLi]at hk3;cases hk3
        · rw[hLo k hki]at hk3
          have hmd:¬m=d:=fun he=>hki (hpalu k i m z' z hk1 hin hk2 (by rw[hoc,he]))
          rw[if_neg hmd];exact hbs k m z' hk1 hk2 hk3
      · by_cases hmd:m=d
        · subst hmd;rw[hBd]at hb';cases hb'
        · rw[if_neg hmd];exact hb'
      · rw[hoc];exact⟨b,by simp,rfl⟩
    | val _ pw v r' Z' hwn hs hl' hna h=>
      rw[if_pos (DI hem.env hcg hwn)]
      left
      have hs:GC C.E D pw (sts i).Z.next ((sts i).Z.next+1) (Ac P C.G o.op) (Dv true pi.looks (sts i).e) (KF true pi.looks (sts i).q) (sts i).r (sts i).Z (.val v r' Z'):=hs
      have hl':o.dst=none\/v.live=true\/(Ac P C.G o.op).cls ≠ .k:=hl'
      have hna:(Ac P C.G o.op).cls ≠ .a:=hna
      have htok:∀(R':Ren) (x:Value),((v = .dead/\(Ac P C.G o.op).cls = .k)\/Ar R' v=some x)->∀t,o.dst=some t->A4 R' B (some x) (oc i):=by
        intro R' x hv t ht
        rw[hoc]
        refine⟨x,rfl,?_⟩
        rcases hv with ⟨rfl,hc⟩|hv
        · rcases hl' with h | h | h
          · rw[ht]at h;cases h
          · cases h
          · exact(h hc).elim
        · exact hv
      by_cases hck:(Ac P C.G o.op).cls = .k
      ·
        have hWi:W i:=⟨hexi,o,ho,hck⟩
        have hple:=hpi' (fun j hj hW hij=>((hclk j hj hW).1 hck).2 hij)
        have hnW:=hnoW (fun j hj hW hji=>((hclk j hj hW).1 hck).1 hji)
        obtain⟨hσ,hrm⟩:=hsame hple hnW
        obtain⟨s1,s2,s3⟩:=seg p i hple (by omega) hnW
        rw[hσ]at hs
        obtain⟨rL',hs2,hrel⟩:=Pb (rL:=rL) hs hrm
        refine LM hD hmem hem hqm o (hmw.fresh _ (AG _)) (IJ _) (D3 _) hs2 K Q (fun v2 r2 Z2 heq R' w' x hle hk hn' hmem' hv=>?_) (fun m off heq=>by cases heq)
        cases heq
        have hσ':(sts (i+1)).Z=Z':=h.2.2.2
        have hr':(sts (i+1)).r=r':=h.2.2.1
        have hall:=hallk listed hcl i o ho hed hck
        have hold:∀m,(∀k z,i<=k->k<n->(listed.setIfInBounds i true).getD k false=true->oc k ≠ .pal m z)->look rL m=look (sts i).r m:=by
          intro m hm
          by_cases hex2:∃k z,p<=k/\k<i/\oc k = .pal m z
          · obtain⟨k,z,h1,h2,h3⟩:=hex2
            rw[hr1 k m z h1 (by omega) (hall k m z h2 h3) h3,s3 k m z h1 h2 h3]
          · have hno:∀k z,p<=k->k<i->oc k ≠ .pal m z:=fun k z h1 h2 h3=>hex2 ⟨k,z,h1,h2,h3⟩
            rw[hr2 m (fun k z h1 h2 h3 h4=>?_),s2 m hno]
            rcases Ad k i with h5|h5
            · exact hno k z h1 h5 h4
            · exact hm k z h5 h2 (by rw[hLs,h3];simp) h4
        have hmroot:∀x m off,Fb (KF true pi.looks (sts i).q) x=some (m,off)->∀k z,k<n->oc k = .pal m z->k<i:=by
          intro x m off hmx
          cases x with
          | con v=>cases hmx
          | tmp u=>
            have hmx:look (KF true pi.looks (sts i).q) u=some (m,off):=hmx
            exact roots i (by omega) u m off (Gf _ _ _ _ hmx).1
        refine mk R' B (i+1) rL' w' x (by omega) (.inr ⟨i,rfl,hWi,hLi⟩) ?_ (hext R' hk) (by rw[hσ'];omega) (by rw[hσ'];exact hmem') ?_ ?_ ?_ hle (fun _ _ h=>h) (htok R' x hv)
        · intro j hj hWj
          by_cases hji:j=i
          · subst hji;rw[hLi];simp
          · rw[hLo j hji]
            rcases wR j i with h4|h4|h4
            · rw[((hclk j hj hWj).1 hck).1 h4];simp;omega
            · exact(hji h4).elim
            · rw[((hclk j hj hWj).1 hck).2 h4];simp;omega
        · intro k m z hk1 hk2 hk3 hk4
          have hk3':listed.getD k false=true:=by rw[hLo k (by omega)]at hk3;exact hk3
          have hb:=hr1 k m z (by omega) hk2 hk3' hk4
          rcases hrel with ⟨_,h6⟩|⟨x',m',off',c',l',h6,h7,_,h8⟩
          · rw[h6];exact hb
          · rw[h8]
            have hne:¬m'=m:=fun he=>by have:=hmroot x' m' off' h6 k z hk2 (by rw[he];exact hk4);omega
            rw[HT (by rw[hrm x' m' off' h6];exact h7),if_neg hne];exact hb
        · intro m hm
          have hb:=hold m (fun k z hk1 hk2 hk3 hk4=>by
            rcases Nat.eq_or_lt_of_le hk1 with h5|h5
            · subst h5;rw[hoc]at hk4;cases hk4
            · exact hm k z (by omega) hk2 hk3 hk4)
          rw[hr']
          rcases hrel with ⟨h5,h6⟩|⟨x',m',off',c',l',h6,h7,h8,h9⟩
          · rw[h5,h6];exact hb
          · rw[h8,h9,HT (by rw[hrm x' m' off' h6];exact h7),HT h7,hb]
        · intro k m z hk1 hk2 hk3
          by_cases hki:k=i
          · subst hki;rw[hLi]at hk3;cases hk3
          · rw[hLo k hki]at hk3;exact hbs k m z hk1 hk2 hk3
      ·
        have hnWi:¬W i:=fun hW=>by
          obtain⟨_,o3,ho3,hc3⟩:=hW
          rw[ho]at ho3;cases ho3
          exact hck hc3
        have go:GC C.E D pw (sts p).Z.next ((sts p).Z.next+1) (Ac P C.G o.op) (Dv true pi.looks (sts i).e) (KF true pi.looks (sts i).q) rL (sts p).Z (.val v rL (sts p).Z)->o.wp P a w K Q:=by
          intro hs2
          refine LM hD hmem hem hqm o (hmw.fresh _ (AG _)) (IJ _) (D3 _) hs2 K Q (fun v2 r2 Z2 heq R' w' x hle hk hn' hmem' hv=>?_) (fun m off heq=>by cases heq)
          cases heq
          exact mk0 R' w' x hnWi (fun m z hh=>by rw[hoc]at hh;cases hh) (hext R' hk) hmem' hle (htok R' x hv)
        cases hcls:(Ac P C.G o.op).cls with
        | k=>exact(hck hcls).elim
        | a=>exact(hna hcls).elim
        | p=>
          refine go ?_
          cases hs with
          | p _ hc h9=>exact .p v hc h9
          | l _ hc h9=>rw[hcls]at hc;cases hc
          | a _ b hc h9=>rw[hcls]at hc;cases hc
          | k _ Z1 _ hc h hs=>rw[hcls]at hc;cases hc
          | ld x m off l _ hoo hm hl h=>rw[hoo]at hcls;cases hcls
          | ldn n x m off l hoo hm hl h=>rw[hoo]at hcls;cases hcls
          | st n x y m off l cs u hw hoo hm hl hn hu hlu hcs h1 hlen h=>rw[hoo]at hcls;cases hcls
        | l=>
          have hple:=hpi' (fun j hj hW hij=>((hclk j hj hW).2.1 hcls).2 hij)
          have hnW:=hnoW (fun j hj hW hji=>((hclk j hj hW).2.1 hcls).1 hji)
          obtain⟨hσ,hrm⟩:=hsame hple hnW
          rw[hσ]at hs
          obtain⟨rL',hs2,_⟩:=Pb (rL:=rL) hs hrm
          obtain⟨e1,e2⟩:=NY hs2 hck hna
          rw[e1,e2]at hs2
          exact go hs2
  have hany:∀fuel listed a w,Inv listed a w->(Hi n).countP (fun k=>!listed.getD k false)<=fuel->wpAny P .any ops Q fuel listed a w:=by
    intro fuel
    induction fuel with
    | zero=>
      intro listed a w hI hcnt
      have hall:∀k,k<n->listed.getD k false=true:=by
        intro k hk
        have h0:(Hi n).countP (fun k=>!listed.getD k false)=0:=by omega
        have:=List.countP_eq_zero.1 h0 k (nL.2 hk)
        simpa using this
      refine⟨?_,hfin listed a w hI hall⟩
      apply UL.2
      intro j hj
      obtain⟨h1,o,h2,_⟩:=mem_ready.1 hj
      have hjn:j<n:=hlt h2
      rw[DW hI.1 hjn,hall j hjn]at h1
      cases h1
    | succ fuel ih=>
      intro listed a w hI hcnt
      refine⟨fun hr=>hfin listed a w hI (hready_nil listed hI.1 hr),fun i hi=>?_⟩
      have hin:i<n:=by
        obtain⟨_,o,h2,_⟩:=mem_ready.1 hi
        exact hlt h2
      have hnl:listed.getD i false=false:=by rw[<-DW hI.1 hin];exact(mem_ready.1 hi).1
      refine hstep listed a w hI i hi _ (fun a' w' hI'=>ih _ a' w' hI' ?_)
      have hsz':i<listed.size:=by rw[hI.1];exact hin
      have:=Tz (p:=fun k=>!(listed.setIfInBounds i true).getD k false) (q:=fun k=>!listed.getD k false) (fun k hk=>by
        simp only[Cq]at hk ⊢
        rw[IQ hsz']at hk
        simp only[BN]at hk
        exact hk.2) (i:=i) (by simp only[hnl];rfl) (by simp only[IQ hsz'];simp) (Hi n) (nL.2 hin)
      omega
  refine wp_region_any hmix ?_
  rw[hnn]
  have hrepl:∀k,(G2 n false).getD k false=false:=fun k=>by
    simp only[D8,ABj]
    split<;>rfl
  refine hany n _ a0 _ ⟨by simp,?_,hd0,Rs,Bi,0,s.r,CD _,.inl rfl,?_,hx0,by rw[hst0.2.2.2];exact hn0,?_,?_,?_,?_,hnt0,?_,?_,?_⟩ ?_
  · intro i o hi;rw[hrepl]at hi;cases hi
  · intro j hj hW;rw[hrepl];simp
  · rw[hst0.2.2.2]
    refine⟨hm0.rel.drawn _,⟨fun m i hm=>?_,fun m m' i i' hm hm' hb=>?_,fun m i hm=>?_⟩⟩
    · simp only[Bi]at hm
      split at hm
      · cases hm
      · exact hm0.priv.at_ m i hm
    · simp only[Bi]at hm hm'
      split at hm
      · cases hm
      · split at hm'
        · cases hm'
        · exact hm0.priv.inj m m' i i' hm hm' hb
    · simp only[Bi]at hm
      split at hm
      · cases hm
      · exact hm0.priv.apart m i hm
  · intro k m z h1 h2 h3;rw[hrepl]at h3;cases h3
  · intro m _;rw[hst0.2.2.1]
  · intro k m z h1 h2 _
    simp only[Bi]
    rw[if_pos (hpalm k m z h1 h2)]
  · intro i o t hi;rw[hrepl]at hi;cases hi
  · intro t v hv _;exact he0.at_ t v hv
  · intro t m off hv _
    obtain⟨i,h1,h2⟩:=hq0.at_ t m off hv
    refine⟨i,?_,h2⟩
    simp only[Bi]
    rw[if_neg (fun hh=>Km hpo m hh t off hv)]
    exact h1
  · refine AN (List.countP_le_length) (by simp)
end Go.Og
namespace Go.Og
variable {P:Program} {D:BB} {C:Cx}
theorem Gg {α:Type}:∀{l:List (Nat × α)} {k:Nat} {a:α},look l k=some a->(k,a)∈l
 | [],k,a,h=>by simp[look]at h
 | (m,b)::l,k,a,h=>by
  simp only[look,AQ]at h
  split at h
  ·rename_i he;subst he;cases h;exact As
  ·exact Ah _ (Gg h)
theorem N6 {e:Bt}:∀(ts:List (Nat × EH)) (J:Bt->AH) (res:V × H),Um e ts J=some res->∃e',(∀t v,look e' t=some v->look e t=some v)/\J e'=some res
 | [],J,res,h=>⟨[],fun t v hv=>by simp[look]at hv,h⟩
 | (t,ty)::l,J,res,h=>by
  simp only[Um]at h
  unfold CA at h
  simp only at h
  cases hl:look e t with
  | none=>rw[hl]at h;cases h
  | some v=>
   rw[hl]at h
   have h2:=G4 _ _ _ _ h
   obtain⟨e',h3,h4⟩:=N6 l _ res h2
   refine⟨_,fun u w hu=>?_,h4⟩
   simp only[look,AQ]at hu
   split at hu
   ·rename_i he;subst he;cases hu;exact hl
   ·exact h3 u w hu
theorem N5 {e:Bt}:∀(ts:List (Nat × EH)) (J:Bt->AH) (res:V × H),SL e ts J=some res->∃e',(∀t v,look e' t=some v->look e t=some v/\v.live=true)/\J e'=some res
 | [],J,res,h=>⟨[],fun t v hv=>by simp[look]at hv,h⟩
 | (t,ty)::l,J,res,h=>by
  simp only[SL,E0]at h
  cases hl:look e t with
  | none=>rw[hl]at h;cases h
  | some v=>
   rw[hl]at h
   obtain⟨hlv,h⟩:=Df h
   have h2:=G4 _ _ _ _ h
   obtain⟨e',h3,h4⟩:=N5 l _ res h2
   refine⟨_,fun u w hu=>?_,h4⟩
   simp only[look,AQ]at hu
   split at hu
   ·rename_i he;subst he;cases hu;exact⟨hl,hlv⟩
   ·exact h3 u w hu
theorem N3 {r:Rg}:∀(rs:List (Nat × List EH)) (J:Rg->AH) (res:V × H),Ul r rs J=some res->∃r',(∀m l,look r' m=some l->look r m=some l)/\(∀m,Bd (rs.map Prod.fst) m=true->∃l,look r' m=some l)/\J r'=some res
 | [],J,res,h=>⟨[],fun t v hv=>by simp[look]at hv,fun m hm=>by simp[Bd]at hm,h⟩
 | (m,tys)::l,J,res,h=>by
  simp only[Ul]at h
  cases hl:look r m with
  | none=>rw[hl]at h;cases h
  | some cs=>
   rw[hl]at h
   have h2:=JV _ _ _ _ h
   obtain⟨r',h3,h4,h5⟩:=N3 l _ res h2
   refine⟨_,fun u w hu=>?_,fun u hu=>?_,h5⟩
   ·simp only[look,AQ]at hu
    split at hu
    ·rename_i he;subst he;cases hu;exact hl
    ·exact h3 u w hu
   ·simp only[look,AQ]
    by_cases he:m=u
    ·exact⟨cs,by rw[if_pos he]⟩
    ·rw[if_neg he]
     simp only[B3]at hu
     exact h4 u (((C0 m _ u).1 hu).resolve_left he)
theorem Io:∀(ms rs:List Nat) (q:Qs) (t:Nat) (p:Nat × Nat),look (N4 ms rs q) t=some p->look q t=some p/\Bd rs p.1=true
 | [],rs,q,t,p,h=>by simp[N4,look]at h
 | a::l,rs,q,t,p,h=>by
  simp only[N4]at h
  split at h
  ·rename_i p' hp
   split at h
   ·rename_i hm
    simp only[look,AQ]at h
    split at h
    ·rename_i he;subst he;cases h;exact⟨hp,hm⟩
    ·exact Io l rs q t p h
   ·exact Io l rs q t p h
  ·exact Io l rs q t p h
theorem N2 {nR:Nat} {R0:Ren} {nt:Nat} {ts:List (Nat × EH)} {ms:List Nat} {rs:List (Nat × List EH)} {s:St} {J:St->AH} {res:V × H} (h:I3 ts ms rs s J=some res) {a:Act} {w:World} (hI:M7 C nR R0 nt s a w) :
  ∃s0,J s0=some res/\M7 C nR R0 nt s0 a w:=by
 unfold I3 at h
 obtain⟨e',he',h⟩:=N6 _ _ _ h
 obtain⟨r',hr1,hr2,h⟩:=N3 _ _ _ h
 obtain⟨R,B,h1,h2,h3,h4,h5,h6,h7⟩:=hI
 refine⟨_,h,R,fun m=>if Bd (rs.map Prod.fst) m=true then B m else none,h1,h2,⟨h3.rel,⟨fun m i hm=>?_,fun m m' i i' hm hm'=>?_,fun m i hm=>?_⟩⟩,h4.sub he',⟨fun t m off hq=>?_⟩,h6,h7⟩
 ·split at hm
  ·rename_i hmem
   obtain⟨hO,l,hl,hok'⟩:=h3.priv.at_ m i hm
   obtain⟨l',hl'⟩:=hr2 m hmem
   have:=hr1 m l' hl'
   rw[hl]at this;cases this
   exact⟨hO,l,hl',hok'⟩
  ·cases hm
 ·split at hm
  ·split at hm'
   ·exact h3.priv.inj m m' i i' hm hm'
   ·cases hm'
  ·cases hm
 ·split at hm
  ·exact h3.priv.apart m i hm
  ·cases hm
 ·obtain⟨hq1,hq2⟩:=Io _ _ _ _ _ hq
  obtain⟨i,hi1,hi2⟩:=h5.at_ t m off hq1
  refine⟨i,?_,hi2⟩
  rw[if_pos hq2];exact hi1
theorem ck (hD:∀f,B5 P C.E C.G f (D f)) {W:AJ} (hW:Ok P C.E C.G W) (hmix:P.follows .mixedOrders=true) (N nt:Nat) {nR:Nat} {R0:Ren} {res:V × H} :
  ∀(xc:XC) (c:Code),xc.strip=CB P C.G nt c->xc.ok=true->∀(s:St) (kn:St->AH) (kx:Nat->St->AH) (kr:St->AH),AW C.E D W N xc s kn kx kr=some res ->
   ∀(a:Act) (w:World) (Q:Exit->Act->World->Prop),M7 C nR R0 nt s a w->(∀s' a' w',kn s'=some res->M7 C nR R0 nt s' a' w'->Q .normal a' w') ->
    (∀id s' a' w',kx id s'=some res->M7 C nR R0 nt s' a' w'->Q (.exit id) a' w')->(∀s' a' w',kr s'=some res->M7 C nR R0 nt s' a' w'->Q .ret a' w')->c.wp P Q a w:=by
 intro xc
 induction xc with
 | bad=>intro c _ _ s kn kx kr h;cases h
 | keep ts ms rs xc ih=>
  intro c hs hok s kn kx kr h a w Q hI hn hx hr
  rw[WR]at h
  obtain⟨s0,h,hI⟩:=N2 h hI
  exact ih c hs hok s0 kn kx kr h a w Q hI hn hx hr
 | skip=>
  intro c hs hok s kn kx kr h a w Q hI hn hx hr
  cases c<;>simp only[XC.strip,CB]at hs<;>(try (cases hs;done))
  ·exact wp_skip (hn s a w h hI)
  ·rename_i i o d;cases d<;>(first | (cases hs;done) | (simp only[CB]at hs;split at hs<;>cases hs))
 | exit id=>
  intro c hs hok s kn kx kr h a w Q hI hn hx hr
  cases c<;>simp only[XC.strip,CB]at hs<;>(try (cases hs;done))
  ·rename_i i o d;cases d<;>(first | (cases hs;done) | (simp only[CB]at hs;split at hs<;>cases hs))
  ·cases hs;exact wp_exit (hx id s a w h hI)
 | ret=>
  intro c hs hok s kn kx kr h a w Q hI hn hx hr
  cases c<;>simp only[XC.strip,CB]at hs<;>(try (cases hs;done))
  ·rename_i i o d;cases d<;>(first | (cases hs;done) | (simp only[CB]at hs;split at hs<;>cases hs))
  ·exact wp_ret (hr s a w h hI)
 | ops l=>
  intro c hs hok s kn kx kr h a w Q hI hn hx hr
  cases c<;>simp only[XC.strip,CB]at hs<;>(try (cases hs;done))
  rename_i i o d
  cases d
  case true=>simp only[CB]at hs;split at hs<;>cases hs
  simp only[CB,AC.region.injEq]at hs
  rw[Yw]at h
  obtain⟨s',hrun,hκ,_⟩:=HX l none none none true 0 s _ res h hok (.inl ⟨rfl,rfl⟩) (fun h=>by cases h)
  refine wp_region_list (bf hD hrun o.toList a w ?_ hI (fun a' w' hI'=>hn _ a' w' hκ hI'))
  obtain⟨h1,h2⟩:=Gk l none
  rw[List.map_fst_zip (by omega),hs]
 | draw l ancs=>
  intro c hs hok s kn kx kr h a w Q hI hn hx hr
  cases c<;>simp only[XC.strip,CB]at hs<;>(try (cases hs;done))
  rename_i i o d
  cases d<;>simp only[CB]at hs<;>(try (cases hs;done))
  split at hs
  case isFalse=>cases hs
  rename_i hplan
  simp only[AC.draw.injEq]at hs
  rw[WS]at h
  unfold OF at h
  split at h
  ·rename_i hpo
   simp only[XC.ok,AF,AQ,Cq]at hok
   obtain⟨⟨⟨⟨k1,k2⟩,k3⟩,k4⟩,k5⟩:=hok
   exact ch hD hmix i hs.1 hs.2 hplan k1 k2 k3 k4 k5 hpo h hI Q (fun s' a' w' hκ hI'=>hn s' a' w' hκ hI')
  ·cases h
 | gdraw ops pl ts=>
  intro c hs hok s kn kx kr h a w Q hI hn hx hr
  cases c<;>simp only[XC.strip,CB]at hs<;>(try (cases hs;done))
  rename_i i o d
  cases d<;>simp only[CB]at hs<;>(try (cases hs;done))
  split at hs
  case isFalse=>cases hs
  rename_i hplan
  simp only[AC.draw.injEq]at hs
  obtain⟨rfl,rfl⟩:=hs
  rw[Tv]at h
  cases h1:W (o.toList.map (BC P C.G nt o)) (GK o) s.e s.Z with
  | none=>rw[h1]at h;cases h
  | some q=>
   obtain⟨e1,Z1⟩:=q
   rw[h1]at h
   obtain⟨e',he',h⟩:=N5 _ _ _ h
   obtain⟨R,B,g1,g2,g3,g4,g5,g6,g7⟩:=hI
   refine hW C rfl rfl nt i o s.e s.Z e1 Z1 hplan h1 R a w Q g3.rel g4.env g6 g7 (fun R' a' w' hx' hn' hrel' he1 hsz hd=>?_)
   refine hn _ a' w' h ⟨R',fun _=>none,g1.trans hx' g2,AN g2 hn',⟨hrel',⟨fun m i hm=>(by cases hm),fun m m' i i' hm=>(by cases hm),fun m i hm=>(by cases hm)⟩⟩,⟨fun t v hv=>?_⟩,⟨fun t m off hq=>(by simp[look]at hq)⟩,hsz,hd⟩
   obtain⟨h2,h3⟩:=he' t v hv
   rcases he1.at_ t v h2 with rfl|h4
   ·cases h3
   ·exact h4
 | seq p q ihp ihq=>
  intro c hs hok s kn kx kr h a w Q hI hn hx hr
  cases c<;>simp only[XC.strip,CB]at hs<;>(try (cases hs;done))
  ·rename_i i o d;cases d<;>(first | (cases hs;done) | (simp only[CB]at hs;split at hs<;>cases hs))
  rename_i c1 c2
  simp only[AC.seq.injEq]at hs
  simp only[XC.ok,AF]at hok
  rw[Yv]at h
  refine wp_seq (ihp c1 hs.1 hok.1 s _ kx kr h a w _ hI (fun s' a' w' h' hI'=>?_) (fun id s' a' w' h' hI'=>hx id s' a' w' h' hI') (fun s' a' w' h' hI'=>hr s' a' w' h' hI'))
  exact ihq c2 hs.2 hok.2 s' kn kx kr h' a' w' Q hI' hn hx hr
 | cond o p q ihp ihq=>
  intro c hs hok s kn kx kr h a w Q hI hn hx hr
  cases c<;>simp only[XC.strip,CB]at hs<;>(try (cases hs;done))
  ·rename_i i o d;cases d<;>(first | (cases hs;done) | (simp only[CB]at hs;split at hs<;>cases hs))
  rename_i co c1 c2
  simp only[AC.cond.injEq]at hs
  obtain⟨rfl,h1,h2⟩:=hs
  simp only[XC.ok,AF]at hok
  rw[WT]at h
  obtain⟨v,hv,_,h⟩:=Ae h
  obtain⟨cb,rfl,h9⟩:=FY h
  have hI2:=hI
  obtain⟨R,B,g1,g2,g3,g4,g5,g6,g7⟩:=hI2
  have hev:=KB (a:=a) g4.env g3.rel.globOk hv
  cases cb with
  | true=>exact wp_cond_true hev (ihp c1 h1 hok.1 s kn kx kr h9 a w Q hI hn hx hr)
  | false=>exact wp_cond_false hev (ihq c2 h2 hok.2 s kn kx kr h9 a w Q hI hn hx hr)
 | block id p ih=>
  intro c hs hok s kn kx kr h a w Q hI hn hx hr
  cases c<;>simp only[XC.strip,CB]at hs<;>(try (cases hs;done))
  ·rename_i i o d;cases d<;>(first | (cases hs;done) | (simp only[CB]at hs;split at hs<;>cases hs))
  rename_i i c1
  simp only[AC.block.injEq]at hs
  obtain⟨rfl,hs⟩:=hs
  rw[Tw]at h
  refine wp_block (ih c1 hs hok s kn _ kr h a w _ hI (fun s' a' w' h' hI'=>hn s' a' w' h' hI') (fun j s' a' w' h' hI'=>?_) (fun s' a' w' h' hI'=>hr s' a' w' h' hI'))
  show Exit.inBlock id Q (.exit j) a' w'
  simp only[Exit.inBlock]
  unfold CC at h'
  split at h'
  ·rename_i hj
   rw[AQ]at hj
   rw[if_pos hj];exact hn s' a' w' h' hI'
  ·rename_i hj
   rw[if_neg (fun hh=>by rw[<-AQ,hj]at hh;cases hh)];exact hx j s' a' w' h' hI'
 | loop ts ms rs p ih=>
  intro c hs hok s kn kx kr h a w Q hI hn hx hr
  cases c<;>simp only[XC.strip,CB]at hs<;>(try (cases hs;done))
  ·rename_i i o d;cases d<;>(first | (cases hs;done) | (simp only[CB]at hs;split at hs<;>cases hs))
  rename_i c1
  simp only[AC.loop.injEq]at hs
  rw[WQ]at h
  obtain⟨s0,h,hI⟩:=N2 h hI
  have key:∀(n:Nat) (s:St) (a:Act) (w:World),BE (fun rec s'=>AW C.E D W N p s' (fun s''=>I3 ts ms rs s'' rec) kx kr) n s=some res->M7 C nR R0 nt s a w->Code.rounds P c1 Q n a w:=by
   intro n
   induction n with
   | zero=>intro s a w h;cases h
   | succ n ihn=>
    intro s a w h hI
    have h:AW C.E D W N p s (fun s''=>I3 ts ms rs s'' (BE (fun rec s'=>AW C.E D W N p s' (fun s''=>I3 ts ms rs s'' rec) kx kr) n)) kx kr=some res:=h
    rw[rounds_succ]
    refine ih c1 hs hok s _ kx kr h a w _ hI (fun s' a' w' h' hI'=>?_) (fun id s' a' w' h' hI'=>hx id s' a' w' h' hI') (fun s' a' w' h' hI'=>hr s' a' w' h' hI')
    obtain⟨s2,h2,hI2⟩:=N2 h' hI'
    exact ihn s2 a' w' h2 hI2
  exact wp_loop_rounds N (key N s0 a w h hI)
theorem Sd {α β:Type} {x:Result α} {g:α->World->Result β} {z:β} {w:World} (h:Result.andThen x g = .ok z w):∃y w2,x = .ok y w2/\g y w2 = .ok z w:=by
 cases x with
 | ok y w2=>exact⟨y,w2,rfl,h⟩
 | _=>cases h
theorem UX {R:Ren} {B:Bs} {s:St} {w:World} {a:Act} (hm:RV C R B s.r s.Z w) (he:HD R s.e a.tmps) (hq:RT B s.q a.tmps):∀(rs:List ResultVar) (as:List AR) (J:List V->AH) (res:V × H),GR P rs=some as->Ek C.E s as J=some res ->
  ∃l xs,J l=some res/\Az R l=some xs/\(rs.mapM (m:=Sem) fun
   | .tmp t=>pure (a.tmps.getD t undef)
   | .cell b t=>do loadVar t (<-asAddr (a.tmps.getD b undef))).run P w = .ok xs w
 | [],as,J,res,hc,h=>by
  simp only[GR,AK.injEq]at hc;subst hc
  exact⟨[],[],h,rfl,rfl⟩
 | r::rs,as,J,res,hc,h=>by
  simp only[GR]at hc
  cases hr:OI P r with
  | none=>rw[hr]at hc;cases hc
  | some ar=>
   cases hrs:GR P rs with
   | none=>rw[hr,hrs]at hc;cases hc
   | some as'=>
    rw[hr,hrs]at hc
    simp only[AK.injEq]at hc
    subst hc
    have one:∀(C2:Cx) (R2:Ren) (Z2:H) (e2:Bt) (v:V),DL C2 R2 Z2 w->Bn R2 e2 a.tmps->Kj C2.E e2 Z2 [ar]=some [v]->Le R R2->(∃x,Ar R v=some x)->Ek C.E s as' (fun l=>J (v::l))=some res ->
      ∃l xs,J l=some res/\Az R l=some xs/\((r::rs).mapM (m:=Sem) fun
       | .tmp t=>pure (a.tmps.getD t undef)
       | .cell b t=>do loadVar t (<-asAddr (a.tmps.getD b undef))).run P w = .ok xs w:=by
     intro C2 R2 Z2 e2 v h1 h2 h3 hle ⟨x,hx⟩ h4
     obtain⟨xs,h5,h6⟩:=NB (P:=P) h1 h2 [r] [ar] [v] (by simp only[GR,hr]) h3
     obtain⟨y,ys,h7,h8,rfl⟩:=BM.1 h5
     simp only[Az,AK.injEq]at h8;subst h8
     have:=Ch hle v x hx
     rw[h7]at this;cases this
     obtain⟨l,xs,g1,g2,g3⟩:=UX hm he hq rs as' _ res hrs h4
     refine⟨v::l,_,g1,BM.2 ⟨_,_,hx,g2,rfl⟩,?_⟩
     rw[RZ]at h6 ⊢
     rw[Sem.run_bind]at h6 ⊢
     obtain⟨y2,w2,e1,e2⟩:=Sd h6
     simp only[Sem.run_bind,List.mapM_nil,Sem.run_pure,Result.andThen_ok,Result.ok.injEq,List.cons.injEq,and_true]at e2
     obtain⟨rfl,rfl⟩:=e2
     refine(congrArg (fun r=>Result.andThen r _) e1).trans ?_
     simp only[Result.andThen_ok,Sem.run_bind,g3,Sem.run_pure]
    cases r with
    | tmp t=>
     simp only[OI,AK.injEq]at hr
     subst hr
     simp only[Ek]at h
     unfold CA at h
     simp only at h
     cases hl:look s.e t with
     | none=>rw[hl]at h;cases h
     | some v=>
      rw[hl]at h
      obtain⟨x,hx1,hx2⟩:=he.at_ t v hl
      have hge:GQ s.e t=v:=by simp only[GQ,hl]
      refine one C R s.Z s.e v hm.rel he.env ?_ (Le.refl _) ⟨x,hx2⟩ h
      simp only[Kj,hge,La hx2]
    | cell t ty=>
     simp only[OI]at hr
     cases hs:GW P ty with
     | none=>rw[hs]at hr;cases hr
     | some n=>
      rw[hs]at hr
      simp only[AK.injEq]at hr
      subst hr
      simp only[Ek]at h
      split at h
      ·rename_i m off hqt
       obtain⟨i,hi1,hi2⟩:=hq.at_ t m off hqt
       split at h
       ·rename_i cs hcs
        have hr2:=hm.priv.one hm.rel hi1 hcs
        have he2:Bn (Hl R s.Z.next i) [(t,.ptr s.Z.next off)] a.tmps:=Bn.cons ⟨fun k v hk=>by simp[look]at hk⟩ hi2 (C4 (Bv _ _ _))
        have hle:Le R (Hl R s.Z.next i):=(EM R s.Z.next i).le hm.rel.fresh
        obtain⟨_,l',hl',hok⟩:=hm.priv.at_ m i hi1
        rw[hcs]at hl';cases hl'
        obtain⟨arr,el,lo,hi,_,hh,_⟩:=hok
        have hgp:GQ [(t,V.ptr s.Z.next off)] t = .ptr s.Z.next off:=by simp[GQ,look]
        have hrd:rd C.E ⟨s.Z.next+1,[(s.Z.next,.cells cs)]⟩ s.Z.next=some cs:=by simp[rd,look]
        split at h
        ·obtain⟨v,hv,h⟩:=GL h
         obtain⟨x,hx,_⟩:=hh off v hv
         refine one _ _ _ _ v hr2 he2 ?_ hle ⟨x,hx⟩ h
         simp only[Kj,hgp,hrd,hv]
        ·rename_i n
         obtain⟨hb,h⟩:=GI h
         obtain⟨xs,hxs,_⟩:=hh.cells (by simpa using hb)
         refine one _ _ _ _ _ hr2 he2 ?_ hle ⟨_,DX hxs⟩ h
         simp only[Kj,hgp,PM,hrd,hb,if_true]
       ·cases h
      ·obtain⟨p,hp,_,h⟩:=Ae h
       obtain⟨b,o,rfl,h9⟩:=Dw h
       have hgp:GQ s.e t = .ptr b o:=hp
       cases n with
       | none=>
        simp only at h9
        obtain⟨l,hl,h9⟩:=JW h9
        obtain⟨v,hv,h9⟩:=GL h9
        obtain⟨i,arr,el,fr,_,_,hold⟩:=hm.rel.read hl
        obtain⟨x,hx,_⟩:=hold o v hv
        refine one C R s.Z s.e v hm.rel he.env ?_ (Le.refl _) ⟨x,hx⟩ h9
        simp only[Kj,hgp,hl,hv]
       | some n=>
        simp only at h9
        obtain⟨l,hl,h9⟩:=JW h9
        obtain⟨hb,h9⟩:=GI h9
        obtain⟨i,arr,el,fr,_,_,hold⟩:=hm.rel.read hl
        obtain⟨xs,hxs,_⟩:=hold.cells (by simpa using hb)
        refine one C R s.Z s.e _ hm.rel he.env ?_ (Le.refl _) ⟨_,DX hxs⟩ h9
        simp only[Kj,hgp,PM,hl,hb,if_true]
theorem bg {E:EB} {G:Nat->Bool} (hD:∀f,B5 P E G f (D f)) {W:AJ} (hW:Ok P E G W) (hmix:P.follows .mixedOrders=true) (N:Nat) {f:FuncId} {fn:Func} (hf:P.funcs[f]? = some fn)
  {xf:Eg} {af':Wv} (hc:Lo P G fn=some af') (hs:xf.strip=af') (hxok:xf.body.ok=true) (hok:Hb P f=true):B5 P E G f (CR E D W N xf):=by
 intro C hE hG R Z w args xs v Z' h hrel hxs
 subst hE hG
 refine⟨hok,?_⟩
 unfold Lo at hc
 cases hb:fn.body with
 | none=>rw[hb]at hc;cases hc
 | some c=>
  cases hr:GR P fn.results.toList with
  | none=>rw[hb,hr]at hc;cases hc
  | some rs=>
   rw[hb,hr]at hc
   simp only[AK.injEq]at hc
   rw[<-hs]at hc
   obtain⟨nt,params,resl,body⟩:=xf
   simp only[Eg.strip,Wv.mk.injEq]at hc
   obtain⟨rfl,rfl,_,hbody⟩:=hc
   unfold CR at h
   simp only at h
   have h:=JV _ _ _ _ h
   have hlen:=Ba hxs
   refine calls_of_wp hf hb ?_
   have hsz:fn.ntmps<=(xs.toArray++G2 (fn.ntmps-xs.toArray.size) undef).size:=by simp;omega
   have harg:∀(l:List V) (ys:List Value) (k:Nat),Az R l=some ys->∀(t:Nat) (v:V),look (M5 k l) t=some v->∃y,k<=t/\ys[t-k]? = some y/\Ar R v=some y:=by
    intro l
    induction l with
    | nil=>intro ys k _ t v h;simp[M5,look]at h
    | cons u l ih=>
     intro ys k hc t v h
     obtain⟨y,zs,hy,hz,rfl⟩:=BM.1 hc
     simp only[M5,look]at h
     by_cases hk:k=t
     ·subst hk
      rw[if_pos (by simp)]at h
      cases h
      exact⟨y,AG _,by simp,hy⟩
     ·rw[if_neg (by simpa using hk)]at h
      obtain⟨q,h1,h2,h3⟩:=ih zs (k+1) hz t v h
      exact⟨q,by omega,by rw[show t-k=(t-(k+1))+1 by omega,CN];exact h2,h3⟩
   have he0:HD R (M5 0 args) (xs.toArray++G2 (fn.ntmps-xs.toArray.size) undef):=by
    refine⟨fun k u hk=>?_⟩
    obtain⟨y,_,h2,h3⟩:=harg args xs 0 hxs k u hk
    refine⟨y,?_,h3⟩
    rw[L5]at h2
    have hlt:k<xs.length:=by
     rcases Ad k xs.length with h|h
     ·exact h
     ·rw[Af h]at h2;cases h2
    rw[LG (by simpa using hlt)]
    simpa using h2
   have fin:∀(s':St) (a':Act) (w':World),(Ek C.E s' rs fun l=>some (FF l,s'.Z))=some (v,Z')->M7 C Z.next R fn.ntmps s' a' w' ->
     a'.defers=[]/\∃x,(results fn a'.tmps).run P w' = .ok x w'/\∃R' x',Gw Z.next R R'/\Z.next<=Z'.next/\DL C R' Z' w'/\Ar R' v=some x'/\Ending.returned x = .returned x':=by
    intro s' a' w' h' ⟨R1,B1,k1,k2,k3,k4,k5,k6,k7⟩
    obtain⟨l,ys,g1,g2,g3⟩:=UX (P:=P) k3 k4 k5 fn.results.toList rs _ _ hr h'
    simp only[AK.injEq,Prod.mk.injEq]at g1
    obtain⟨rfl,rfl⟩:=g1
    have hres:(results fn a'.tmps).run P w' = .ok (if h:ys.toArray.size=1 then ys.toArray[0] else .tuple ys.toArray) w':=by
     unfold results
     refine(Sem.run_bind P w' _ _).trans ?_
     rw[MC,Sem.run_map]
     refine(congrArg (fun r=>Result.andThen (Result.andThen r _) _) g3).trans rfl
    exact⟨k7,_,hres,R1,_,k1,k2,k3.rel,Ue g2,rfl⟩
   refine ck (C:=C) hD hW hmix N fn.ntmps body c hbody.symm hxok _ _ _ _ h _ w _ ⟨R,fun _=>none,Gw.refl _ _,AG _,⟨hrel,⟨fun m i hm=>(by cases hm),fun m m' i i' hm=>(by cases hm),fun m i hm=>(by cases hm)⟩⟩,he0,⟨fun t m off hq=>(by simp[look]at hq)⟩,hsz,rfl⟩ ?_ ?_ ?_
   ·intro s' a' w' h' hI'
    obtain⟨h1,x,h2,h3⟩:=fin s' a' w' h' hI'
    exact⟨h1,x,h2,h3⟩
   ·intro id s' a' w' h' _;cases h'
   ·intro s' a' w' h' hI'
    obtain⟨h1,x,h2,h3⟩:=fin s' a' w' h' hI'
    exact⟨h1,x,h2,h3⟩
end Go.Og
namespace Go.Og
def wC (a:AH):Bool:=match a with
 | some (.bool true,_)=>true
 | _=>false
theorem X6 {a:AH} (h:wC a=true):∃Z,a=some (.bool true,Z):=by
 unfold wC at h
 split at h
 ·exact⟨_,rfl⟩
 ·cases h
def Lr (ng:Nat) (l:List (Nat × BI)):Ren:=fun id=>if id<ng then some ⟨id,0,0⟩else look l id
theorem IB.lt {R:Ren} {i:BI} {b:Gv} {w:World} (h:IB R i b w):i.blk<w.heap.size:=by
 cases b with
 | cells l=>
  obtain⟨arr,el,fr,h1,_⟩:=h
  exact(nN.1 h1).1
 | _=>exact h.elim
theorem TU {G:Nat->Bool} {ng n0:Nat} (hG:∀g,G g=true->g<ng) (hn:ng<=n0) (l:List (Nat × BI)) (E:EB) (w:World) (hl:∀id i,look l id=some i->id<n0)
  (hE:∀id b,look E id=some b->∃i,Lr ng l id=some i/\IB (Lr ng l) i b w) :
  DL ⟨fun blk=>w.heap.size<=blk,w,E,G⟩ (Lr ng l) ⟨n0,[]⟩ w where
 fresh id hid:=by
  have hid':n0<=id:=hid
  unfold Lr;rw[if_neg (by omega)]
  cases hk:look l id with
  | none=>rfl
  | some i=>have:=hl id i hk;omega
 own id b hb:=by simp[look]at hb
 inj id id' b b' i i' hb:=by simp[look]at hb
 ext id b hb:=by
  obtain⟨i,h1,h2⟩:=hE id b hb
  exact⟨i,h1,Nat.not_le.2 h2.lt,h2⟩
 glob g hg:=⟨⟨g,0,0⟩,by unfold Lr;rw[if_pos (hG g hg)],rfl,rfl⟩
 fr _ _:=rfl
 size:=AG _
 new _ h:=h
 os:=rfl
 tape:=rfl
 output:=rfl
theorem DL.grow {C:Cx} {R:Ren} {Z:H} {w w':World} (h:DL C R Z w) (hold:∀k,k<w.heap.size->w'.heap[k]? = w.heap[k]?) (hsz:w.heap.size<=w'.heap.size)
  (hos:w'.os=w.os) (htape:w'.tape=w.tape) (hout:w'.output=w.output):DL C R Z w' where
 fresh:=h.fresh
 own id b hb:=by
  obtain⟨i,hi,hO,hok⟩:=h.own id b hb
  exact⟨i,hi,hO,hok.mono (Le.refl _) (hold _ hok.lt)⟩
 inj:=h.inj
 ext id b hb:=by
  obtain⟨i,hi,hO,hok⟩:=h.ext id b hb
  exact⟨i,hi,hO,hok.mono (Le.refl _) (hold _ hok.lt)⟩
 glob:=h.glob
 fr blk hn:=by
  rcases Ad blk w.heap.size with hl|hl
  ·rw[hold blk hl];exact h.fr blk hn
  ·exact absurd (h.new blk (AN h.size hl)) hn
 size:=AN h.size hsz
 new:=h.new
 os:=hos.trans h.os
 tape:=htape.trans h.tape
 output:=hout.trans h.output
set_option linter.unusedVariables false
noncomputable section
section
variable {R S:Ren} {n0 d:Nat}
theorem Jh {α:Type}:∀(l m:List (Nat × α)) (id:Nat),look (l++m) id=match look l id with | some b=>some b | none=>look m id
 | [],m,id=>rfl
 | (k,b)::l,m,id=>by
  simp only[L8,look]
  cases Ag k id with
  | true=>rfl
  | false=>simpa using Jh l m id
end
def Ua:List (V × V)->List (V × V)->Bool
 | [],[]=>true
 | p::l,q::m=>V.beq p.1 q.1&&V.beq p.2 q.2&&Ua l m
 | _,_=>false
theorem Rw:∀{l m:List (V × V)},Ua l m=true->l=m
 | [],[],_=>rfl
 | (a,b)::l,(c,d)::m,h=>by
  simp only[Ua,AF]at h
  rw[MS _ _ h.1.1,MS _ _ h.1.2,Rw h.2]
 | [],_::_,h=>by cases h
 | _::_,[],h=>by cases h
def Y7:Gv->Gv->Bool
 | .cells a,.cells b=>M3 a b
 | .map a,.map b=>Ua a b
 | _,_=>false
theorem Y6 {a b:Gv} (h:Y7 a b=true):a=b:=by
 cases a<;>cases b<;>simp only[Y7,Cd]at h
 ·rw[KE _ _ h]
 ·rw[Rw h]
def WG:EB->EB->Bool
 | [],_=>true
 | p::l,m=>(match Bl m p.1 with
  | some b=>Y7 b p.2
  | none=>false)&&WG l m
theorem NI:∀{l m:EB},WG l m=true->∀p∈l,look m p.1=some p.2
 | [],_,_,p,hp=>by cases hp
 | q::l,m,h,p,hp=>by
  simp only[WG,AF,BH]at h
  rcases BF.1 hp with rfl|hp
  ·have h1:=h.1
   cases hb:look m p.1 with
   | none=>rw[hb]at h1;cases h1
   | some b=>rw[hb]at h1;rw[Y6 h1]
  ·exact NI h.2 p hp
theorem Y1 {P:Program} {w:World} {r:Reach} {base:Nat} {t:TypeId} {v:Value} (ht:P.underlying t=some .string) (h:Cell.okWide P w r base t v):∃s,v = .string s:=by
 unfold Cell.okWide at h
 rw[ht]at h
 unfold Cell.ok at h
 rw[ht]at h
 cases v<;>simp at h
 exact⟨_,rfl⟩
end
end Go.Og
set_option linter.all false
set_option maxRecDepth 100000
set_option maxHeartbeats 0
namespace Go.Proofs.YtnpcmeaplmfdlaaDoor
open Go Go.Og
noncomputable section
variable (E:EB) (D:BB) (W:AJ) (N:Nat)
def y0:V:=(V.int .i64 (AA 0))
def y1:V:=(V.bool false)
def y2:EH:=(.agg [.i,.str,.bool,.i,.i,.bool,.bool,.bool,.bool,.i,.i,.any,.any,.i,.bool,.i])
def y3:V:=(V.str ⟨0,0⟩)
def y4:EH:=(.agg [.i,.str,.i])
def y5:EH:=(.agg [.i,.i,.any,.any,.i,.any])
def y6:EH:=(.agg [.str,.i,.bool,.bool,.i,.i,.any,.any,.i,.any,.i])
def y7:EK:=(.mov (.t 0))
def y8:XC:=(.ops (.m 17 7<|
 .b 18 .add .none (.t 17) (.i 1)<|
 .m 7 18<|
 .nil))
def y9:V:=(V.bool true)
def eN:XC:=(.cond (.tmp 29) (.z (.c 6 y1<|
 .nil)
 .ret)
 .skip)
def jR:XC:=(.cond (.tmp 12) (.z (.c 6 y1<|
 .nil)
 .ret)
 .skip)
def Rh:EH:=(.agg [.bool,.i,.i])
def UN:V:=(V.int .u64 (AA 0))
def av:EH:=(.agg [.str,.i,.any,.any,.any])
def Wx:EH:=(.agg [.str,.i,.bool])
def Rf:XC:=(.exit 0)
def W2:XC:=(.cond (.tmp 16) .skip
 Rf)
def eM:V:=(V.int .u8 (AA 0))
def oI:AO:=(.con (V.int .u8 (AA 45)))
def oH:AO:=(.con (V.int .u8 (AA 48)))
def wZ:EK:=(.buildSlice 9 1 [y3] [(0,1,(.con (V.str ⟨1,125⟩)))])
def eL:EK:=(.un .not (.t 28))
def wY:AO:=(.con (V.int .u64 (AA 9259542123273814144)))
def nO:AO:=(.con (V.str ⟨1,44⟩))
def oG:AO:=(.con (V.int .u8 (AA 128)))
def jQ:List EH:=[.any,.any,.any]
def wX:AO:=(.con (V.str ⟨10,322399817400452109389381⟩))
def wW:AO:=(.con (V.str ⟨10,488440487847103610377301⟩))
def jP:EK:=(.faddr 4 (.t 3))
def wA:AO:=(.con (V.str ⟨4,1280070990⟩))
def oF:AO:=(.con (V.str ⟨1,40⟩))
def eK:EH:=(.tup [.i,y4,.bool])
def wV:AO:=(.con (V.str ⟨8,6073459554577832005⟩))
def wU:AO:=(.con (V.str ⟨8,6073459554577829193⟩))
def wT:AO:=(.con (V.str ⟨8,4990918871747741011⟩))
def v7:AO:=(.con (V.str ⟨3,3026478⟩))
def nX:Nat->St->AH:=fun _ _=>none
def kX (ts:List (Nat × EH)) (ms:List Nat) (rs:List (Nat × List EH)) (J:St->AH):St->AH:=fun s=>I3 ts ms rs s J
def dX (E:EB) (D:BB) (W:AJ) (N:Nat) (c:XC) (k:St->AH) (x:Nat->St->AH) (r:St->AH):St->AH:=fun s=>AW E D W N c s k x r
def j1:List (Nat × List EH):=[(3,[.str,.i,.any,.any,.any]),(8,[.i,.str,.bool,.i,.i,.bool,.bool,.bool,.bool,.i,.i,.any,.any,.i,.bool,.i])]
def Rc:List (Nat × List EH):=[(3,[.str,.i,.any,.any,.any])]
def EI (E:EB):St->AH:=fun s=>Ek E s [(.tmp 2)] fun l=>some (FF l,s.Z)
def dG (c0 c1:XC) (l0:St->AH):St->AH:=dX E D W N (.keep [(7,.i)] [3] Rc c0) (kX [(7,.i)] [3] Rc l0) (CC 2 (dX E D W N (.keep [] [] [] c1) (EI E) nX (EI E)) nX) (EI E)
def W0 (c0:XC):Nat->St->AH:=CC 2 (dX E D W N (.keep [] [] [] c0) (EI E) nX (EI E)) nX
def wG (c0 c1 c2:XC) (l0:St->AH):Nat->St->AH:=CC 4 (dX E D W N (.keep [(7,.i)] [3,8] j1 c0) (dG E D W N c1 c2 l0) (CC 3 (dG E D W N c1 c2 l0) (W0 E D W N c2)) (EI E)) (CC 3 (dG E D W N c1 c2 l0) (W0 E D W N c2))
def wF (c0:XC):Nat->St->AH:=CC 0 (dX E D W N (.keep [] [3] Rc c0) (EI E) nX (EI E)) nX
def nK (cc1:XC) (cc2:XC):XC:=(.z (.c 2 y1<|
 .nil)
 (.seq (.z (.m 11 0<|
 .P 12 (.len true (.t 11))<|
 .b 13 .gtr .none (.t 12) (.i 9000)<|
 .nil)
 (.cond (.tmp 13) (.z (.k 14 .bool 4 []<|
 .m 2 14<|
 .nil)
 .ret)
 .skip))
 (.z (.m 16 0<|
 .k 17 (.tup [av,.i,.i]) 5 [(.t 16)]<|
 .m 15 17<|
 .P 18 (.extract 0 (.t 15))<|
 .P 19 (.extract 1 (.t 15))<|
 .P 20 (.extract 2 (.t 15))<|
 .pal 3 [] 27 [y3,y0,V.nils,V.nils,V.nils]<|
 .op none av [3,18] (.store 5 (.t 3) (.t 18))<|
 .m 4 19<|
 .m 5 20<|
 .nil)
 (.seq (.z (.k 21 .bool 4 []<|
 .P 22 (.un .not (.t 21))<|
 .m 23 22<|
 .gO 23 false (.p 24 [5,23] (.mov (.t 5))<|
 .p 25 [24,23] (.bin .neq .none (.t 24) (.i 0))<|
 .nil) 26 23 25<|
 .nil)
 (.cond (.tmp 26) (.z (.k 27 .bool 4 []<|
 .m 28 27<|
 .gA 28 true (.op (some 29) av [3,28] (.load (some 5) (.t 3))<|
 .op (some 30) av [28] (.build [y3,y0,V.nils,V.nils,V.nils] [])<|
 .op (some 31) .bool [29,30,28] (.call 6 [(.t 29),(.t 30)])<|
 .nil) 32 28 31<|
 .m 2 32<|
 .nil)
 .ret)
 .skip))
 (.seq (.z (.f 33 2 3<|
 .l 34 .any 33<|
 .u 35 34<|
 .f 36 3 3<|
 .l 37 .any 36<|
 .u 38 37<|
 .b 39 .neq .none (.t 35) (.t 38)<|
 .m 40 39<|
 .gO 40 false (.p 41 [3,40] (.faddr 2 (.t 3))<|
 .p 42 [41,40] (.load none (.t 41))<|
 .p 43 [42,40] (.len false (.t 42))<|
 .p 44 [43,40] (.bin .gtr .none (.t 43) (.i 40))<|
 .nil) 45 40 44<|
 .m 46 45<|
 .gO 46 false (.p 47 [3,46] jP<|
 .p 48 [47,46] (.load none (.t 47))<|
 .p 49 [48,46] (.len false (.t 48))<|
 .p 50 [49,46] (.bin .gtr .none (.t 49) (.i 300))<|
 .nil) 51 46 50<|
 .m 52 51<|
 .gO 52 false (.p 53 [3,52] (.faddr 0 (.t 3))<|
 .op (some 54) .str [53,52] (.load none (.t 53))<|
 .p 55 [54,52] (.bin .eql .none (.t 54) (.con y3))<|
 .nil) 56 52 55<|
 .nil)
 (.cond (.tmp 56) (.z (.c 2 y1<|
 .nil)
 .ret)
 .skip))
 (.seq (.z (.q 6 0<|
 .nil)
 (.block 0 (.loop [(6,.i)] [3] Rc cc2)))
 (.keep [] [3] Rc cc1)))))))
def Wl (E:EB) (D:BB) (W:AJ) (K2:Int->BS->Int->V->V->V->H->AH) (a:BS) (Z:H):AH:=
 AI (Dt (AA 9000) (AA (BS.len a))) (
 AV (D 4 [] Z) fun u1 s2=>
 AT u1 fun x3=>
 some ((V.bool x3),s2)) (
 AV (D 5 [.str a] Z) fun u4 s5=>
 Cw u4 fun l6=>
 AP l6 fun x7 l8=>
 B7 x7 fun l9=>
 EY l9 fun x12 l11=>
 BV .i64 l11 fun x15 l14=>
 AP l14 fun x16 l17=>
 AP l17 fun x18 l19=>
 AP l19 fun x20 l21=>
 AZ l21 (
 BV .i64 l8 fun x24 l23=>
 BV .i64 l23 fun x27 l26=>
 AZ l26 (
 I5 (BJ [.str x12,.int .i64 x15,x16,x18,x20]) (
 AV (D 4 [] s5) fun u28 s29=>
 AT u28 fun x30=>
 Ax (fun c31 s32=>
 AI c31 (
 AV (D 4 [] s32) fun u34 s35=>
 AT u34 fun x36=>
 Ax (fun c37 s38=>
 some ((V.bool c37),s38)) fun k39=>
 AI x36 (
 AV (D 6 [.agg [.str x12,.int .i64 x15,x16,x18,x20],.agg [.str (BS.mk 0 0),.int .i64 (AA 0),V.nils,V.nils,V.nils]] s35) fun u40 s41=>
 AT u40 fun x42=>
 k39 x42 s41) (
 k39 false s35)) (
 BG x16 fun n43=>
 BG x18 fun n44=>
 Ax (fun c45 s46=>
 Ax (fun c48 s49=>
 Ax (fun c51 s52=>
 AI c51 (
 some ((V.bool false),s52)) (
 K2 (AA 0) x12 x15 x16 x18 x20 s52)) fun k53=>
 AI c48 (
 k53 true s49) (
 k53 (BS.beq x12 (BS.mk 0 0)) s49)) fun k50=>
 AI c45 (
 k50 true s46) (
 BG x20 fun n54=>
 k50 (Dt (AA 300) (AA n54)) s46)) fun k47=>
 AI (not (D0 (AA n43) (AA n44))) (
 k47 true s32) (
 BG x16 fun n55=>
 k47 (Dt (AA 40) (AA n55)) s32))) fun k33=>
 AI (not x30) (
 k33 true s29) (
 k33 (not (D0 x27 (AA 0))) s29)))))
def TN (cc3:XC) (cc4:XC):XC:=(.seq (.z (.q 7 0<|
 .nil)
 (.block 2 (.loop [(7,.i)] [3] Rc cc4)))
 (.keep [] [] [] cc3))
def qo (E:EB) (D:BB) (W:AJ) (K4:Int->BS->Int->V->V->V->H->AH) (a:BS) (b:Int) (c d e:V) (Z:H):AH:=
 K4 (AA 0) a b c d e Z
def Wu:XC:=(.seq (.z (.m 57 6<|
 .f 58 3 3<|
 .l 59 .any 58<|
 .u 60 59<|
 .b 61 .lss .none (.t 57) (.t 60)<|
 .nil)
 (.cond (.tmp 61) .skip
 Rf))
 (.seq (.block 1 (.seq (.draw (.f 64 3 3<|
 .l 65 .any 64<|
 .m 66 6<|
 .s 67 1 65 66<|
 .l 68 .i 67<|
 .b 69 .lss .none (.t 68) (.i 0)<|
 .m 70 69<|
 .gO 70 false (.p 71 [3,70] (.faddr 3 (.t 3))<|
 .p 72 [71,70] (.load none (.t 71))<|
 .p 73 [6,70] (.mov (.t 6))<|
 .p 74 [72,73,70] (.iaddrS 1 (.t 72) (.t 73))<|
 .op (some 75) .i [74,70] (.load none (.t 74))<|
 .p 76 [3,70] jP<|
 .p 77 [76,70] (.load none (.t 76))<|
 .p 78 [77,70] (.len false (.t 77))<|
 .p 79 [75,78,70] (.bin .geq .none (.t 75) (.t 78))<|
 .nil) 80 70 79<|
 .m 81 80<|
 .gO 81 false (.p 82 [6,81] (.mov (.t 6))<|
 .p 83 [82,81] (.bin .gtr .none (.t 82) (.i 0))<|
 .p 84 [83,81] (.mov (.t 83))<|
 .grp 84 true (.p 85 [3,84] (.faddr 3 (.t 3))<|
 .p 86 [85,84] (.load none (.t 85))<|
 .p 87 [6,84] (.mov (.t 6))<|
 .p 88 [86,87,84] (.iaddrS 1 (.t 86) (.t 87))<|
 .op (some 89) .i [88,84] (.load none (.t 88))<|
 .p 90 [3,84] (.faddr 3 (.t 3))<|
 .p 91 [90,84] (.load none (.t 90))<|
 .p 92 [6,84] (.mov (.t 6))<|
 .p 93 [92,84] (.bin .sub .none (.t 92) (.i 1))<|
 .p 94 [91,93,84] (.iaddrS 1 (.t 91) (.t 93))<|
 .op (some 95) .i [94,84] (.load none (.t 94))<|
 .p 96 [89,95,84] (.bin .leq .none (.t 89) (.t 95))<|
 .nil) 97 [84,96,81] (.t 84) (.t 96) (.con y1)<|
 .nil) 98 81 97<|
 .m 99 98<|
 .gO 99 false (.p 100 [3,99] (.faddr 2 (.t 3))<|
 .p 101 [100,99] (.load none (.t 100))<|
 .p 102 [6,99] (.mov (.t 6))<|
 .p 103 [101,102,99] (.iaddrS 1 (.t 101) (.t 102))<|
 .op (some 104) .str [103,99] (.load none (.t 103))<|
 .p 105 [104,99] (.bin .eql .none (.t 104) (.con y3))<|
 .nil) 106 99 105<|
 .nil) [0,1,0,7,15,31,63,127,255,127,1023,2047,127,4223,12415,32767,65535,131071,262143,524287,1048575,2097151,4194303,2097151,16777215,33554431,2097151,69206015,2097151,270532607,1008730111,2082471935,4294967295,8589934591,17179869183,34359738367,68719476735,137438953471,68719476735,549755813887,1099511627775,2199023255551,4398046511103])
 (.cond (.tmp 106) (.z (.c 2 y1<|
 .nil)
 .ret)
 .skip)))
 (.ops (.m 62 6<|
 .b 63 .add .none (.t 62) (.i 1)<|
 .m 6 63<|
 .nil))))
def Wk (E:EB) (D:BB) (W:AJ) (K1:BS->Int->V->V->V->H->AH) (R2:Int->BS->Int->V->V->V->H->AH) (a:Int) (b:BS) (c:Int) (d e f:V) (Z:H):AH:=
 BG e fun n1=>
 AI (Dt a (AA n1)) (
 Am 1 e a fun b2 o3=>
 Bm E Z b2 o3 fun u4=>
 Al .i64 u4 fun x5=>
 Ax (fun c6 s7=>
 Ax (fun c9 s10=>
 Ax (fun c12 s13=>
 AI c12 (
 some ((V.bool false),s13)) (
 R2 (CJ .i64 a (AA 1)) b c d e f s13)) fun k14=>
 AI c9 (
 k14 true s10) (
 Am 1 d a fun b15 o16=>
 Bm E s10 b15 o16 fun u17=>
 DE u17 fun x18=>
 k14 (BS.beq x18 (BS.mk 0 0)) s10)) fun k11=>
 AI c6 (
 k11 true s7) (
 Ax (fun c19 s20=>
 k11 c19 s20) fun k21=>
 AI (Dt (AA 0) a) (
 Am 1 e a fun b22 o23=>
 Bm E s7 b22 o23 fun u24=>
 Al .i64 u24 fun x25=>
 Am 1 e (JQ .i64 a (AA 1)) fun b26 o27=>
 Bm E s7 b26 o27 fun u28=>
 Al .i64 u28 fun x29=>
 k21 (Ip x25 x29) s7) (
 k21 false s7))) fun k8=>
 AI (Dt x5 (AA 0)) (
 k8 true Z) (
 Am 1 e a fun b30 o31=>
 Bm E Z b30 o31 fun u32=>
 Al .i64 u32 fun x33=>
 BG f fun n34=>
 k8 (Ip (AA n34) x33) Z)) (
 K1 b c d e f Z)
def II:XC:=(.z (.c 2 y9<|
 .nil)
 .ret)
def yK (E:EB) (D:BB) (W:AJ) (Z:H):AH:=
 some ((V.bool true),Z)
def O2 (cc5:XC) (cc6:XC) (cc7:XC):XC:=(.seq (.z (.m 107 7<|
 .f 108 4 3<|
 .l 109 .any 108<|
 .u 110 109<|
 .b 111 .lss .none (.t 107) (.t 110)<|
 .nil)
 (.cond (.tmp 111) .skip
 (.exit 2)))
 (.seq (.block 3 (.z (.f 114 4 3<|
 .l 115 .any 114<|
 .m 116 7<|
 .s 117 16 115 116<|
 .O 118 y2 (.load (some 16) (.t 117))<|
 .pal 8 [] 39 [y0,y3,y1,y0,y0,y1,y1,y1,y1,y0,y0,V.nils,V.nils,y0,y1,y0]<|
 .op none y2 [8,118] (.store 16 (.t 8) (.t 118))<|
 .nil)
 (.seq (.z (.f 119 0 8<|
 .l 120 .i 119<|
 .b 121 .lss .none (.t 120) (.i 1)<|
 .m 122 121<|
 .gO 122 false (.p 123 [8,122] (.faddr 0 (.t 8))<|
 .op (some 124) .i [123,122] (.load none (.t 123))<|
 .p 125 [124,122] (.bin .gtr .none (.t 124) (.i 11))<|
 .nil) 126 122 125<|
 .m 127 126<|
 .gO 127 false (.p 128 [8,127] (.faddr 13 (.t 8))<|
 .op (some 129) .i [128,127] (.load none (.t 128))<|
 .p 130 [129,127] (.bin .lss .none (.t 129) (.i 0))<|
 .nil) 131 127 130<|
 .m 132 131<|
 .gO 132 false (.p 133 [8,132] (.faddr 13 (.t 8))<|
 .op (some 134) .i [133,132] (.load none (.t 133))<|
 .p 135 [8,132] (.faddr 12 (.t 8))<|
 .p 136 [135,132] (.load none (.t 135))<|
 .p 137 [136,132] (.len false (.t 136))<|
 .p 138 [8,132] (.faddr 11 (.t 8))<|
 .p 139 [138,132] (.load none (.t 138))<|
 .p 140 [139,132] (.len false (.t 139))<|
 .p 141 [137,140,132] (.max (.t 137) [(.t 140)])<|
 .p 142 [134,141,132] (.bin .gtr .none (.t 134) (.t 141))<|
 .nil) 143 132 142<|
 .m 144 143<|
 .gO 144 false (.p 145 [8,144] (.faddr 0 (.t 8))<|
 .op (some 146) .i [145,144] (.load none (.t 145))<|
 .p 147 [146,144] (.bin .eql .none (.t 146) (.i 11))<|
 .p 148 [8,144] (.faddr 1 (.t 8))<|
 .op (some 149) .str [148,144] (.load none (.t 148))<|
 .p 150 [149,144] (.bin .neq .none (.t 149) (.con y3))<|
 .p 151 [147,150,144] (.bin .neq .bool (.t 147) (.t 150))<|
 .nil) 152 144 151<|
 .nil)
 (.cond (.tmp 152) (.z (.c 2 y1<|
 .nil)
 .ret)
 .skip))
 (.seq (.z (.q 9 0<|
 .nil)
 (.block 4 (.loop [(7,.i),(9,.i)] [3,8] j1 cc7)))
 (.keep [(7,.i)] [3,8] j1 cc6)))))
 (.keep [(7,.i)] [3] Rc cc5)))
def dh (E:EB) (D:BB) (W:AJ) (K3:H->AH) (K7:Int->Int->BS->Int->V->V->V->Int->BS->Bool->Int->Int->Bool->Bool->Bool->Bool->Int->Int->V->V->Int->Bool->Int->H->AH) (a:Int) (b:BS) (c:Int) (d e f:V) (Z:H):AH:=
 BG f fun n1=>
 AI (Dt a (AA n1)) (
 Am 16 f a fun b2 o3=>
 DB E Z b2 o3 16 fun l4=>
 BV .i64 l4 fun x7 l6=>
 EY l6 fun x10 l9=>
 DQ l9 fun x13 l12=>
 BV .i64 l12 fun x16 l15=>
 BV .i64 l15 fun x19 l18=>
 DQ l18 fun x22 l21=>
 DQ l21 fun x25 l24=>
 DQ l24 fun x28 l27=>
 DQ l27 fun x31 l30=>
 BV .i64 l30 fun x34 l33=>
 BV .i64 l33 fun x37 l36=>
 AP l36 fun x38 l39=>
 AP l39 fun x40 l41=>
 BV .i64 l41 fun x44 l43=>
 DQ l43 fun x47 l46=>
 BV .i64 l46 fun x50 l49=>
 AZ l49 (
 I5 (BJ [.int .i64 x7,.str x10,.bool x13,.int .i64 x16,.int .i64 x19,.bool x22,.bool x25,.bool x28,.bool x31,.int .i64 x34,.int .i64 x37,x38,x40,.int .i64 x44,.bool x47,.int .i64 x50]) (
 Ax (fun c51 s52=>
 Ax (fun c54 s55=>
 Ax (fun c57 s58=>
 Ax (fun c60 s61=>
 AI c60 (
 some ((V.bool false),s61)) (
 K7 a (AA 0) b c d e f x7 x10 x13 x16 x19 x22 x25 x28 x31 x34 x37 x38 x40 x44 x47 x50 s61)) fun k62=>
 AI c57 (
 k62 true s58) (
 TQ .bool (V.bool (D0 x7 (AA 11))) (V.bool (not (BS.beq x10 (BS.mk 0 0)))) fun c63=>
 k62 (not c63) s58)) fun k59=>
 AI c54 (
 k59 true s55) (
 BG x40 fun n64=>
 BG x38 fun n65=>
 k59 (Dt (cG (AA n64) (AA n65)) x44) s55)) fun k56=>
 AI c51 (
 k56 true s52) (
 k56 (Dt x44 (AA 0)) s52)) fun k53=>
 AI (Dt x7 (AA 1)) (
 k53 true Z) (
 k53 (Dt (AA 11) x7) Z)))) (
 K3 Z)
def Iz:XC:=(.ops (.m 112 7<|
 .b 113 .add .none (.t 112) (.i 1)<|
 .m 7 113<|
 .nil))
def df (E:EB) (D:BB) (W:AJ) (R4:Int->BS->Int->V->V->V->H->AH) (a:Int) (b:BS) (c:Int) (d e f:V) (Z:H):AH:=
 R4 (CJ .i64 a (AA 1)) b c d e f Z
def KI:XC:=(.z (.f 209 0 8<|
 .l 210 .i 209<|
 .b 211 .eql .none (.t 210) (.i 10)<|
 .m 212 211<|
 .gA 212 true (.p 213 [8,212] (.faddr 15 (.t 8))<|
 .op (some 214) .i [213,212] (.load none (.t 213))<|
 .p 215 [7,212] (.mov (.t 7))<|
 .p 216 [214,215,212] (.bin .leq .none (.t 214) (.t 215))<|
 .p 217 [216,212] (.mov (.t 216))<|
 .grp 217 false (.p 218 [8,217] (.faddr 15 (.t 8))<|
 .op (some 219) .i [218,217] (.load none (.t 218))<|
 .p 220 [3,217] jP<|
 .p 221 [220,217] (.load none (.t 220))<|
 .p 222 [221,217] (.len false (.t 221))<|
 .p 223 [219,222,217] (.bin .geq .none (.t 219) (.t 222))<|
 .nil) 224 [217,223,212] (.t 217) (.con y9) (.t 223)<|
 .nil) 225 212 224<|
 .nil)
 (.cond (.tmp 225) (.z (.c 2 y1<|
 .nil)
 .ret)
 .skip))
def de (E:EB) (D:BB) (W:AJ) (K5:Int->BS->Int->V->V->V->H->AH) (a:Int) (b:BS) (c:Int) (d e f:V) (g:Int) (h:BS) (i:Bool) (j k:Int) (l m o p:Bool) (q r:Int) (s t:V) (u:Int) (v:Bool) (w:Int) (Z:H):AH:=
 Ax (fun c1 s2=>
 AI c1 (
 some ((V.bool false),s2)) (
 K5 a b c d e f s2)) fun k3=>
 AI (D0 g (AA 10)) (
 Ax (fun c4 s5=>
 k3 c4 s5) fun k6=>
 AI (Ip w a) (
 k6 true Z) (
 BG f fun n7=>
 k6 (Ip (AA n7) w) Z)) (
 k3 false Z)
def L1:XC:=(.seq (.z (.m 153 9<|
 .f 154 12 8<|
 .l 155 .any 154<|
 .u 156 155<|
 .b 157 .lss .none (.t 153) (.t 156)<|
 .nil)
 (.cond (.tmp 157) .skip
 (.exit 4)))
 (.seq (.block 5 (.z (.f 160 12 8<|
 .l 161 .any 160<|
 .m 162 9<|
 .s 163 11 161 162<|
 .O 164 y6 (.load (some 11) (.t 163))<|
 .pal 10 [] 46 [y3,y0,y1,y1,y0,y0,V.nils,V.nils,y0,V.nils,y0]<|
 .op none y6 [10,164] (.store 11 (.t 10) (.t 164))<|
 .nil)
 (.seq (.draw (.f 165 1 10<|
 .l 166 .i 165<|
 .m 167 7<|
 .b 168 .leq .none (.t 166) (.t 167)<|
 .m 169 168<|
 .gO 169 false (.p 170 [10,169] (.faddr 1 (.t 10))<|
 .op (some 171) .i [170,169] (.load none (.t 170))<|
 .p 172 [3,169] jP<|
 .p 173 [172,169] (.load none (.t 172))<|
 .p 174 [173,169] (.len false (.t 173))<|
 .p 175 [171,174,169] (.bin .geq .none (.t 171) (.t 174))<|
 .nil) 176 169 175<|
 .m 177 176<|
 .gO 177 false (.p 178 [10,177] (.faddr 0 (.t 10))<|
 .op (some 179) .str [178,177] (.load none (.t 178))<|
 .p 180 [179,177] (.bin .eql .none (.t 179) (.con y3))<|
 .nil) 181 177 180<|
 .m 182 181<|
 .gO 182 false (.p 183 [9,182] (.mov (.t 9))<|
 .p 184 [183,182] (.bin .gtr .none (.t 183) (.i 0))<|
 .p 185 [184,182] (.mov (.t 184))<|
 .grp 185 true (.p 186 [10,185] (.faddr 1 (.t 10))<|
 .op (some 187) .i [186,185] (.load none (.t 186))<|
 .p 188 [8,185] (.faddr 12 (.t 8))<|
 .p 189 [188,185] (.load none (.t 188))<|
 .p 190 [9,185] (.mov (.t 9))<|
 .p 191 [190,185] (.bin .sub .none (.t 190) (.i 1))<|
 .p 192 [189,191,185] (.iaddrS 11 (.t 189) (.t 191))<|
 .p 193 [192,185] (.faddr 1 (.t 192))<|
 .op (some 194) .i [193,185] (.load none (.t 193))<|
 .p 195 [187,194,185] (.bin .leq .none (.t 187) (.t 194))<|
 .nil) 196 [185,195,182] (.t 185) (.t 195) (.con y1)<|
 .nil) 197 182 196<|
 .m 198 197<|
 .gO 198 false (.p 199 [10,198] (.faddr 10 (.t 10))<|
 .op (some 200) .i [199,198] (.load none (.t 199))<|
 .p 201 [200,198] (.bin .gtr .none (.t 200) (.i 0))<|
 .p 202 [201,198] (.mov (.t 201))<|
 .grp 202 true (.p 203 [9,202] (.mov (.t 9))<|
 .p 204 [8,202] (.faddr 13 (.t 8))<|
 .op (some 205) .i [204,202] (.load none (.t 204))<|
 .p 206 [203,205,202] (.bin .lss .none (.t 203) (.t 205))<|
 .nil) 207 [202,206,198] (.t 202) (.t 206) (.con y1)<|
 .nil) 208 198 207<|
 .nil) [0,1,0,7,15,31,63,31,159,415,1023,2047,4095,8191,16383,32767,65535,131071,262143,524287,1048575,2097151,4194303,2097151,10485759,2097151,35651583,127926271,262143999,530579455,1073741823,2147483647,4294967295,8589934591,17179869183,34359738367,68719476735,137438953471,274877906943,274877906943,824633720831,2199023255551,4398046511103,8796093022207])
 (.cond (.tmp 208) (.z (.c 2 y1<|
 .nil)
 .ret)
 .skip))))
 (.ops (.m 158 9<|
 .b 159 .add .none (.t 158) (.i 1)<|
 .m 9 159<|
 .nil))))
def dc (E:EB) (D:BB) (W:AJ) (K6:Int->BS->Int->V->V->V->Int->BS->Bool->Int->Int->Bool->Bool->Bool->Bool->Int->Int->V->V->Int->Bool->Int->H->AH) (R7:Int->Int->BS->Int->V->V->V->Int->BS->Bool->Int->Int->Bool->Bool->Bool->Bool->Int->Int->V->V->Int->Bool->Int->H->AH) (a b:Int) (c:BS) (d:Int) (e f g:V) (h:Int) (i:BS) (j:Bool) (k l:Int) (m o p q:Bool) (r s:Int) (t u:V) (v:Int) (w:Bool) (x:Int) (Z:H):AH:=
 BG u fun n1=>
 AI (Dt b (AA n1)) (
 Am 11 u b fun b2 o3=>
 DB E Z b2 o3 11 fun l4=>
 EY l4 fun x7 l6=>
 BV .i64 l6 fun x10 l9=>
 DQ l9 fun x13 l12=>
 DQ l12 fun x16 l15=>
 BV .i64 l15 fun x19 l18=>
 BV .i64 l18 fun x22 l21=>
 AP l21 fun x23 l24=>
 AP l24 fun x25 l26=>
 BV .i64 l26 fun x29 l28=>
 AP l28 fun x30 l31=>
 BV .i64 l31 fun x34 l33=>
 AZ l33 (
 I5 (BJ [.str x7,.int .i64 x10,.bool x13,.bool x16,.int .i64 x19,.int .i64 x22,x23,x25,.int .i64 x29,x30,.int .i64 x34]) (
 Ax (fun c35 s36=>
 Ax (fun c38 s39=>
 Ax (fun c41 s42=>
 Ax (fun c44 s45=>
 AI c44 (
 some ((V.bool false),s45)) (
 R7 a (CJ .i64 b (AA 1)) c d e f g h i j k l m o p q r s t u v w x s45)) fun k46=>
 AI c41 (
 k46 true s42) (
 Ax (fun c47 s48=>
 k46 c47 s48) fun k49=>
 AI (Dt (AA 0) x34) (
 k49 (Dt b v) s42) (
 k49 false s42))) fun k43=>
 AI c38 (
 k43 true s39) (
 Ax (fun c50 s51=>
 k43 c50 s51) fun k52=>
 AI (Dt (AA 0) b) (
 Am 11 u (JQ .i64 b (AA 1)) fun b53 o54=>
 Bm E s39 b53 (AU o54 1) fun u55=>
 Al .i64 u55 fun x56=>
 k52 (Ip x10 x56) s39) (
 k52 false s39))) fun k40=>
 AI c35 (
 k40 true s36) (
 k40 (BS.beq x7 (BS.mk 0 0)) s36)) fun k37=>
 AI (Ip x10 a) (
 k37 true Z) (
 BG g fun n57=>
 k37 (Ip (AA n57) x10) Z)))) (
 K6 a c d e f g h i j k l m o p q r s t u v w x Z)
def rR (a:BS) (Z:H):St:=⟨[(0,.str a)],[],[],Z⟩
def ki (a:BS) (b:Int) (c d e:V) (Z:H):St:=⟨[],[(3,(3,0))],[(3,[.str a,.int .i64 b,c,d,e])],Z⟩
def dy (a:Int) (b:BS) (c:Int) (d e f:V) (Z:H):St:=⟨[(6,.int .i64 a)],[(3,(3,0))],[(3,[.str b,.int .i64 c,d,e,f])],Z⟩
def rO (Z:H):St:=⟨[],[],[],Z⟩
def PV (a:Int) (b:BS) (c:Int) (d e f:V) (Z:H):St:=⟨[(7,.int .i64 a)],[(3,(3,0))],[(3,[.str b,.int .i64 c,d,e,f])],Z⟩
def kh (a:Int) (b:BS) (c:Int) (d e f:V) (g:Int) (h:BS) (i:Bool) (j k:Int) (l m o p:Bool) (q r:Int) (s t:V) (u:Int) (v:Bool) (w:Int) (Z:H):St:=⟨[(7,.int .i64 a)],[(3,(3,0)),(8,(8,0))],[(3,[.str b,.int .i64 c,d,e,f]),(8,[.int .i64 g,.str h,.bool i,.int .i64 j,.int .i64 k,.bool l,.bool m,.bool o,.bool p,.int .i64 q,.int .i64 r,s,t,.int .i64 u,.bool v,.int .i64 w])],Z⟩
def dw (a b:Int) (c:BS) (d:Int) (e f g:V) (h:Int) (i:BS) (j:Bool) (k l:Int) (m o p q:Bool) (r s:Int) (t u:V) (v:Int) (w:Bool) (x:Int) (Z:H):St:=⟨[(7,.int .i64 a),(9,.int .i64 b)],[(3,(3,0)),(8,(8,0))],[(3,[.str c,.int .i64 d,e,f,g]),(8,[.int .i64 h,.str i,.bool j,.int .i64 k,.int .i64 l,.bool m,.bool o,.bool p,.bool q,.int .i64 r,.int .i64 s,t,u,.int .i64 v,.bool w,.int .i64 x])],Z⟩
theorem zi (cc1:XC) (cc2:XC) (a:BS) (Z:H) :
 AW E D W N (nK cc1 cc2) (rR a Z) (EI E) nX (EI E) =
 Wl E D W (fun b c d e f g Z=>BE (fun rec s'=>AW E D W N cc2 s' (kX [(6,.i)] [3] Rc rec) (wF E D W N cc1) (EI E)) N (dy b c d e f g Z)) a Z:=by kernel_rfl
theorem zh (cc3:XC) (cc4:XC) (a:BS) (b:Int) (c d e:V) (Z:H) :
 AW E D W N (TN cc3 cc4) (ki a b c d e Z) (EI E) nX (EI E) =
 qo E D W (fun f a b c d e Z=>BE (fun rec s'=>AW E D W N cc4 s' (kX [(7,.i)] [3] Rc rec) (W0 E D W N cc3) (EI E)) N (PV f a b c d e Z)) a b c d e Z:=by kernel_rfl
theorem zg (cc1:XC) (li2:St->AH) (a:Int) (b:BS) (c:Int) (d e f:V) (Z:H) :
 AW E D W N (Wu ) (dy a b c d e f Z) (kX [(6,.i)] [3] Rc li2) (wF E D W N cc1) (EI E) =
 Wk E D W (fun b c d e f Z=>AW E D W N cc1 (ki b c d e f Z) (EI E) nX (EI E)) (fun a b c d e f Z=>li2 (dy a b c d e f Z)) a b c d e f Z:=by kernel_rfl
theorem zf (cc3:XC) (cc5:XC) (cc6:XC) (cc7:XC) (li4:St->AH) (a:Int) (b:BS) (c:Int) (d e f:V) (Z:H) :
 AW E D W N (O2 cc5 cc6 cc7) (PV a b c d e f Z) (kX [(7,.i)] [3] Rc li4) (W0 E D W N cc3) (EI E) =
 dh E D W (fun  Z=>AW E D W N cc3 (rO Z) (EI E) nX (EI E)) (fun a g b c d e f h j k l m o p q r s t u v w x y Z=>BE (fun rec s'=>AW E D W N cc7 s' (kX [(7,.i),(9,.i)] [3,8] j1 rec) (wG E D W N cc6 cc5 cc3 li4) (EI E)) N (dw a g b c d e f h j k l m o p q r s t u v w x y Z)) a b c d e f Z:=by kernel_rfl
theorem ze (cc3:XC) (li4:St->AH) (a:Int) (b:BS) (c:Int) (d e f:V) (Z:H) :
 AW E D W N (Iz ) (PV a b c d e f Z) (kX [(7,.i)] [3] Rc li4) (W0 E D W N cc3) (EI E) =
 df E D W (fun a b c d e f Z=>li4 (PV a b c d e f Z)) a b c d e f Z:=by kernel_rfl
theorem zd (cc3:XC) (cc5:XC) (li4:St->AH) (a:Int) (b:BS) (c:Int) (d e f:V) (g:Int) (h:BS) (j:Bool) (k l:Int) (m o p q:Bool) (r s:Int) (t u:V) (v:Int) (w:Bool) (x:Int) (Z:H) :
 AW E D W N (KI ) (kh a b c d e f g h j k l m o p q r s t u v w x Z) (dG E D W N cc5 cc3 li4) (CC 3 (dG E D W N cc5 cc3 li4) (W0 E D W N cc3)) (EI E) =
 de E D W (fun a b c d e f Z=>AW E D W N cc5 (PV a b c d e f Z) (kX [(7,.i)] [3] Rc li4) (W0 E D W N cc3) (EI E)) a b c d e f g h j k l m o p q r s t u v w x Z:=by kernel_rfl
theorem zc (cc3:XC) (cc5:XC) (cc6:XC) (li4:St->AH) (li7:St->AH) (a b:Int) (c:BS) (d:Int) (e f g:V) (h:Int) (j:BS) (k:Bool) (l m:Int) (o p q r:Bool) (s t:Int) (u v:V) (w:Int) (x:Bool) (y:Int) (Z:H) :
 AW E D W N (L1 ) (dw a b c d e f g h j k l m o p q r s t u v w x y Z) (kX [(7,.i),(9,.i)] [3,8] j1 li7) (wG E D W N cc6 cc5 cc3 li4) (EI E) =
 dc E D W (fun a c d e f g h j k l m o p q r s t u v w x y Z=>AW E D W N cc6 (kh a c d e f g h j k l m o p q r s t u v w x y Z) (dG E D W N cc5 cc3 li4) (CC 3 (dG E D W N cc5 cc3 li4) (W0 E D W N cc3)) (EI E)) (fun a b c d e f g h j k l m o p q r s t u v w x y Z=>li7 (dw a b c d e f g h j k l m o p q r s t u v w x y Z)) a b c d e f g h j k l m o p q r s t u v w x y Z:=by kernel_rfl
def nG (E:EB) (D:BB) (W:AJ) (N:Nat):=yK E D W
theorem tS (Z:H) :
 AW E D W N II (rO Z) (EI E) nX (EI E)=nG E D W N  Z:=by kernel_rfl
def tj (E:EB) (D:BB) (W:AJ) (N:Nat) (R4:Int->BS->Int->V->V->V->H->AH):=df E D W R4
theorem tR (li4:St->AH) (a:Int) (b:BS) (c:Int) (d e f:V) (Z:H) :
 AW E D W N Iz (PV a b c d e f Z) (kX [(7,.i)] [3] Rc li4) (W0 E D W N II) (EI E)=tj E D W N (fun a b c d e f Z=>li4 (PV a b c d e f Z)) a b c d e f Z:=by
 refine(ze E D W N II li4 a b c d e f Z).trans ?_
 kernel_rfl
def aD (R4:Int->BS->Int->V->V->V->H->AH):=de E D W (tj E D W N R4)
theorem tQ (li4:St->AH) (a:Int) (b:BS) (c:Int) (d e f:V) (g:Int) (h:BS) (i:Bool) (j k:Int) (l m o p:Bool) (q r:Int) (s t:V) (u:Int) (v:Bool) (w:Int) (Z:H) :
 AW E D W N KI (kh a b c d e f g h i j k l m o p q r s t u v w Z) (dG E D W N Iz II li4) (CC 3 (dG E D W N Iz II li4) (W0 E D W N II)) (EI E)=aD E D W N (fun a b c d e f Z=>li4 (PV a b c d e f Z)) a b c d e f g h i j k l m o p q r s t u v w Z:=by
 refine(zd E D W N II Iz li4 a b c d e f g h i j k l m o p q r s t u v w Z).trans ?_
 simp only[tR]
 kernel_rfl
def Wp (R4:Int->BS->Int->V->V->V->H->AH) (n:Nat):Int->Int->BS->Int->V->V->V->Int->BS->Bool->Int->Int->Bool->Bool->Bool->Bool->Int->Int->V->V->Int->Bool->Int->H->AH:=
 Nat.rec (fun _ _ _ _ _ _ _ _ _ _ _ _ _ _ _ _ _ _ _ _ _ _ _ _=>none) (fun _ ih=>dc E D W (aD E D W N R4) ih) n
theorem tI (li4:St->AH) (n:Nat):∀(a b:Int) (c:BS) (d:Int) (e f g:V) (h:Int) (j:BS) (k:Bool) (l m:Int) (o p q r:Bool) (s t:Int) (u v:V) (w:Int) (x:Bool) (y:Int) (Z:H),
 BE (fun rec s'=>AW E D W N L1 s' (kX [(7,.i),(9,.i)] [3,8] j1 rec) (wG E D W N KI Iz II li4) (EI E)) n (dw a b c d e f g h j k l m o p q r s t u v w x y Z)=Wp E D W N (fun a c d e f g Z=>li4 (PV a c d e f g Z)) n a b c d e f g h j k l m o p q r s t u v w x y Z:=by
 induction n with
 | zero=>intro a b c d e f g h j k l m o p q r s t u v w x y Z;rfl
 | succ n ihn=>
  intro a b c d e f g h j k l m o p q r s t u v w x y Z
  rw[BP]
  refine(zc E D W N II Iz KI li4 (BE (fun rec s'=>AW E D W N L1 s' (kX [(7,.i),(9,.i)] [3,8] j1 rec) (wG E D W N KI Iz II li4) (EI E)) n) a b c d e f g h j k l m o p q r s t u v w x y Z).trans ?_
  simp only[ihn,tQ]
  kernel_rfl
def eA (n:Nat):Int->BS->Int->V->V->V->H->AH:=
 Nat.rec (fun _ _ _ _ _ _ _=>none) (fun _ ih=>dh E D W (nG E D W N ) (Wp E D W N ih N)) n
theorem tJ (n:Nat):∀(a:Int) (b:BS) (c:Int) (d e f:V) (Z:H),
 BE (fun rec s'=>AW E D W N (O2 Iz KI L1) s' (kX [(7,.i)] [3] Rc rec) (W0 E D W N II) (EI E)) n (PV a b c d e f Z)=eA E D W N n a b c d e f Z:=by
 induction n with
 | zero=>intro a b c d e f Z;rfl
 | succ n ihn=>
  intro a b c d e f Z
  rw[BP]
  refine(zf E D W N II Iz KI L1 (BE (fun rec s'=>AW E D W N (O2 Iz KI L1) s' (kX [(7,.i)] [3] Rc rec) (W0 E D W N II) (EI E)) n) a b c d e f Z).trans ?_
  simp only[ihn,tS,tI]
  kernel_rfl
def eG:=qo E D W (eA E D W N N)
theorem tT (a:BS) (b:Int) (c d e:V) (Z:H) :
 AW E D W N (TN II (O2 Iz KI L1)) (ki a b c d e Z) (EI E) nX (EI E)=eG E D W N a b c d e Z:=by
 refine(zh E D W N II (O2 Iz KI L1)  a b c d e Z).trans ?_
 simp only[tJ]
 kernel_rfl
def Zp (n:Nat):Int->BS->Int->V->V->V->H->AH:=
 Nat.rec (fun _ _ _ _ _ _ _=>none) (fun _ ih=>Wk E D W (eG E D W N ) ih) n
theorem tK (n:Nat):∀(a:Int) (b:BS) (c:Int) (d e f:V) (Z:H),
 BE (fun rec s'=>AW E D W N Wu s' (kX [(6,.i)] [3] Rc rec) (wF E D W N (TN II (O2 Iz KI L1))) (EI E)) n (dy a b c d e f Z)=Zp E D W N n a b c d e f Z:=by
 induction n with
 | zero=>intro a b c d e f Z;rfl
 | succ n ihn=>
  intro a b c d e f Z
  rw[BP]
  refine(zg E D W N (TN II (O2 Iz KI L1)) (BE (fun rec s'=>AW E D W N Wu s' (kX [(6,.i)] [3] Rc rec) (wF E D W N (TN II (O2 Iz KI L1))) (EI E)) n) a b c d e f Z).trans ?_
  simp only[ihn,tT]
  kernel_rfl
def tm:=Wl E D W (Zp E D W N N)
theorem tU (a:BS) (Z:H) :
 AW E D W N (nK (TN II (O2 Iz KI L1)) Wu) (rR a Z) (EI E) nX (EI E)=tm E D W N a Z:=by
 refine(zi E D W N (TN II (O2 Iz KI L1)) Wu  a Z).trans ?_
 simp only[tK]
 kernel_rfl
def F3 (args:List V) (Z:H):AH:=
 EY args fun x3 l2=>
 AZ l2 (
 tm E D W N x3 Z)
def A3:Eg:=⟨226,[.str],[(.tmp 2)],(nK (TN II (O2 Iz KI L1)) Wu)⟩
theorem FE3 (args:List V) (Z:H):CR E D W N A3 args Z=F3 E D W N args Z:=by
 unfold F3
 simp only[<-tU]
 kernel_rfl
def Wq:List BR:=[⟨(some 27),.build [(V.str ⟨0,0⟩),(V.int .i64 (AA 0)),V.nils,V.nils,V.nils] [],none⟩,⟨(some 28),.mov (.tmp 8),none⟩,⟨(some 29),.nilck (.tmp 28),none⟩,⟨(some 30),.faddr 7 (.tmp 29),none⟩,⟨(some 31),.load none (.tmp 30),none⟩,⟨(some 32),.mov (.tmp 8),none⟩,⟨(some 33),.nilck (.tmp 32),none⟩,⟨(some 34),.faddr 8 (.tmp 33),none⟩,⟨(some 35),.load none (.tmp 34),none⟩,⟨none,.store 5 (.tmp 2) (.tmp 27),none⟩,⟨(some 3),.mov (.tmp 31),none⟩,⟨(some 4),.mov (.tmp 35),none⟩]
def aE:List DP:=[⟨0,[]⟩,⟨0,[8]⟩,⟨2,[28]⟩,⟨6,[29]⟩,⟨14,[30]⟩,⟨0,[8]⟩,⟨32,[32]⟩,⟨96,[33]⟩,⟨224,[34]⟩,⟨1,[2,27]⟩,⟨543,[31]⟩,⟨2047,[35]⟩]
def ABg:XC:=(.z (.p 2 [] (.alloc 27 [y3,y0,V.nils,V.nils,V.nils])<|
 .q 3 0<|
 .q 4 0<|
 .nil)
 (.z (.m 10 0<|
 .k 11 (.tup [.any,.i,.i]) 7 [(.t 10)]<|
 .m 9 11<|
 .P 12 (.extract 0 (.t 9))<|
 .P 13 (.extract 1 (.t 9))<|
 .P 14 (.extract 2 (.t 9))<|
 .m 5 12<|
 .m 6 13<|
 .m 7 14<|
 .nil)
 (.seq (.z (.m 15 7<|
 .b 16 .neq .none (.t 15) (.i 0)<|
 .nil)
 (.cond (.tmp 16) (.z (.op (some 17) av [] (.build [y3,y0,V.nils,V.nils,V.nils] [])<|
 .m 18 6<|
 .m 19 7<|
 .op none av [2,17] (.store 5 (.t 2) (.t 17))<|
 .m 3 18<|
 .m 4 19<|
 .nil)
 .ret)
 .skip))
 (.z (.m 20 5<|
 .op (some 21) (.agg [.any,.i]) [20] (.build [V.nils,y0] [(0,1,(.t 20))])<|
 .op (some 22) (.agg [.any,.i,.str,.i,.any,.any,.any,.i,.i]) [21] (.build [V.nils,y0,y3,y0,V.nils,V.nils,V.nils,y0,y0] [(0,2,(.t 21))])<|
 .P 23 (.box 55 (.t 22))<|
 .m 8 23<|
 .nil)
 (.seq (.z (.m 24 8<|
 .k 25 .bool 8 [(.t 24)]<|
 .P 26 (.un .not (.t 25))<|
 .nil)
 (.cond (.tmp 26) (.seq (.keep [(2,.ptr),(8,.ptr)] [] [] (.gdraw Wq aE [(2,.ptr),(3,.i),(4,.i)]))
 .ret)
 .skip))
 (.z (.m 36 8<|
 .n 37 36<|
 .f 38 2 37<|
 .O 39 av (.load (some 5) (.t 38))<|
 .op none av [2,39] (.store 5 (.t 2) (.t 39))<|
 .q 3 0<|
 .q 4 0<|
 .nil)
 .ret))))))
def UA (a:BS) (Z:H):AH:=
 let s1:=CO Z (.cells [.str ⟨0,0⟩,.int .i64 (AA 0),V.nils,V.nils,V.nils]);
 AV (D 7 [.str a] s1) fun u2 s3=>
 Cw u2 fun l4=>
 AP l4 fun x5 l6=>
 BV .i64 l6 fun x9 l8=>
 BV .i64 l8 fun x12 l11=>
 AZ l11 (
 AI (not (D0 x12 (AA 0))) (
 Dk 5 (H.next Z) 0 (V.agg [.str (BS.mk 0 0),.int .i64 (AA 0),V.nils,V.nils,V.nils]) s3 fun s13=>
 DB E s13 (H.next Z) 0 5 fun u14=>
 some ((V.tup [.agg u14,.int .i64 x9,.int .i64 x12]),s13)) (
 Lk [(0,1,x5)] [V.nils,.int .i64 (AA 0)] fun l15=>
 AP l15 fun x16 l17=>
 BV .i64 l17 fun x20 l19=>
 AZ l19 (
 PO [x16,.int .i64 x20,.str (BS.mk 0 0),.int .i64 (AA 0),V.nils,V.nils,V.nils,.int .i64 (AA 0),.int .i64 (AA 0)] s3 fun s21=>
 AV (D 8 [.ptr (H.next s3) 0] s21) fun u22 s23=>
 AT u22 fun x24=>
 AI (not x24) (
 Ee (W Wq aE [(2,.ptr (H.next Z) 0),(8,.ptr (H.next s3) 0)] s23) fun e25 s26=>
 E0 e25 2 fun u27=>
 Br u27 fun b28 o29=>
 E0 e25 3 fun u30=>
 Al .i64 u30 fun x31=>
 E0 e25 4 fun u32=>
 Al .i64 u32 fun x33=>
 DB E s26 b28 o29 5 fun u34=>
 some ((V.tup [.agg u34,.int .i64 x31,.int .i64 x33]),s26)) (
 DB E s23 (H.next s3) 2 5 fun l35=>
 EY l35 fun x38 l37=>
 BV .i64 l37 fun x41 l40=>
 AP l40 fun x42 l43=>
 AP l43 fun x44 l45=>
 AP l45 fun x46 l47=>
 AZ l47 (
 Dk 5 (H.next Z) 0 (V.agg [.str x38,.int .i64 x41,x42,x44,x46]) s23 fun s48=>
 DB E s48 (H.next Z) 0 5 fun u49=>
 some ((V.tup [.agg u49,.int .i64 (AA 0),.int .i64 (AA 0)]),s48))))))
def F5 (N:Nat) (args:List V) (Z:H):AH:=
 EY args fun x3 l2=>
 AZ l2 (
 UA E D W x3 Z)
def A5:Eg:=⟨40,[.str],[(.cell 2 (some 5)),(.tmp 3),(.tmp 4)],ABg⟩
theorem FE5 (args:List V) (Z:H):CR E D W N A5 args Z=F5 E D W N args Z:=by kernel_rfl
def ABf:XC:=(.z (.P 2 (.box 27 (.t 0))<|
 .P 3 (.box 27 (.t 1))<|
 .c 4 y1<|
 .nil)
 (.z (.f 5 0 2<|
 .l 6 .str 5<|
 .f 7 0 3<|
 .l 8 .str 7<|
 .b 9 .eql .none (.t 6) (.t 8)<|
 .m 10 9<|
 .gA 10 true (.p 11 [2,10] (.faddr 1 (.t 2))<|
 .op (some 12) .i [11,10] (.load none (.t 11))<|
 .p 13 [3,10] (.faddr 1 (.t 3))<|
 .op (some 14) .i [13,10] (.load none (.t 13))<|
 .p 15 [12,14,10] (.bin .eql .none (.t 12) (.t 14))<|
 .nil) 16 10 15<|
 .m 17 16<|
 .gA 17 true (.p 18 [2,17] (.faddr 2 (.t 2))<|
 .p 19 [18,17] (.load none (.t 18))<|
 .p 20 [3,17] (.faddr 2 (.t 3))<|
 .p 21 [20,17] (.load none (.t 20))<|
 .op (some 22) .bool [19,21,17] (.call 9 [(.t 19),(.t 21)])<|
 .nil) 23 17 22<|
 .m 24 23<|
 .gA 24 true (.p 25 [2,24] (.faddr 3 (.t 2))<|
 .p 26 [25,24] (.load none (.t 25))<|
 .p 27 [3,24] (.faddr 3 (.t 3))<|
 .p 28 [27,24] (.load none (.t 27))<|
 .op (some 29) .bool [26,28,24] (.call 10 [(.t 26),(.t 28)])<|
 .nil) 30 24 29<|
 .m 31 30<|
 .gA 31 true (.p 32 [2,31] (.faddr 4 (.t 2))<|
 .p 33 [32,31] (.load none (.t 32))<|
 .p 34 [3,31] jP<|
 .p 35 [34,31] (.load none (.t 34))<|
 .op (some 36) .bool [33,35,31] (.call 11 [(.t 33),(.t 35),(.con (V.fn 12 [] []))])<|
 .nil) 37 31 36<|
 .m 4 37<|
 .nil)
 .ret))
def yJ (E:EB) (D:BB) (W:AJ) (a:BS) (b:Int) (c d e:V) (f:BS) (g:Int) (h i j:V) (Z:H):AH:=
 PO [.str a,.int .i64 b,c,d,e] Z fun s1=>
 PO [.str f,.int .i64 g,h,i,j] s1 fun s2=>
 Bm E s2 (H.next Z) 0 fun u3=>
 DE u3 fun x4=>
 Bm E s2 (H.next s1) 0 fun u5=>
 DE u5 fun x6=>
 Ax (fun c7 s8=>
 Ax (fun c10 s11=>
 Ax (fun c13 s14=>
 Ax (fun c16 s17=>
 some ((V.bool c16),s17)) fun k18=>
 AI c13 (
 Bm E s14 (H.next Z) 4 fun u19=>
 Bm E s14 (H.next s1) 4 fun u20=>
 AV (D 11 [u19,u20,.fn 12 [] []] s14) fun u21 s22=>
 AT u21 fun x23=>
 k18 x23 s22) (
 k18 false s14)) fun k15=>
 AI c10 (
 Bm E s11 (H.next Z) 3 fun u24=>
 Bm E s11 (H.next s1) 3 fun u25=>
 AV (D 10 [u24,u25] s11) fun u26 s27=>
 AT u26 fun x28=>
 k15 x28 s27) (
 k15 false s11)) fun k12=>
 AI c7 (
 Bm E s8 (H.next Z) 2 fun u29=>
 Bm E s8 (H.next s1) 2 fun u30=>
 AV (D 9 [u29,u30] s8) fun u31 s32=>
 AT u31 fun x33=>
 k12 x33 s32) (
 k12 false s8)) fun k9=>
 AI (BS.beq x4 x6) (
 Bm E s2 (H.next Z) 1 fun u34=>
 Al .i64 u34 fun x35=>
 Bm E s2 (H.next s1) 1 fun u36=>
 Al .i64 u36 fun x37=>
 k9 (D0 x35 x37) s2) (
 k9 false s2)
def F6 (N:Nat) (args:List V) (Z:H):AH:=
 AP args fun x1 l2=>
 B7 x1 fun l3=>
 EY l3 fun x6 l5=>
 BV .i64 l5 fun x9 l8=>
 AP l8 fun x10 l11=>
 AP l11 fun x12 l13=>
 AP l13 fun x14 l15=>
 AZ l15 (
 AP l2 fun x16 l17=>
 B7 x16 fun l18=>
 EY l18 fun x21 l20=>
 BV .i64 l20 fun x24 l23=>
 AP l23 fun x25 l26=>
 AP l26 fun x27 l28=>
 AP l28 fun x29 l30=>
 AZ l30 (
 AZ l17 (
 yJ E D W x6 x9 x10 x12 x14 x21 x24 x25 x27 x29 Z)))
def A6:Eg:=⟨38,[av,av],[(.tmp 4)],ABf⟩
theorem FE6 (args:List V) (Z:H):CR E D W N A6 args Z=F6 E D W N args Z:=by kernel_rfl
def pf:List (Nat × EH):=[(0,.str),(5,.ptr),(6,.any)]
def Lx (E:EB):St->AH:=fun s=>Ek E s [(.tmp 2),(.tmp 3),(.tmp 4)] fun l=>some (FF l,s.Z)
def wE (c0:XC):Nat->St->AH:=CC 0 (dX E D W N (.keep [(0,.str),(6,.any)] [] [] c0) (Lx E) nX (Lx E)) nX
def nJ (cc1:XC) (cc2:XC):XC:=(.z (.c 2 V.nils<|
 .q 3 0<|
 .q 4 0<|
 .nil)
 (.seq (.z (.m 10 0<|
 .P 11 (.len true (.t 10))<|
 .b 12 .gtr .none (.t 11) (.i 8000)<|
 .nil)
 (.cond (.tmp 12) (.z (.c 2 V.nils<|
 .q 3 0<|
 .q 4 5<|
 .nil)
 .ret)
 .skip))
 (.z (.m 13 0<|
 .op (some 14) (.agg [.str,.i]) [13] (.build [y3,y0] [(0,1,(.t 13))])<|
 .op (some 15) (.agg [.str,.i]) [14] (.build [y3,y0] [(0,2,(.t 14))])<|
 .P 16 (.box 64 (.t 15))<|
 .m 5 16<|
 .nil)
 (.z (.c 6 V.nils<|
 .nil)
 (.seq (.z (.m 17 5<|
 .n 18 17<|
 .f 19 0 18<|
 .k 20 (.tup []) 13 [(.t 19)]<|
 .nil)
 (.block 0 (.loop pf [] [] cc2)))
 (.keep [(0,.str),(6,.any)] [] [] cc1))))))
def T9 (E:EB) (D:BB) (W:AJ) (K2:BS->Nat->Nat->V->H->AH) (a:BS) (Z:H):AH:=
 AI (Dt (AA 8000) (AA (BS.len a))) (
 some ((V.tup [V.nils,.int .i64 (AA 0),.int .i64 (AA 5)]),Z)) (
 PO [.str a,.int .i64 (AA 0)] Z fun s1=>
 AV (D 13 [.ptr (H.next Z) 0] s1) fun u2 s3=>
 Cw u2 fun l4=>
 AZ l4 (
 K2 a (H.next Z) 0 V.nils s3))
def UH:XC:=(.z (.m 53 6<|
 .m 54 0<|
 .P 55 (.len true (.t 54))<|
 .op (some 56) y4 [55] (.build [y0,y3,y0] [(2,1,(.t 55))])<|
 .p 57 [56] (.buildSlice 68 1 [y0,y3,y0] [(0,3,(.t 56))])<|
 .O 58 .one (.append 68 3 32 (.t 53) (.t 57))<|
 .m 2 58<|
 .q 3 0<|
 .q 4 0<|
 .nil)
 .ret)
def kf (E:EB) (D:BB) (W:AJ) (a:BS) (b:V) (Z:H):AH:=
 let s1:=CO Z (.cells [.int .i64 (AA 0),.str (BS.mk 0 0),.int .i64 (AA (BS.len a))]);
 Ix E 3 32 b (V.sl (H.next Z) 0 1 (.ex 1)) s1 fun u2 s3=>
 Fk u2 (
 some ((V.tup [u2,.int .i64 (AA 0),.int .i64 (AA 0)]),s3))
def Wt:XC:=(.seq (.z (.m 21 5<|
 .n 22 21<|
 .f 23 0 22<|
 .f 24 1 23<|
 .l 25 .i 24<|
 .m 26 0<|
 .P 27 (.len true (.t 26))<|
 .b 28 .lss .none (.t 25) (.t 27)<|
 .nil)
 (.cond (.tmp 28) .skip
 Rf))
 (.seq (.block 1 (.z (.m 33 5<|
 .n 34 33<|
 .f 35 0 34<|
 .f 36 1 35<|
 .l 37 .i 36<|
 .m 7 37<|
 .nil)
 (.z (.m 39 5<|
 .k 40 (.tup [.i,.str]) 14 [(.t 39)]<|
 .m 38 40<|
 .P 41 (.extract 0 (.t 38))<|
 .P 42 (.extract 1 (.t 38))<|
 .m 8 41<|
 .m 9 42<|
 .nil)
 (.seq (.z (.m 43 8<|
 .b 44 .eql .none (.t 43) (.i 0)<|
 .nil)
 (.cond (.tmp 44) (.z (.m 45 7<|
 .c 2 V.nils<|
 .m 3 45<|
 .q 4 6<|
 .nil)
 .ret)
 .skip))
 (.ops (.m 46 6<|
 .m 47 8<|
 .m 48 9<|
 .m 49 7<|
 .op (some 50) y4 [47,48,49] (.build [y0,y3,y0] [(0,1,(.t 47)),(1,1,(.t 48)),(2,1,(.t 49))])<|
 .p 51 [50] (.buildSlice 68 1 [y0,y3,y0] [(0,3,(.t 50))])<|
 .O 52 .one (.append 68 3 32 (.t 46) (.t 51))<|
 .m 6 52<|
 .nil))))))
 (.ops (.m 29 5<|
 .n 30 29<|
 .f 31 0 30<|
 .k 32 (.tup []) 13 [(.t 31)]<|
 .nil))))
def PU (E:EB) (D:BB) (W:AJ) (K1:BS->V->H->AH) (R2:BS->Nat->Nat->V->H->AH) (a:BS) (b c:Nat) (d:V) (Z:H):AH:=
 Bm E Z b (AU c 1) fun u1=>
 Al .i64 u1 fun x2=>
 AI (Dt x2 (AA (BS.len a))) (
 Bm E Z b (AU c 1) fun u3=>
 Al .i64 u3 fun x4=>
 AV (D 14 [.ptr b c] Z) fun u5 s6=>
 Cw u5 fun l7=>
 BV .i64 l7 fun x10 l9=>
 EY l9 fun x13 l12=>
 AZ l12 (
 AI (D0 x10 (AA 0)) (
 some ((V.tup [V.nils,.int .i64 x4,.int .i64 (AA 6)]),s6)) (
 let s14:=CO s6 (.cells [.int .i64 x10,.str x13,.int .i64 x4]);
 Ix E 3 32 d (V.sl (H.next s6) 0 1 (.ex 1)) s14 fun u15 s16=>
 Fk u15 (
 AV (D 13 [.ptr b c] s16) fun u17 s18=>
 Cw u17 fun l19=>
 AZ l19 (
 R2 a b c u15 s18))))) (
 K1 a d Z)
def rN (a:BS) (Z:H):St:=⟨[(0,.str a)],[],[],Z⟩
def rM (a:BS) (b:V) (Z:H):St:=⟨[(0,.str a),(6,b)],[],[],Z⟩
def dt (a:BS) (b c:Nat) (d:V) (Z:H):St:=⟨[(0,.str a),(5,.ptr b c),(6,d)],[],[],Z⟩
theorem zb (cc1:XC) (cc2:XC) (a:BS) (Z:H) :
 AW E D W N (nJ cc1 cc2) (rN a Z) (Lx E) nX (Lx E) =
 T9 E D W (fun a b c d Z=>BE (fun rec s'=>AW E D W N cc2 s' (kX pf [] [] rec) (wE E D W N cc1) (Lx E)) N (dt a b c d Z)) a Z:=by kernel_rfl
theorem za (cc1:XC) (li2:St->AH) (a:BS) (b c:Nat) (d:V) (Z:H) :
 AW E D W N (Wt ) (dt a b c d Z) (kX pf [] [] li2) (wE E D W N cc1) (Lx E) =
 PU E D W (fun a d Z=>AW E D W N cc1 (rM a d Z) (Lx E) nX (Lx E)) (fun a b c d Z=>li2 (dt a b c d Z)) a b c d Z:=by kernel_rfl
def eF (E:EB) (D:BB) (W:AJ) (N:Nat):=kf E D W
theorem tO (a:BS) (b:V) (Z:H) :
 AW E D W N UH (rM a b Z) (Lx E) nX (Lx E)=eF E D W N a b Z:=by kernel_rfl
def Zo (n:Nat):BS->Nat->Nat->V->H->AH:=
 Nat.rec (fun _ _ _ _ _=>none) (fun _ ih=>PU E D W (eF E D W N ) ih) n
theorem tH (n:Nat):∀(a:BS) (b c:Nat) (d:V) (Z:H),
 BE (fun rec s'=>AW E D W N Wt s' (kX pf [] [] rec) (wE E D W N UH) (Lx E)) n (dt a b c d Z)=Zo E D W N n a b c d Z:=by
 induction n with
 | zero=>intro a b c d Z;rfl
 | succ n ihn=>
  intro a b c d Z
  rw[BP]
  refine(za E D W N UH (BE (fun rec s'=>AW E D W N Wt s' (kX pf [] [] rec) (wE E D W N UH) (Lx E)) n) a b c d Z).trans ?_
  simp only[ihn,tO]
  kernel_rfl
def tX:=T9 E D W (Zo E D W N N)
theorem tP (a:BS) (Z:H) :
 AW E D W N (nJ UH Wt) (rN a Z) (Lx E) nX (Lx E)=tX E D W N a Z:=by
 refine(zb E D W N UH Wt  a Z).trans ?_
 simp only[tH]
 kernel_rfl
def F7 (args:List V) (Z:H):AH:=
 EY args fun x3 l2=>
 AZ l2 (
 tX E D W N x3 Z)
def A7:Eg:=⟨59,[.str],[(.tmp 2),(.tmp 3),(.tmp 4)],(nJ UH Wt)⟩
theorem FE7 (args:List V) (Z:H):CR E D W N A7 args Z=F7 E D W N args Z:=by
 unfold F7
 simp only[<-tP]
 kernel_rfl
def pe:List (Nat × EH):=[(0,.ptr),(26,.any),(27,.i),(28,.i)]
def HC (E:EB):St->AH:=fun s=>Ek E s [(.tmp 2)] fun l=>some (FF l,s.Z)
def fR (c0:XC):St->AH:=dX E D W N (.keep [(0,.ptr)] [] [] c0) (HC E) nX (HC E)
def nH (cc1:XC) (cc2:XC):XC:=(.z (.c 2 y1<|
 .nil)
 (.z (.m 8 0<|
 .k 9 (.tup [y4,.bool]) 15 [(.t 8),(.i 1)]<|
 .m 7 9<|
 .P 10 (.extract 0 (.t 7))<|
 .P 11 (.extract 1 (.t 7))<|
 .pal 3 [] 68 [y0,y3,y0]<|
 .op none y4 [3,10] (.store 3 (.t 3) (.t 10))<|
 .m 4 11<|
 .nil)
 (.seq (.z (.m 12 4<|
 .P 13 (.un .not (.t 12))<|
 .m 14 13<|
 .gO 14 false (.p 15 [0,14] y7<|
 .p 16 [14] (.buildSlice 9 1 [y3] [(0,1,(.con (V.str ⟨11,100710650190388740279911748⟩)))])<|
 .op (some 17) .bool [15,16,14] (.call 16 [(.t 15),(.t 16)])<|
 .p 18 [17,14] (.un .not (.t 17))<|
 .nil) 19 14 18<|
 .nil)
 (.cond (.tmp 19) (.z (.c 2 y1<|
 .nil)
 .ret)
 .skip))
 (.z (.m 20 0<|
 .f 21 1 3<|
 .l 22 .str 21<|
 .n 23 20<|
 .f 24 2 23<|
 .f 25 0 24<|
 .w 1 25 22<|
 .nil)
 (.seq (.z (.p 26 [] (.buildSlice 9 3 [y3,y3,y3] [(0,1,wV),(1,1,wU),(2,1,(.con (V.str ⟨9,1241215773001651606849⟩)))])<|
 .u 27 26<|
 .q 28 0<|
 .nil)
 (.block 0 (.loop pe [] [] cc2)))
 (.keep [(0,.ptr)] [] [] cc1))))))
def Sh (E:EB) (D:BB) (W:AJ) (K2:Nat->Nat->V->Int->Int->H->AH) (a b:Nat) (Z:H):AH:=
 AV (D 15 [.ptr a b,.int .i64 (AA 1)] Z) fun u1 s2=>
 Cw u1 fun l3=>
 AP l3 fun x4 l5=>
 B7 x4 fun l6=>
 BV .i64 l6 fun x9 l8=>
 EY l8 fun x12 l11=>
 BV .i64 l11 fun x15 l14=>
 AZ l14 (
 DQ l5 fun x18 l17=>
 AZ l17 (
 Ax (fun c19 s20=>
 AI c19 (
 some ((V.bool false),s20)) (
 Dk 1 a (AU b 2) (V.str x12) s20 fun s22=>
 let s23:=CO s22 (.cells [.str (BS.mk 8 6073459554577832005),.str (BS.mk 8 6073459554577829193),.str (BS.mk 9 1241215773001651606849)]);
 BG (V.sl (H.next s22) 0 3 (.ex 3)) fun n24=>
 K2 a b (V.sl (H.next s22) 0 3 (.ex 3)) (AA n24) (AA 0) s23)) fun k21=>
 AI (not x18) (
 k21 true s2) (
 let s25:=CO s2 (.cells [.str (BS.mk 11 100710650190388740279911748)]);
 AV (D 16 [.ptr a b,.sl (H.next s2) 0 1 (.ex 1)] s25) fun u26 s27=>
 AT u26 fun x28=>
 k21 (not x28) s27)))
def TL (cc3:XC) (cc4:XC):XC:=(.seq (.z (.m 50 0<|
 .p 51 [] (.buildSlice 9 2 [y3,y3] [(0,1,(.con (V.str ⟨3,4012602⟩))),(1,1,(.con (V.str ⟨5,336236856642⟩)))])<|
 .k 52 .bool 16 [(.t 50),(.t 51)]<|
 .P 53 (.un .not (.t 52))<|
 .nil)
 (.cond (.tmp 53) (.z (.c 2 y1<|
 .nil)
 .ret)
 .skip))
 (.seq (.block 2 (.loop [(0,.ptr)] [] [] cc4))
 (.keep [(0,.ptr)] [] [] cc3)))
def Wj (E:EB) (D:BB) (W:AJ) (K4:Nat->Nat->H->AH) (a b:Nat) (Z:H):AH:=
 let s1:=CO Z (.cells [.str (BS.mk 3 4012602),.str (BS.mk 5 336236856642)]);
 AV (D 16 [.ptr a b,.sl (H.next Z) 0 2 (.ex 2)] s1) fun u2 s3=>
 AT u2 fun x4=>
 AI (not x4) (
 some ((V.bool false),s3)) (
 K4 a b s3)
def Ws:XC:=(.z (.b 29 .lss .none (.t 28) (.t 27)<|
 .nil)
 (.seq (.cond (.tmp 29) .skip
 Rf)
 (.seq (.block 1 (.z (.m 30 28<|
 .s 31 1 26 28<|
 .l 32 .str 31<|
 .m 5 30<|
 .m 6 32<|
 .nil)
 (.seq (.z (.m 33 0<|
 .n 34 33<|
 .f 35 0 34<|
 .m 36 6<|
 .k 37 .bool 17 [(.t 35),(.t 36)]<|
 .P 38 (.un .not (.t 37))<|
 .nil)
 (.cond (.tmp 38) (.exit 1)
 .skip))
 (.z (.m 39 0<|
 .m 40 5<|
 .n 41 39<|
 .f 42 2 41<|
 .f 43 1 42<|
 .w 1 43 40<|
 .nil)
 (.seq (.z (.m 44 0<|
 .m 45 6<|
 .p 46 [45] (.buildSlice 9 2 [y3,y3] [(0,1,(.t 45)),(1,1,(.con (V.str ⟨4,1397178708⟩)))])<|
 .k 47 .bool 16 [(.t 44),(.t 46)]<|
 .P 48 (.un .not (.t 47))<|
 .nil)
 (.cond (.tmp 48) (.z (.c 2 y1<|
 .nil)
 .ret)
 .skip))
 Rf)))))
 (.ops (.b 49 .add .none (.t 28) (.i 1)<|
 .m 28 49<|
 .nil)))))
def RK (E:EB) (D:BB) (W:AJ) (K1:Nat->Nat->H->AH) (R2:Nat->Nat->V->Int->Int->H->AH) (a b:Nat) (c:V) (d e:Int) (Z:H):AH:=
 AI (Dt e d) (
 Am 1 c e fun b1 o2=>
 Bm E Z b1 o2 fun u3=>
 DE u3 fun x4=>
 AV (D 17 [.ptr a b,.str x4] Z) fun u5 s6=>
 AT u5 fun x7=>
 AI (not x7) (
 R2 a b c d (CJ .i64 e (AA 1)) s6) (
 Dk 1 a (AU (AU b 2) 1) (V.int .i64 e) s6 fun s8=>
 let s9:=CO s8 (.cells [.str x4,.str (BS.mk 4 1397178708)]);
 AV (D 16 [.ptr a b,.sl (H.next s8) 0 2 (.ex 2)] s9) fun u10 s11=>
 AT u10 fun x12=>
 AI (not x12) (
 some ((V.bool false),s11)) (
 K1 a b s11))) (
 K1 a b Z)
def M8:XC:=(.seq (.z (.m 63 0<|
 .p 64 [] (.buildSlice 9 1 [y3] [(0,1,(.con (V.str ⟨3,4476485⟩)))])<|
 .k 65 .bool 16 [(.t 63),(.t 64)]<|
 .P 66 (.un .not (.t 65))<|
 .nil)
 (.cond (.tmp 66) (.z (.c 2 y1<|
 .nil)
 .ret)
 .skip))
 (.z (.m 68 0<|
 .k 69 (.tup [y4,.bool]) 15 [(.t 68),(.i 0)]<|
 .m 67 69<|
 .P 70 (.extract 0 (.t 67))<|
 .P 71 (.extract 1 (.t 67))<|
 .m 4 71<|
 .nil)
 (.z (.m 72 4<|
 .m 2 72<|
 .nil)
 .ret)))
def dZ (E:EB) (D:BB) (W:AJ) (a b:Nat) (Z:H):AH:=
 let s1:=CO Z (.cells [.str (BS.mk 3 4476485)]);
 AV (D 16 [.ptr a b,.sl (H.next Z) 0 1 (.ex 1)] s1) fun u2 s3=>
 AT u2 fun x4=>
 AI (not x4) (
 some ((V.bool false),s3)) (
 AV (D 15 [.ptr a b,.int .i64 (AA 0)] s3) fun u5 s6=>
 Cw u5 fun l7=>
 AP l7 fun x8 l9=>
 B7 x8 fun l10=>
 BV .i64 l10 fun x13 l12=>
 EY l12 fun x16 l15=>
 BV .i64 l15 fun x19 l18=>
 AZ l18 (
 DQ l9 fun x22 l21=>
 AZ l21 (
 some ((V.bool x22),s6))))
def Ot:XC:=(.seq (.z (.m 54 0<|
 .n 55 54<|
 .f 56 0 55<|
 .k 57 y4 18 [(.t 56)]<|
 .O 58 .i (.field 0 none (.t 57))<|
 .b 59 .eql .none (.t 58) (.i 1)<|
 .nil)
 (.cond (.tmp 59) .skip
 (.exit 2)))
 (.block 3 (.z (.m 60 0<|
 .k 61 .bool 19 [(.t 60)]<|
 .P 62 (.un .not (.t 61))<|
 .nil)
 (.cond (.tmp 62) (.z (.c 2 y1<|
 .nil)
 .ret)
 .skip))))
def T8 (E:EB) (D:BB) (W:AJ) (K3:Nat->Nat->H->AH) (R4:Nat->Nat->H->AH) (a b:Nat) (Z:H):AH:=
 AV (D 18 [.ptr a b] Z) fun u1 s2=>
 B7 u1 fun l3=>
 BV .i64 l3 fun x6 l5=>
 EY l5 fun x9 l8=>
 BV .i64 l8 fun x12 l11=>
 AZ l11 (
 AI (D0 x6 (AA 1)) (
 AV (D 19 [.ptr a b] s2) fun u13 s14=>
 AT u13 fun x15=>
 AI (not x15) (
 some ((V.bool false),s14)) (
 R4 a b s14)) (
 K3 a b s2))
def Ol (a b:Nat) (Z:H):St:=⟨[(0,.ptr a b)],[],[],Z⟩
def dq (a b:Nat) (c:V) (d e:Int) (Z:H):St:=⟨[(0,.ptr a b),(26,c),(27,.int .i64 d),(28,.int .i64 e)],[],[],Z⟩
theorem zZ (cc1:XC) (cc2:XC) (a b:Nat) (Z:H) :
 AW E D W N (nH cc1 cc2) (Ol a b Z) (HC E) nX (HC E) =
 Sh E D W (fun a b c d e Z=>BE (fun rec s'=>AW E D W N cc2 s' (kX pe [] [] rec) (CC 0 (fR E D W N cc1) nX) (HC E)) N (dq a b c d e Z)) a b Z:=by kernel_rfl
theorem zY (cc3:XC) (cc4:XC) (a b:Nat) (Z:H) :
 AW E D W N (TL cc3 cc4) (Ol a b Z) (HC E) nX (HC E) =
 Wj E D W (fun a b Z=>BE (fun rec s'=>AW E D W N cc4 s' (kX [(0,.ptr)] [] [] rec) (CC 2 (fR E D W N cc3) nX) (HC E)) N (Ol a b Z)) a b Z:=by kernel_rfl
theorem zX (cc1:XC) (li2:St->AH) (a b:Nat) (c:V) (d e:Int) (Z:H) :
 AW E D W N (Ws ) (dq a b c d e Z) (kX pe [] [] li2) (CC 0 (fR E D W N cc1) nX) (HC E) =
 RK E D W (fun a b Z=>AW E D W N cc1 (Ol a b Z) (HC E) nX (HC E)) (fun a b c d e Z=>li2 (dq a b c d e Z)) a b c d e Z:=by kernel_rfl
theorem zW (cc3:XC) (li4:St->AH) (a b:Nat) (Z:H) :
 AW E D W N (Ot ) (Ol a b Z) (kX [(0,.ptr)] [] [] li4) (CC 2 (fR E D W N cc3) nX) (HC E) =
 T8 E D W (fun a b Z=>AW E D W N cc3 (Ol a b Z) (HC E) nX (HC E)) (fun a b Z=>li4 (Ol a b Z)) a b Z:=by kernel_rfl
def tV (E:EB) (D:BB) (W:AJ) (N:Nat):=dZ E D W
theorem tL (a b:Nat) (Z:H) :
 AW E D W N M8 (Ol a b Z) (HC E) nX (HC E)=tV E D W N a b Z:=by kernel_rfl
def Zn (n:Nat):Nat->Nat->H->AH:=
 Nat.rec (fun _ _ _=>none) (fun _ ih=>T8 E D W (tV E D W N ) ih) n
theorem tF (n:Nat):∀(a b:Nat) (Z:H),
 BE (fun rec s'=>AW E D W N Ot s' (kX [(0,.ptr)] [] [] rec) (CC 2 (fR E D W N M8) nX) (HC E)) n (Ol a b Z)=Zn E D W N n a b Z:=by
 induction n with
 | zero=>intro a b Z;rfl
 | succ n ihn=>
  intro a b Z
  rw[BP]
  refine(zW E D W N M8 (BE (fun rec s'=>AW E D W N Ot s' (kX [(0,.ptr)] [] [] rec) (CC 2 (fR E D W N M8) nX) (HC E)) n) a b Z).trans ?_
  simp only[ihn,tL]
  kernel_rfl
def Zt:=Wj E D W (Zn E D W N N)
theorem tM (a b:Nat) (Z:H) :
 AW E D W N (TL M8 Ot) (Ol a b Z) (HC E) nX (HC E)=Zt E D W N a b Z:=by
 refine(zY E D W N M8 Ot  a b Z).trans ?_
 simp only[tF]
 kernel_rfl
def Wo (n:Nat):Nat->Nat->V->Int->Int->H->AH:=
 Nat.rec (fun _ _ _ _ _ _=>none) (fun _ ih=>RK E D W (Zt E D W N ) ih) n
theorem tG (n:Nat):∀(a b:Nat) (c:V) (d e:Int) (Z:H),
 BE (fun rec s'=>AW E D W N Ws s' (kX pe [] [] rec) (CC 0 (fR E D W N (TL M8 Ot)) nX) (HC E)) n (dq a b c d e Z)=Wo E D W N n a b c d e Z:=by
 induction n with
 | zero=>intro a b c d e Z;rfl
 | succ n ihn=>
  intro a b c d e Z
  rw[BP]
  refine(zX E D W N (TL M8 Ot) (BE (fun rec s'=>AW E D W N Ws s' (kX pe [] [] rec) (CC 0 (fR E D W N (TL M8 Ot)) nX) (HC E)) n) a b c d e Z).trans ?_
  simp only[ihn,tM]
  kernel_rfl
def tW:=Sh E D W (Wo E D W N N)
theorem tN (a b:Nat) (Z:H) :
 AW E D W N (nH (TL M8 Ot) Ws) (Ol a b Z) (HC E) nX (HC E)=tW E D W N a b Z:=by
 refine(zZ E D W N (TL M8 Ot) Ws  a b Z).trans ?_
 simp only[tG]
 kernel_rfl
def F8 (args:List V) (Z:H):AH:=
 AP args fun x1 l2=>
 Br x1 fun b3 o4=>
 AZ l2 (
 tW E D W N b3 o4 Z)
def A8:Eg:=⟨73,[.ptr],[(.tmp 2)],(nH (TL M8 Ot) Ws)⟩
theorem FE8 (args:List V) (Z:H):CR E D W N A8 args Z=F8 E D W N args Z:=by
 unfold F8
 simp only[<-tN]
 kernel_rfl
def ABe:XC:=(.z (.c 4 y1<|
 .nil)
 (.z (.m 5 0<|
 .m 6 1<|
 .k 7 .bool 20 [(.t 5),(.t 6),(.con (V.fn 21 [] []))]<|
 .m 4 7<|
 .nil)
 .ret))
def yI (E:EB) (D:BB) (W:AJ) (a b:V) (Z:H):AH:=
 AV (D 20 [a,b,.fn 21 [] []] Z) fun u1 s2=>
 AT u1 fun x3=>
 some ((V.bool x3),s2)
def F9 (N:Nat) (args:List V) (Z:H):AH:=
 AP args fun x1 l2=>
 AP l2 fun x3 l4=>
 AZ l4 (
 yI E D W x1 x3 Z)
def A9:Eg:=⟨8,[.any,.any],[(.tmp 4)],ABe⟩
theorem FE9 (args:List V) (Z:H):CR E D W N A9 args Z=F9 E D W N args Z:=by kernel_rfl
def vz:XC:=(.z (.c 4 y1<|
 .nil)
 (.z (.m 5 0<|
 .m 6 1<|
 .k 7 .bool 22 [(.t 5),(.t 6),(.con (V.fn 23 [] []))]<|
 .m 4 7<|
 .nil)
 .ret))
def rJ (E:EB) (D:BB) (W:AJ) (a b:V) (Z:H):AH:=
 AV (D 22 [a,b,.fn 23 [] []] Z) fun u1 s2=>
 AT u1 fun x3=>
 some ((V.bool x3),s2)
def F10 (N:Nat) (args:List V) (Z:H):AH:=
 AP args fun x1 l2=>
 AP l2 fun x3 l4=>
 AZ l4 (
 rJ E D W x1 x3 Z)
def A10:Eg:=⟨8,[.any,.any],[(.tmp 4)],vz⟩
theorem AAt (args:List V) (Z:H):CR E D W N A10 args Z=F10 E D W N args Z:=by kernel_rfl
def X0:List (Nat × EH):=[(0,.any),(1,.any),(2,.any),(7,.i)]
def IA (E:EB):St->AH:=fun s=>Ek E s [(.tmp 6)] fun l=>some (FF l,s.Z)
def dQ (c0:XC):Nat->St->AH:=CC 0 (dX E D W N (.keep [] [] [] c0) (IA E) nX (IA E)) nX
def aZ (cc1:XC) (cc2:XC):XC:=(.z (.c 6 y1<|
 .nil)
 (.seq (.z (.m 8 0<|
 .u 9 8<|
 .m 10 1<|
 .u 11 10<|
 .b 12 .neq .none (.t 9) (.t 11)<|
 .nil)
 jR)
 (.seq (.z (.q 7 0<|
 .nil)
 (.block 0 (.loop X0 [] [] cc2)))
 (.keep [] [] [] cc1))))
def fx (E:EB) (D:BB) (W:AJ) (K2:V->V->V->Int->H->AH) (a b c:V) (Z:H):AH:=
 BG a fun n1=>
 BG b fun n2=>
 AI (not (D0 (AA n1) (AA n2))) (
 some ((V.bool false),Z)) (
 K2 a b c (AA 0) Z)
def PA:XC:=(.z (.c 6 y9<|
 .nil)
 .ret)
def rI (E:EB) (D:BB) (W:AJ) (Z:H):AH:=
 some ((V.bool true),Z)
def Qu:XC:=(.seq (.z (.m 13 7<|
 .m 14 0<|
 .u 15 14<|
 .b 16 .lss .none (.t 13) (.t 15)<|
 .nil)
 W2)
 (.seq (.block 1 (.seq (.draw (.m 19 2<|
 .m 20 0<|
 .m 21 7<|
 .s 22 16 20 21<|
 .O 23 y2 (.load (some 16) (.t 22))<|
 .m 24 1<|
 .m 25 7<|
 .s 26 16 24 25<|
 .O 27 y2 (.load (some 16) (.t 26))<|
 .O 28 .bool (.callv (.t 19) [(.t 23),(.t 27)])<|
 .P 29 eL<|
 .nil) [0,0,0,6,14,0,0,96,224,511,1023])
 eN))
 y8))
def fu (E:EB) (D:BB) (W:AJ) (K1:H->AH) (R2:V->V->V->Int->H->AH) (a b c:V) (d:Int) (Z:H):AH:=
 BG a fun n1=>
 AI (Dt d (AA n1)) (
 Am 16 a d fun b2 o3=>
 DB E Z b2 o3 16 fun l4=>
 BV .i64 l4 fun x7 l6=>
 EY l6 fun x10 l9=>
 DQ l9 fun x13 l12=>
 BV .i64 l12 fun x16 l15=>
 BV .i64 l15 fun x19 l18=>
 DQ l18 fun x22 l21=>
 DQ l21 fun x25 l24=>
 DQ l24 fun x28 l27=>
 DQ l27 fun x31 l30=>
 BV .i64 l30 fun x34 l33=>
 BV .i64 l33 fun x37 l36=>
 AP l36 fun x38 l39=>
 AP l39 fun x40 l41=>
 BV .i64 l41 fun x44 l43=>
 DQ l43 fun x47 l46=>
 BV .i64 l46 fun x50 l49=>
 AZ l49 (
 Am 16 b d fun b51 o52=>
 DB E Z b51 o52 16 fun l53=>
 BV .i64 l53 fun x56 l55=>
 EY l55 fun x59 l58=>
 DQ l58 fun x62 l61=>
 BV .i64 l61 fun x65 l64=>
 BV .i64 l64 fun x68 l67=>
 DQ l67 fun x71 l70=>
 DQ l70 fun x74 l73=>
 DQ l73 fun x77 l76=>
 DQ l76 fun x80 l79=>
 BV .i64 l79 fun x83 l82=>
 BV .i64 l82 fun x86 l85=>
 AP l85 fun x87 l88=>
 AP l88 fun x89 l90=>
 BV .i64 l90 fun x93 l92=>
 DQ l92 fun x96 l95=>
 BV .i64 l95 fun x99 l98=>
 AZ l98 (
 Iv D c [.agg [.int .i64 x7,.str x10,.bool x13,.int .i64 x16,.int .i64 x19,.bool x22,.bool x25,.bool x28,.bool x31,.int .i64 x34,.int .i64 x37,x38,x40,.int .i64 x44,.bool x47,.int .i64 x50],.agg [.int .i64 x56,.str x59,.bool x62,.int .i64 x65,.int .i64 x68,.bool x71,.bool x74,.bool x77,.bool x80,.int .i64 x83,.int .i64 x86,x87,x89,.int .i64 x93,.bool x96,.int .i64 x99]] Z fun u100 s101=>
 AT u100 fun x102=>
 AI (not x102) (
 some ((V.bool false),s101)) (
 R2 a b c (CJ .i64 d (AA 1)) s101)))) (
 K1 Z)
def hJ (a b c:V) (Z:H):St:=⟨[(0,a),(1,b),(2,c)],[],[],Z⟩
def hC (Z:H):St:=⟨[],[],[],Z⟩
def Vc (a b c:V) (d:Int) (Z:H):St:=⟨[(0,a),(1,b),(2,c),(7,.int .i64 d)],[],[],Z⟩
theorem tB (cc1:XC) (cc2:XC) (a b c:V) (Z:H) :
 AW E D W N (aZ cc1 cc2) (hJ a b c Z) (IA E) nX (IA E) =
 fx E D W (fun a b c d Z=>BE (fun rec s'=>AW E D W N cc2 s' (kX X0 [] [] rec) (dQ E D W N cc1) (IA E)) N (Vc a b c d Z)) a b c Z:=by kernel_rfl
theorem tA (cc1:XC) (li2:St->AH) (a b c:V) (d:Int) (Z:H) :
 AW E D W N (Qu ) (Vc a b c d Z) (kX X0 [] [] li2) (dQ E D W N cc1) (IA E) =
 fu E D W (fun  Z=>AW E D W N cc1 (hC Z) (IA E) nX (IA E)) (fun a b c d Z=>li2 (Vc a b c d Z)) a b c d Z:=by kernel_rfl
def jM (E:EB) (D:BB) (W:AJ) (N:Nat):=rI E D W
theorem nE (Z:H) :
 AW E D W N PA (hC Z) (IA E) nX (IA E)=jM E D W N  Z:=by kernel_rfl
def iI (n:Nat):V->V->V->Int->H->AH:=
 Nat.rec (fun _ _ _ _ _=>none) (fun _ ih=>fu E D W (jM E D W N ) ih) n
theorem lQ (n:Nat):∀(a b c:V) (d:Int) (Z:H),
 BE (fun rec s'=>AW E D W N Qu s' (kX X0 [] [] rec) (dQ E D W N PA) (IA E)) n (Vc a b c d Z)=iI E D W N n a b c d Z:=by
 induction n with
 | zero=>intro a b c d Z;rfl
 | succ n ihn=>
  intro a b c d Z
  rw[BP]
  refine(tA E D W N PA (BE (fun rec s'=>AW E D W N Qu s' (kX X0 [] [] rec) (dQ E D W N PA) (IA E)) n) a b c d Z).trans ?_
  simp only[ihn,nE]
  kernel_rfl
def jN:=fx E D W (iI E D W N N)
theorem nF (a b c:V) (Z:H) :
 AW E D W N (aZ PA Qu) (hJ a b c Z) (IA E) nX (IA E)=jN E D W N a b c Z:=by
 refine(tB E D W N PA Qu  a b c Z).trans ?_
 simp only[lQ]
 kernel_rfl
def wP (args:List V) (Z:H):AH:=
 AP args fun x1 l2=>
 AP l2 fun x3 l4=>
 AP l4 fun x5 l6=>
 AZ l6 (
 jN E D W N x1 x3 x5 Z)
def A11:Eg:=⟨30,jQ,[(.tmp 6)],(aZ PA Qu)⟩
theorem AAs (args:List V) (Z:H):CR E D W N A11 args Z=wP E D W N args Z:=by
 unfold wP
 simp only[<-nF]
 kernel_rfl
def vy (cc1:XC):XC:=(.z (.P 2 (.box 39 (.t 0))<|
 .P 3 (.box 39 (.t 1))<|
 .c 4 y1<|
 .nil)
 (.keep [(2,.ptr),(3,.ptr)] [] [] cc1))
def rH (E:EB) (D:BB) (W:AJ) (K1:Nat->Nat->Nat->Nat->H->AH) (a:Int) (b:BS) (c:Bool) (d e:Int) (f g h i:Bool) (j k:Int) (l m:V) (o:Int) (p:Bool) (q r:Int) (s:BS) (t:Bool) (u v:Int) (w x y z:Bool) (B I:Int) (M O:V) (U:Int) (X:Bool) (Y:Int) (Z:H):AH:=
 PO [.int .i64 a,.str b,.bool c,.int .i64 d,.int .i64 e,.bool f,.bool g,.bool h,.bool i,.int .i64 j,.int .i64 k,l,m,.int .i64 o,.bool p,.int .i64 q] Z fun s1=>
 PO [.int .i64 r,.str s,.bool t,.int .i64 u,.int .i64 v,.bool w,.bool x,.bool y,.bool z,.int .i64 B,.int .i64 I,M,O,.int .i64 U,.bool X,.int .i64 Y] s1 fun s2=>
 K1 (H.next Z) 0 (H.next s1) 0 s2
def vx (cc2:XC) (cc3:XL):XC:=(.z (.f 5 0 2<|
 .l 6 .i 5<|
 .f 7 0 3<|
 .l 8 .i 7<|
 .b 9 .eql .none (.t 6) (.t 8)<|
 .m 10 9<|
 .gA 10 true (.p 11 [2,10] (.faddr 1 (.t 2))<|
 .op (some 12) .str [11,10] (.load none (.t 11))<|
 .p 13 [3,10] (.faddr 1 (.t 3))<|
 .op (some 14) .str [13,10] (.load none (.t 13))<|
 .p 15 [12,14,10] (.bin .eql .none (.t 12) (.t 14))<|
 .nil) 16 10 15<|
 .m 17 16<|
 .gA 17 true (.p 18 [2,17] (.faddr 2 (.t 2))<|
 .op (some 19) Rh [18,17] (.load (some 3) (.t 18))<|
 .p 20 [3,17] (.faddr 2 (.t 3))<|
 .op (some 21) Rh [20,17] (.load (some 3) (.t 20))<|
 .p 22 [19,21,17] (.bin .eql (.flat [(0,.bool),(1,.int),(2,.int)]) (.t 19) (.t 21))<|
 .nil) 23 17 22<|
 .m 24 23<|
 .gA 24 true (.p 25 [2,24] (.faddr 5 (.t 2))<|
 .op (some 26) (.agg [.bool,.bool,.bool,.bool,.i,.i]) [25,24] (.load (some 6) (.t 25))<|
 .p 27 [3,24] (.faddr 5 (.t 3))<|
 .op (some 28) (.agg [.bool,.bool,.bool,.bool,.i,.i]) [27,24] (.load (some 6) (.t 27))<|
 .p 29 [26,28,24] (.bin .eql (.flat [(0,.bool),(1,.bool),(2,.bool),(3,.bool),(4,.int),(5,.int)]) (.t 26) (.t 28))<|
 .nil) 30 24 29<|
 cc3)
 (.keep [(4,.bool)] [] [] cc2))
def rG (E:EB) (D:BB) (W:AJ) (K3:Bool->Bool->Bool->Bool->Bool->Bool->Bool->Int->Nat->Nat->Int->Nat->Nat->Nat->Nat->Nat->Nat->H->AH) (a b c d:Nat) (Z:H):AH:=
 Bm E Z a b fun u1=>
 Al .i64 u1 fun x2=>
 Bm E Z c d fun u3=>
 Al .i64 u3 fun x4=>
 Ax (fun c5 s6=>
 Ax (fun c8 s9=>
 Ax (fun c11 s12=>
 K3 c11 c8 c8 c5 c5 (D0 x2 x4) (D0 x2 x4) x4 c d x2 a b a b c d s12) fun k13=>
 AI c8 (
 DB E s9 a (AU b 5) 6 fun l14=>
 DQ l14 fun x17 l16=>
 DQ l16 fun x20 l19=>
 DQ l19 fun x23 l22=>
 DQ l22 fun x26 l25=>
 BV .i64 l25 fun x29 l28=>
 BV .i64 l28 fun x32 l31=>
 AZ l31 (
 DB E s9 c (AU d 5) 6 fun l33=>
 DQ l33 fun x36 l35=>
 DQ l35 fun x39 l38=>
 DQ l38 fun x42 l41=>
 DQ l41 fun x45 l44=>
 BV .i64 l44 fun x48 l47=>
 BV .i64 l47 fun x51 l50=>
 AZ l50 (
 TQ (.flat [(0,.bool),(1,.bool),(2,.bool),(3,.bool),(4,.int),(5,.int)]) (V.agg [.bool x17,.bool x20,.bool x23,.bool x26,.int .i64 x29,.int .i64 x32]) (V.agg [.bool x36,.bool x39,.bool x42,.bool x45,.int .i64 x48,.int .i64 x51]) fun c52=>
 k13 c52 s9))) (
 k13 false s9)) fun k10=>
 AI c5 (
 DB E s6 a (AU b 2) 3 fun l53=>
 DQ l53 fun x56 l55=>
 BV .i64 l55 fun x59 l58=>
 BV .i64 l58 fun x62 l61=>
 AZ l61 (
 DB E s6 c (AU d 2) 3 fun l63=>
 DQ l63 fun x66 l65=>
 BV .i64 l65 fun x69 l68=>
 BV .i64 l68 fun x72 l71=>
 AZ l71 (
 TQ (.flat [(0,.bool),(1,.int),(2,.int)]) (V.agg [.bool x56,.int .i64 x59,.int .i64 x62]) (V.agg [.bool x66,.int .i64 x69,.int .i64 x72]) fun c73=>
 k10 c73 s6))) (
 k10 false s6)) fun k7=>
 AI (D0 x2 x4) (
 Bm E Z a (AU b 1) fun u74=>
 DE u74 fun x75=>
 Bm E Z c (AU d 1) fun u76=>
 DE u76 fun x77=>
 k7 (BS.beq x75 x77) Z) (
 k7 false Z)
def vw:XC := .ret
def rF (E:EB) (D:BB) (W:AJ) (a:Bool) (Z:H):AH:=
 some ((V.bool a),Z)
def vv (cc4:XL):XL := .m 31 30<|
 .gA 31 true (.p 32 [2,31] (.faddr 11 (.t 2))<|
 .p 33 [32,31] (.load none (.t 32))<|
 .p 34 [3,31] (.faddr 11 (.t 3))<|
 .p 35 [34,31] (.load none (.t 34))<|
 .op (some 36) .bool [33,35,31] (.call 24 [(.t 33),(.t 35)])<|
 .nil) 37 31 36<|
 .m 38 37<|
 .gA 38 true (.p 39 [2,38] (.faddr 12 (.t 2))<|
 .p 40 [39,38] (.load none (.t 39))<|
 .p 41 [3,38] (.faddr 12 (.t 3))<|
 .p 42 [41,38] (.load none (.t 41))<|
 .op (some 43) .bool [40,42,38] (.call 25 [(.t 40),(.t 42),(.con (V.fn 26 [] []))])<|
 .nil) 44 38 43<|
 .m 45 44<|
 .gA 45 true (.p 46 [2,45] (.faddr 13 (.t 2))<|
 .op (some 47) .i [46,45] (.load none (.t 46))<|
 .p 48 [3,45] (.faddr 13 (.t 3))<|
 .op (some 49) .i [48,45] (.load none (.t 48))<|
 .p 50 [47,49,45] (.bin .eql .none (.t 47) (.t 49))<|
 .nil) 51 45 50<|
 cc4
def rE (E:EB) (D:BB) (W:AJ) (K4:Bool->Bool->Bool->Bool->Bool->Bool->Bool->Bool->Bool->Bool->Bool->Bool->Bool->Int->Nat->Nat->Int->Nat->Nat->Nat->Nat->Nat->Nat->H->AH) (m0 m1 m2 m3 m4 m5 m6:Bool) (m7:Int) (m8b m8o:Nat) (m9:Int) (m10b m10o m11b m11o m12b m12o:Nat) (Z:H):AH:=
 Ax (fun c1 s2=>
 Ax (fun c4 s5=>
 Ax (fun c7 s8=>
 K4 c7 c4 c4 c1 c1 m0 m0 m1 m2 m3 m4 m5 m6 m7 m8b m8o m9 m10b m10o m11b m11o m12b m12o s8) fun k9=>
 AI c4 (
 Bm E s5 m11b (AU m11o 13) fun u10=>
 Al .i64 u10 fun x11=>
 Bm E s5 m12b (AU m12o 13) fun u12=>
 Al .i64 u12 fun x13=>
 k9 (D0 x11 x13) s5) (
 k9 false s5)) fun k6=>
 AI c1 (
 Bm E s2 m11b (AU m11o 12) fun u14=>
 Bm E s2 m12b (AU m12o 12) fun u15=>
 AV (D 25 [u14,u15,.fn 26 [] []] s2) fun u16 s17=>
 AT u16 fun x18=>
 k6 x18 s17) (
 k6 false s2)) fun k3=>
 AI m0 (
 Bm E Z m11b (AU m11o 11) fun u19=>
 Bm E Z m12b (AU m12o 11) fun u20=>
 AV (D 24 [u19,u20] Z) fun u21 s22=>
 AT u21 fun x23=>
 k3 x23 s22) (
 k3 false Z)
def vu:XL := .m 52 51<|
 .gA 52 true (.p 53 [2,52] (.faddr 14 (.t 2))<|
 .op (some 54) .bool [53,52] (.load none (.t 53))<|
 .p 55 [3,52] (.faddr 14 (.t 3))<|
 .op (some 56) .bool [55,52] (.load none (.t 55))<|
 .p 57 [54,56,52] (.bin .eql .bool (.t 54) (.t 56))<|
 .nil) 58 52 57<|
 .m 59 58<|
 .gA 59 true (.p 60 [2,59] (.faddr 15 (.t 2))<|
 .op (some 61) .i [60,59] (.load none (.t 60))<|
 .p 62 [3,59] (.faddr 15 (.t 3))<|
 .op (some 63) .i [62,59] (.load none (.t 62))<|
 .p 64 [61,63,59] (.bin .eql .none (.t 61) (.t 63))<|
 .nil) 65 59 64<|
 .m 4 65<|
 .nil
def rB (E:EB) (D:BB) (W:AJ) (K2:Bool->H->AH) (m0 m1 m2 m3 m4 m5 m6 m7 m8 m9 m10 m11 m12:Bool) (m13:Int) (m14b m14o:Nat) (m15:Int) (m16b m16o m17b m17o m18b m18o:Nat) (Z:H):AH:=
 Ax (fun c1 s2=>
 Ax (fun c4 s5=>
 K2 c4 s5) fun k6=>
 AI c1 (
 Bm E s2 m17b (AU m17o 15) fun u7=>
 Al .i64 u7 fun x8=>
 Bm E s2 m18b (AU m18o 15) fun u9=>
 Al .i64 u9 fun x10=>
 k6 (D0 x8 x10) s2) (
 k6 false s2)) fun k3=>
 AI m0 (
 Bm E Z m17b (AU m17o 14) fun u11=>
 AT u11 fun x12=>
 Bm E Z m18b (AU m18o 14) fun u13=>
 AT u13 fun x14=>
 TQ .bool (V.bool x12) (V.bool x14) fun c15=>
 k3 c15 Z) (
 k3 false Z)
def uB (E:EB) (D:BB) (W:AJ) (N:Nat):=rF E D W
def tu:=rB E D W (uB E D W N )
def uA:=rE E D W (tu E D W N )
def uC:=rG E D W (uA E D W N )
def F12 (args:List V) (Z:H):AH:=
 AP args fun x1 l2=>
 B7 x1 fun l3=>
 BV .i64 l3 fun x6 l5=>
 EY l5 fun x9 l8=>
 DQ l8 fun x12 l11=>
 BV .i64 l11 fun x15 l14=>
 BV .i64 l14 fun x18 l17=>
 DQ l17 fun x21 l20=>
 DQ l20 fun x24 l23=>
 DQ l23 fun x27 l26=>
 DQ l26 fun x30 l29=>
 BV .i64 l29 fun x33 l32=>
 BV .i64 l32 fun x36 l35=>
 AP l35 fun x37 l38=>
 AP l38 fun x39 l40=>
 BV .i64 l40 fun x43 l42=>
 DQ l42 fun x46 l45=>
 BV .i64 l45 fun x49 l48=>
 AZ l48 (
 AP l2 fun x50 l51=>
 B7 x50 fun l52=>
 BV .i64 l52 fun x55 l54=>
 EY l54 fun x58 l57=>
 DQ l57 fun x61 l60=>
 BV .i64 l60 fun x64 l63=>
 BV .i64 l63 fun x67 l66=>
 DQ l66 fun x70 l69=>
 DQ l69 fun x73 l72=>
 DQ l72 fun x76 l75=>
 DQ l75 fun x79 l78=>
 BV .i64 l78 fun x82 l81=>
 BV .i64 l81 fun x85 l84=>
 AP l84 fun x86 l87=>
 AP l87 fun x88 l89=>
 BV .i64 l89 fun x92 l91=>
 DQ l91 fun x95 l94=>
 BV .i64 l94 fun x98 l97=>
 AZ l97 (
 AZ l51 (
 rH E D W (uC E D W N ) x6 x9 x12 x15 x18 x21 x24 x27 x30 x33 x36 x37 x39 x43 x46 x49 x55 x58 x61 x64 x67 x70 x73 x76 x79 x82 x85 x86 x88 x92 x95 x98 Z)))
def A12:Eg:=⟨66,[y2,y2],[(.tmp 4)],(vy (vx vw (vv vu)))⟩
theorem AAr (args:List V) (Z:H):CR E D W N A12 args Z=F12 E D W N args Z:=by kernel_rfl
def Eu (E:EB):St->AH:=fun s=>Ek E s [] fun l=>some (FF l,s.Z)
def dP (c0:XC) (l0:St->AH):Nat->St->AH:=CC 3 (dX E D W N (.keep [(0,.ptr)] [] [] c0) (kX [(0,.ptr)] [] [] l0) (CC 2 (kX [(0,.ptr)] [] [] l0) (CC 1 (kX [(0,.ptr)] [] [] l0) (CC 0 (Eu E) nX))) (Eu E)) (CC 2 (kX [(0,.ptr)] [] [] l0) (CC 1 (kX [(0,.ptr)] [] [] l0) (CC 0 (Eu E) nX)))
def aY (cc1:XC):XC:=(.block 0 (.loop [(0,.ptr)] [] [] cc1))
def ft (E:EB) (D:BB) (W:AJ) (K1:Nat->Nat->H->AH) (a b:Nat) (Z:H):AH:=
 K1 a b Z
def Qt (cc2:XC) (cc3:XC):XC:=(.seq (.seq (.draw (.m 3 0<|
 .n 4 3<|
 .f 5 1 4<|
 .l 6 .i 5<|
 .m 7 0<|
 .n 8 7<|
 .f 9 0 8<|
 .l 10 .str 9<|
 .P 11 (.len true (.t 10))<|
 .b 12 .lss .none (.t 6) (.t 11)<|
 .nil) [0,1,3,7,0,16,48,112,240,511])
 (.cond (.tmp 12) .skip
 Rf))
 (.block 1 (.z (.m 13 0<|
 .k 14 (.int .u8) 27 [(.t 13),(.i 0)]<|
 .m 2 14<|
 .nil)
 (.block 2 (.z (.m 16 2<|
 .b 17 .eql .none (.t 16) (.con (V.int .u8 (AA 32)))<|
 .m 18 17<|
 .gO 18 false (.p 19 [2,18] (.mov (.t 2))<|
 .p 20 [19,18] (.bin .eql .none (.t 19) (.con (V.int .u8 (AA 9))))<|
 .nil) 21 18 20<|
 .m 22 21<|
 .gO 22 false (.p 23 [2,22] (.mov (.t 2))<|
 .p 24 [23,22] (.bin .eql .none (.t 23) (.con (V.int .u8 (AA 10))))<|
 .nil) 25 22 24<|
 .m 26 25<|
 .gO 26 false (.p 27 [2,26] (.mov (.t 2))<|
 .p 28 [27,26] (.bin .eql .none (.t 27) (.con (V.int .u8 (AA 13))))<|
 .nil) 29 26 28<|
 .m 15 29<|
 .nil)
 (.cond (.tmp 15) (.ops (.m 30 0<|
 .n 31 30<|
 .f 32 1 31<|
 .l 33 .i 32<|
 .b 34 .add .none (.t 33) (.i 1)<|
 .n 35 30<|
 .f 36 1 35<|
 .w 1 36 34<|
 .nil))
 (.z (.m 38 0<|
 .k 39 .bool 28 [(.t 38),(.con (V.str ⟨2,11565⟩))]<|
 .m 37 39<|
 .nil)
 (.cond (.tmp 37) (.z (.m 40 0<|
 .n 41 40<|
 .f 42 1 41<|
 .l 43 .i 42<|
 .b 44 .add .none (.t 43) (.i 2)<|
 .n 45 40<|
 .f 46 1 45<|
 .w 1 46 44<|
 .nil)
 (.seq (.block 3 (.loop [(0,.ptr)] [] [] cc3))
 (.keep [(0,.ptr)] [] [] cc2)))
 .ret))))))))
def I7 (E:EB) (D:BB) (W:AJ) (K3:Nat->Nat->H->AH) (R1:Nat->Nat->H->AH) (a b:Nat) (Z:H):AH:=
 Bm E Z a (AU b 1) fun u1=>
 Al .i64 u1 fun x2=>
 Bm E Z a b fun u3=>
 DE u3 fun x4=>
 AI (Dt x2 (AA (BS.len x4))) (
 AV (D 27 [.ptr a b,.int .i64 (AA 0)] Z) fun u5 s6=>
 Al .u8 u5 fun x7=>
 Ax (fun c8 s9=>
 Ax (fun c11 s12=>
 Ax (fun c14 s15=>
 AI c14 (
 Bm E s15 a (AU b 1) fun u17=>
 Al .i64 u17 fun x18=>
 Dk 1 a (AU b 1) (V.int .i64 (CJ .i64 x18 (AA 1))) s15 fun s19=>
 R1 a b s19) (
 AV (D 28 [.ptr a b,.str (BS.mk 2 11565)] s15) fun u20 s21=>
 AT u20 fun x22=>
 AI x22 (
 Bm E s21 a (AU b 1) fun u23=>
 Al .i64 u23 fun x24=>
 Dk 1 a (AU b 1) (V.int .i64 (CJ .i64 x24 (AA 2))) s21 fun s25=>
 K3 a b s25) (
 some ((V.tup []),s21)))) fun k16=>
 AI c11 (
 k16 true s12) (
 k16 (D0 x7 (AA 13)) s12)) fun k13=>
 AI c8 (
 k13 true s9) (
 k13 (D0 x7 (AA 10)) s9)) fun k10=>
 AI (D0 x7 (AA 32)) (
 k10 true s6) (
 k10 (D0 x7 (AA 9)) s6)) (
 some ((V.tup []),Z))
def KY:XC:=(.z (.m 74 0<|
 .k 75 .bool 28 [(.t 74),(.con (V.str ⟨2,11565⟩))]<|
 .nil)
 (.cond (.tmp 75) (.ops (.m 76 0<|
 .n 77 76<|
 .f 78 1 77<|
 .l 79 .i 78<|
 .b 80 .add .none (.t 79) (.i 2)<|
 .n 81 76<|
 .f 82 1 81<|
 .w 1 82 80<|
 .nil))
 .skip))
def Oe (E:EB) (D:BB) (W:AJ) (R1:Nat->Nat->H->AH) (a b:Nat) (Z:H):AH:=
 AV (D 28 [.ptr a b,.str (BS.mk 2 11565)] Z) fun u1 s2=>
 AT u1 fun x3=>
 AI x3 (
 Bm E s2 a (AU b 1) fun u4=>
 Al .i64 u4 fun x5=>
 Dk 1 a (AU b 1) (V.int .i64 (CJ .i64 x5 (AA 2))) s2 fun s6=>
 R1 a b s6) (
 R1 a b s2)
def L3:XC:=(.seq (.seq (.draw (.m 47 0<|
 .n 48 47<|
 .f 49 1 48<|
 .l 50 .i 49<|
 .m 51 0<|
 .n 52 51<|
 .f 53 0 52<|
 .l 54 .str 53<|
 .P 55 (.len true (.t 54))<|
 .b 56 .lss .none (.t 50) (.t 55)<|
 .m 57 56<|
 .gA 57 true (.p 58 [0,57] y7<|
 .op (some 59) (.int .u8) [58,57] (.call 27 [(.t 58),(.i 0)])<|
 .p 60 [59,57] (.bin .neq .none (.t 59) (.con (V.int .u8 (AA 10))))<|
 .nil) 61 57 60<|
 .m 62 61<|
 .gA 62 true (.p 63 [0,62] y7<|
 .op (some 64) .bool [63,62] (.call 28 [(.t 63),(.con (V.str ⟨2,11565⟩))])<|
 .p 65 [64,62] (.un .not (.t 64))<|
 .nil) 66 62 65<|
 .nil) [0,1,3,7,0,16,48,112,240,511,1023,2047,4095,8191,16383,32767,65535,131071,262143,524287])
 (.cond (.tmp 66) .skip
 (.exit 3)))
 (.block 4 (.ops (.m 67 0<|
 .n 68 67<|
 .f 69 1 68<|
 .l 70 .i 69<|
 .b 71 .add .none (.t 70) (.i 1)<|
 .n 72 67<|
 .f 73 1 72<|
 .w 1 73 71<|
 .nil))))
def I6 (E:EB) (D:BB) (W:AJ) (K2:Nat->Nat->H->AH) (R3:Nat->Nat->H->AH) (a b:Nat) (Z:H):AH:=
 Bm E Z a (AU b 1) fun u1=>
 Al .i64 u1 fun x2=>
 Bm E Z a b fun u3=>
 DE u3 fun x4=>
 Ax (fun c5 s6=>
 Ax (fun c8 s9=>
 AI c8 (
 Bm E s9 a (AU b 1) fun u11=>
 Al .i64 u11 fun x12=>
 Dk 1 a (AU b 1) (V.int .i64 (CJ .i64 x12 (AA 1))) s9 fun s13=>
 R3 a b s13) (
 K2 a b s9)) fun k10=>
 AI c5 (
 AV (D 28 [.ptr a b,.str (BS.mk 2 11565)] s6) fun u14 s15=>
 AT u14 fun x16=>
 k10 (not x16) s15) (
 k10 false s6)) fun k7=>
 AI (Dt x2 (AA (BS.len x4))) (
 AV (D 27 [.ptr a b,.int .i64 (AA 0)] Z) fun u17 s18=>
 Al .u8 u17 fun x19=>
 k7 (not (D0 x19 (AA 10))) s18) (
 k7 false Z)
def Hv (a b:Nat) (Z:H):St:=⟨[(0,.ptr a b)],[],[],Z⟩
theorem sy (cc1:XC) (a b:Nat) (Z:H) :
 AW E D W N (aY cc1) (Hv a b Z) (Eu E) nX (Eu E) =
 ft E D W (fun a b Z=>BE (fun rec s'=>AW E D W N cc1 s' (kX [(0,.ptr)] [] [] rec) (CC 0 (Eu E) nX) (Eu E)) N (Hv a b Z)) a b Z:=by kernel_rfl
theorem sx (cc2:XC) (cc3:XC) (li1:St->AH) (a b:Nat) (Z:H) :
 AW E D W N (Qt cc2 cc3) (Hv a b Z) (kX [(0,.ptr)] [] [] li1) (CC 0 (Eu E) nX) (Eu E) =
 I7 E D W (fun a b Z=>BE (fun rec s'=>AW E D W N cc3 s' (kX [(0,.ptr)] [] [] rec) (dP E D W N cc2 li1) (Eu E)) N (Hv a b Z)) (fun a b Z=>li1 (Hv a b Z)) a b Z:=by kernel_rfl
theorem sw (cc2:XC) (li1:St->AH) (li3:St->AH) (a b:Nat) (Z:H) :
 AW E D W N (L3 ) (Hv a b Z) (kX [(0,.ptr)] [] [] li3) (dP E D W N cc2 li1) (Eu E) =
 I6 E D W (fun a b Z=>AW E D W N cc2 (Hv a b Z) (kX [(0,.ptr)] [] [] li1) (CC 2 (kX [(0,.ptr)] [] [] li1) (CC 1 (kX [(0,.ptr)] [] [] li1) (CC 0 (Eu E) nX))) (Eu E)) (fun a b Z=>li3 (Hv a b Z)) a b Z:=by kernel_rfl
def Vn (E:EB) (D:BB) (W:AJ) (N:Nat) (R1:Nat->Nat->H->AH):=Oe E D W R1
theorem nC (li1:St->AH) (a b:Nat) (Z:H) :
 AW E D W N KY (Hv a b Z) (kX [(0,.ptr)] [] [] li1) (CC 2 (kX [(0,.ptr)] [] [] li1) (CC 1 (kX [(0,.ptr)] [] [] li1) (CC 0 (Eu E) nX))) (Eu E)=Vn E D W N (fun a b Z=>li1 (Hv a b Z)) a b Z:=by kernel_rfl
def QT (R1:Nat->Nat->H->AH) (n:Nat):Nat->Nat->H->AH:=
 Nat.rec (fun _ _ _=>none) (fun _ ih=>I6 E D W (Vn E D W N R1) ih) n
theorem lO (li1:St->AH) (n:Nat):∀(a b:Nat) (Z:H),
 BE (fun rec s'=>AW E D W N L3 s' (kX [(0,.ptr)] [] [] rec) (dP E D W N KY li1) (Eu E)) n (Hv a b Z)=QT E D W N (fun a b Z=>li1 (Hv a b Z)) n a b Z:=by
 induction n with
 | zero=>intro a b Z;rfl
 | succ n ihn=>
  intro a b Z
  rw[BP]
  refine(sw E D W N KY li1 (BE (fun rec s'=>AW E D W N L3 s' (kX [(0,.ptr)] [] [] rec) (dP E D W N KY li1) (Eu E)) n) a b Z).trans ?_
  simp only[ihn,nC]
  kernel_rfl
def Mo (n:Nat):Nat->Nat->H->AH:=
 Nat.rec (fun _ _ _=>none) (fun _ ih=>I7 E D W (QT E D W N ih N) ih) n
theorem lP (n:Nat):∀(a b:Nat) (Z:H),
 BE (fun rec s'=>AW E D W N (Qt KY L3) s' (kX [(0,.ptr)] [] [] rec) (CC 0 (Eu E) nX) (Eu E)) n (Hv a b Z)=Mo E D W N n a b Z:=by
 induction n with
 | zero=>intro a b Z;rfl
 | succ n ihn=>
  intro a b Z
  rw[BP]
  refine(sx E D W N KY L3 (BE (fun rec s'=>AW E D W N (Qt KY L3) s' (kX [(0,.ptr)] [] [] rec) (CC 0 (Eu E) nX) (Eu E)) n) a b Z).trans ?_
  simp only[ihn,lO]
  kernel_rfl
def jL:=ft E D W (Mo E D W N N)
theorem nD (a b:Nat) (Z:H) :
 AW E D W N (aY (Qt KY L3)) (Hv a b Z) (Eu E) nX (Eu E)=jL E D W N a b Z:=by
 refine(sy E D W N (Qt KY L3)  a b Z).trans ?_
 simp only[lP]
 kernel_rfl
def oD (args:List V) (Z:H):AH:=
 AP args fun x1 l2=>
 Br x1 fun b3 o4=>
 AZ l2 (
 jL E D W N b3 o4 Z)
def A13:Eg:=⟨83,[.ptr],[],(aY (Qt KY L3))⟩
theorem AAq (args:List V) (Z:H):CR E D W N A13 args Z=oD E D W N args Z:=by
 unfold oD
 simp only[<-nD]
 kernel_rfl
def vr:XC:=(.z (.q 2 0<|
 .c 3 y3<|
 .nil)
 (.seq (.z (.m 5 0<|
 .n 6 5<|
 .f 7 0 6<|
 .k 8 (.int .u8) 27 [(.t 7),(.i 0)]<|
 .m 4 8<|
 .nil)
 (.block 0 (.z (.m 10 4<|
 .k 11 .bool 29 [(.t 10)]<|
 .m 9 11<|
 .nil)
 (.cond (.tmp 9) (.z (.m 12 0<|
 .k 13 (.tup [.i,.str]) 30 [(.t 12)]<|
 .P 14 (.extract 0 (.t 13))<|
 .P 15 (.extract 1 (.t 13))<|
 .m 2 14<|
 .m 3 15<|
 .nil)
 .ret)
 (.z (.m 17 4<|
 .k 18 .bool 31 [(.t 17)]<|
 .m 19 18<|
 .gO 19 false (.p 20 [4,19] (.mov (.t 4))<|
 .p 21 [20,19] (.bin .eql .none (.t 20) oI)<|
 .p 22 [21,19] (.mov (.t 21))<|
 .grp 22 true (.p 23 [0,22] y7<|
 .p 24 [23,22] (.nilck (.t 23))<|
 .p 25 [24,22] (.faddr 0 (.t 24))<|
 .op (some 26) (.int .u8) [25,22] (.call 27 [(.t 25),(.i 1)])<|
 .op (some 27) .bool [26,22] (.call 31 [(.t 26)])<|
 .nil) 28 [22,27,19] (.t 22) (.t 27) (.con y1)<|
 .nil) 29 19 28<|
 .m 16 29<|
 .nil)
 (.cond (.tmp 16) (.z (.m 30 0<|
 .k 31 (.tup [.i,.str]) 32 [(.t 30)]<|
 .P 32 (.extract 0 (.t 31))<|
 .P 33 (.extract 1 (.t 31))<|
 .m 2 32<|
 .m 3 33<|
 .nil)
 .ret)
 (.z (.m 35 4<|
 .b 36 .eql .none (.t 35) (.con (V.int .u8 (AA 39)))<|
 .m 34 36<|
 .nil)
 (.cond (.tmp 34) (.z (.m 37 0<|
 .k 38 (.tup [.i,.str]) 33 [(.t 37)]<|
 .P 39 (.extract 0 (.t 38))<|
 .P 40 (.extract 1 (.t 38))<|
 .m 2 39<|
 .m 3 40<|
 .nil)
 .ret)
 (.z (.m 42 4<|
 .b 43 .eql .none (.t 42) (.con (V.int .u8 (AA 34)))<|
 .m 41 43<|
 .nil)
 (.cond (.tmp 41) (.z (.m 44 0<|
 .k 45 (.tup [.i,.str]) 34 [(.t 44)]<|
 .P 46 (.extract 0 (.t 45))<|
 .P 47 (.extract 1 (.t 45))<|
 .m 2 46<|
 .m 3 47<|
 .nil)
 .ret)
 .skip))))))))))
 (.z (.m 48 0<|
 .k 49 (.tup [.i,.str]) 35 [(.t 48)]<|
 .P 50 (.extract 0 (.t 49))<|
 .P 51 (.extract 1 (.t 49))<|
 .m 2 50<|
 .m 3 51<|
 .nil)
 .ret)))
def Od (E:EB) (D:BB) (W:AJ) (a b:Nat) (Z:H):AH:=
 AV (D 27 [.ptr a b,.int .i64 (AA 0)] Z) fun u1 s2=>
 Al .u8 u1 fun x3=>
 AV (D 29 [.int .u8 x3] s2) fun u4 s5=>
 AT u4 fun x6=>
 AI x6 (
 AV (D 30 [.ptr a b] s5) fun u7 s8=>
 Cw u7 fun l9=>
 BV .i64 l9 fun x12 l11=>
 EY l11 fun x15 l14=>
 AZ l14 (
 some ((V.tup [.int .i64 x12,.str x15]),s8))) (
 AV (D 31 [.int .u8 x3] s5) fun u16 s17=>
 AT u16 fun x18=>
 Ax (fun c19 s20=>
 AI c19 (
 AV (D 32 [.ptr a b] s20) fun u22 s23=>
 Cw u22 fun l24=>
 BV .i64 l24 fun x27 l26=>
 EY l26 fun x30 l29=>
 AZ l29 (
 some ((V.tup [.int .i64 x27,.str x30]),s23))) (
 AI (D0 x3 (AA 39)) (
 AV (D 33 [.ptr a b] s20) fun u31 s32=>
 Cw u31 fun l33=>
 BV .i64 l33 fun x36 l35=>
 EY l35 fun x39 l38=>
 AZ l38 (
 some ((V.tup [.int .i64 x36,.str x39]),s32))) (
 AI (D0 x3 (AA 34)) (
 AV (D 34 [.ptr a b] s20) fun u40 s41=>
 Cw u40 fun l42=>
 BV .i64 l42 fun x45 l44=>
 EY l44 fun x48 l47=>
 AZ l47 (
 some ((V.tup [.int .i64 x45,.str x48]),s41))) (
 AV (D 35 [.ptr a b] s20) fun u49 s50=>
 Cw u49 fun l51=>
 BV .i64 l51 fun x54 l53=>
 EY l53 fun x57 l56=>
 AZ l56 (
 some ((V.tup [.int .i64 x54,.str x57]),s50)))))) fun k21=>
 AI x18 (
 k21 true s17) (
 Ax (fun c58 s59=>
 k21 c58 s59) fun k60=>
 AI (D0 x3 (AA 45)) (
 AV (D 27 [.ptr a b,.int .i64 (AA 1)] s17) fun u61 s62=>
 Al .u8 u61 fun x63=>
 AV (D 31 [.int .u8 x63] s62) fun u64 s65=>
 AT u64 fun x66=>
 k60 x66 s65) (
 k60 false s17)))
def uf (N:Nat) (args:List V) (Z:H):AH:=
 AP args fun x1 l2=>
 Br x1 fun b3 o4=>
 AZ l2 (
 Od E D W b3 o4 Z)
def A14:Eg:=⟨52,[.ptr],[(.tmp 2),(.tmp 3)],vr⟩
theorem AAp (args:List V) (Z:H):CR E D W N A14 args Z=uf E D W N args Z:=by kernel_rfl
def Qa:List BR:=[⟨(some 15),.load (some 3) (.tmp 6),none⟩,⟨(some 16),.mov (.tmp 0),none⟩,⟨(some 17),.faddr 2 (.tmp 6),none⟩,⟨(some 18),.load none (.tmp 17),none⟩,⟨(some 19),.call 36 [(.tmp 16),(.tmp 18),(.con (V.int .i64 (AA 7)))],none⟩,⟨none,.store 3 (.tmp 4) (.tmp 15),none⟩,⟨(some 5),.mov (.tmp 19),none⟩]
def TK:List DP:=[⟨0,[6]⟩,⟨0,[0]⟩,⟨0,[6]⟩,⟨4,[17]⟩,⟨14,[16,18]⟩,⟨31,[4,15]⟩,⟨63,[19]⟩]
def vq:XC:=(.z (.p 4 [] (.alloc 68 [y0,y3,y0])<|
 .c 5 y1<|
 .nil)
 (.z (.m 7 0<|
 .n 8 7<|
 .f 9 0 8<|
 .k 10 y4 18 [(.t 9)]<|
 .p 6 [] (.alloc 68 [y0,y3,y0])<|
 .op none y4 [6,10] (.store 3 (.t 6) (.t 10))<|
 .nil)
 (.seq (.z (.f 11 0 6<|
 .l 12 .i 11<|
 .m 13 1<|
 .b 14 .neq .none (.t 12) (.t 13)<|
 .nil)
 (.cond (.tmp 14) (.seq (.keep [(0,.ptr),(4,.ptr),(6,.ptr)] [] [] (.gdraw Qa TK [(4,.ptr),(5,.bool)]))
 .ret)
 .skip))
 (.z (.m 20 0<|
 .n 21 20<|
 .f 22 0 21<|
 .k 23 y4 37 [(.t 22)]<|
 .op none y4 [4,23] (.store 3 (.t 4) (.t 23))<|
 .c 5 y9<|
 .nil)
 .ret))))
def S1 (a b:Nat) (c:Int) (Z:H):AH:=
 let s1:=CO Z (.cells [.int .i64 (AA 0),.str ⟨0,0⟩,.int .i64 (AA 0)]);
 AV (D 18 [.ptr a b] s1) fun u2 s3=>
 B7 u2 fun l4=>
 BV .i64 l4 fun x7 l6=>
 EY l6 fun x10 l9=>
 BV .i64 l9 fun x13 l12=>
 AZ l12 (
 let s14:=CO s3 (.cells [.int .i64 (AA 0),.str ⟨0,0⟩,.int .i64 (AA 0)]);
 Dk 3 (H.next s3) 0 (V.agg [.int .i64 x7,.str x10,.int .i64 x13]) s14 fun s15=>
 Bm E s15 (H.next s3) 0 fun u16=>
 Al .i64 u16 fun x17=>
 AI (not (D0 x17 c)) (
 Ee (W Qa TK [(0,.ptr a b),(4,.ptr (H.next Z) 0),(6,.ptr (H.next s3) 0)] s15) fun e18 s19=>
 E0 e18 4 fun u20=>
 Br u20 fun b21 o22=>
 E0 e18 5 fun u23=>
 AT u23 fun x24=>
 DB E s19 b21 o22 3 fun u25=>
 some ((V.tup [.agg u25,.bool x24]),s19)) (
 AV (D 37 [.ptr a b] s15) fun u26 s27=>
 B7 u26 fun l28=>
 BV .i64 l28 fun x31 l30=>
 EY l30 fun x34 l33=>
 BV .i64 l33 fun x37 l36=>
 AZ l36 (
 Dk 3 (H.next Z) 0 (V.agg [.int .i64 x31,.str x34,.int .i64 x37]) s27 fun s38=>
 DB E s38 (H.next Z) 0 3 fun u39=>
 some ((V.tup [.agg u39,.bool true]),s38))))
def ue (N:Nat) (args:List V) (Z:H):AH:=
 AP args fun x1 l2=>
 Br x1 fun b3 o4=>
 BV .i64 l2 fun x7 l6=>
 AZ l6 (
 S1 E D W b3 o4 x7 Z)
def A15:Eg:=⟨24,[.ptr,.i],[(.cell 4 (some 3)),(.tmp 5)],vq⟩
theorem AAo (args:List V) (Z:H):CR E D W N A15 args Z=ue E D W N args Z:=by kernel_rfl
def Xz:List (Nat × EH):=[(0,.ptr),(7,.any),(8,.i),(9,.i)]
def H9 (E:EB):St->AH:=fun s=>Ek E s [(.tmp 4)] fun l=>some (FF l,s.Z)
def dO (c0:XC):Nat->St->AH:=CC 0 (dX E D W N (.keep [] [] [] c0) (H9 E) nX (H9 E)) nX
def aX (cc1:XC) (cc2:XC):XC:=(.z (.c 4 y1<|
 .nil)
 (.seq (.z (.m 7 1<|
 .u 8 7<|
 .q 9 0<|
 .nil)
 (.block 0 (.loop Xz [] [] cc2)))
 (.keep [] [] [] cc1)))
def S0 (E:EB) (D:BB) (W:AJ) (K2:Nat->Nat->V->Int->Int->H->AH) (a b:Nat) (c:V) (Z:H):AH:=
 BG c fun n1=>
 K2 a b c (AA n1) (AA 0) Z
def O9:XC:=(.z (.c 4 y9<|
 .nil)
 .ret)
def qz (E:EB) (D:BB) (W:AJ) (Z:H):AH:=
 some ((V.bool true),Z)
def Qr:XC:=(.z (.b 10 .lss .none (.t 9) (.t 8)<|
 .nil)
 (.seq (.cond (.tmp 10) .skip
 Rf)
 (.seq (.block 1 (.z (.s 11 1 7 9<|
 .l 12 .str 11<|
 .m 6 12<|
 .nil)
 (.z (.m 13 0<|
 .n 14 13<|
 .f 15 0 14<|
 .m 16 6<|
 .k 17 .bool 38 [(.t 15),(.t 16)]<|
 .P 18 (.un .not (.t 17))<|
 .nil)
 (.cond (.tmp 18) (.z (.m 19 0<|
 .m 20 0<|
 .n 21 20<|
 .f 22 0 21<|
 .k 23 y4 18 [(.t 22)]<|
 .O 24 .i (.field 2 none (.t 23))<|
 .k 25 .bool 36 [(.t 19),(.t 24),(.i 7)]<|
 .m 4 25<|
 .nil)
 .ret)
 .skip))))
 (.ops (.b 26 .add .none (.t 9) (.i 1)<|
 .m 9 26<|
 .nil)))))
def KT (E:EB) (D:BB) (W:AJ) (K1:H->AH) (R2:Nat->Nat->V->Int->Int->H->AH) (a b:Nat) (c:V) (d e:Int) (Z:H):AH:=
 AI (Dt e d) (
 Am 1 c e fun b1 o2=>
 Bm E Z b1 o2 fun u3=>
 DE u3 fun x4=>
 AV (D 38 [.ptr a b,.str x4] Z) fun u5 s6=>
 AT u5 fun x7=>
 AI (not x7) (
 AV (D 18 [.ptr a b] s6) fun u8 s9=>
 B7 u8 fun l10=>
 BV .i64 l10 fun x13 l12=>
 EY l12 fun x16 l15=>
 BV .i64 l15 fun x19 l18=>
 AZ l18 (
 AV (D 36 [.ptr a b,.int .i64 x19,.int .i64 (AA 7)] s9) fun u20 s21=>
 AT u20 fun x22=>
 some ((V.bool x22),s21))) (
 R2 a b c d (CJ .i64 e (AA 1)) s6)) (
 K1 Z)
def gx (a b:Nat) (c:V) (Z:H):St:=⟨[(0,.ptr a b),(1,c)],[],[],Z⟩
def gu (Z:H):St:=⟨[],[],[],Z⟩
def Vb (a b:Nat) (c:V) (d e:Int) (Z:H):St:=⟨[(0,.ptr a b),(7,c),(8,.int .i64 d),(9,.int .i64 e)],[],[],Z⟩
theorem su (cc1:XC) (cc2:XC) (a b:Nat) (c:V) (Z:H) :
 AW E D W N (aX cc1 cc2) (gx a b c Z) (H9 E) nX (H9 E) =
 S0 E D W (fun a b d e f Z=>BE (fun rec s'=>AW E D W N cc2 s' (kX Xz [] [] rec) (dO E D W N cc1) (H9 E)) N (Vb a b d e f Z)) a b c Z:=by kernel_rfl
theorem sr (cc1:XC) (li2:St->AH) (a b:Nat) (c:V) (d e:Int) (Z:H) :
 AW E D W N (Qr ) (Vb a b c d e Z) (kX Xz [] [] li2) (dO E D W N cc1) (H9 E) =
 KT E D W (fun  Z=>AW E D W N cc1 (gu Z) (H9 E) nX (H9 E)) (fun a b c d e Z=>li2 (Vb a b c d e Z)) a b c d e Z:=by kernel_rfl
def Vm (E:EB) (D:BB) (W:AJ) (N:Nat):=qz E D W
theorem nA (Z:H) :
 AW E D W N O9 (gu Z) (H9 E) nX (H9 E)=Vm E D W N  Z:=by kernel_rfl
def TE (n:Nat):Nat->Nat->V->Int->Int->H->AH:=
 Nat.rec (fun _ _ _ _ _ _=>none) (fun _ ih=>KT E D W (Vm E D W N ) ih) n
theorem lN (n:Nat):∀(a b:Nat) (c:V) (d e:Int) (Z:H),
 BE (fun rec s'=>AW E D W N Qr s' (kX Xz [] [] rec) (dO E D W N O9) (H9 E)) n (Vb a b c d e Z)=TE E D W N n a b c d e Z:=by
 induction n with
 | zero=>intro a b c d e Z;rfl
 | succ n ihn=>
  intro a b c d e Z
  rw[BP]
  refine(sr E D W N O9 (BE (fun rec s'=>AW E D W N Qr s' (kX Xz [] [] rec) (dO E D W N O9) (H9 E)) n) a b c d e Z).trans ?_
  simp only[ihn,nA]
  kernel_rfl
def jK:=S0 E D W (TE E D W N N)
theorem nB (a b:Nat) (c:V) (Z:H) :
 AW E D W N (aX O9 Qr) (gx a b c Z) (H9 E) nX (H9 E)=jK E D W N a b c Z:=by
 refine(su E D W N O9 Qr  a b c Z).trans ?_
 simp only[lN]
 kernel_rfl
def oC (args:List V) (Z:H):AH:=
 AP args fun x1 l2=>
 Br x1 fun b3 o4=>
 AP l2 fun x5 l6=>
 AZ l6 (
 jK E D W N b3 o4 x5 Z)
def A16:Eg:=⟨27,[.ptr,.any],[(.tmp 4)],(aX O9 Qr)⟩
theorem AAn (args:List V) (Z:H):CR E D W N A16 args Z=oC E D W N args Z:=by
 unfold oC
 simp only[<-nB]
 kernel_rfl
def vn:XC:=(.z (.c 4 y1<|
 .nil)
 (.z (.m 6 0<|
 .k 7 y4 18 [(.t 6)]<|
 .pal 5 [] 68 [y0,y3,y0]<|
 .op none y4 [5,7] (.store 3 (.t 5) (.t 7))<|
 .nil)
 (.z (.f 8 0 5<|
 .l 9 .i 8<|
 .b 10 .eql .none (.t 9) (.i 5)<|
 .m 11 10<|
 .gO 11 false (.p 12 [5,11] (.faddr 0 (.t 5))<|
 .op (some 13) .i [12,11] (.load none (.t 12))<|
 .p 14 [13,11] (.bin .eql .none (.t 13) (.i 6))<|
 .nil) 15 11 14<|
 .m 16 15<|
 .gA 16 true (.p 17 [5,16] (.faddr 1 (.t 5))<|
 .op (some 18) .str [17,16] (.load none (.t 17))<|
 .p 19 [1,16] (.mov (.t 1))<|
 .p 20 [18,19,16] (.bin .eql .none (.t 18) (.t 19))<|
 .nil) 21 16 20<|
 .m 4 21<|
 .nil)
 .ret)))
def ZY (E:EB) (D:BB) (W:AJ) (a:V) (b:BS) (Z:H):AH:=
 AV (D 18 [a] Z) fun u1 s2=>
 B7 u1 fun l3=>
 BV .i64 l3 fun x6 l5=>
 EY l5 fun x9 l8=>
 BV .i64 l8 fun x12 l11=>
 AZ l11 (
 Ax (fun c13 s14=>
 Ax (fun c16 s17=>
 some ((V.bool c16),s17)) fun k18=>
 AI c13 (
 k18 (BS.beq x9 b) s14) (
 k18 false s14)) fun k15=>
 AI (D0 x6 (AA 5)) (
 k15 true s2) (
 k15 (D0 x6 (AA 6)) s2))
def ud (N:Nat) (args:List V) (Z:H):AH:=
 AP args fun x1 l2=>
 EY l2 fun x5 l4=>
 AZ l4 (
 ZY E D W x1 x5 Z)
def A17:Eg:=⟨22,[.any,.str],[(.tmp 4)],vn⟩
theorem AAm (args:List V) (Z:H):CR E D W N A17 args Z=ud E D W N args Z:=by kernel_rfl
def vm:XC:=(.z (.pal 2 [] 68 [y0,y3,y0]<|
 .nil)
 (.seq (.draw (.m 3 0<|
 .n 4 3<|
 .f 5 0 4<|
 .l 6 .any 5<|
 .m 7 0<|
 .n 8 7<|
 .f 9 1 8<|
 .l 10 .i 9<|
 .s 11 3 6 10<|
 .O 12 y4 (.load (some 3) (.t 11))<|
 .op none y4 [2,12] (.store 3 (.t 2) (.t 12))<|
 .nil) [0,1,3,7,0,16,48,112,255,511,1023])
 .ret))
def ZX (E:EB) (D:BB) (W:AJ) (a b:Nat) (Z:H):AH:=
 Bm E Z a b fun u1=>
 Bm E Z a (AU b 1) fun u2=>
 Al .i64 u2 fun x3=>
 Am 3 u1 x3 fun b4 o5=>
 DB E Z b4 o5 3 fun l6=>
 BV .i64 l6 fun x9 l8=>
 EY l8 fun x12 l11=>
 BV .i64 l11 fun x15 l14=>
 AZ l14 (
 some ((V.agg [.int .i64 x9,.str x12,.int .i64 x15]),Z))
def uc (N:Nat) (args:List V) (Z:H):AH:=
 AP args fun x1 l2=>
 Br x1 fun b3 o4=>
 AZ l2 (
 ZX E D W b3 o4 Z)
def A18:Eg:=⟨13,[.ptr],[(.cell 2 (some 3))],vm⟩
theorem AAl (args:List V) (Z:H):CR E D W N A18 args Z=uc E D W N args Z:=by kernel_rfl
def QZ:List BR:=[⟨(some 30),.mov (.tmp 0),none⟩,⟨(some 31),.mov (.tmp 0),none⟩,⟨(some 32),.mov (.tmp 0),none⟩,⟨(some 33),.nilck (.tmp 32),none⟩,⟨(some 34),.faddr 2 (.tmp 33),none⟩,⟨(some 35),.faddr 2 (.tmp 34),none⟩,⟨(some 36),.load none (.tmp 35),none⟩,⟨(some 37),.faddr 1 (.tmp 3),none⟩,⟨(some 38),.load none (.tmp 37),none⟩,⟨(some 39),.buildSlice 9 1 [(V.str ⟨0,0⟩)] [(0,1,(.tmp 38))],none⟩,⟨(some 40),.append 9 1 16 (.tmp 36) (.tmp 39),none⟩,⟨(some 41),.mov (.tmp 0),none⟩,⟨(some 42),.nilck (.tmp 41),none⟩,⟨(some 43),.faddr 2 (.tmp 42),none⟩,⟨(some 44),.faddr 3 (.tmp 43),none⟩,⟨(some 45),.load none (.tmp 44),none⟩,⟨(some 46),.mov (.tmp 4),none⟩,⟨(some 47),.buildSlice 3 1 [(V.int .i64 (AA 0))] [(0,1,(.tmp 46))],none⟩,⟨(some 48),.append 3 1 8 (.tmp 45) (.tmp 47),none⟩,⟨(some 49),.nilck (.tmp 30),none⟩,⟨(some 50),.faddr 2 (.tmp 49),none⟩,⟨(some 51),.faddr 2 (.tmp 50),none⟩,⟨none,.store 1 (.tmp 51) (.tmp 40),none⟩,⟨(some 52),.nilck (.tmp 31),none⟩,⟨(some 53),.faddr 2 (.tmp 52),none⟩,⟨(some 54),.faddr 3 (.tmp 53),none⟩,⟨none,.store 1 (.tmp 54) (.tmp 48),none⟩]
def Ig:List DP:=[⟨0,[0]⟩,⟨0,[0]⟩,⟨0,[0]⟩,⟨4,[32]⟩,⟨12,[33]⟩,⟨28,[34]⟩,⟨60,[35]⟩,⟨0,[3]⟩,⟨128,[37]⟩,⟨384,[38]⟩,⟨1020,[36,39]⟩,⟨0,[0]⟩,⟨2048,[41]⟩,⟨6144,[42]⟩,⟨14336,[43]⟩,⟨30720,[44]⟩,⟨0,[4]⟩,⟨65536,[46]⟩,⟨262140,[45,47]⟩,⟨524285,[30]⟩,⟨1048573,[49]⟩,⟨2097149,[50]⟩,⟨4194301,[51,40]⟩,⟨8388607,[31]⟩,⟨16777215,[52]⟩,⟨33554431,[53]⟩,⟨67108863,[54,48]⟩]
def vk:XC:=(.z (.c 2 y1<|
 .nil)
 (.z (.m 6 0<|
 .n 7 6<|
 .f 8 0 7<|
 .k 9 y4 37 [(.t 8)]<|
 .p 3 [] (.alloc 68 [y0,y3,y0])<|
 .op none y4 [3,9] (.store 3 (.t 3) (.t 9))<|
 .nil)
 (.seq (.z (.m 10 0<|
 .n 11 10<|
 .f 12 2 11<|
 .f 13 2 12<|
 .l 14 .any 13<|
 .u 15 14<|
 .b 16 .geq .none (.t 15) (.i 40)<|
 .nil)
 (.cond (.tmp 16) (.z (.m 17 0<|
 .f 18 2 3<|
 .l 19 .i 18<|
 .k 20 .bool 36 [(.t 17),(.t 19),(.i 5)]<|
 .m 2 20<|
 .nil)
 .ret)
 .skip))
 (.seq (.z (.m 21 0<|
 .p 22 [] (.buildSlice 9 1 [y3] [(0,1,(.con (V.str ⟨3,4012602⟩)))])<|
 .k 23 .bool 16 [(.t 21),(.t 22)]<|
 .P 24 (.un .not (.t 23))<|
 .nil)
 (.cond (.tmp 24) (.z (.c 2 y1<|
 .nil)
 .ret)
 .skip))
 (.z (.m 26 0<|
 .k 27 (.tup [.i,.bool]) 39 [(.t 26),(.i 0)]<|
 .m 25 27<|
 .P 28 (.extract 0 (.t 25))<|
 .P 29 (.extract 1 (.t 25))<|
 .m 4 28<|
 .m 5 29<|
 .nil)
 (.seq (.keep [(0,.ptr),(3,.ptr),(4,.i),(5,.bool)] [] [] (.gdraw QZ Ig [(5,.bool)]))
 (.z (.m 55 5<|
 .m 2 55<|
 .nil)
 .ret)))))))
def Sz (a b:Nat) (Z:H):AH:=
 AV (D 37 [.ptr a b] Z) fun u1 s2=>
 B7 u1 fun l3=>
 BV .i64 l3 fun x6 l5=>
 EY l5 fun x9 l8=>
 BV .i64 l8 fun x12 l11=>
 AZ l11 (
 let s13:=CO s2 (.cells [.int .i64 (AA 0),.str ⟨0,0⟩,.int .i64 (AA 0)]);
 Dk 3 (H.next s2) 0 (V.agg [.int .i64 x6,.str x9,.int .i64 x12]) s13 fun s14=>
 Bm E s14 a (AU (AU b 2) 2) fun u15=>
 BG u15 fun n16=>
 AI (Ip (AA 40) (AA n16)) (
 Bm E s14 (H.next s2) 2 fun u17=>
 Al .i64 u17 fun x18=>
 AV (D 36 [.ptr a b,.int .i64 x18,.int .i64 (AA 5)] s14) fun u19 s20=>
 AT u19 fun x21=>
 some ((V.bool x21),s20)) (
 let s22:=CO s14 (.cells [.str (BS.mk 3 4012602)]);
 AV (D 16 [.ptr a b,.sl (H.next s14) 0 1 (.ex 1)] s22) fun u23 s24=>
 AT u23 fun x25=>
 AI (not x25) (
 some ((V.bool false),s24)) (
 AV (D 39 [.ptr a b,.int .i64 (AA 0)] s24) fun u26 s27=>
 Cw u26 fun l28=>
 BV .i64 l28 fun x31 l30=>
 DQ l30 fun x34 l33=>
 AZ l33 (
 Ee (W QZ Ig [(0,.ptr a b),(3,.ptr (H.next s2) 0),(4,.int .i64 x31),(5,.bool x34)] s27) fun e35 s36=>
 E0 e35 5 fun u37=>
 AT u37 fun x38=>
 some ((V.bool x38),s36)))))
def ub (N:Nat) (args:List V) (Z:H):AH:=
 AP args fun x1 l2=>
 Br x1 fun b3 o4=>
 AZ l2 (
 Sz E D W b3 o4 Z)
def A19:Eg:=⟨56,[.ptr],[(.tmp 2)],vk⟩
theorem AAk (args:List V) (Z:H):CR E D W N A19 args Z=ub E D W N args Z:=by kernel_rfl
def Xy:List (Nat × EH):=[(0,.any),(1,.any),(2,.any),(7,.i)]
def H7 (E:EB):St->AH:=fun s=>Ek E s [(.tmp 6)] fun l=>some (FF l,s.Z)
def dN (c0:XC):Nat->St->AH:=CC 0 (dX E D W N (.keep [] [] [] c0) (H7 E) nX (H7 E)) nX
def aW (cc1:XC) (cc2:XC):XC:=(.z (.c 6 y1<|
 .nil)
 (.seq (.z (.m 8 0<|
 .u 9 8<|
 .m 10 1<|
 .u 11 10<|
 .b 12 .neq .none (.t 9) (.t 11)<|
 .nil)
 jR)
 (.seq (.z (.q 7 0<|
 .nil)
 (.block 0 (.loop Xy [] [] cc2)))
 (.keep [] [] [] cc1))))
def fq (E:EB) (D:BB) (W:AJ) (K2:V->V->V->Int->H->AH) (a b c:V) (Z:H):AH:=
 BG a fun n1=>
 BG b fun n2=>
 AI (not (D0 (AA n1) (AA n2))) (
 some ((V.bool false),Z)) (
 K2 a b c (AA 0) Z)
def O8:XC:=(.z (.c 6 y9<|
 .nil)
 .ret)
def qy (E:EB) (D:BB) (W:AJ) (Z:H):AH:=
 some ((V.bool true),Z)
def Qq:XC:=(.seq (.z (.m 13 7<|
 .m 14 0<|
 .u 15 14<|
 .b 16 .lss .none (.t 13) (.t 15)<|
 .nil)
 W2)
 (.seq (.block 1 (.seq (.draw (.m 19 2<|
 .m 20 0<|
 .m 21 7<|
 .s 22 1 20 21<|
 .l 23 .str 22<|
 .m 24 1<|
 .m 25 7<|
 .s 26 1 24 25<|
 .l 27 .str 26<|
 .O 28 .bool (.callv (.t 19) [(.t 23),(.t 27)])<|
 .P 29 eL<|
 .nil) [0,0,0,6,14,0,0,96,224,511,1023])
 eN))
 y8))
def fp (E:EB) (D:BB) (W:AJ) (K1:H->AH) (R2:V->V->V->Int->H->AH) (a b c:V) (d:Int) (Z:H):AH:=
 BG a fun n1=>
 AI (Dt d (AA n1)) (
 Am 1 a d fun b2 o3=>
 Bm E Z b2 o3 fun u4=>
 DE u4 fun x5=>
 Am 1 b d fun b6 o7=>
 Bm E Z b6 o7 fun u8=>
 DE u8 fun x9=>
 Iv D c [.str x5,.str x9] Z fun u10 s11=>
 AT u10 fun x12=>
 AI (not x12) (
 some ((V.bool false),s11)) (
 R2 a b c (CJ .i64 d (AA 1)) s11)) (
 K1 Z)
def gq (a b c:V) (Z:H):St:=⟨[(0,a),(1,b),(2,c)],[],[],Z⟩
def gn (Z:H):St:=⟨[],[],[],Z⟩
def Va (a b c:V) (d:Int) (Z:H):St:=⟨[(0,a),(1,b),(2,c),(7,.int .i64 d)],[],[],Z⟩
theorem sq (cc1:XC) (cc2:XC) (a b c:V) (Z:H) :
 AW E D W N (aW cc1 cc2) (gq a b c Z) (H7 E) nX (H7 E) =
 fq E D W (fun a b c d Z=>BE (fun rec s'=>AW E D W N cc2 s' (kX Xy [] [] rec) (dN E D W N cc1) (H7 E)) N (Va a b c d Z)) a b c Z:=by kernel_rfl
theorem so (cc1:XC) (li2:St->AH) (a b c:V) (d:Int) (Z:H) :
 AW E D W N (Qq ) (Va a b c d Z) (kX Xy [] [] li2) (dN E D W N cc1) (H7 E) =
 fp E D W (fun  Z=>AW E D W N cc1 (gn Z) (H7 E) nX (H7 E)) (fun a b c d Z=>li2 (Va a b c d Z)) a b c d Z:=by kernel_rfl
def jI (E:EB) (D:BB) (W:AJ) (N:Nat):=qy E D W
theorem mq (Z:H) :
 AW E D W N O8 (gn Z) (H7 E) nX (H7 E)=jI E D W N  Z:=by kernel_rfl
def iH (n:Nat):V->V->V->Int->H->AH:=
 Nat.rec (fun _ _ _ _ _=>none) (fun _ ih=>fp E D W (jI E D W N ) ih) n
theorem lM (n:Nat):∀(a b c:V) (d:Int) (Z:H),
 BE (fun rec s'=>AW E D W N Qq s' (kX Xy [] [] rec) (dN E D W N O8) (H7 E)) n (Va a b c d Z)=iH E D W N n a b c d Z:=by
 induction n with
 | zero=>intro a b c d Z;rfl
 | succ n ihn=>
  intro a b c d Z
  rw[BP]
  refine(so E D W N O8 (BE (fun rec s'=>AW E D W N Qq s' (kX Xy [] [] rec) (dN E D W N O8) (H7 E)) n) a b c d Z).trans ?_
  simp only[ihn,mq]
  kernel_rfl
def jJ:=fq E D W (iH E D W N N)
theorem my (a b c:V) (Z:H) :
 AW E D W N (aW O8 Qq) (gq a b c Z) (H7 E) nX (H7 E)=jJ E D W N a b c Z:=by
 refine(sq E D W N O8 Qq  a b c Z).trans ?_
 simp only[lM]
 kernel_rfl
def wO (args:List V) (Z:H):AH:=
 AP args fun x1 l2=>
 AP l2 fun x3 l4=>
 AP l4 fun x5 l6=>
 AZ l6 (
 jJ E D W N x1 x3 x5 Z)
def A20:Eg:=⟨30,jQ,[(.tmp 6)],(aW O8 Qq)⟩
theorem AAj (args:List V) (Z:H):CR E D W N A20 args Z=wO E D W N args Z:=by
 unfold wO
 simp only[<-my]
 kernel_rfl
def vj:XC:=(.z (.c 4 y1<|
 .nil)
 (.z (.m 5 0<|
 .m 6 1<|
 .b 7 .eql .none (.t 5) (.t 6)<|
 .m 4 7<|
 .nil)
 .ret))
def qx (E:EB) (D:BB) (W:AJ) (a b:BS) (Z:H):AH:=
 some ((V.bool (BS.beq a b)),Z)
def F21 (N:Nat) (args:List V) (Z:H):AH:=
 EY args fun x3 l2=>
 EY l2 fun x6 l5=>
 AZ l5 (
 qx E D W x3 x6 Z)
def A21:Eg:=⟨8,[.str,.str],[(.tmp 4)],vj⟩
theorem AAi (args:List V) (Z:H):CR E D W N A21 args Z=F21 E D W N args Z:=by kernel_rfl
def Xx:List (Nat × EH):=[(0,.any),(1,.any),(2,.any),(7,.i)]
def H6 (E:EB):St->AH:=fun s=>Ek E s [(.tmp 6)] fun l=>some (FF l,s.Z)
def dM (c0:XC):Nat->St->AH:=CC 0 (dX E D W N (.keep [] [] [] c0) (H6 E) nX (H6 E)) nX
def aV (cc1:XC) (cc2:XC):XC:=(.z (.c 6 y1<|
 .nil)
 (.seq (.z (.m 8 0<|
 .u 9 8<|
 .m 10 1<|
 .u 11 10<|
 .b 12 .neq .none (.t 9) (.t 11)<|
 .nil)
 jR)
 (.seq (.z (.q 7 0<|
 .nil)
 (.block 0 (.loop Xx [] [] cc2)))
 (.keep [] [] [] cc1))))
def fm (E:EB) (D:BB) (W:AJ) (K2:V->V->V->Int->H->AH) (a b c:V) (Z:H):AH:=
 BG a fun n1=>
 BG b fun n2=>
 AI (not (D0 (AA n1) (AA n2))) (
 some ((V.bool false),Z)) (
 K2 a b c (AA 0) Z)
def O7:XC:=(.z (.c 6 y9<|
 .nil)
 .ret)
def qw (E:EB) (D:BB) (W:AJ) (Z:H):AH:=
 some ((V.bool true),Z)
def Qp:XC:=(.seq (.z (.m 13 7<|
 .m 14 0<|
 .u 15 14<|
 .b 16 .lss .none (.t 13) (.t 15)<|
 .nil)
 W2)
 (.seq (.block 1 (.seq (.draw (.m 19 2<|
 .m 20 0<|
 .m 21 7<|
 .s 22 1 20 21<|
 .l 23 .i 22<|
 .m 24 1<|
 .m 25 7<|
 .s 26 1 24 25<|
 .l 27 .i 26<|
 .O 28 .bool (.callv (.t 19) [(.t 23),(.t 27)])<|
 .P 29 eL<|
 .nil) [0,0,0,6,14,0,0,96,224,511,1023])
 eN))
 y8))
def fk (E:EB) (D:BB) (W:AJ) (K1:H->AH) (R2:V->V->V->Int->H->AH) (a b c:V) (d:Int) (Z:H):AH:=
 BG a fun n1=>
 AI (Dt d (AA n1)) (
 Am 1 a d fun b2 o3=>
 Bm E Z b2 o3 fun u4=>
 Al .i64 u4 fun x5=>
 Am 1 b d fun b6 o7=>
 Bm E Z b6 o7 fun u8=>
 Al .i64 u8 fun x9=>
 Iv D c [.int .i64 x5,.int .i64 x9] Z fun u10 s11=>
 AT u10 fun x12=>
 AI (not x12) (
 some ((V.bool false),s11)) (
 R2 a b c (CJ .i64 d (AA 1)) s11)) (
 K1 Z)
def gm (a b c:V) (Z:H):St:=⟨[(0,a),(1,b),(2,c)],[],[],Z⟩
def gj (Z:H):St:=⟨[],[],[],Z⟩
def VZ (a b c:V) (d:Int) (Z:H):St:=⟨[(0,a),(1,b),(2,c),(7,.int .i64 d)],[],[],Z⟩
theorem sk (cc1:XC) (cc2:XC) (a b c:V) (Z:H) :
 AW E D W N (aV cc1 cc2) (gm a b c Z) (H6 E) nX (H6 E) =
 fm E D W (fun a b c d Z=>BE (fun rec s'=>AW E D W N cc2 s' (kX Xx [] [] rec) (dM E D W N cc1) (H6 E)) N (VZ a b c d Z)) a b c Z:=by kernel_rfl
theorem sg (cc1:XC) (li2:St->AH) (a b c:V) (d:Int) (Z:H) :
 AW E D W N (Qp ) (VZ a b c d Z) (kX Xx [] [] li2) (dM E D W N cc1) (H6 E) =
 fk E D W (fun  Z=>AW E D W N cc1 (gj Z) (H6 E) nX (H6 E)) (fun a b c d Z=>li2 (VZ a b c d Z)) a b c d Z:=by kernel_rfl
def jG (E:EB) (D:BB) (W:AJ) (N:Nat):=qw E D W
theorem ml (Z:H) :
 AW E D W N O7 (gj Z) (H6 E) nX (H6 E)=jG E D W N  Z:=by kernel_rfl
def iG (n:Nat):V->V->V->Int->H->AH:=
 Nat.rec (fun _ _ _ _ _=>none) (fun _ ih=>fk E D W (jG E D W N ) ih) n
theorem lL (n:Nat):∀(a b c:V) (d:Int) (Z:H),
 BE (fun rec s'=>AW E D W N Qp s' (kX Xx [] [] rec) (dM E D W N O7) (H6 E)) n (VZ a b c d Z)=iG E D W N n a b c d Z:=by
 induction n with
 | zero=>intro a b c d Z;rfl
 | succ n ihn=>
  intro a b c d Z
  rw[BP]
  refine(sg E D W N O7 (BE (fun rec s'=>AW E D W N Qp s' (kX Xx [] [] rec) (dM E D W N O7) (H6 E)) n) a b c d Z).trans ?_
  simp only[ihn,ml]
  kernel_rfl
def jH:=fm E D W (iG E D W N N)
theorem mm (a b c:V) (Z:H) :
 AW E D W N (aV O7 Qp) (gm a b c Z) (H6 E) nX (H6 E)=jH E D W N a b c Z:=by
 refine(sk E D W N O7 Qp  a b c Z).trans ?_
 simp only[lL]
 kernel_rfl
def wN (args:List V) (Z:H):AH:=
 AP args fun x1 l2=>
 AP l2 fun x3 l4=>
 AP l4 fun x5 l6=>
 AZ l6 (
 jH E D W N x1 x3 x5 Z)
def A22:Eg:=⟨30,jQ,[(.tmp 6)],(aV O7 Qp)⟩
theorem AAh (args:List V) (Z:H):CR E D W N A22 args Z=wN E D W N args Z:=by
 unfold wN
 simp only[<-mm]
 kernel_rfl
def vi:XC:=(.z (.c 4 y1<|
 .nil)
 (.z (.m 5 0<|
 .m 6 1<|
 .b 7 .eql .none (.t 5) (.t 6)<|
 .m 4 7<|
 .nil)
 .ret))
def qv (E:EB) (D:BB) (W:AJ) (a b:Int) (Z:H):AH:=
 some ((V.bool (D0 a b)),Z)
def F23 (N:Nat) (args:List V) (Z:H):AH:=
 BV .i64 args fun x3 l2=>
 BV .i64 l2 fun x6 l5=>
 AZ l5 (
 qv E D W x3 x6 Z)
def A23:Eg:=⟨8,[.i,.i],[(.tmp 4)],vi⟩
theorem AAg (args:List V) (Z:H):CR E D W N A23 args Z=F23 E D W N args Z:=by kernel_rfl
def vh:XC:=(.z (.c 4 y1<|
 .nil)
 (.z (.m 5 0<|
 .m 6 1<|
 .k 7 .bool 40 [(.t 5),(.t 6),(.con (V.fn 41 [] []))]<|
 .m 4 7<|
 .nil)
 .ret))
def qu (E:EB) (D:BB) (W:AJ) (a b:V) (Z:H):AH:=
 AV (D 40 [a,b,.fn 41 [] []] Z) fun u1 s2=>
 AT u1 fun x3=>
 some ((V.bool x3),s2)
def F24 (N:Nat) (args:List V) (Z:H):AH:=
 AP args fun x1 l2=>
 AP l2 fun x3 l4=>
 AZ l4 (
 qu E D W x1 x3 Z)
def A24:Eg:=⟨8,[.any,.any],[(.tmp 4)],vh⟩
theorem AAf (args:List V) (Z:H):CR E D W N A24 args Z=F24 E D W N args Z:=by kernel_rfl
def Xw:List (Nat × EH):=[(0,.any),(1,.any),(2,.any),(7,.i)]
def H5 (E:EB):St->AH:=fun s=>Ek E s [(.tmp 6)] fun l=>some (FF l,s.Z)
def dL (c0:XC):Nat->St->AH:=CC 0 (dX E D W N (.keep [] [] [] c0) (H5 E) nX (H5 E)) nX
def aU (cc1:XC) (cc2:XC):XC:=(.z (.c 6 y1<|
 .nil)
 (.seq (.z (.m 8 0<|
 .u 9 8<|
 .m 10 1<|
 .u 11 10<|
 .b 12 .neq .none (.t 9) (.t 11)<|
 .nil)
 jR)
 (.seq (.z (.q 7 0<|
 .nil)
 (.block 0 (.loop Xw [] [] cc2)))
 (.keep [] [] [] cc1))))
def fj (E:EB) (D:BB) (W:AJ) (K2:V->V->V->Int->H->AH) (a b c:V) (Z:H):AH:=
 BG a fun n1=>
 BG b fun n2=>
 AI (not (D0 (AA n1) (AA n2))) (
 some ((V.bool false),Z)) (
 K2 a b c (AA 0) Z)
def O6:XC:=(.z (.c 6 y9<|
 .nil)
 .ret)
def qt (E:EB) (D:BB) (W:AJ) (Z:H):AH:=
 some ((V.bool true),Z)
def Qo:XC:=(.seq (.z (.m 13 7<|
 .m 14 0<|
 .u 15 14<|
 .b 16 .lss .none (.t 13) (.t 15)<|
 .nil)
 W2)
 (.seq (.block 1 (.seq (.draw (.m 19 2<|
 .m 20 0<|
 .m 21 7<|
 .s 22 11 20 21<|
 .O 23 y6 (.load (some 11) (.t 22))<|
 .m 24 1<|
 .m 25 7<|
 .s 26 11 24 25<|
 .O 27 y6 (.load (some 11) (.t 26))<|
 .O 28 .bool (.callv (.t 19) [(.t 23),(.t 27)])<|
 .P 29 eL<|
 .nil) [0,0,0,6,14,0,0,96,224,511,1023])
 eN))
 y8))
def fh (E:EB) (D:BB) (W:AJ) (K1:H->AH) (R2:V->V->V->Int->H->AH) (a b c:V) (d:Int) (Z:H):AH:=
 BG a fun n1=>
 AI (Dt d (AA n1)) (
 Am 11 a d fun b2 o3=>
 DB E Z b2 o3 11 fun l4=>
 EY l4 fun x7 l6=>
 BV .i64 l6 fun x10 l9=>
 DQ l9 fun x13 l12=>
 DQ l12 fun x16 l15=>
 BV .i64 l15 fun x19 l18=>
 BV .i64 l18 fun x22 l21=>
 AP l21 fun x23 l24=>
 AP l24 fun x25 l26=>
 BV .i64 l26 fun x29 l28=>
 AP l28 fun x30 l31=>
 BV .i64 l31 fun x34 l33=>
 AZ l33 (
 Am 11 b d fun b35 o36=>
 DB E Z b35 o36 11 fun l37=>
 EY l37 fun x40 l39=>
 BV .i64 l39 fun x43 l42=>
 DQ l42 fun x46 l45=>
 DQ l45 fun x49 l48=>
 BV .i64 l48 fun x52 l51=>
 BV .i64 l51 fun x55 l54=>
 AP l54 fun x56 l57=>
 AP l57 fun x58 l59=>
 BV .i64 l59 fun x62 l61=>
 AP l61 fun x63 l64=>
 BV .i64 l64 fun x67 l66=>
 AZ l66 (
 Iv D c [.agg [.str x7,.int .i64 x10,.bool x13,.bool x16,.int .i64 x19,.int .i64 x22,x23,x25,.int .i64 x29,x30,.int .i64 x34],.agg [.str x40,.int .i64 x43,.bool x46,.bool x49,.int .i64 x52,.int .i64 x55,x56,x58,.int .i64 x62,x63,.int .i64 x67]] Z fun u68 s69=>
 AT u68 fun x70=>
 AI (not x70) (
 some ((V.bool false),s69)) (
 R2 a b c (CJ .i64 d (AA 1)) s69)))) (
 K1 Z)
def gi (a b c:V) (Z:H):St:=⟨[(0,a),(1,b),(2,c)],[],[],Z⟩
def gh (Z:H):St:=⟨[],[],[],Z⟩
def VY (a b c:V) (d:Int) (Z:H):St:=⟨[(0,a),(1,b),(2,c),(7,.int .i64 d)],[],[],Z⟩
theorem se (cc1:XC) (cc2:XC) (a b c:V) (Z:H) :
 AW E D W N (aU cc1 cc2) (gi a b c Z) (H5 E) nX (H5 E) =
 fj E D W (fun a b c d Z=>BE (fun rec s'=>AW E D W N cc2 s' (kX Xw [] [] rec) (dL E D W N cc1) (H5 E)) N (VY a b c d Z)) a b c Z:=by kernel_rfl
theorem sc (cc1:XC) (li2:St->AH) (a b c:V) (d:Int) (Z:H) :
 AW E D W N (Qo ) (VY a b c d Z) (kX Xw [] [] li2) (dL E D W N cc1) (H5 E) =
 fh E D W (fun  Z=>AW E D W N cc1 (gh Z) (H5 E) nX (H5 E)) (fun a b c d Z=>li2 (VY a b c d Z)) a b c d Z:=by kernel_rfl
def jE (E:EB) (D:BB) (W:AJ) (N:Nat):=qt E D W
theorem mh (Z:H) :
 AW E D W N O6 (gh Z) (H5 E) nX (H5 E)=jE E D W N  Z:=by kernel_rfl
def iE (n:Nat):V->V->V->Int->H->AH:=
 Nat.rec (fun _ _ _ _ _=>none) (fun _ ih=>fh E D W (jE E D W N ) ih) n
theorem lK (n:Nat):∀(a b c:V) (d:Int) (Z:H),
 BE (fun rec s'=>AW E D W N Qo s' (kX Xw [] [] rec) (dL E D W N O6) (H5 E)) n (VY a b c d Z)=iE E D W N n a b c d Z:=by
 induction n with
 | zero=>intro a b c d Z;rfl
 | succ n ihn=>
  intro a b c d Z
  rw[BP]
  refine(sc E D W N O6 (BE (fun rec s'=>AW E D W N Qo s' (kX Xw [] [] rec) (dL E D W N O6) (H5 E)) n) a b c d Z).trans ?_
  simp only[ihn,mh]
  kernel_rfl
def jF:=fj E D W (iE E D W N N)
theorem mj (a b c:V) (Z:H) :
 AW E D W N (aU O6 Qo) (gi a b c Z) (H5 E) nX (H5 E)=jF E D W N a b c Z:=by
 refine(se E D W N O6 Qo  a b c Z).trans ?_
 simp only[lK]
 kernel_rfl
def wM (args:List V) (Z:H):AH:=
 AP args fun x1 l2=>
 AP l2 fun x3 l4=>
 AP l4 fun x5 l6=>
 AZ l6 (
 jF E D W N x1 x3 x5 Z)
def A25:Eg:=⟨30,jQ,[(.tmp 6)],(aU O6 Qo)⟩
theorem AAe (args:List V) (Z:H):CR E D W N A25 args Z=wM E D W N args Z:=by
 unfold wM
 simp only[<-mj]
 kernel_rfl
def vg:XC:=(.z (.P 2 (.box 46 (.t 0))<|
 .P 3 (.box 46 (.t 1))<|
 .c 4 y1<|
 .nil)
 (.z (.f 5 0 2<|
 .l 6 .str 5<|
 .f 7 0 3<|
 .l 8 .str 7<|
 .b 9 .eql .none (.t 6) (.t 8)<|
 .m 10 9<|
 .gA 10 true (.p 11 [2,10] (.faddr 1 (.t 2))<|
 .op (some 12) .i [11,10] (.load none (.t 11))<|
 .p 13 [3,10] (.faddr 1 (.t 3))<|
 .op (some 14) .i [13,10] (.load none (.t 13))<|
 .p 15 [12,14,10] (.bin .eql .none (.t 12) (.t 14))<|
 .nil) 16 10 15<|
 .m 17 16<|
 .gA 17 true (.p 18 [2,17] (.faddr 2 (.t 2))<|
 .op (some 19) .bool [18,17] (.load none (.t 18))<|
 .p 20 [3,17] (.faddr 2 (.t 3))<|
 .op (some 21) .bool [20,17] (.load none (.t 20))<|
 .p 22 [19,21,17] (.bin .eql .bool (.t 19) (.t 21))<|
 .nil) 23 17 22<|
 .m 24 23<|
 .gA 24 true (.p 25 [2,24] (.faddr 3 (.t 2))<|
 .op (some 26) .bool [25,24] (.load none (.t 25))<|
 .p 27 [3,24] (.faddr 3 (.t 3))<|
 .op (some 28) .bool [27,24] (.load none (.t 27))<|
 .p 29 [26,28,24] (.bin .eql .bool (.t 26) (.t 28))<|
 .nil) 30 24 29<|
 .m 31 30<|
 .gA 31 true (.p 32 [2,31] (.faddr 4 (.t 2))<|
 .op (some 33) y5 [32,31] (.load (some 6) (.t 32))<|
 .p 34 [3,31] jP<|
 .op (some 35) y5 [34,31] (.load (some 6) (.t 34))<|
 .op (some 36) .bool [33,35,31] (.call 42 [(.t 33),(.t 35)])<|
 .nil) 37 31 36<|
 .m 38 37<|
 .gA 38 true (.p 39 [2,38] (.faddr 10 (.t 2))<|
 .op (some 40) .i [39,38] (.load none (.t 39))<|
 .p 41 [3,38] (.faddr 10 (.t 3))<|
 .op (some 42) .i [41,38] (.load none (.t 41))<|
 .p 43 [40,42,38] (.bin .eql .none (.t 40) (.t 42))<|
 .nil) 44 38 43<|
 .m 4 44<|
 .nil)
 .ret))
def qs (E:EB) (D:BB) (W:AJ) (a:BS) (b:Int) (c d:Bool) (e f:Int) (g h:V) (i:Int) (j:V) (k:Int) (l:BS) (m:Int) (o p:Bool) (q r:Int) (s t:V) (u:Int) (v:V) (w:Int) (Z:H):AH:=
 PO [.str a,.int .i64 b,.bool c,.bool d,.int .i64 e,.int .i64 f,g,h,.int .i64 i,j,.int .i64 k] Z fun s1=>
 PO [.str l,.int .i64 m,.bool o,.bool p,.int .i64 q,.int .i64 r,s,t,.int .i64 u,v,.int .i64 w] s1 fun s2=>
 Bm E s2 (H.next Z) 0 fun u3=>
 DE u3 fun x4=>
 Bm E s2 (H.next s1) 0 fun u5=>
 DE u5 fun x6=>
 Ax (fun c7 s8=>
 Ax (fun c10 s11=>
 Ax (fun c13 s14=>
 Ax (fun c16 s17=>
 Ax (fun c19 s20=>
 some ((V.bool c19),s20)) fun k21=>
 AI c16 (
 Bm E s17 (H.next Z) 10 fun u22=>
 Al .i64 u22 fun x23=>
 Bm E s17 (H.next s1) 10 fun u24=>
 Al .i64 u24 fun x25=>
 k21 (D0 x23 x25) s17) (
 k21 false s17)) fun k18=>
 AI c13 (
 DB E s14 (H.next Z) 4 6 fun l26=>
 BV .i64 l26 fun x29 l28=>
 BV .i64 l28 fun x32 l31=>
 AP l31 fun x33 l34=>
 AP l34 fun x35 l36=>
 BV .i64 l36 fun x39 l38=>
 AP l38 fun x40 l41=>
 AZ l41 (
 DB E s14 (H.next s1) 4 6 fun l42=>
 BV .i64 l42 fun x45 l44=>
 BV .i64 l44 fun x48 l47=>
 AP l47 fun x49 l50=>
 AP l50 fun x51 l52=>
 BV .i64 l52 fun x55 l54=>
 AP l54 fun x56 l57=>
 AZ l57 (
 AV (D 42 [.agg [.int .i64 x29,.int .i64 x32,x33,x35,.int .i64 x39,x40],.agg [.int .i64 x45,.int .i64 x48,x49,x51,.int .i64 x55,x56]] s14) fun u58 s59=>
 AT u58 fun x60=>
 k18 x60 s59))) (
 k18 false s14)) fun k15=>
 AI c10 (
 Bm E s11 (H.next Z) 3 fun u61=>
 AT u61 fun x62=>
 Bm E s11 (H.next s1) 3 fun u63=>
 AT u63 fun x64=>
 TQ .bool (V.bool x62) (V.bool x64) fun c65=>
 k15 c65 s11) (
 k15 false s11)) fun k12=>
 AI c7 (
 Bm E s8 (H.next Z) 2 fun u66=>
 AT u66 fun x67=>
 Bm E s8 (H.next s1) 2 fun u68=>
 AT u68 fun x69=>
 TQ .bool (V.bool x67) (V.bool x69) fun c70=>
 k12 c70 s8) (
 k12 false s8)) fun k9=>
 AI (BS.beq x4 x6) (
 Bm E s2 (H.next Z) 1 fun u71=>
 Al .i64 u71 fun x72=>
 Bm E s2 (H.next s1) 1 fun u73=>
 Al .i64 u73 fun x74=>
 k9 (D0 x72 x74) s2) (
 k9 false s2)
def F26 (N:Nat) (args:List V) (Z:H):AH:=
 AP args fun x1 l2=>
 B7 x1 fun l3=>
 EY l3 fun x6 l5=>
 BV .i64 l5 fun x9 l8=>
 DQ l8 fun x12 l11=>
 DQ l11 fun x15 l14=>
 BV .i64 l14 fun x18 l17=>
 BV .i64 l17 fun x21 l20=>
 AP l20 fun x22 l23=>
 AP l23 fun x24 l25=>
 BV .i64 l25 fun x28 l27=>
 AP l27 fun x29 l30=>
 BV .i64 l30 fun x33 l32=>
 AZ l32 (
 AP l2 fun x34 l35=>
 B7 x34 fun l36=>
 EY l36 fun x39 l38=>
 BV .i64 l38 fun x42 l41=>
 DQ l41 fun x45 l44=>
 DQ l44 fun x48 l47=>
 BV .i64 l47 fun x51 l50=>
 BV .i64 l50 fun x54 l53=>
 AP l53 fun x55 l56=>
 AP l56 fun x57 l58=>
 BV .i64 l58 fun x61 l60=>
 AP l60 fun x62 l63=>
 BV .i64 l63 fun x66 l65=>
 AZ l65 (
 AZ l35 (
 qs E D W x6 x9 x12 x15 x18 x21 x22 x24 x28 x29 x33 x39 x42 x45 x48 x51 x54 x55 x57 x61 x62 x66 Z)))
def A26:Eg:=⟨45,[y6,y6],[(.tmp 4)],vg⟩
theorem AAd (args:List V) (Z:H):CR E D W N A26 args Z=F26 E D W N args Z:=by kernel_rfl
def vf:XC:=(.z (.c 4 eM<|
 .nil)
 (.seq (.seq (.draw (.m 5 0<|
 .n 6 5<|
 .f 7 1 6<|
 .l 8 .i 7<|
 .m 9 1<|
 .b 10 .add .none (.t 8) (.t 9)<|
 .m 11 0<|
 .n 12 11<|
 .f 13 0 12<|
 .l 14 .str 13<|
 .P 15 (.len true (.t 14))<|
 .b 16 .geq .none (.t 10) (.t 15)<|
 .nil) [0,1,3,7,0,31,0,64,192,448,960,2047])
 (.cond (.tmp 16) (.z (.c 4 eM<|
 .nil)
 .ret)
 .skip))
 (.seq (.draw (.m 17 0<|
 .n 18 17<|
 .f 19 0 18<|
 .l 20 .str 19<|
 .m 21 0<|
 .n 22 21<|
 .f 23 1 22<|
 .l 24 .i 23<|
 .m 25 1<|
 .b 26 .add .none (.t 24) (.t 25)<|
 .P 27 (.idxStr (.t 20) (.t 26))<|
 .m 4 27<|
 .nil) [0,1,3,7,0,16,48,112,0,496,1023,2047])
 .ret)))
def ZW (E:EB) (D:BB) (W:AJ) (a b:Nat) (c:Int) (Z:H):AH:=
 Bm E Z a (AU b 1) fun u1=>
 Al .i64 u1 fun x2=>
 Bm E Z a b fun u3=>
 DE u3 fun x4=>
 AI (Ip (AA (BS.len x4)) (CJ .i64 x2 c)) (
 some ((V.int .u8 (AA 0)),Z)) (
 Bm E Z a b fun u5=>
 DE u5 fun x6=>
 Bm E Z a (AU b 1) fun u7=>
 Al .i64 u7 fun x8=>
 Ei x6 (CJ .i64 x8 c) fun x9=>
 some ((V.int .u8 x9),Z))
def ua (N:Nat) (args:List V) (Z:H):AH:=
 AP args fun x1 l2=>
 Br x1 fun b3 o4=>
 BV .i64 l2 fun x7 l6=>
 AZ l6 (
 ZW E D W b3 o4 x7 Z)
def A27:Eg:=⟨28,[.ptr,.i],[(.tmp 4)],vf⟩
theorem AAc (args:List V) (Z:H):CR E D W N A27 args Z=ua E D W N args Z:=by kernel_rfl
def ve:XC:=(.z (.c 4 y1<|
 .nil)
 (.seq (.draw (.m 5 0<|
 .n 6 5<|
 .f 7 0 6<|
 .l 8 .str 7<|
 .m 9 0<|
 .n 10 9<|
 .f 11 1 10<|
 .l 12 .i 11<|
 .p 13 [8,12] (.sliceStr (.t 8) (some (.t 12)) none)<|
 .m 14 1<|
 .k 15 .bool 43 [(.t 13),(.t 14)]<|
 .m 4 15<|
 .nil) [0,1,3,7,0,16,48,112,255,0,1023,2047])
 .ret))
def ZV (E:EB) (D:BB) (W:AJ) (a b:Nat) (c:BS) (Z:H):AH:=
 Bm E Z a b fun u1=>
 DE u1 fun x2=>
 Bm E Z a (AU b 1) fun u3=>
 Al .i64 u3 fun x4=>
 CW x2 (some (V.int .i64 x4)) none fun t5=>
 AV (D 43 [.str t5,.str c] Z) fun u6 s7=>
 AT u6 fun x8=>
 some ((V.bool x8),s7)
def uZ (N:Nat) (args:List V) (Z:H):AH:=
 AP args fun x1 l2=>
 Br x1 fun b3 o4=>
 EY l2 fun x7 l6=>
 AZ l6 (
 ZV E D W b3 o4 x7 Z)
def A28:Eg:=⟨16,[.ptr,.str],[(.tmp 4)],ve⟩
theorem AAb (args:List V) (Z:H):CR E D W N A28 args Z=uZ E D W N args Z:=by kernel_rfl
def vd:XC:=(.z (.c 2 y1<|
 .nil)
 (.z (.m 3 0<|
 .b 4 .geq .none (.t 3) (.con (V.int .u8 (AA 97)))<|
 .m 5 4<|
 .gA 5 true (.p 6 [0,5] y7<|
 .p 7 [6,5] (.bin .leq .none (.t 6) (.con (V.int .u8 (AA 122))))<|
 .nil) 8 5 7<|
 .m 9 8<|
 .gO 9 false (.p 10 [0,9] y7<|
 .p 11 [10,9] (.bin .geq .none (.t 10) (.con (V.int .u8 (AA 65))))<|
 .p 12 [11,9] (.mov (.t 11))<|
 .grp 12 true (.p 13 [0,12] y7<|
 .p 14 [13,12] (.bin .leq .none (.t 13) (.con (V.int .u8 (AA 90))))<|
 .nil) 15 [12,14,9] (.t 12) (.t 14) (.con y1)<|
 .nil) 16 9 15<|
 .m 2 16<|
 .nil)
 .ret))
def ZU (E:EB) (D:BB) (W:AJ) (a:Int) (Z:H):AH:=
 Ax (fun c1 s2=>
 Ax (fun c4 s5=>
 some ((V.bool c4),s5)) fun k6=>
 AI c1 (
 k6 true s2) (
 Ax (fun c7 s8=>
 k6 c7 s8) fun k9=>
 AI (Ip (AA 65) a) (
 k9 (Ip a (AA 90)) s2) (
 k9 false s2))) fun k3=>
 AI (Ip (AA 97) a) (
 k3 (Ip a (AA 122)) Z) (
 k3 false Z)
def uY (N:Nat) (args:List V) (Z:H):AH:=
 BV .u8 args fun x3 l2=>
 AZ l2 (
 ZU E D W x3 Z)
def A29:Eg:=⟨17,[(.int .u8)],[(.tmp 2)],vd⟩
theorem AAa (args:List V) (Z:H):CR E D W N A29 args Z=uY E D W N args Z:=by kernel_rfl
def Xv:List (Nat × EH):=[(0,.ptr),(4,.i),(5,(.int .u8))]
def H4 (E:EB):St->AH:=fun s=>Ek E s [(.tmp 2),(.tmp 3)] fun l=>some (FF l,s.Z)
def dK (c0:XC):Nat->St->AH:=CC 0 (dX E D W N (.keep [(0,.ptr),(4,.i)] [] [] c0) (H4 E) nX (H4 E)) nX
def aT (cc1:XC) (cc2:XC):XC:=(.z (.q 2 0<|
 .c 3 y3<|
 .nil)
 (.z (.m 7 0<|
 .n 8 7<|
 .f 9 0 8<|
 .f 10 1 9<|
 .l 11 .i 10<|
 .m 4 11<|
 .nil)
 (.seq (.z (.m 12 0<|
 .n 13 12<|
 .f 14 0 13<|
 .k 15 (.int .u8) 27 [(.t 14),(.i 0)]<|
 .m 5 15<|
 .nil)
 (.block 0 (.loop Xv [] [] cc2)))
 (.keep [(0,.ptr),(4,.i)] [] [] cc1))))
def Sy (E:EB) (D:BB) (W:AJ) (K2:Nat->Nat->Int->Int->H->AH) (a b:Nat) (Z:H):AH:=
 Bm E Z a (AU b 1) fun u1=>
 Al .i64 u1 fun x2=>
 AV (D 27 [.ptr a b,.int .i64 (AA 0)] Z) fun u3 s4=>
 Al .u8 u3 fun x5=>
 K2 a b x2 x5 s4
def O5:XC:=(.seq (.draw (.m 46 0<|
 .n 47 46<|
 .f 48 0 47<|
 .f 49 0 48<|
 .l 50 .str 49<|
 .m 51 4<|
 .m 52 0<|
 .n 53 52<|
 .f 54 0 53<|
 .f 55 1 54<|
 .l 56 .i 55<|
 .p 57 [50,51,56] (.sliceStr (.t 50) (some (.t 51)) (some (.t 56)))<|
 .m 6 57<|
 .nil) [0,1,3,7,15,0,0,64,192,448,960,2047,4095])
 (.seq (.block 2 (.z (.m 59 6<|
 .P 60 (.len true (.t 59))<|
 .b 61 .gtr .none (.t 60) (.i 60)<|
 .m 62 61<|
 .gO 62 false (.p 63 [6,62] (.mov (.t 6))<|
 .p 64 [6,62] (.mov (.t 6))<|
 .p 65 [64,62] (.len true (.t 64))<|
 .p 66 [65,62] (.bin .sub .none (.t 65) (.i 1))<|
 .p 67 [63,66,62] (.idxStr (.t 63) (.t 66))<|
 .p 68 [67,62] (.bin .eql .none (.t 67) oI)<|
 .nil) 69 62 68<|
 .m 58 69<|
 .nil)
 (.cond (.tmp 58) (.z (.q 2 0<|
 .c 3 y3<|
 .nil)
 .ret)
 (.z (.m 71 6<|
 .k 72 .bool 44 [(.t 71)]<|
 .m 70 72<|
 .nil)
 (.cond (.tmp 70) (.z (.m 73 6<|
 .q 2 5<|
 .m 3 73<|
 .nil)
 .ret)
 (.z (.m 75 6<|
 .P 76 (.idxStr (.t 75) (.i 0))<|
 .b 77 .leq .none (.t 76) (.con (V.int .u8 (AA 90)))<|
 .m 74 77<|
 .nil)
 (.cond (.tmp 74) (.z (.m 78 6<|
 .q 2 1<|
 .m 3 78<|
 .nil)
 .ret)
 .skip)))))))
 (.z (.m 79 6<|
 .q 2 2<|
 .m 3 79<|
 .nil)
 .ret)))
def ZT (E:EB) (D:BB) (W:AJ) (a b:Nat) (c:Int) (Z:H):AH:=
 Bm E Z a b fun u1=>
 DE u1 fun x2=>
 Bm E Z a (AU b 1) fun u3=>
 Al .i64 u3 fun x4=>
 CW x2 (some (V.int .i64 c)) (some (V.int .i64 x4)) fun t5=>
 Ax (fun c6 s7=>
 AI c6 (
 some ((V.tup [.int .i64 (AA 0),.str (BS.mk 0 0)]),s7)) (
 AV (D 44 [.str t5] s7) fun u9 s10=>
 AT u9 fun x11=>
 AI x11 (
 some ((V.tup [.int .i64 (AA 5),.str t5]),s10)) (
 Ei t5 (AA 0) fun x12=>
 AI (Ip x12 (AA 90)) (
 some ((V.tup [.int .i64 (AA 1),.str t5]),s10)) (
 some ((V.tup [.int .i64 (AA 2),.str t5]),s10))))) fun k8=>
 AI (Dt (AA 60) (AA (BS.len t5))) (
 k8 true Z) (
 Ei t5 (JQ .i64 (AA (BS.len t5)) (AA 1)) fun x13=>
 k8 (D0 x13 (AA 45)) Z)
def Qn:XC:=(.seq (.z (.m 16 5<|
 .k 17 .bool 29 [(.t 16)]<|
 .m 18 17<|
 .gO 18 false (.p 19 [5,18] (.mov (.t 5))<|
 .op (some 20) .bool [19,18] (.call 31 [(.t 19)])<|
 .nil) 21 18 20<|
 .m 22 21<|
 .gO 22 false (.p 23 [5,22] (.mov (.t 5))<|
 .p 24 [23,22] (.bin .eql .none (.t 23) oI)<|
 .p 25 [24,22] (.mov (.t 24))<|
 .grp 25 true (.p 26 [0,25] y7<|
 .p 27 [26,25] (.nilck (.t 26))<|
 .p 28 [27,25] (.faddr 0 (.t 27))<|
 .op (some 29) (.int .u8) [28,25] (.call 27 [(.t 28),(.i 1)])<|
 .p 30 [29,25] (.bin .neq .none (.t 29) oI)<|
 .nil) 31 [25,30,22] (.t 25) (.t 30) (.con y1)<|
 .nil) 32 22 31<|
 .nil)
 (.cond (.tmp 32) .skip
 Rf))
 (.seq (.block 1 (.ops (.m 37 0<|
 .n 38 37<|
 .f 39 0 38<|
 .f 40 1 39<|
 .l 41 .i 40<|
 .b 42 .add .none (.t 41) (.i 1)<|
 .n 43 37<|
 .f 44 0 43<|
 .f 45 1 44<|
 .w 1 45 42<|
 .nil)))
 (.ops (.m 33 0<|
 .n 34 33<|
 .f 35 0 34<|
 .k 36 (.int .u8) 27 [(.t 35),(.i 0)]<|
 .m 5 36<|
 .nil))))
def KS (E:EB) (D:BB) (W:AJ) (K1:Nat->Nat->Int->H->AH) (R2:Nat->Nat->Int->Int->H->AH) (a b:Nat) (c d:Int) (Z:H):AH:=
 AV (D 29 [.int .u8 d] Z) fun u1 s2=>
 AT u1 fun x3=>
 Ax (fun c4 s5=>
 Ax (fun c7 s8=>
 AI c7 (
 Bm E s8 a (AU b 1) fun u10=>
 Al .i64 u10 fun x11=>
 Dk 1 a (AU b 1) (V.int .i64 (CJ .i64 x11 (AA 1))) s8 fun s12=>
 AV (D 27 [.ptr a b,.int .i64 (AA 0)] s12) fun u13 s14=>
 Al .u8 u13 fun x15=>
 R2 a b c x15 s14) (
 K1 a b c s8)) fun k9=>
 AI c4 (
 k9 true s5) (
 Ax (fun c16 s17=>
 k9 c16 s17) fun k18=>
 AI (D0 d (AA 45)) (
 AV (D 27 [.ptr a b,.int .i64 (AA 1)] s5) fun u19 s20=>
 Al .u8 u19 fun x21=>
 k18 (not (D0 x21 (AA 45))) s20) (
 k18 false s5))) fun k6=>
 AI x3 (
 k6 true s2) (
 AV (D 31 [.int .u8 d] s2) fun u22 s23=>
 AT u22 fun x24=>
 k6 x24 s23)
def gg (a b:Nat) (Z:H):St:=⟨[(0,.ptr a b)],[],[],Z⟩
def gf (a b:Nat) (c:Int) (Z:H):St:=⟨[(0,.ptr a b),(4,.int .i64 c)],[],[],Z⟩
def VX (a b:Nat) (c d:Int) (Z:H):St:=⟨[(0,.ptr a b),(4,.int .i64 c),(5,.int .u8 d)],[],[],Z⟩
theorem sa (cc1:XC) (cc2:XC) (a b:Nat) (Z:H) :
 AW E D W N (aT cc1 cc2) (gg a b Z) (H4 E) nX (H4 E) =
 Sy E D W (fun a b c d Z=>BE (fun rec s'=>AW E D W N cc2 s' (kX Xv [] [] rec) (dK E D W N cc1) (H4 E)) N (VX a b c d Z)) a b Z:=by kernel_rfl
theorem sZ (cc1:XC) (li2:St->AH) (a b:Nat) (c d:Int) (Z:H) :
 AW E D W N (Qn ) (VX a b c d Z) (kX Xv [] [] li2) (dK E D W N cc1) (H4 E) =
 KS E D W (fun a b c Z=>AW E D W N cc1 (gf a b c Z) (H4 E) nX (H4 E)) (fun a b c d Z=>li2 (VX a b c d Z)) a b c d Z:=by kernel_rfl
def TI (E:EB) (D:BB) (W:AJ) (N:Nat):=ZT E D W
theorem mc (a b:Nat) (c:Int) (Z:H) :
 AW E D W N O5 (gf a b c Z) (H4 E) nX (H4 E)=TI E D W N a b c Z:=by kernel_rfl
def TD (n:Nat):Nat->Nat->Int->Int->H->AH:=
 Nat.rec (fun _ _ _ _ _=>none) (fun _ ih=>KS E D W (TI E D W N ) ih) n
theorem lJ (n:Nat):∀(a b:Nat) (c d:Int) (Z:H),
 BE (fun rec s'=>AW E D W N Qn s' (kX Xv [] [] rec) (dK E D W N O5) (H4 E)) n (VX a b c d Z)=TD E D W N n a b c d Z:=by
 induction n with
 | zero=>intro a b c d Z;rfl
 | succ n ihn=>
  intro a b c d Z
  rw[BP]
  refine(sZ E D W N O5 (BE (fun rec s'=>AW E D W N Qn s' (kX Xv [] [] rec) (dK E D W N O5) (H4 E)) n) a b c d Z).trans ?_
  simp only[ihn,mc]
  kernel_rfl
def jD:=Sy E D W (TD E D W N N)
theorem mg (a b:Nat) (Z:H) :
 AW E D W N (aT O5 Qn) (gg a b Z) (H4 E) nX (H4 E)=jD E D W N a b Z:=by
 refine(sa E D W N O5 Qn  a b Z).trans ?_
 simp only[lJ]
 kernel_rfl
def oB (args:List V) (Z:H):AH:=
 AP args fun x1 l2=>
 Br x1 fun b3 o4=>
 AZ l2 (
 jD E D W N b3 o4 Z)
def A30:Eg:=⟨80,[.ptr],[(.tmp 2),(.tmp 3)],(aT O5 Qn)⟩
theorem AAZ (args:List V) (Z:H):CR E D W N A30 args Z=oB E D W N args Z:=by
 unfold oB
 simp only[<-mg]
 kernel_rfl
def vc:XC:=(.z (.c 2 y1<|
 .nil)
 (.z (.m 3 0<|
 .b 4 .geq .none (.t 3) oH<|
 .m 5 4<|
 .gA 5 true (.p 6 [0,5] y7<|
 .p 7 [6,5] (.bin .leq .none (.t 6) (.con (V.int .u8 (AA 57))))<|
 .nil) 8 5 7<|
 .m 2 8<|
 .nil)
 .ret))
def ZS (E:EB) (D:BB) (W:AJ) (a:Int) (Z:H):AH:=
 Ax (fun c1 s2=>
 some ((V.bool c1),s2)) fun k3=>
 AI (Ip (AA 48) a) (
 k3 (Ip a (AA 57)) Z) (
 k3 false Z)
def uX (N:Nat) (args:List V) (Z:H):AH:=
 BV .u8 args fun x3 l2=>
 AZ l2 (
 ZS E D W x3 Z)
def A31:Eg:=⟨9,[(.int .u8)],[(.tmp 2)],vc⟩
theorem AAY (args:List V) (Z:H):CR E D W N A31 args Z=uX E D W N args Z:=by kernel_rfl
def Ta:List (Nat × EH):=[(0,.ptr),(4,.i),(5,.i)]
def Fc (E:EB):St->AH:=fun s=>Ek E s [(.tmp 2),(.tmp 3)] fun l=>some (FF l,s.Z)
def dJ (c0:XC):Nat->St->AH:=CC 0 (dX E D W N (.keep Ta [] [] c0) (Fc E) nX (Fc E)) nX
def aS (cc1:XC):XC:=(.z (.q 2 0<|
 .c 3 y3<|
 .nil)
 (.z (.m 10 0<|
 .n 11 10<|
 .f 12 0 11<|
 .f 13 1 12<|
 .l 14 .i 13<|
 .m 4 14<|
 .nil)
 (.seq (.z (.m 15 0<|
 .n 16 15<|
 .f 17 0 16<|
 .k 18 (.int .u8) 27 [(.t 17),(.i 0)]<|
 .b 19 .eql .none (.t 18) oI<|
 .nil)
 (.cond (.tmp 19) (.ops (.m 20 0<|
 .n 21 20<|
 .f 22 0 21<|
 .f 23 1 22<|
 .l 24 .i 23<|
 .b 25 .add .none (.t 24) (.i 1)<|
 .n 26 20<|
 .f 27 0 26<|
 .f 28 1 27<|
 .w 1 28 25<|
 .nil))
 .skip))
 (.keep [(0,.ptr),(4,.i)] [] [] cc1))))
def Ob (E:EB) (D:BB) (W:AJ) (K1:Nat->Nat->Int->H->AH) (a b:Nat) (Z:H):AH:=
 Bm E Z a (AU b 1) fun u1=>
 Al .i64 u1 fun x2=>
 AV (D 27 [.ptr a b,.int .i64 (AA 0)] Z) fun u3 s4=>
 Al .u8 u3 fun x5=>
 AI (D0 x5 (AA 45)) (
 Bm E s4 a (AU b 1) fun u6=>
 Al .i64 u6 fun x7=>
 Dk 1 a (AU b 1) (V.int .i64 (CJ .i64 x7 (AA 1))) s4 fun s8=>
 K1 a b x2 s8) (
 K1 a b x2 s4)
def TO (cc2:XC) (cc3:XC):XC:=(.z (.m 29 0<|
 .n 30 29<|
 .f 31 0 30<|
 .f 32 1 31<|
 .l 33 .i 32<|
 .m 5 33<|
 .nil)
 (.seq (.block 0 (.loop Ta [] [] cc3))
 (.keep Ta [] [] cc2)))
def Sx (E:EB) (D:BB) (W:AJ) (K3:Nat->Nat->Int->Int->H->AH) (a b:Nat) (c:Int) (Z:H):AH:=
 Bm E Z a (AU b 1) fun u1=>
 Al .i64 u1 fun x2=>
 K3 a b c x2 Z
def L2:XC:=(.seq (.draw (.m 48 0<|
 .n 49 48<|
 .f 50 0 49<|
 .f 51 0 50<|
 .l 52 .str 51<|
 .m 53 4<|
 .m 54 0<|
 .n 55 54<|
 .f 56 0 55<|
 .f 57 1 56<|
 .l 58 .i 57<|
 .p 59 [52,53,58] (.sliceStr (.t 52) (some (.t 53)) (some (.t 58)))<|
 .m 60 0<|
 .n 61 60<|
 .f 62 0 61<|
 .f 63 0 62<|
 .l 64 .str 63<|
 .m 65 5<|
 .P 66 (.idxStr (.t 64) (.t 65))<|
 .b 67 .eql .none (.t 66) oH<|
 .m 6 59<|
 .m 7 67<|
 .nil) [0,1,3,7,15,0,0,64,192,448,960,2047,0,4096,12288,28672,61440,0,258048,520192,4095,2097151])
 (.seq (.z (.m 69 6<|
 .k 70 (.tup [.i,.any]) 45 [(.t 69),(.i 10),(.i 64)]<|
 .m 68 70<|
 .P 71 (.extract 0 (.t 68))<|
 .P 72 (.extract 1 (.t 68))<|
 .m 8 71<|
 .m 9 72<|
 .nil)
 (.z (.m 73 9<|
 .b 74 .neq (.iface true) (.t 73) (.con V.nili)<|
 .m 75 74<|
 .gO 75 false (.p 76 [7,75] (.mov (.t 7))<|
 .p 77 [76,75] (.mov (.t 76))<|
 .grp 77 true (.p 78 [0,77] y7<|
 .p 79 [78,77] (.nilck (.t 78))<|
 .p 80 [79,77] (.faddr 0 (.t 79))<|
 .p 81 [80,77] (.faddr 1 (.t 80))<|
 .op (some 82) .i [81,77] (.load none (.t 81))<|
 .p 83 [5,77] (.mov (.t 5))<|
 .p 84 [82,83,77] (.bin .sub .none (.t 82) (.t 83))<|
 .p 85 [84,77] (.bin .gtr .none (.t 84) (.i 1))<|
 .p 86 [85,77] (.mov (.t 85))<|
 .grp 86 false (.p 87 [5,86] (.mov (.t 5))<|
 .p 88 [4,86] (.mov (.t 4))<|
 .p 89 [87,88,86] (.bin .gtr .none (.t 87) (.t 88))<|
 .nil) 90 [86,89,77] (.t 86) (.con y9) (.t 89)<|
 .nil) 91 [77,90,75] (.t 77) (.t 90) (.con y1)<|
 .nil) 92 75 91<|
 .m 93 92<|
 .gO 93 false (.p 94 [0,93] y7<|
 .p 95 [94,93] (.nilck (.t 94))<|
 .p 96 [95,93] (.faddr 0 (.t 95))<|
 .op (some 97) (.int .u8) [96,93] (.call 27 [(.t 96),(.i 0)])<|
 .op (some 98) .bool [97,93] (.call 29 [(.t 97)])<|
 .nil) 99 93 98<|
 .nil)
 (.cond (.tmp 99) (.z (.q 2 0<|
 .c 3 y3<|
 .nil)
 .ret)
 .skip)))
 (.z (.m 100 6<|
 .q 2 3<|
 .m 3 100<|
 .nil)
 .ret)))
def VO (E:EB) (D:BB) (W:AJ) (a b:Nat) (c d:Int) (Z:H):AH:=
 Bm E Z a b fun u1=>
 DE u1 fun x2=>
 Bm E Z a (AU b 1) fun u3=>
 Al .i64 u3 fun x4=>
 CW x2 (some (V.int .i64 c)) (some (V.int .i64 x4)) fun t5=>
 Bm E Z a b fun u6=>
 DE u6 fun x7=>
 Ei x7 d fun x8=>
 AV (D 45 [.str t5,.int .i64 (AA 10),.int .i64 (AA 64)] Z) fun u9 s10=>
 Cw u9 fun l11=>
 BV .i64 l11 fun x14 l13=>
 AP l13 fun x15 l16=>
 AZ l16 (
 TQ (.iface true) x15 V.nili fun c17=>
 Ax (fun c18 s19=>
 Ax (fun c21 s22=>
 AI c21 (
 some ((V.tup [.int .i64 (AA 0),.str (BS.mk 0 0)]),s22)) (
 some ((V.tup [.int .i64 (AA 3),.str t5]),s22))) fun k23=>
 AI c18 (
 k23 true s19) (
 AV (D 27 [.ptr a b,.int .i64 (AA 0)] s19) fun u24 s25=>
 Al .u8 u24 fun x26=>
 AV (D 29 [.int .u8 x26] s25) fun u27 s28=>
 AT u27 fun x29=>
 k23 x29 s28)) fun k20=>
 AI (not c17) (
 k20 true s10) (
 Ax (fun c30 s31=>
 k20 c30 s31) fun k32=>
 AI (D0 x8 (AA 48)) (
 Bm E s10 a (AU b 1) fun u33=>
 Al .i64 u33 fun x34=>
 Ax (fun c35 s36=>
 k32 c35 s36) fun k37=>
 AI (Dt (AA 1) (JQ .i64 x34 d)) (
 k37 true s10) (
 k37 (Dt c d) s10)) (
 k32 false s10)))
def Mx:XC:=(.seq (.z (.m 34 0<|
 .n 35 34<|
 .f 36 0 35<|
 .k 37 (.int .u8) 27 [(.t 36),(.i 0)]<|
 .k 38 .bool 31 [(.t 37)]<|
 .nil)
 (.cond (.tmp 38) .skip
 Rf))
 (.block 1 (.ops (.m 39 0<|
 .n 40 39<|
 .f 41 0 40<|
 .f 42 1 41<|
 .l 43 .i 42<|
 .b 44 .add .none (.t 43) (.i 1)<|
 .n 45 39<|
 .f 46 0 45<|
 .f 47 1 46<|
 .w 1 47 44<|
 .nil))))
def KR (E:EB) (D:BB) (W:AJ) (K2:Nat->Nat->Int->Int->H->AH) (R3:Nat->Nat->Int->Int->H->AH) (a b:Nat) (c d:Int) (Z:H):AH:=
 AV (D 27 [.ptr a b,.int .i64 (AA 0)] Z) fun u1 s2=>
 Al .u8 u1 fun x3=>
 AV (D 31 [.int .u8 x3] s2) fun u4 s5=>
 AT u4 fun x6=>
 AI x6 (
 Bm E s5 a (AU b 1) fun u7=>
 Al .i64 u7 fun x8=>
 Dk 1 a (AU b 1) (V.int .i64 (CJ .i64 x8 (AA 1))) s5 fun s9=>
 R3 a b c d s9) (
 K2 a b c d s5)
def gZ (a b:Nat) (Z:H):St:=⟨[(0,.ptr a b)],[],[],Z⟩
def Zj (a b:Nat) (c:Int) (Z:H):St:=⟨[(0,.ptr a b),(4,.int .i64 c)],[],[],Z⟩
def QQ (a b:Nat) (c d:Int) (Z:H):St:=⟨[(0,.ptr a b),(4,.int .i64 c),(5,.int .i64 d)],[],[],Z⟩
theorem sY (cc1:XC) (a b:Nat) (Z:H) :
 AW E D W N (aS cc1) (gZ a b Z) (Fc E) nX (Fc E) =
 Ob E D W (fun a b c Z=>AW E D W N cc1 (Zj a b c Z) (Fc E) nX (Fc E)) a b Z:=by kernel_rfl
theorem sX (cc2:XC) (cc3:XC) (a b:Nat) (c:Int) (Z:H) :
 AW E D W N (TO cc2 cc3) (Zj a b c Z) (Fc E) nX (Fc E) =
 Sx E D W (fun a b c d Z=>BE (fun rec s'=>AW E D W N cc3 s' (kX Ta [] [] rec) (dJ E D W N cc2) (Fc E)) N (QQ a b c d Z)) a b c Z:=by kernel_rfl
theorem sW (cc2:XC) (li3:St->AH) (a b:Nat) (c d:Int) (Z:H) :
 AW E D W N (Mx ) (QQ a b c d Z) (kX Ta [] [] li3) (dJ E D W N cc2) (Fc E) =
 KR E D W (fun a b c d Z=>AW E D W N cc2 (QQ a b c d Z) (Fc E) nX (Fc E)) (fun a b c d Z=>li3 (QQ a b c d Z)) a b c d Z:=by kernel_rfl
def QU (E:EB) (D:BB) (W:AJ) (N:Nat):=VO E D W
theorem mZ (a b:Nat) (c d:Int) (Z:H) :
 AW E D W N L2 (QQ a b c d Z) (Fc E) nX (Fc E)=QU E D W N a b c d Z:=by kernel_rfl
def TC (n:Nat):Nat->Nat->Int->Int->H->AH:=
 Nat.rec (fun _ _ _ _ _=>none) (fun _ ih=>KR E D W (QU E D W N ) ih) n
theorem lI (n:Nat):∀(a b:Nat) (c d:Int) (Z:H),
 BE (fun rec s'=>AW E D W N Mx s' (kX Ta [] [] rec) (dJ E D W N L2) (Fc E)) n (QQ a b c d Z)=TC E D W N n a b c d Z:=by
 induction n with
 | zero=>intro a b c d Z;rfl
 | succ n ihn=>
  intro a b c d Z
  rw[BP]
  refine(sW E D W N L2 (BE (fun rec s'=>AW E D W N Mx s' (kX Ta [] [] rec) (dJ E D W N L2) (Fc E)) n) a b c d Z).trans ?_
  simp only[ihn,mZ]
  kernel_rfl
def QV:=Sx E D W (TC E D W N N)
theorem ma (a b:Nat) (c:Int) (Z:H) :
 AW E D W N (TO L2 Mx) (Zj a b c Z) (Fc E) nX (Fc E)=QV E D W N a b c Z:=by
 refine(sX E D W N L2 Mx  a b c Z).trans ?_
 simp only[lI]
 kernel_rfl
def jC:=Ob E D W (QV E D W N )
theorem mb (a b:Nat) (Z:H) :
 AW E D W N (aS (TO L2 Mx)) (gZ a b Z) (Fc E) nX (Fc E)=jC E D W N a b Z:=by
 refine(sY E D W N (TO L2 Mx)  a b Z).trans ?_
 simp only[ma]
 kernel_rfl
def oA (args:List V) (Z:H):AH:=
 AP args fun x1 l2=>
 Br x1 fun b3 o4=>
 AZ l2 (
 jC E D W N b3 o4 Z)
def A32:Eg:=⟨101,[.ptr],[(.tmp 2),(.tmp 3)],(aS (TO L2 Mx))⟩
theorem AAX (args:List V) (Z:H):CR E D W N A32 args Z=oA E D W N args Z:=by
 unfold oA
 simp only[<-mb]
 kernel_rfl
def Xu:List (Nat × EH):=[(0,.ptr),(4,.i),(5,(.int .u8))]
def H3 (E:EB):St->AH:=fun s=>Ek E s [(.tmp 2),(.tmp 3)] fun l=>some (FF l,s.Z)
def dI (c0:XC):Nat->St->AH:=CC 0 (dX E D W N (.keep [(0,.ptr),(4,.i)] [] [] c0) (H3 E) nX (H3 E)) nX
def aR (cc1:XC) (cc2:XC):XC:=(.z (.q 2 0<|
 .c 3 y3<|
 .nil)
 (.z (.m 7 0<|
 .n 8 7<|
 .f 9 0 8<|
 .f 10 1 9<|
 .l 11 .i 10<|
 .b 12 .add .none (.t 11) (.i 1)<|
 .n 13 7<|
 .f 14 0 13<|
 .f 15 1 14<|
 .w 1 15 12<|
 .nil)
 (.z (.m 16 0<|
 .n 17 16<|
 .f 18 0 17<|
 .f 19 1 18<|
 .l 20 .i 19<|
 .m 4 20<|
 .nil)
 (.seq (.z (.m 21 0<|
 .n 22 21<|
 .f 23 0 22<|
 .k 24 (.int .u8) 27 [(.t 23),(.i 0)]<|
 .m 5 24<|
 .nil)
 (.block 0 (.loop Xu [] [] cc2)))
 (.keep [(0,.ptr),(4,.i)] [] [] cc1)))))
def Sw (E:EB) (D:BB) (W:AJ) (K2:Nat->Nat->Int->Int->H->AH) (a b:Nat) (Z:H):AH:=
 Bm E Z a (AU b 1) fun u1=>
 Al .i64 u1 fun x2=>
 Dk 1 a (AU b 1) (V.int .i64 (CJ .i64 x2 (AA 1))) Z fun s3=>
 Bm E s3 a (AU b 1) fun u4=>
 Al .i64 u4 fun x5=>
 AV (D 27 [.ptr a b,.int .i64 (AA 0)] s3) fun u6 s7=>
 Al .u8 u6 fun x8=>
 K2 a b x5 x8 s7
def O4:XC:=(.seq (.draw (.m 48 0<|
 .n 49 48<|
 .f 50 0 49<|
 .f 51 0 50<|
 .l 52 .str 51<|
 .m 53 4<|
 .m 54 0<|
 .n 55 54<|
 .f 56 0 55<|
 .f 57 1 56<|
 .l 58 .i 57<|
 .p 59 [52,53,58] (.sliceStr (.t 52) (some (.t 53)) (some (.t 58)))<|
 .m 6 59<|
 .nil) [0,1,3,7,15,0,0,64,192,448,960,2047,4095])
 (.seq (.z (.m 60 6<|
 .P 61 (.len true (.t 60))<|
 .b 62 .rem .none (.t 61) (.i 2)<|
 .b 63 .neq .none (.t 62) (.i 0)<|
 .m 64 63<|
 .gO 64 false (.p 65 [0,64] y7<|
 .p 66 [65,64] (.nilck (.t 65))<|
 .p 67 [66,64] (.faddr 0 (.t 66))<|
 .op (some 68) .bool [67,64] (.call 28 [(.t 67),(.con (V.str ⟨2,18471⟩))])<|
 .p 69 [68,64] (.un .not (.t 68))<|
 .nil) 70 64 69<|
 .nil)
 (.cond (.tmp 70) (.z (.q 2 0<|
 .c 3 y3<|
 .nil)
 .ret)
 .skip))
 (.z (.m 71 0<|
 .n 72 71<|
 .f 73 0 72<|
 .f 74 1 73<|
 .l 75 .i 74<|
 .b 76 .add .none (.t 75) (.i 2)<|
 .n 77 71<|
 .f 78 0 77<|
 .f 79 1 78<|
 .w 1 79 76<|
 .nil)
 (.z (.m 80 6<|
 .q 2 4<|
 .m 3 80<|
 .nil)
 .ret))))
def Sv (E:EB) (D:BB) (W:AJ) (a b:Nat) (c:Int) (Z:H):AH:=
 Bm E Z a b fun u1=>
 DE u1 fun x2=>
 Bm E Z a (AU b 1) fun u3=>
 Al .i64 u3 fun x4=>
 CW x2 (some (V.int .i64 c)) (some (V.int .i64 x4)) fun t5=>
 Ax (fun c6 s7=>
 AI c6 (
 some ((V.tup [.int .i64 (AA 0),.str (BS.mk 0 0)]),s7)) (
 Bm E s7 a (AU b 1) fun u9=>
 Al .i64 u9 fun x10=>
 Dk 1 a (AU b 1) (V.int .i64 (CJ .i64 x10 (AA 2))) s7 fun s11=>
 some ((V.tup [.int .i64 (AA 4),.str t5]),s11))) fun k8=>
 AI (not (D0 (Int.tmod (AA (BS.len t5)) (AA 2)) (AA 0))) (
 k8 true Z) (
 AV (D 28 [.ptr a b,.str (BS.mk 2 18471)] Z) fun u12 s13=>
 AT u12 fun x14=>
 k8 (not x14) s13)
def Qm:XC:=(.seq (.z (.m 25 5<|
 .k 26 .bool 31 [(.t 25)]<|
 .m 27 26<|
 .gO 27 false (.p 28 [5,27] (.mov (.t 5))<|
 .p 29 [28,27] (.bin .geq .none (.t 28) (.con (V.int .u8 (AA 65))))<|
 .p 30 [29,27] (.mov (.t 29))<|
 .grp 30 true (.p 31 [5,30] (.mov (.t 5))<|
 .p 32 [31,30] (.bin .leq .none (.t 31) (.con (V.int .u8 (AA 70))))<|
 .nil) 33 [30,32,27] (.t 30) (.t 32) (.con y1)<|
 .nil) 34 27 33<|
 .nil)
 (.cond (.tmp 34) .skip
 Rf))
 (.seq (.block 1 (.ops (.m 39 0<|
 .n 40 39<|
 .f 41 0 40<|
 .f 42 1 41<|
 .l 43 .i 42<|
 .b 44 .add .none (.t 43) (.i 1)<|
 .n 45 39<|
 .f 46 0 45<|
 .f 47 1 46<|
 .w 1 47 44<|
 .nil)))
 (.ops (.m 35 0<|
 .n 36 35<|
 .f 37 0 36<|
 .k 38 (.int .u8) 27 [(.t 37),(.i 0)]<|
 .m 5 38<|
 .nil))))
def KQ (E:EB) (D:BB) (W:AJ) (K1:Nat->Nat->Int->H->AH) (R2:Nat->Nat->Int->Int->H->AH) (a b:Nat) (c d:Int) (Z:H):AH:=
 AV (D 31 [.int .u8 d] Z) fun u1 s2=>
 AT u1 fun x3=>
 Ax (fun c4 s5=>
 AI c4 (
 Bm E s5 a (AU b 1) fun u7=>
 Al .i64 u7 fun x8=>
 Dk 1 a (AU b 1) (V.int .i64 (CJ .i64 x8 (AA 1))) s5 fun s9=>
 AV (D 27 [.ptr a b,.int .i64 (AA 0)] s9) fun u10 s11=>
 Al .u8 u10 fun x12=>
 R2 a b c x12 s11) (
 K1 a b c s5)) fun k6=>
 AI x3 (
 k6 true s2) (
 Ax (fun c13 s14=>
 k6 c13 s14) fun k15=>
 AI (Ip (AA 65) d) (
 k15 (Ip d (AA 70)) s2) (
 k15 false s2))
def gY (a b:Nat) (Z:H):St:=⟨[(0,.ptr a b)],[],[],Z⟩
def gX (a b:Nat) (c:Int) (Z:H):St:=⟨[(0,.ptr a b),(4,.int .i64 c)],[],[],Z⟩
def VW (a b:Nat) (c d:Int) (Z:H):St:=⟨[(0,.ptr a b),(4,.int .i64 c),(5,.int .u8 d)],[],[],Z⟩
theorem sV (cc1:XC) (cc2:XC) (a b:Nat) (Z:H) :
 AW E D W N (aR cc1 cc2) (gY a b Z) (H3 E) nX (H3 E) =
 Sw E D W (fun a b c d Z=>BE (fun rec s'=>AW E D W N cc2 s' (kX Xu [] [] rec) (dI E D W N cc1) (H3 E)) N (VW a b c d Z)) a b Z:=by kernel_rfl
theorem sU (cc1:XC) (li2:St->AH) (a b:Nat) (c d:Int) (Z:H) :
 AW E D W N (Qm ) (VW a b c d Z) (kX Xu [] [] li2) (dI E D W N cc1) (H3 E) =
 KQ E D W (fun a b c Z=>AW E D W N cc1 (gX a b c Z) (H3 E) nX (H3 E)) (fun a b c d Z=>li2 (VW a b c d Z)) a b c d Z:=by kernel_rfl
def TH (E:EB) (D:BB) (W:AJ) (N:Nat):=Sv E D W
theorem mX (a b:Nat) (c:Int) (Z:H) :
 AW E D W N O4 (gX a b c Z) (H3 E) nX (H3 E)=TH E D W N a b c Z:=by kernel_rfl
def TB (n:Nat):Nat->Nat->Int->Int->H->AH:=
 Nat.rec (fun _ _ _ _ _=>none) (fun _ ih=>KQ E D W (TH E D W N ) ih) n
theorem lH (n:Nat):∀(a b:Nat) (c d:Int) (Z:H),
 BE (fun rec s'=>AW E D W N Qm s' (kX Xu [] [] rec) (dI E D W N O4) (H3 E)) n (VW a b c d Z)=TB E D W N n a b c d Z:=by
 induction n with
 | zero=>intro a b c d Z;rfl
 | succ n ihn=>
  intro a b c d Z
  rw[BP]
  refine(sU E D W N O4 (BE (fun rec s'=>AW E D W N Qm s' (kX Xu [] [] rec) (dI E D W N O4) (H3 E)) n) a b c d Z).trans ?_
  simp only[ihn,mX]
  kernel_rfl
def jB:=Sw E D W (TB E D W N N)
theorem mY (a b:Nat) (Z:H) :
 AW E D W N (aR O4 Qm) (gY a b Z) (H3 E) nX (H3 E)=jB E D W N a b Z:=by
 refine(sV E D W N O4 Qm  a b Z).trans ?_
 simp only[lH]
 kernel_rfl
def n9 (args:List V) (Z:H):AH:=
 AP args fun x1 l2=>
 Br x1 fun b3 o4=>
 AZ l2 (
 jB E D W N b3 o4 Z)
def A33:Eg:=⟨81,[.ptr],[(.tmp 2),(.tmp 3)],(aR O4 Qm)⟩
theorem AAW (args:List V) (Z:H):CR E D W N A33 args Z=n9 E D W N args Z:=by
 unfold n9
 simp only[<-mY]
 kernel_rfl
def Mz:List (Nat × EH):=[(0,.ptr),(4,.any)]
def FL (E:EB):St->AH:=fun s=>Ek E s [(.tmp 2),(.tmp 3)] fun l=>some (FF l,s.Z)
def OR (c0:XC):Nat->St->AH:=CC 0 (dX E D W N (.keep [] [] [] c0) (FL E) nX (FL E)) nX
def Wb (c0 c1:XC) (l0:St->AH):St->AH:=dX E D W N (.keep Mz [] [] c0) (kX Mz [] [] l0) (OR E D W N c1) (FL E)
def aQ (cc1:XC) (cc2:XC):XC:=(.z (.q 2 0<|
 .c 3 y3<|
 .nil)
 (.z (.c 4 V.nils<|
 .nil)
 (.seq (.z (.m 5 0<|
 .n 6 5<|
 .f 7 0 6<|
 .f 8 1 7<|
 .l 9 .i 8<|
 .b 10 .add .none (.t 9) (.i 1)<|
 .n 11 5<|
 .f 12 0 11<|
 .f 13 1 12<|
 .w 1 13 10<|
 .nil)
 (.block 0 (.loop Mz [] [] cc2)))
 (.keep [] [] [] cc1))))
def Su (E:EB) (D:BB) (W:AJ) (K2:Nat->Nat->V->H->AH) (a b:Nat) (Z:H):AH:=
 Bm E Z a (AU b 1) fun u1=>
 Al .i64 u1 fun x2=>
 Dk 1 a (AU b 1) (V.int .i64 (CJ .i64 x2 (AA 1))) Z fun s3=>
 K2 a b V.nils s3
def Ii:XC:=(.z (.q 2 0<|
 .c 3 y3<|
 .nil)
 .ret)
def qq (E:EB) (D:BB) (W:AJ) (Z:H):AH:=
 some ((V.tup [.int .i64 (AA 0),.str (BS.mk 0 0)]),Z)
def Ql (cc3:XC) (cc4:XC):XC:=(.seq (.seq (.draw (.m 14 0<|
 .n 15 14<|
 .f 16 0 15<|
 .f 17 1 16<|
 .l 18 .i 17<|
 .m 19 0<|
 .n 20 19<|
 .f 21 0 20<|
 .f 22 0 21<|
 .l 23 .str 22<|
 .P 24 (.len true (.t 23))<|
 .b 25 .lss .none (.t 18) (.t 24)<|
 .nil) [0,1,3,7,15,0,32,96,224,480,992,2047])
 (.cond (.tmp 25) .skip
 Rf))
 (.seq (.block 1 (.seq (.z (.m 35 0<|
 .n 36 35<|
 .f 37 0 36<|
 .k 38 (.int .u8) 27 [(.t 37),(.i 0)]<|
 .b 39 .eql .none (.t 38) (.con (V.int .u8 (AA 34)))<|
 .nil)
 (.cond (.tmp 39) (.z (.m 40 0<|
 .n 41 40<|
 .f 42 0 41<|
 .f 43 1 42<|
 .l 44 .i 43<|
 .b 45 .add .none (.t 44) (.i 1)<|
 .n 46 40<|
 .f 47 0 46<|
 .f 48 1 47<|
 .w 1 48 45<|
 .nil)
 (.z (.m 49 0<|
 .n 50 49<|
 .f 51 0 50<|
 .k 52 (.int .u8) 27 [(.t 51),(.i 0)]<|
 .b 53 .neq .none (.t 52) (.con (V.int .u8 (AA 34)))<|
 .nil)
 (.cond (.tmp 53) (.seq (.z (.m 54 4<|
 .k 55 .bool 46 [(.t 54)]<|
 .P 56 (.un .not (.t 55))<|
 .nil)
 (.cond (.tmp 56) (.z (.q 2 0<|
 .c 3 y3<|
 .nil)
 .ret)
 .skip))
 (.seq (.draw (.m 57 4<|
 .P 58 (.conv .toStr (.t 57))<|
 .q 2 7<|
 .m 3 58<|
 .nil) [0,1,0,7])
 .ret))
 .skip)))
 .skip))
 (.keep Mz [] [] cc4)))
 (.keep Mz [] [] cc3)))
def Hu (E:EB) (D:BB) (W:AJ) (K1:H->AH) (K4:Nat->Nat->V->H->AH) (a b:Nat) (c:V) (Z:H):AH:=
 Bm E Z a (AU b 1) fun u1=>
 Al .i64 u1 fun x2=>
 Bm E Z a b fun u3=>
 DE u3 fun x4=>
 AI (Dt x2 (AA (BS.len x4))) (
 AV (D 27 [.ptr a b,.int .i64 (AA 0)] Z) fun u5 s6=>
 Al .u8 u5 fun x7=>
 AI (D0 x7 (AA 34)) (
 Bm E s6 a (AU b 1) fun u8=>
 Al .i64 u8 fun x9=>
 Dk 1 a (AU b 1) (V.int .i64 (CJ .i64 x9 (AA 1))) s6 fun s10=>
 AV (D 27 [.ptr a b,.int .i64 (AA 0)] s10) fun u11 s12=>
 Al .u8 u11 fun x13=>
 AI (not (D0 x13 (AA 34))) (
 AV (D 46 [c] s12) fun u14 s15=>
 AT u14 fun x16=>
 AI (not x16) (
 some ((V.tup [.int .i64 (AA 0),.str (BS.mk 0 0)]),s15)) (
 Kd E s15 c fun t17=>
 some ((V.tup [.int .i64 (AA 7),.str t17]),s15))) (
 K4 a b c s12)) (
 K4 a b c s6)) (
 K1 Z)
def Jz:XC:=(.ops (.m 26 0<|
 .n 27 26<|
 .f 28 0 27<|
 .f 29 1 28<|
 .l 30 .i 29<|
 .b 31 .add .none (.t 30) (.i 1)<|
 .n 32 26<|
 .f 33 0 32<|
 .f 34 1 33<|
 .w 1 34 31<|
 .nil))
def Ss (E:EB) (D:BB) (W:AJ) (R2:Nat->Nat->V->H->AH) (a b:Nat) (c:V) (Z:H):AH:=
 Bm E Z a (AU b 1) fun u1=>
 Al .i64 u1 fun x2=>
 Dk 1 a (AU b 1) (V.int .i64 (CJ .i64 x2 (AA 1))) Z fun s3=>
 R2 a b c s3
def Mw:XC:=(.ops (.m 59 4<|
 .m 60 0<|
 .n 61 60<|
 .f 62 0 61<|
 .k 63 (.int .u8) 27 [(.t 62),(.i 0)]<|
 .p 64 [63] (.buildSlice 5 1 [eM] [(0,1,(.t 63))])<|
 .O 65 .one (.append 5 1 1 (.t 59) (.t 64))<|
 .m 4 65<|
 .nil))
def Sr (E:EB) (D:BB) (W:AJ) (K3:Nat->Nat->V->H->AH) (a b:Nat) (c:V) (Z:H):AH:=
 AV (D 27 [.ptr a b,.int .i64 (AA 0)] Z) fun u1 s2=>
 Al .u8 u1 fun x3=>
 let s4:=CO s2 (.cells [.int .u8 x3]);
 Ix E 1 1 c (V.sl (H.next s2) 0 1 (.ex 1)) s4 fun u5 s6=>
 Fk u5 (
 K3 a b u5 s6)
def gW (a b:Nat) (Z:H):St:=⟨[(0,.ptr a b)],[],[],Z⟩
def gV (Z:H):St:=⟨[],[],[],Z⟩
def I9 (a b:Nat) (c:V) (Z:H):St:=⟨[(0,.ptr a b),(4,c)],[],[],Z⟩
theorem sT (cc1:XC) (cc2:XC) (a b:Nat) (Z:H) :
 AW E D W N (aQ cc1 cc2) (gW a b Z) (FL E) nX (FL E) =
 Su E D W (fun a b c Z=>BE (fun rec s'=>AW E D W N cc2 s' (kX Mz [] [] rec) (OR E D W N cc1) (FL E)) N (I9 a b c Z)) a b Z:=by kernel_rfl
theorem sS (cc1:XC) (cc3:XC) (cc4:XC) (li2:St->AH) (a b:Nat) (c:V) (Z:H) :
 AW E D W N (Ql cc3 cc4) (I9 a b c Z) (kX Mz [] [] li2) (OR E D W N cc1) (FL E) =
 Hu E D W (fun  Z=>AW E D W N cc1 (gV Z) (FL E) nX (FL E)) (fun a b c Z=>AW E D W N cc4 (I9 a b c Z) (Wb E D W N cc3 cc1 li2) (CC 1 (Wb E D W N cc3 cc1 li2) (OR E D W N cc1)) (FL E)) a b c Z:=by kernel_rfl
theorem sR (cc1:XC) (li2:St->AH) (a b:Nat) (c:V) (Z:H) :
 AW E D W N (Jz ) (I9 a b c Z) (kX Mz [] [] li2) (OR E D W N cc1) (FL E) =
 Ss E D W (fun a b c Z=>li2 (I9 a b c Z)) a b c Z:=by kernel_rfl
theorem sQ (cc1:XC) (cc3:XC) (li2:St->AH) (a b:Nat) (c:V) (Z:H) :
 AW E D W N (Mw ) (I9 a b c Z) (Wb E D W N cc3 cc1 li2) (CC 1 (Wb E D W N cc3 cc1 li2) (OR E D W N cc1)) (FL E) =
 Sr E D W (fun a b c Z=>AW E D W N cc3 (I9 a b c Z) (kX Mz [] [] li2) (OR E D W N cc1) (FL E)) a b c Z:=by kernel_rfl
def Vl (E:EB) (D:BB) (W:AJ) (N:Nat):=qq E D W
theorem mV (Z:H) :
 AW E D W N Ii (gV Z) (FL E) nX (FL E)=Vl E D W N  Z:=by kernel_rfl
def iw (E:EB) (D:BB) (W:AJ) (N:Nat) (R2:Nat->Nat->V->H->AH):=Ss E D W R2
theorem mU (li2:St->AH) (a b:Nat) (c:V) (Z:H) :
 AW E D W N Jz (I9 a b c Z) (kX Mz [] [] li2) (OR E D W N Ii) (FL E)=iw E D W N (fun a b c Z=>li2 (I9 a b c Z)) a b c Z:=by
 refine(sR E D W N Ii li2 a b c Z).trans ?_
 kernel_rfl
def Vk (R2:Nat->Nat->V->H->AH):=Sr E D W (iw E D W N R2)
theorem mT (li2:St->AH) (a b:Nat) (c:V) (Z:H) :
 AW E D W N Mw (I9 a b c Z) (Wb E D W N Jz Ii li2) (CC 1 (Wb E D W N Jz Ii li2) (OR E D W N Ii)) (FL E)=Vk E D W N (fun a b c Z=>li2 (I9 a b c Z)) a b c Z:=by
 refine(sQ E D W N Ii Jz li2 a b c Z).trans ?_
 simp only[mU]
 kernel_rfl
def Oo (n:Nat):Nat->Nat->V->H->AH:=
 Nat.rec (fun _ _ _ _=>none) (fun _ ih=>Hu E D W (Vl E D W N ) (Vk E D W N ih)) n
theorem lG (n:Nat):∀(a b:Nat) (c:V) (Z:H),
 BE (fun rec s'=>AW E D W N (Ql Jz Mw) s' (kX Mz [] [] rec) (OR E D W N Ii) (FL E)) n (I9 a b c Z)=Oo E D W N n a b c Z:=by
 induction n with
 | zero=>intro a b c Z;rfl
 | succ n ihn=>
  intro a b c Z
  rw[BP]
  refine(sS E D W N Ii Jz Mw (BE (fun rec s'=>AW E D W N (Ql Jz Mw) s' (kX Mz [] [] rec) (OR E D W N Ii) (FL E)) n) a b c Z).trans ?_
  simp only[ihn,mV,mT]
  kernel_rfl
def jA:=Su E D W (Oo E D W N N)
theorem mW (a b:Nat) (Z:H) :
 AW E D W N (aQ Ii (Ql Jz Mw)) (gW a b Z) (FL E) nX (FL E)=jA E D W N a b Z:=by
 refine(sT E D W N Ii (Ql Jz Mw)  a b Z).trans ?_
 simp only[lG]
 kernel_rfl
def n8 (args:List V) (Z:H):AH:=
 AP args fun x1 l2=>
 Br x1 fun b3 o4=>
 AZ l2 (
 jA E D W N b3 o4 Z)
def A34:Eg:=⟨66,[.ptr],[(.tmp 2),(.tmp 3)],(aQ Ii (Ql Jz Mw))⟩
theorem AAV (args:List V) (Z:H):CR E D W N A34 args Z=n8 E D W N args Z:=by
 unfold n8
 simp only[<-mW]
 kernel_rfl
def Xt:List (Nat × EH):=[(0,.ptr),(6,.any),(7,.i),(8,.i)]
def H2 (E:EB):St->AH:=fun s=>Ek E s [(.tmp 2),(.tmp 3)] fun l=>some (FF l,s.Z)
def dH (c0:XC):Nat->St->AH:=CC 0 (dX E D W N (.keep [] [] [] c0) (H2 E) nX (H2 E)) nX
def aP (cc1:XC) (cc2:XC):XC:=(.z (.q 2 0<|
 .c 3 y3<|
 .nil)
 (.seq (.z (.p 6 [] (.buildSlice 9 13 [y3,y3,y3,y3,y3,y3,y3,y3,y3,y3,y3,y3,y3] [(0,1,(.con (V.str ⟨3,4012602⟩))),(1,1,v7),(2,1,(.con (V.str ⟨2,11822⟩))),(3,1,(.con (V.str ⟨2,23387⟩))),(4,1,(.con (V.str ⟨2,23901⟩))),(5,1,(.con (V.str ⟨1,123⟩))),(6,1,(.con (V.str ⟨1,125⟩))),(7,1,(.con (V.str ⟨1,91⟩))),(8,1,(.con (V.str ⟨1,93⟩))),(9,1,oF),(10,1,(.con (V.str ⟨1,41⟩))),(11,1,nO),(12,1,(.con (V.str ⟨1,58⟩)))])<|
 .u 7 6<|
 .q 8 0<|
 .nil)
 (.block 0 (.loop Xt [] [] cc2)))
 (.keep [] [] [] cc1)))
def Sq (E:EB) (D:BB) (W:AJ) (K2:Nat->Nat->V->Int->Int->H->AH) (a b:Nat) (Z:H):AH:=
 let s1:=CO Z (.cells [.str (BS.mk 3 4012602),.str (BS.mk 3 3026478),.str (BS.mk 2 11822),.str (BS.mk 2 23387),.str (BS.mk 2 23901),.str (BS.mk 1 123),.str (BS.mk 1 125),.str (BS.mk 1 91),.str (BS.mk 1 93),.str (BS.mk 1 40),.str (BS.mk 1 41),.str (BS.mk 1 44),.str (BS.mk 1 58)]);
 BG (V.sl (H.next Z) 0 13 (.ex 13)) fun n2=>
 K2 a b (V.sl (H.next Z) 0 13 (.ex 13)) (AA n2) (AA 0) s1
def O3:XC:=(.z (.q 2 0<|
 .c 3 y3<|
 .nil)
 .ret)
def qp (E:EB) (D:BB) (W:AJ) (Z:H):AH:=
 some ((V.tup [.int .i64 (AA 0),.str (BS.mk 0 0)]),Z)
def Qk:XC:=(.z (.b 9 .lss .none (.t 8) (.t 7)<|
 .nil)
 (.seq (.cond (.tmp 9) .skip
 Rf)
 (.seq (.block 1 (.z (.s 10 1 6 8<|
 .l 11 .str 10<|
 .m 5 11<|
 .nil)
 (.z (.m 12 0<|
 .n 13 12<|
 .f 14 0 13<|
 .m 15 5<|
 .k 16 .bool 28 [(.t 14),(.t 15)]<|
 .nil)
 (.cond (.tmp 16) (.z (.m 17 0<|
 .n 18 17<|
 .f 19 0 18<|
 .f 20 1 19<|
 .l 21 .i 20<|
 .m 22 5<|
 .P 23 (.len true (.t 22))<|
 .b 24 .add .none (.t 21) (.t 23)<|
 .n 25 17<|
 .f 26 0 25<|
 .f 27 1 26<|
 .w 1 27 24<|
 .nil)
 (.z (.m 28 5<|
 .q 2 6<|
 .m 3 28<|
 .nil)
 .ret))
 .skip))))
 (.ops (.b 29 .add .none (.t 8) (.i 1)<|
 .m 8 29<|
 .nil)))))
def KP (E:EB) (D:BB) (W:AJ) (K1:H->AH) (R2:Nat->Nat->V->Int->Int->H->AH) (a b:Nat) (c:V) (d e:Int) (Z:H):AH:=
 AI (Dt e d) (
 Am 1 c e fun b1 o2=>
 Bm E Z b1 o2 fun u3=>
 DE u3 fun x4=>
 AV (D 28 [.ptr a b,.str x4] Z) fun u5 s6=>
 AT u5 fun x7=>
 AI x7 (
 Bm E s6 a (AU b 1) fun u8=>
 Al .i64 u8 fun x9=>
 Dk 1 a (AU b 1) (V.int .i64 (CJ .i64 x9 (AA (BS.len x4)))) s6 fun s10=>
 some ((V.tup [.int .i64 (AA 6),.str x4]),s10)) (
 R2 a b c d (CJ .i64 e (AA 1)) s6)) (
 K1 Z)
def gU (a b:Nat) (Z:H):St:=⟨[(0,.ptr a b)],[],[],Z⟩
def gT (Z:H):St:=⟨[],[],[],Z⟩
def VV (a b:Nat) (c:V) (d e:Int) (Z:H):St:=⟨[(0,.ptr a b),(6,c),(7,.int .i64 d),(8,.int .i64 e)],[],[],Z⟩
theorem sP (cc1:XC) (cc2:XC) (a b:Nat) (Z:H) :
 AW E D W N (aP cc1 cc2) (gU a b Z) (H2 E) nX (H2 E) =
 Sq E D W (fun a b c d e Z=>BE (fun rec s'=>AW E D W N cc2 s' (kX Xt [] [] rec) (dH E D W N cc1) (H2 E)) N (VV a b c d e Z)) a b Z:=by kernel_rfl
theorem sO (cc1:XC) (li2:St->AH) (a b:Nat) (c:V) (d e:Int) (Z:H) :
 AW E D W N (Qk ) (VV a b c d e Z) (kX Xt [] [] li2) (dH E D W N cc1) (H2 E) =
 KP E D W (fun  Z=>AW E D W N cc1 (gT Z) (H2 E) nX (H2 E)) (fun a b c d e Z=>li2 (VV a b c d e Z)) a b c d e Z:=by kernel_rfl
def Vj (E:EB) (D:BB) (W:AJ) (N:Nat):=qp E D W
theorem mR (Z:H) :
 AW E D W N O3 (gT Z) (H2 E) nX (H2 E)=Vj E D W N  Z:=by kernel_rfl
def TA (n:Nat):Nat->Nat->V->Int->Int->H->AH:=
 Nat.rec (fun _ _ _ _ _ _=>none) (fun _ ih=>KP E D W (Vj E D W N ) ih) n
theorem lF (n:Nat):∀(a b:Nat) (c:V) (d e:Int) (Z:H),
 BE (fun rec s'=>AW E D W N Qk s' (kX Xt [] [] rec) (dH E D W N O3) (H2 E)) n (VV a b c d e Z)=TA E D W N n a b c d e Z:=by
 induction n with
 | zero=>intro a b c d e Z;rfl
 | succ n ihn=>
  intro a b c d e Z
  rw[BP]
  refine(sO E D W N O3 (BE (fun rec s'=>AW E D W N Qk s' (kX Xt [] [] rec) (dH E D W N O3) (H2 E)) n) a b c d e Z).trans ?_
  simp only[ihn,mR]
  kernel_rfl
def iu:=Sq E D W (TA E D W N N)
theorem mS (a b:Nat) (Z:H) :
 AW E D W N (aP O3 Qk) (gU a b Z) (H2 E) nX (H2 E)=iu E D W N a b Z:=by
 refine(sP E D W N O3 Qk  a b Z).trans ?_
 simp only[lF]
 kernel_rfl
def ny (args:List V) (Z:H):AH:=
 AP args fun x1 l2=>
 Br x1 fun b3 o4=>
 AZ l2 (
 iu E D W N b3 o4 Z)
def A35:Eg:=⟨30,[.ptr],[(.tmp 2),(.tmp 3)],(aP O3 Qk)⟩
theorem AAU (args:List V) (Z:H):CR E D W N A35 args Z=ny E D W N args Z:=by
 unfold ny
 simp only[<-mS]
 kernel_rfl
def va (cc1:XC):XC:=(.z (.c 6 y1<|
 .nil)
 (.seq (.z (.m 7 0<|
 .n 8 7<|
 .f 9 8 8<|
 .l 10 .i 9<|
 .b 11 .eql .none (.t 10) (.i 0)<|
 .nil)
 (.cond (.tmp 11) (.ops (.m 12 0<|
 .m 13 0<|
 .m 14 1<|
 .m 15 2<|
 .n 16 12<|
 .f 17 7 16<|
 .w 1 17 14<|
 .n 18 13<|
 .f 19 8 18<|
 .w 1 19 15<|
 .nil))
 .skip))
 (.keep [] [] [] cc1)))
def VN (E:EB) (D:BB) (W:AJ) (K1:H->AH) (a b:Nat) (c d:Int) (Z:H):AH:=
 Bm E Z a (AU b 8) fun u1=>
 Al .i64 u1 fun x2=>
 AI (D0 x2 (AA 0)) (
 Dk 1 a (AU b 7) (V.int .i64 c) Z fun s3=>
 Dk 1 a (AU b 8) (V.int .i64 d) s3 fun s4=>
 K1 s4) (
 K1 Z)
def vZ:XC:=(.z (.c 6 y1<|
 .nil)
 .ret)
def VM (E:EB) (D:BB) (W:AJ) (Z:H):AH:=
 some ((V.bool false),Z)
def tr (E:EB) (D:BB) (W:AJ) (N:Nat):=VM E D W
def uW (args:List V) (Z:H):AH:=
 AP args fun x1 l2=>
 Br x1 fun b3 o4=>
 BV .i64 l2 fun x7 l6=>
 BV .i64 l6 fun x10 l9=>
 AZ l9 (
 VN E D W (tr E D W N ) b3 o4 x7 x10 Z)
def A36:Eg:=⟨20,[.ptr,.i,.i],[(.tmp 6)],(va vZ)⟩
theorem AAT (args:List V) (Z:H):CR E D W N A36 args Z=uW E D W N args Z:=by kernel_rfl
def vY (cc1:XC):XC:=(.z (.pal 2 [] 68 [y0,y3,y0]<|
 .nil)
 (.seq (.draw (.m 4 0<|
 .n 5 4<|
 .f 6 0 5<|
 .l 7 .any 6<|
 .m 8 0<|
 .n 9 8<|
 .f 10 1 9<|
 .l 11 .i 10<|
 .s 12 3 7 11<|
 .O 13 y4 (.load (some 3) (.t 12))<|
 .pal 3 [] 68 [y0,y3,y0]<|
 .op none y4 [3,13] (.store 3 (.t 3) (.t 13))<|
 .nil) [0,1,3,7,0,16,48,112,255,511,0,2047])
 (.seq (.z (.f 14 0 3<|
 .l 15 .i 14<|
 .b 16 .neq .none (.t 15) (.i 0)<|
 .nil)
 (.cond (.tmp 16) (.ops (.m 17 0<|
 .n 18 17<|
 .f 19 1 18<|
 .l 20 .i 19<|
 .b 21 .add .none (.t 20) (.i 1)<|
 .n 22 17<|
 .f 23 1 22<|
 .w 1 23 21<|
 .nil))
 .skip))
 (.keep [] [2,3] [(2,[.i,.str,.i]),(3,[.i,.str,.i])] cc1))))
def VL (E:EB) (D:BB) (W:AJ) (K1:Int->BS->Int->Int->BS->Int->H->AH) (a b:Nat) (Z:H):AH:=
 Bm E Z a b fun u1=>
 Bm E Z a (AU b 1) fun u2=>
 Al .i64 u2 fun x3=>
 Am 3 u1 x3 fun b4 o5=>
 DB E Z b4 o5 3 fun l6=>
 BV .i64 l6 fun x9 l8=>
 EY l8 fun x12 l11=>
 BV .i64 l11 fun x15 l14=>
 AZ l14 (
 AI (not (D0 x9 (AA 0))) (
 Bm E Z a (AU b 1) fun u16=>
 Al .i64 u16 fun x17=>
 Dk 1 a (AU b 1) (V.int .i64 (CJ .i64 x17 (AA 1))) Z fun s18=>
 K1 (AA 0) (BS.mk 0 0) (AA 0) x9 x12 x15 s18) (
 K1 (AA 0) (BS.mk 0 0) (AA 0) x9 x12 x15 Z))
def vX:XC:=(.z (.O 24 y4 (.load (some 3) (.t 3))<|
 .op none y4 [2,24] (.store 3 (.t 2) (.t 24))<|
 .nil)
 .ret)
def VK (E:EB) (D:BB) (W:AJ) (a:Int) (b:BS) (c d:Int) (e:BS) (f:Int) (Z:H):AH:=
 some ((V.agg [.int .i64 d,.str e,.int .i64 f]),Z)
def tq (E:EB) (D:BB) (W:AJ) (N:Nat):=VK E D W
def uV (args:List V) (Z:H):AH:=
 AP args fun x1 l2=>
 Br x1 fun b3 o4=>
 AZ l2 (
 VL E D W (tq E D W N ) b3 o4 Z)
def A37:Eg:=⟨25,[.ptr],[(.cell 2 (some 3))],(vY vX)⟩
theorem AAS (args:List V) (Z:H):CR E D W N A37 args Z=uV E D W N args Z:=by kernel_rfl
def vW:XC:=(.z (.c 4 y1<|
 .nil)
 (.seq (.z (.m 5 0<|
 .m 6 1<|
 .k 7 .bool 17 [(.t 5),(.t 6)]<|
 .P 8 (.un .not (.t 7))<|
 .nil)
 (.cond (.tmp 8) (.z (.c 4 y1<|
 .nil)
 .ret)
 .skip))
 (.z (.m 9 0<|
 .k 10 y4 37 [(.t 9)]<|
 .nil)
 (.z (.c 4 y9<|
 .nil)
 .ret))))
def ZR (E:EB) (D:BB) (W:AJ) (a:V) (b:BS) (Z:H):AH:=
 AV (D 17 [a,.str b] Z) fun u1 s2=>
 AT u1 fun x3=>
 AI (not x3) (
 some ((V.bool false),s2)) (
 AV (D 37 [a] s2) fun u4 s5=>
 B7 u4 fun l6=>
 BV .i64 l6 fun x9 l8=>
 EY l8 fun x12 l11=>
 BV .i64 l11 fun x15 l14=>
 AZ l14 (
 some ((V.bool true),s5)))
def uU (N:Nat) (args:List V) (Z:H):AH:=
 AP args fun x1 l2=>
 EY l2 fun x5 l4=>
 AZ l4 (
 ZR E D W x1 x5 Z)
def A38:Eg:=⟨11,[.any,.str],[(.tmp 4)],vW⟩
theorem AAR (args:List V) (Z:H):CR E D W N A38 args Z=uU E D W N args Z:=by kernel_rfl
end
end Go.Proofs.YtnpcmeaplmfdlaaDoor
