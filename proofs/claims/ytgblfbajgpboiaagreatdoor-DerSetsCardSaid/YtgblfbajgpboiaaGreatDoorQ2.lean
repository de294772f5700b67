/- What the last text leans on, part 3 of 7: merged out of smaller texts. No condition. -/
import GoSem.ClaimChange
import Derived.Below
import Derived.KernelRfl
import Derived.Test.YtgblfbajgpboiaaGreatDoorQ1
open Int renaming ofNat -> AA,negSucc -> Az,tmod -> Lo
open Nat renaming le_refl -> AK,add -> AP,beq_eq -> AU,beq -> Ak,lt_or_ge -> Av,le_trans -> Bc,blt -> B2,zero_le -> DZ,le_succ -> EM,lt_of_lt_of_le -> E3,lt_succ_self -> IK,strongRecOn -> OP,sub_zero -> Tu,lt_succ_of_lt -> Tv,lt_trichotomy -> AJc
open Bool renaming and_eq_true -> AG,or_eq_false_iff -> Bd,or_eq_true -> Bk,not_eq_true' -> C8,false_eq_true -> DE
open List renaming getElem?_eq_getElem -> AM,mem_cons_self -> Ab,getElem?_map -> Aw,mem_cons -> Ax,getElem?_eq_none -> BF,mem_cons_of_mem -> BM,getD_eq_getElem?_getD -> BT,getElem?_cons_succ -> Bb,map_cons -> B3,range -> Da,mem_map -> GA,cons_append -> GG,mapM_cons -> Tw,eq_nil_iff_forall_not_mem -> X9,mem_range -> ABb
open Option renaming some -> AQ
open And renaming intro -> Aj
open Array renaming getElem?_setIfInBounds -> A2,getElem?_eq_none -> CH,getElem?_eq_getElem -> Dq,size_setIfInBounds -> D4,getD_eq_getD_getElem? -> EO,replicate -> HB,mem_of_getElem? -> KI,getElem?_append_left -> Lp,mapM_eq_mapM_toList -> Md,getElem?_toList -> WX,getElem?_eq_some_iff -> ABg,getElem?_replicate -> AOQ
set_option linter.unusedSimpArgs false
namespace Go.Og
variable {P:Program} {D:Ai} {C:Cx}
theorem Qm:∀{l:List BO},UU l=true->∀o∈l,o.op ≠ .bad
 | [],_,o,ho=>by simp at ho
 | a::l,h,o,ho=>by
  simp only[UU,AG]at h
  rcases Ax.1 ho with rfl|ho
  ·intro hb;rw[hb]at h;cases h.1
  ·exact Qm h.2 o ho
def CK (R:Cz) (B:Bs) (x:Option Value):Oc->Prop
 | .val v=>∃y,x=some y/\Ao R v=some y
 | .mark m off=>∃i,B m=some i/\x=some (.pointer (some ⟨i.blk,i.shift+off,none⟩))
 | .pal d _=>∃i,B d=some i/\x=some (.pointer (some ⟨i.blk,i.shift+0,none⟩))
theorem CK.mono {R R':Cz} {B B':Bs} {x:Option Value} {c:Oc} (h:CK R B x c) (hR:Le R R') (hB:∀m i,B m=some i->B' m=some i):CK R' B' x c:=by
 cases c with
 | val v=>obtain⟨y,h1,h2⟩:=h;exact⟨y,h1,Cr hR v y h2⟩
 | mark m off=>obtain⟨i,h1,h2⟩:=h;exact⟨i,hB _ _ h1,h2⟩
 | pal d z=>obtain⟨i,h1,h2⟩:=h;exact⟨i,hB _ _ h1,h2⟩
set_option maxHeartbeats 2000000 in
theorem rR (hD:∀f,Ce P C.E C.G f (D f)) (hmix:P.follows .mixedOrders=true) {nR:Nat} {R0:Cz} {nt:Nat} (rid:Nat) {ops:Array Oper} {l:XL} {ancs:List Nat}
    (hflat:l.flat none=ops.toList.map (BK P C.G nt ops)) (hpl:List.zipWith DP.mk ancs l.lks=GS ops) (hplan:Ok ops (ops.toList.map (BK P C.G nt ops)) (GS ops)=true)
    (hok:l.okG none none=true) (hdo:jL (l.flat none) ancs=true) (hanl:ancs.length=l.lks.length) (hmk:l.makes=false) (hnb:UU (l.flat none)=true)
    {s:St} {a0:Act} {w00:World} {J:B6->Qs->Rg->H->AF} {res:V × H} (hpo:On s.q l.pals=true)
    (h:If C.E D true true 0 l 0 s.e s.q s.r s.U J=some res) (hI:N6 C nR R0 nt s a0 w00) (Q:Exit->Act->World->Prop)
    (hQ:∀s' a' w',J s'.e s'.q s'.r s'.U=some res->N6 C nR R0 nt s' a' w'->Q .normal a' w'):(Code.region rid ops true).wp P Q a0 w00:=by
  obtain⟨s',hrun,hκ,_⟩:=Hm l none none none true 0 s J res h hok (.inl ⟨rfl,rfl⟩) (fun _=>hmk)
  obtain⟨sts,oc,ex,hst0,hs',hat⟩:=cz hrun
  rw[SC]at hs'
  obtain⟨hfl1,hfl2⟩:=Gu l none
  have hsz:l.size=ops.size:=by rw[<-hfl1,hflat];simp
  generalize hnn:ops.size=n at *
  rw[hsz]at hs'
  have F:=Qi (l:=ops.toList.map (BK P C.G nt ops)) (by simp) hplan
  have hgood:∀(i:Nat) (o:Oper),ops[i]? = some o->∃g,BK P C.G nt ops o=⟨o.dst,Ad P C.G o.op,g⟩/\PG ops o.guard=some g/\GJ nt o.dst=true:=by
    intro i o ho
    have hmem:BK P C.G nt ops o∈l.flat none:=by
      rw[hflat,GA]
      exact⟨o,by simpa using KI ho,rfl⟩
    have hb:=Qm hnb _ hmem
    unfold BK at hb ⊢
    split at hb
    · rename_i g h1 h2;exact⟨g,rfl,h1,h2⟩
    · exact(hb rfl).elim
  have hlt:∀{i:Nat} {o:Oper},ops[i]? = some o->i<n:=fun {i o} ho=>by
    rcases Av i ops.size with h|h
    · omega
    · rw[CH h]at ho;cases ho
  have some3:∀(i:Nat),i<n->∃(o:Oper) (p:DP),ops[i]? = some o/\(GS ops)[i]? = some p/\ancs.getD i 0=p.anc/\(l.flat none)[i]? = some (BK P C.G nt ops o)/\At C.E D (sts i) (BK P C.G nt ops o) p.looks (oc i) (ex i) (sts (i+1)):=by
    intro i hi
    have h1:i<ops.size:=by omega
    have ho:ops[i]? = some ops[i]:=Dq h1
    have hf:(l.flat none)[i]? = some (BK P C.G nt ops ops[i]):=by
      rw[hflat,Aw,WX,ho];rfl
    have hk:l.lks[i]? = some (l.lks[i]'(by omega)):=AM _
    have ha:ancs[i]? = some (ancs[i]'(by omega)):=AM _
    refine⟨ops[i],⟨ancs[i]'(by omega),l.lks[i]'(by omega)⟩,ho,?_,?_,hf,?_⟩
    · rw[<-hpl,List.getElem?_zipWith,ha,hk]
    · rw[BT,ha];rfl
    · exact hat i _ _ (by rw[List.getElem?_zip_eq_some];exact⟨hf,hk⟩)
  have hdlt:∀(i:Nat) (o:Oper) (t:Nat),ops[i]? = some o->o.dst=some t->t<nt:=by
    intro i o t ho ht
    obtain⟨g,_,_,hd⟩:=hgood i o ho
    rw[ht]at hd;simpa[GJ]using hd
  have hdu:∀(i k:Nat) (o o':Oper) (t:Nat),i≠k->ops[i]? = some o->ops[k]? = some o'->o.dst=some t->o'.dst≠some t:=by
    intro i k o o' t hne ho ho' ht
    obtain⟨o1,p1,h1,h2,_⟩:=some3 i (hlt ho)
    obtain⟨o2,p2,h3,h4,_⟩:=some3 k (hlt ho')
    exact(F.dsts i k o o' p1 p2 hne ho ho' h2 h4 t ht).1
  have hpald:∀(k m:Nat) (z:List V),k<n->oc k = .pal m z->ex k=true/\∃(o:Oper) (el:TypeId),ops[k]? = some o/\o.dst=some m/\Ad P C.G o.op = .alloc el z:=by
    intro k m z hk hc
    obtain⟨o,p,ho,_,_,_,hA⟩:=some3 k hk
    obtain⟨g,hg,_,_⟩:=hgood k o ho
    rw[hg]at hA
    rw[hc]at hA
    generalize ex k=x at hA ⊢
    cases hA with
    | pal _ d el z hd ho' hw h=>exact⟨rfl,o,el,ho,hd,ho'⟩
  have hpalu:∀(k k' m:Nat) (z z':List V),k<n->k'<n->oc k = .pal m z->oc k' = .pal m z'->k=k':=by
    intro k k' m z z' hk hk' h1 h2
    rcases Nat.decEq k k' with hne|he
    · exfalso
      obtain⟨_,o,_,ho,hd,_⟩:=hpald k m z hk h1
      obtain⟨_,o',_,ho',hd',_⟩:=hpald k' m z' hk' h2
      exact hdu k k' o o' m hne ho ho' hd hd'
    · exact he
  let W:Nat->Prop:=fun i=>ex i=true/\∃o:Oper,ops[i]? = some o/\(Ad P C.G o.op).cls = .k
  have seg:∀(p i:Nat),p<=i->i<=n->(∀k:Nat,p<=k->k<i->¬W k)->(sts i).U=(sts p).U/\(∀m,(∀k z,p<=k->k<i->oc k ≠ .pal m z)->look (sts i).r m=look (sts p).r m) /\
      (∀k m z,p<=k->k<i->oc k = .pal m z->look (sts i).r m=some z):=by
    intro p i
    induction i with
    | zero=>
      intro hpi _ _
      have:p=0:=by omega
      subst this
      exact⟨rfl,fun _ _=>rfl,fun k m z h1 h2=>by omega⟩
    | succ i ih=>
      intro hpi' hin hW
      by_cases hpe:p=i+1
      · subst hpe;exact⟨rfl,fun _ _=>rfl,fun k m z h1 h2=>by omega⟩
      have hpi:p<=i:=by omega
      have ih:=ih hpi
      obtain⟨h1,h2,h3⟩:=ih (by omega) (fun k hk1 hk2=>hW k hk1 (by omega))
      obtain⟨o,p',ho,_,_,_,hA⟩:=some3 i (by omega)
      obtain⟨g,hg,_,_⟩:=hgood i o ho
      rw[hg]at hA
      have same:(sts (i+1)).U=(sts i).U->(sts (i+1)).r=(sts i).r->(∀m z,oc i ≠ .pal m z)->(sts (i+1)).U=(sts p).U/\(∀m,(∀k z,p<=k->k<i+1->oc k ≠ .pal m z)->look (sts (i+1)).r m=look (sts p).r m) /\
          (∀k m z,p<=k->k<i+1->oc k = .pal m z->look (sts (i+1)).r m=some z):=by
        intro e1 e2 hnp
        refine⟨e1.trans h1,fun m hm=>by rw[e2];exact h2 m (fun k z hk1 hk2=>hm k z hk1 (by omega)),fun k m z hk1 hk2 hkc=>?_⟩
        rw[e2]
        by_cases hki:k=i
        · subst hki;exact(hnp _ _ hkc).elim
        · exact h3 k m z hk1 (by omega) hkc
      have hWi:=hW i hpi (by omega)
      generalize hoc:oc i=c at hA
      generalize hex:ex i=x at hA
      cases hA with
      | skip _ hw h=>exact same h.2.2.2 h.2.2.1 (fun m z hh=>by rw[hoc]at hh;cases hh)
      | val _ pw v r' U' hw hs hl hna h=>
        obtain⟨e1,e2⟩:=OZ hs (fun hk=>hWi ⟨hex,o,ho,hk⟩) hna
        exact same (h.2.2.2.trans e2) (h.2.2.1.trans e1) (fun m z hh=>by rw[hoc]at hh;cases hh)
      | mark _ pw id nx m off hw hs h=>exact same h.2.2.2 h.2.2.1 (fun m z hh=>by rw[hoc]at hh;cases hh)
      | pal _ d el z hd ho' hw h=>
        have hr:(sts (i+1)).r=(d,z)::Bg [d] (sts i).r:=h.2.2.1
        have hne:∀m,m≠d->look (sts (i+1)).r m=look (sts i).r m:=fun m hm=>by
          rw[hr]
          simp only[look,AU]
          rw[if_neg (Ne.symm hm),CT,if_neg (fun hh=>hm ((Gn d m).1 hh).symm)]
        refine⟨h.2.2.2.trans h1,fun m hm=>?_,fun k m z' hk1 hk2 hkc=>?_⟩
        · have hmd:m≠d:=fun he=>hm i z hpi (by omega) (by rw[hoc,he])
          rw[hne m hmd]
          exact h2 m (fun k z hk1 hk2=>hm k z hk1 (by omega))
        · by_cases hki:k=i
          · subst hki
            rw[hoc]at hkc;cases hkc
            rw[hr];simp[look]
          · have hmd:m≠d:=fun he=>hki (hpalu k i d z' z (by omega) (by omega) (by rw[hkc,he]) hoc)
            rw[hne m hmd]
            exact h3 k m z' hk1 (by omega) hkc
  have roots:∀(i:Nat),i<=n->∀(t m off:Nat),look (sts i).q t=some (m,off)->∀k z,k<n->oc k = .pal m z->k<i:=by
    intro i
    induction i with
    | zero=>
      intro _ t m off hl k z hk hc
      exfalso
      obtain⟨_,o,el,ho,hd,hcc⟩:=hpald k m z hk hc
      obtain⟨g,hg,_,_⟩:=hgood k o ho
      have hmem:BK P C.G nt ops o∈l.flat none:=by
        rw[hflat,GA]
        exact⟨o,by simpa using KI ho,rfl⟩
      have:=Ie l none hmk _ hmem m (by rw[hg];simp only[hcc];rfl) (by rw[hg];exact hd)
      exact LN hpo m this t off (hst0.2.1 t _ hl)
    | succ i ih=>
      intro hin t m off hl k z hk hc
      have ih:=ih (by omega)
      obtain⟨o,p',ho,_,_,_,hA⟩:=some3 i (by omega)
      generalize hoc:oc i=c at hA
      generalize hex:ex i=x at hA
      have old:∀t,look (sts i).q t=some (m,off)->k<i+1:=fun t ht=>Tv (ih t m off ht k z hk hc)
      cases hA with
      | skip _ hw h=>
        have:=h.2.1 t _ hl
        rw[CI]at this
        split at this
        · cases this
        · exact old t this
      | val _ pw v r' U' hw hs hl' hna h=>
        have:=h.2.1 t _ hl
        rw[CI]at this
        split at this
        · cases this
        · exact old t this
      | mark _ pw id nx m' off' hw hs h=>
        have:=h.2.1 t _ hl
        rw[KR]at this
        split at this
        · simp only[AQ.injEq,Prod.mk.injEq]at this
          obtain⟨rfl,rfl⟩:=this
          obtain⟨x,off2,hx⟩:=dK hs
          cases x with
          | con v=>cases hx
          | tmp u=>
            have hx:look (LK p'.looks (sts i).q) u=some (m',off2):=hx
            exact Tv (ih u m' off2 (Gp _ _ _ _ hx).1 k z hk hc)
        · rw[CI]at this
          split at this
          · cases this
          · exact old t this
      | pal _ d el z' hd ho' hw h=>
        have:=h.2.1 t _ hl
        simp only[look,AU]at this
        split at this
        · simp only[AQ.injEq,Prod.mk.injEq]at this
          obtain⟨rfl,rfl⟩:=this
          have:=hpalu k i d z z' hk (by omega) hc hoc
          omega
        · have h2:=(Ju _ _ _ _ this).2
          rw[CT]at h2
          split at h2
          · cases h2
          · exact old t h2
  have srcE:∀(i:Nat),i<=n->∀(t:Nat) (v:V),look (sts i).e t=some v->(∃(k:Nat) (o':Oper),k<i/\ops[k]? = some o'/\o'.dst=some t/\oc k = .val v)\/(look s.e t=some v/\∀(k:Nat) (o':Oper),k<i->ops[k]? = some o'->o'.dst≠some t):=by
    intro i
    induction i with
    | zero=>intro _ t v hl;exact .inr ⟨hst0.1 t v hl,fun k o' hk=>by omega⟩
    | succ i ih=>
      intro hin t v hl
      have ih:=ih (by omega)
      obtain⟨o,p',ho,_,_,_,hA⟩:=some3 i (by omega)
      obtain⟨g,hg,_,_⟩:=hgood i o ho
      rw[hg]at hA
      generalize hoc:oc i=c at hA
      generalize hex:ex i=x at hA
      have old:o.dst≠some t->look (sts i).e t=some v->(∃(k:Nat) (o':Oper),k<i+1/\ops[k]? = some o'/\o'.dst=some t/\oc k = .val v)\/(look s.e t=some v/\∀(k:Nat) (o':Oper),k<i+1->ops[k]? = some o'->o'.dst≠some t):=by
        intro hne ht
        rcases ih t v ht with ⟨k,o',h1,h2,h3,h4⟩|⟨h1,h2⟩
        · exact .inl ⟨k,o',by omega,h2,h3,h4⟩
        · refine .inr ⟨h1,fun k o' hk ho'=>?_⟩
          by_cases hki:k=i
          · subst hki;rw[ho]at ho';cases ho';exact hne
          · exact h2 k o' (by omega) ho'
      cases hA with
      | skip _ hw h=>
        have:=h.1 t _ hl
        rw[GY]at this
        split at this
        · rename_i hd;cases this;exact .inl ⟨i,o,by omega,ho,hd,hoc⟩
        · rename_i hd;exact old hd this
      | val _ pw v' r' U' hw hs hl' hna h=>
        have:=h.1 t _ hl
        rw[GY]at this
        split at this
        · rename_i hd;cases this;exact .inl ⟨i,o,by omega,ho,hd,hoc⟩
        · rename_i hd;exact old hd this
      | mark _ pw id nx m' off' hw hs h=>
        have:=h.1 t _ hl
        rw[CI]at this
        split at this
        · cases this
        · rename_i hd;exact old hd this
      | pal _ d el z' hd ho' hw h=>
        have:=h.1 t _ hl
        rw[CT]at this
        split at this
        · cases this
        · rename_i hm
          exact old (fun hh=>hm ((Gn d t).2 (by rw[show o.dst=some d from hd]at hh;simpa using hh))) this
  have srcQ:∀(i:Nat),i<=n->∀(t m off:Nat),look (sts i).q t=some (m,off)->(∃(k:Nat) (o':Oper),k<i/\ops[k]? = some o'/\o'.dst=some t/\(oc k = .mark m off\/∃z,oc k = .pal m z/\off=0)) \/
      (look s.q t=some (m,off)/\∀(k:Nat) (o':Oper),k<i->ops[k]? = some o'->o'.dst≠some t):=by
    intro i
    induction i with
    | zero=>intro _ t m off hl;exact .inr ⟨hst0.2.1 t _ hl,fun k o' hk=>by omega⟩
    | succ i ih=>
      intro hin t m off hl
      have ih:=ih (by omega)
      obtain⟨o,p',ho,_,_,_,hA⟩:=some3 i (by omega)
      obtain⟨g,hg,_,_⟩:=hgood i o ho
      rw[hg]at hA
      generalize hoc:oc i=c at hA
      generalize hex:ex i=x at hA
      have old:o.dst≠some t->look (sts i).q t=some (m,off)->(∃(k:Nat) (o':Oper),k<i+1/\ops[k]? = some o'/\o'.dst=some t/\(oc k = .mark m off\/∃z,oc k = .pal m z/\off=0)) \/
          (look s.q t=some (m,off)/\∀(k:Nat) (o':Oper),k<i+1->ops[k]? = some o'->o'.dst≠some t):=by
        intro hne ht
        rcases ih t m off ht with ⟨k,o',h1,h2,h3,h4⟩|⟨h1,h2⟩
        · exact .inl ⟨k,o',by omega,h2,h3,h4⟩
        · refine .inr ⟨h1,fun k o' hk ho'=>?_⟩
          by_cases hki:k=i
          · subst hki;rw[ho]at ho';cases ho';exact hne
          · exact h2 k o' (by omega) ho'
      cases hA with
      | skip _ hw h=>
        have:=h.2.1 t _ hl
        rw[CI]at this
        split at this
        · cases this
        · rename_i hd;exact old hd this
      | val _ pw v' r' U' hw hs hl' hna h=>
        have:=h.2.1 t _ hl
        rw[CI]at this
        split at this
        · cases this
        · rename_i hd;exact old hd this
      | mark _ pw id nx m' off' hw hs h=>
        have:=h.2.1 t _ hl
        rw[KR]at this
        split at this
        · rename_i hd
          simp only[AQ.injEq,Prod.mk.injEq]at this
          obtain⟨rfl,rfl⟩:=this
          exact .inl ⟨i,o,by omega,ho,hd,.inl hoc⟩
        · rename_i hd
          rw[CI,if_neg hd]at this
          exact old hd this
      | pal _ d el z' hd ho' hw h=>
        have:=h.2.1 t _ hl
        simp only[look,AU]at this
        split at this
        · rename_i hdt
          simp only[AQ.injEq,Prod.mk.injEq]at this
          obtain⟨rfl,rfl⟩:=this
          exact .inl ⟨i,o,by omega,ho,by rw[<-hdt];exact hd,.inr ⟨z',hoc,rfl⟩⟩
        · rename_i hdt
          have h2:=(Ju _ _ _ _ this).2
          rw[CT]at h2
          split at h2
          · cases h2
          · exact old (fun hh=>hdt (by rw[show o.dst=some d from hd]at hh;simpa using hh)) h2
  obtain⟨Rs,Bs0,hx0,hn0,hm0,he0,hq0,hnt0,hd0⟩:=hI
  let Bi:Bs:=fun m=>if Bn l.pals m=true then none else Bs0 m
  have hpalm:∀(k m:Nat) (z:List V),k<n->oc k = .pal m z->Bn l.pals m=true:=by
    intro k m z hk hc
    obtain⟨_,o,el,ho,hd,hcc⟩:=hpald k m z hk hc
    obtain⟨g,hg,_,_⟩:=hgood k o ho
    have hmem:BK P C.G nt ops o∈l.flat none:=by
      rw[hflat,GA]
      exact⟨o,by simpa using KI ho,rfl⟩
    exact Ie l none hmk _ hmem m (by rw[hg];simp only[hcc];rfl) (by rw[hg];exact hd)
  let Inv:Array Bool->Act->World->Prop:=fun listed a w=>
    listed.size=n/\(∀(i:Nat) (o:Oper),listed.getD i false=true->ops[i]? = some o->∀ed∈o.after,Region.binds .any ed=true->listed.getD ed.on false=true)/\a.defers=[] /\
    ∃(R:Cz) (B:Bs) (p:Nat) (rL:Rg),p<=n/\(p=0\/∃j,p=j+1/\W j/\listed.getD j false=true)/\(∀j,j<n->W j->(listed.getD j false=true↔j<p))/\G6 nR R0 R/\nR<=(sts p).U.next /\
      TO C R B rL (sts p).U w/\(∀k m z,p<=k->k<n->listed.getD k false=true->oc k = .pal m z->look rL m=some z) /\
      (∀m,(∀k z,p<=k->k<n->listed.getD k false=true->oc k ≠ .pal m z)->look rL m=look (sts p).r m) /\
      (∀k m z,k<n->oc k = .pal m z->listed.getD k false=false->B m=none)/\nt<=a.tmps.size /\
      (∀(i:Nat) (o:Oper) (t:Nat),listed.getD i false=true->ops[i]? = some o->o.dst=some t->CK R B a.tmps[t]? (oc i)) /\
      (∀t v,look s.e t=some v->(∀(i:Nat) (o:Oper),listed.getD i false=true->ops[i]? = some o->o.dst≠some t)->∃x,a.tmps[t]? = some x/\Ao R v=some x) /\
      (∀t m off,look s.q t=some (m,off)->(∀(i:Nat) (o:Oper),listed.getD i false=true->ops[i]? = some o->o.dst≠some t)->∃i,B m=some i/\a.tmps[t]? = some (.pointer (some ⟨i.blk,i.shift+off,none⟩)))
  have hanc:∀(listed:Array Bool),(∀(i:Nat) (o:Oper),listed.getD i false=true->ops[i]? = some o->∀ed∈o.after,Region.binds .any ed=true->listed.getD ed.on false=true) ->
      ∀(i:Nat) (o:Oper) (p:DP),ops[i]? = some o->(GS ops)[i]? = some p->(∀ed∈o.after,Region.binds .any ed=true->listed.getD ed.on false=true)->∀(k:Nat),k<n->p.anc.testBit k=true->listed.getD k false=true:=by
    intro listed hcl i
    induction i using OP with
    | _ i ih=>
      intro o p ho hp hed k hk hb
      obtain⟨ed,hem,hbe,hr⟩:=F.anc i o p ho hp k (by omega) hb
      have hlt':=F.edges i o ho ed hem hbe
      have hli:=hed ed hem hbe
      rcases hr with rfl|hr
      · exact hli
      · have hin:i<n:=hlt ho
        obtain⟨o2,p2,h1,h3,_⟩:=some3 ed.on (by omega)
        exact ih ed.on hlt' o2 p2 h1 h3 (fun ed2 hm2 hb2=>hcl ed.on o2 hli h1 ed2 hm2 hb2) k hk (by rw[<-Ik h3];exact hr)
  have hready_nil:∀listed:Array Bool,listed.size=n->Region.ready .any ops listed=[]->∀k,k<n->listed.getD k false=true:=by
    intro listed hsz' hr k
    induction k using OP with
    | _ k ih=>
      intro hk
      cases hb:listed.getD k false with
      | true=>rfl
      | false=>
        exfalso
        obtain⟨o,p,h1,_⟩:=some3 k hk
        have:k∈Region.ready .any ops listed:=mem_ready.2 ⟨by rw[Dm hsz' hk];exact hb,o,h1,fun ed hm hbd=>ih ed.on (F.edges k o h1 ed hm hbd) (by have:=F.edges k o h1 ed hm hbd;omega)⟩
        rw[hr]at this;cases this
  have hnone:∀(listed:Array Bool),(∀(i:Nat) (o:Oper),listed.getD i false=true->ops[i]? = some o->∀ed∈o.after,Region.binds .any ed=true->listed.getD ed.on false=true) ->
      ∀(j:Nat) (t:Nat),j<=n->(j<n->∃o p,ops[j]? = some o/\(GS ops)[j]? = some p/\listed.getD j false=false/\Bn p.looks t=true) ->
      (∀(k:Nat) (o':Oper),k<j->ops[k]? = some o'->o'.dst≠some t)->∀(i:Nat) (o:Oper),listed.getD i false=true->ops[i]? = some o->o.dst≠some t:=by
    intro listed hcl j t hj hrd hk2 i oi hli hoi hdst
    have hin:i<n:=hlt hoi
    by_cases hij:i<j
    · exact hk2 i oi hij hoi hdst
    · have hjn:j<n:=by omega
      obtain⟨o,p,ho,hp,hnl,hlook⟩:=hrd hjn
      by_cases hie:i=j
      · subst hie;rw[hnl]at hli;cases hli
      · obtain⟨o3,p3,h1,h3,_⟩:=some3 i hin
        rw[hoi]at h1;cases h1
        have hd:=(F.dsts i j oi o p3 p hie hoi ho h3 hp t hdst).2 hlook
        rcases hd with hd|hd
        · have:=F.ancLt j p hp i (by omega) hd;omega
        · have:=hanc listed hcl i oi p3 hoi h3 (fun ed hm hb=>hcl i oi hli hoi ed hm hb) j hjn hd
          rw[hnl]at this;cases this
  have hwritten:∀(listed:Array Bool),(∀(i:Nat) (o:Oper),listed.getD i false=true->ops[i]? = some o->∀ed∈o.after,Region.binds .any ed=true->listed.getD ed.on false=true) ->
      ∀(j t k:Nat) (ok:Oper),j<=n->(j=n->∀k,k<n->listed.getD k false=true)->(j<n->∃o p,ops[j]? = some o/\(GS ops)[j]? = some p/\Bn p.looks t=true/\(∀ed∈o.after,Region.binds .any ed=true->listed.getD ed.on false=true)) ->
      k<j->ops[k]? = some ok->ok.dst=some t->listed.getD k false=true:=by
    intro listed hcl j t k ok hj hall hrd hk hok' hdst
    by_cases hjn:j<n
    · obtain⟨o,p,ho,hp,hlook,hed⟩:=hrd hjn
      obtain⟨o3,p3,h1,h3,_⟩:=some3 k (by omega)
      rw[hok']at h1;cases h1
      have hd:=(F.dsts k j ok o p3 p (by omega) hok' ho h3 hp t hdst).2 hlook
      rcases hd with hd|hd
      · exact hanc listed hcl j o p ho hp hed k (by omega) hd
      · have:=F.ancLt k p3 h3 j (by omega) hd;omega
    · exact hall (by omega) k (by omega)
  have hput:∀(a:Act) (d:Option Nat) (x:Value) (t:Nat),d≠some t->(a.put d x).tmps[t]? = a.tmps[t]? := by
    intro a d x t hne
    cases d with
    | none=>rfl
    | some d=>
      simp only[Act.put,A2]
      rw[if_neg (fun h=>hne (by rw[h]))]
  have hputsz:∀(a:Act) (d:Option Nat) (x:Value),(a.put d x).tmps.size=a.tmps.size:=by
    intro a d x;cases d<;>simp[Act.put]
  have hclsk:∀(listed:Array Bool),(∀(i:Nat) (o:Oper),listed.getD i false=true->ops[i]? = some o->∀ed∈o.after,Region.binds .any ed=true->listed.getD ed.on false=true) ->
      ∀(i:Nat) (o:Oper),ops[i]? = some o->listed.getD i false=false->(∀ed∈o.after,Region.binds .any ed=true->listed.getD ed.on false=true)->∀j,j<n->W j ->
        ((Ad P C.G o.op).cls = .k->(j<i->listed.getD j false=true)/\(i<j->listed.getD j false=false)) /\
        ((Ad P C.G o.op).cls = .l->(j<i->listed.getD j false=true)/\(i<j->listed.getD j false=false)) /\
        ((Ad P C.G o.op).cls = .a->(i<j->listed.getD j false=false)):=by
    intro listed hcl i o ho hnl hed j hj hWj
    obtain⟨hexj,oj,hoj,hcj⟩:=hWj
    have hi:i<n:=hlt ho
    obtain⟨o1,p1,e1,e2,e3,e4,_⟩:=some3 i hi
    rw[ho]at e1;cases e1
    obtain⟨o2,p2,f1,f2,f3,f4,_⟩:=some3 j hj
    rw[hoj]at f1;cases f1
    obtain⟨g1,hg1,_⟩:=hgood i o ho
    obtain⟨g2,hg2,_⟩:=hgood j oj hoj
    have hup:∀k,k<n->p1.anc.testBit k=true->listed.getD k false=true:=hanc listed hcl i o p1 ho e2 hed
    have hdown:p2.anc.testBit i=true->listed.getD j false=false:=by
      intro hb
      cases hlj:listed.getD j false with
      | false=>rfl
      | true=>
        exfalso
        have:=hanc listed hcl j oj p2 hoj f2 (fun ed hm hb=>hcl j oj hlj hoj ed hm hb) i hi hb
        rw[hnl]at this;cases this
    have hl1:(ops.toList.map (BK P C.G nt ops))[i]? = some (BK P C.G nt ops o):=by rw[<-hflat];exact e4
    have hl2:(ops.toList.map (BK P C.G nt ops))[j]? = some (BK P C.G nt ops oj):=by rw[<-hflat];exact f4
    have hkj:(BK P C.G nt ops oj).op.cls = .k:=by rw[hg2];exact hcj
    have hdoj:=HF hdo j (by rw[hfl1];omega)
    rw[f4]at hdoj
    simp only[hkj]at hdoj
    have hdoji:=HF hdoj i (by rw[hfl1];omega)
    rw[e4]at hdoji
    rw[e3,f3]at hdoji
    refine⟨fun hk=>?_,fun hk=>?_,fun hk=>?_⟩
    · have hki:(BK P C.G nt ops o).op.cls = .k:=by rw[hg1];exact hk
      exact⟨fun hji=>hup j hj (F.kk j i _ _ p1 hji hl2 hl1 e2 hkj hki),fun hij=>hdown (F.kk i j _ _ p2 hij hl1 hl2 f2 hki hkj)⟩
    · have hki:(BK P C.G nt ops o).op.cls = .l:=by rw[hg1];exact hk
      simp only[hki,Bk]at hdoji
      rcases hdoji with hb|hb
      · have:=F.ancLt i p1 e2 j (by omega) hb
        exact⟨fun _=>hup j hj hb,fun hij=>by omega⟩
      · have:=F.ancLt j p2 f2 i (by omega) hb
        exact⟨fun hji=>by omega,fun _=>hdown hb⟩
    · have hki:(BK P C.G nt ops o).op.cls = .a:=by rw[hg1];exact hk
      simp only[hki,Bk,C8]at hdoji
      intro hij
      rcases hdoji with hb|hb
      · have:B2 i j=true:=by simpa using hij
        rw[this]at hb;cases hb
      · exact hdown hb
  have hallk:∀(listed:Array Bool),(∀(i:Nat) (o:Oper),listed.getD i false=true->ops[i]? = some o->∀ed∈o.after,Region.binds .any ed=true->listed.getD ed.on false=true) ->
      ∀(i:Nat) (o:Oper),ops[i]? = some o->(∀ed∈o.after,Region.binds .any ed=true->listed.getD ed.on false=true)->(Ad P C.G o.op).cls = .k->∀k m z,k<i->oc k = .pal m z->listed.getD k false=true:=by
    intro listed hcl i o ho hed hk k m z hki hc
    have hi:i<n:=hlt ho
    obtain⟨o1,p1,e1,e2,e3,e4,_⟩:=some3 i hi
    rw[ho]at e1;cases e1
    obtain⟨g1,hg1,_⟩:=hgood i o ho
    obtain⟨_,ok,el,hok',hdk,hck⟩:=hpald k m z (by omega) hc
    obtain⟨o2,p2,f1,f2,f3,f4,_⟩:=some3 k (by omega)
    rw[hok']at f1;cases f1
    obtain⟨g2,hg2,_⟩:=hgood k ok hok'
    have hkk:(BK P C.G nt ops o).op.cls = .k:=by rw[hg1];exact hk
    have hdoj:=HF hdo i (by rw[hfl1];omega)
    rw[e4]at hdoj
    simp only[hkk]at hdoj
    have hdoji:=HF hdoj k (by rw[hfl1];omega)
    rw[f4]at hdoji
    have hka:(BK P C.G nt ops ok).op.cls = .a:=by rw[hg2];simp only[hck];rfl
    rw[e3]at hdoji
    simp only[hka,Bk,C8]at hdoji
    rcases hdoji with hb|hb
    · have:B2 k i=true:=by simpa using hki
      rw[this]at hb;cases hb
    · exact hanc listed hcl i o p1 ho e2 hed k (by omega) hb
  have hfin:∀listed a w,Inv listed a w->(∀k,k<n->listed.getD k false=true)->Q .normal a w:=by
    intro listed a w hI hall
    obtain⟨hls,hcl,hd,R,B,p,rL,hpn,hp0,hpw,hx,hnp,hmem,hr1,hr2,hbs,htsz,hw,hu,hqq⟩:=hI
    have hnW:∀k,p<=k->k<n->¬W k:=fun k h1 h2 hW=>by have:=(hpw k h2 hW).1 (hall k h2);omega
    obtain⟨s1,s2,s3⟩:=seg p n hpn (AK _) hnW
    have hrr:∀m,look rL m=look (sts n).r m:=by
      intro m
      by_cases hex2:∃k z,p<=k/\k<n/\oc k = .pal m z
      · obtain⟨k,z,h1,h2,h3⟩:=hex2
        rw[hr1 k m z h1 h2 (hall k h2) h3,s3 k m z h1 h2 h3]
      · have hno:∀k z,p<=k->k<n->oc k ≠ .pal m z:=fun k z h1 h2 h3=>hex2 ⟨k,z,h1,h2,h3⟩
        rw[hr2 m (fun k z h1 h2 _=>hno k z h1 h2),s2 m hno]
    rw[hs']at hκ
    refine hQ (sts n) a w hκ ⟨R,B,hx,by rw[s1];exact hnp,⟨by rw[s1];exact hmem.rel,⟨fun m i hm=>?_,hmem.priv.inj,by rw[s1];exact hmem.priv.apart⟩⟩,⟨fun t v hv=>?_⟩,⟨fun t m off hv=>?_⟩,htsz,hd⟩
    · obtain⟨h1,l',h2,h3⟩:=hmem.priv.at_ m i hm
      exact⟨h1,l',by rw[<-hrr];exact h2,h3⟩
    · rcases srcE n (AK _) t v hv with ⟨k,o',h1,h2,h3,h4⟩ | ⟨h1,h2⟩
      · have:=hw k o' t (hall k h1) h2 h3
        rw[h4]at this;exact this
      · exact hu t v h1 (hnone listed hcl n t (AK _) (fun h=>by omega) h2)
    · rcases srcQ n (AK _) t m off hv with ⟨k,o',h1,h2,h3,h4⟩ | ⟨h1,h2⟩
      · have:=hw k o' t (hall k h1) h2 h3
        rcases h4 with h4|⟨z,h4,rfl⟩
        · rw[h4]at this;exact this
        · rw[h4]at this;exact this
      · exact hqq t m off h1 (hnone listed hcl n t (AK _) (fun h=>by omega) h2)
  have hstep:∀listed a w,Inv listed a w->∀i,i∈Region.ready .any ops listed->∀K:Act->World->Prop,(∀a' w',Inv (listed.setIfInBounds i true) a' w'->K a' w')->wpOp P ops Q i K a w:=by
    intro listed a w hI i hi K hK
    obtain⟨hls,hcl,hd,R,B,p,rL,hpn,hp0,hpw,hx,hnp,hmem,hr1,hr2,hbs,htsz,hw,hu,hqq⟩:=hI
    obtain⟨hli,o,ho,hed⟩:=mem_ready.1 hi
    have hin:i<n:=hlt ho
    have hnl:listed.getD i false=false:=by rw[<-Dm hls hin];exact hli
    obtain⟨o2,pi,ho2,hpi,_,_,hA⟩:=some3 i hin
    rw[ho]at ho2;cases ho2
    obtain⟨g,hg,hcg,hdok⟩:=hgood i o ho
    rw[hg]at hA
    have hsz':i<listed.size:=by omega
    have hLs:∀k,(listed.setIfInBounds i true).getD k false=(decide (k=i) || listed.getD k false):=fun k=>Ia hsz'
    have hLi:(listed.setIfInBounds i true).getD i false=true:=by rw[hLs];simp
    have hLo:∀k,k≠i->(listed.setIfInBounds i true).getD k false=listed.getD k false:=fun k hk=>by rw[hLs];simp[hk]
    have hclk:=hclsk listed hcl i o ho hnl hed
    have hmw:=hmem.rel
    have hem:HH R (ED true pi.looks (sts i).e) a.tmps:=by
      refine⟨fun t v hv=>?_⟩
      obtain⟨ht,hmemt⟩:=GX _ _ _ _ hv
      rcases srcE i (by omega) t v ht with ⟨k,o',h1,h2,h3,h4⟩|⟨h1,h2⟩
      · have:=hw k o' t (hwritten listed hcl i t k o' (by omega) (fun h=>by omega) (fun _=>⟨o,pi,ho,hpi,hmemt,hed⟩) h1 h2 h3) h2 h3
        rw[h4]at this;exact this
      · exact hu t v h1 (hnone listed hcl i t (by omega) (fun _=>⟨o,pi,ho,hpi,hnl,hmemt⟩) h2)
    have hqm:TM B (Kd true pi.looks (sts i).q) a.tmps:=by
      refine⟨fun t m off hv=>?_⟩
      obtain⟨ht,hmemt⟩:=Gp _ _ _ _ hv
      rcases srcQ i (by omega) t m off ht with ⟨k,o',h1,h2,h3,h4⟩|⟨h1,h2⟩
      · have:=hw k o' t (hwritten listed hcl i t k o' (by omega) (fun h=>by omega) (fun _=>⟨o,pi,ho,hpi,hmemt,hed⟩) h1 h2 h3) h2 h3
        rcases h4 with h4|⟨z,h4,rfl⟩
        · rw[h4]at this;exact this
        · rw[h4]at this;exact this
      · exact hqq t m off h1 (hnone listed hcl i t (by omega) (fun _=>⟨o,pi,ho,hpi,hnl,hmemt⟩) h2)
    have mk:∀(R':Cz) (B':Bs) (p':Nat) (rL':Rg) (w':World) (x:Value),p'<=n->(p'=0\/∃j,p'=j+1/\W j/\(listed.setIfInBounds i true).getD j false=true) ->
        (∀j,j<n->W j->((listed.setIfInBounds i true).getD j false=true↔j<p'))->G6 nR R0 R'->nR<=(sts p').U.next->TO C R' B' rL' (sts p').U w' ->
        (∀k m z,p'<=k->k<n->(listed.setIfInBounds i true).getD k false=true->oc k = .pal m z->look rL' m=some z) ->
        (∀m,(∀k z,p'<=k->k<n->(listed.setIfInBounds i true).getD k false=true->oc k ≠ .pal m z)->look rL' m=look (sts p').r m) ->
        (∀k m z,k<n->oc k = .pal m z->(listed.setIfInBounds i true).getD k false=false->B' m=none)->Le R R'->(∀m b,B m=some b->B' m=some b) ->
        (∀t,o.dst=some t->CK R' B' (some x) (oc i))->K (a.put o.dst x) w':=by
      intro R' B' p' rL' w' x h1 h2 h3 h4 h5 h6 h7 h8 h9 h10 h11 h12
      refine hK _ _ ⟨by rw[D4];exact hls,?_,by rw[E0];exact hd,R',B',p',rL',h1,h2,h3,h4,h5,h6,h7,h8,h9,by rw[hputsz];exact htsz,?_,?_,?_⟩
      · intro i' o' hi' ho' ed hm' hb'
        rw[hLs]at hi' ⊢
        simp only[Bk,decide_eq_true_eq]at hi' ⊢
        rcases hi' with rfl|hi'
        · rw[ho]at ho';cases ho'
          exact .inr (hed ed hm' hb')
        · exact .inr (hcl i' o' hi' ho' ed hm' hb')
      · intro i' o' t hi' ho' hdt
        rw[hLs]at hi'
        simp only[Bk,decide_eq_true_eq]at hi'
        by_cases he:i'=i
        · subst he
          rw[ho]at ho';cases ho'
          have:=h12 t hdt
          have htl:t<a.tmps.size:=E3 (hdlt i' o t ho hdt) htsz
          have hpt:(a.put o.dst x).tmps[t]? = some x:=by rw[hdt];simp[Act.put,A2,htl]
          rw[hpt];exact this
        · have:=hw i' o' t (hi'.resolve_left he) ho' hdt
          rw[hput a o.dst x t (hdu i' i o' o t he ho' ho hdt)]
          exact this.mono h10 h11
      · intro t v hv hno
        rw[hput a o.dst x t (hno i o hLi ho)]
        obtain⟨y,hy1,hy2⟩:=hu t v hv (fun i' o' hi' ho'=>hno i' o' (by rw[hLs,hi'];simp) ho')
        exact⟨y,hy1,Cr h10 v y hy2⟩
      · intro t m off hv hno
        rw[hput a o.dst x t (hno i o hLi ho)]
        obtain⟨b,hb1,hb2⟩:=hqq t m off hv (fun i' o' hi' ho'=>hno i' o' (by rw[hLs,hi'];simp) ho')
        exact⟨b,h11 m b hb1,hb2⟩
    have mk0:∀(R':Cz) (w':World) (x:Value),¬W i->(∀m z,oc i ≠ .pal m z)->G6 nR R0 R'->TO C R' B rL (sts p).U w'->Le R R'->(∀t,o.dst=some t->CK R' B (some x) (oc i))->K (a.put o.dst x) w':=by
      intro R' w' x hnW hnp' h1 h2 h3 h4
      refine mk R' B p rL w' x hpn ?_ ?_ h1 hnp h2 ?_ ?_ ?_ h3 (fun _ _ h=>h) h4
      · rcases hp0 with h | ⟨j,h5,h6,h7⟩
        · exact .inl h
        · exact .inr ⟨j,h5,h6,by rw[hLs,h7];simp⟩
      · intro j hj hWj
        by_cases hji:j=i
        · subst hji;exact(hnW hWj).elim
        · rw[hLo j hji];exact hpw j hj hWj
      · intro k m z hk1 hk2 hk3 hk4
        by_cases hki:k=i
        · subst hki;exact(hnp' m z hk4).elim
        · rw[hLo k hki]at hk3;exact hr1 k m z hk1 hk2 hk3 hk4
      · intro m hm
        refine hr2 m (fun k z hk1 hk2 hk3=>?_)
        exact hm k z hk1 hk2 (by rw[hLs,hk3];simp)
      · intro k m z hk1 hk2 hk3
        by_cases hki:k=i
        · subst hki;rw[hLi]at hk3;cases hk3
        · rw[hLo k hki]at hk3;exact hbs k m z hk1 hk2 hk3
    have hext:∀R',(∀k,k<(sts p).U.next->k≠(sts p).U.next->R' k=R k)->G6 nR R0 R':=fun R' hk k hkn=>by rw[hk k (by omega) (by omega)];exact hx k hkn
    have hpi':(∀j,j<n->W j->i<j->listed.getD j false=false)->p<=i:=by
      intro hno
      rcases hp0 with h|⟨j,h1,h2,h3⟩
      · omega
      · rcases AJc j i with h4 | h4 | h4
        · omega
        · subst h4;rw[hnl]at h3;cases h3
        · have hW:=h2
          obtain⟨_,oj,hoj,_⟩:=h2
          rw[hno j (hlt hoj) hW h4]at h3;cases h3
    have hnoW:(∀j,j<n->W j->j<i->listed.getD j false=true)->∀k,p<=k->k<i->¬W k:=by
      intro hyes k hk1 hk2 hWk
      have:=(hpw k (by omega) hWk).1 (hyes k (by omega) hWk hk2)
      omega
    have hsame:p<=i->(∀k,p<=k->k<i->¬W k)->(sts i).U=(sts p).U/\∀x m off,Fl (Kd true pi.looks (sts i).q) x=some (m,off)->look rL m=look (sts i).r m:=by
      intro hpi2 hnW
      obtain⟨s1,s2,s3⟩:=seg p i hpi2 (by omega) hnW
      refine⟨s1,fun x m off hmx=>?_⟩
      cases x with
      | con v=>cases hmx
      | tmp u=>
        have hmx:look (Kd true pi.looks (sts i).q) u=some (m,off):=hmx
        obtain⟨b,hb,_⟩:=hqm.at_ u m off hmx
        have hroot:=roots i (by omega) u m off (Gp _ _ _ _ hmx).1
        by_cases hex2:∃k z,p<=k/\k<i/\oc k = .pal m z
        · obtain⟨k,z,h1,h2,h3⟩:=hex2
          have hlk:listed.getD k false=true:=by
            cases hlk:listed.getD k false with
            | true=>rfl
            | false=>have:=hbs k m z (by omega) h3 hlk;rw[hb]at this;cases this
          rw[hr1 k m z h1 (by omega) hlk h3,s3 k m z h1 h2 h3]
        · have hno:∀k z,p<=k->k<i->oc k ≠ .pal m z:=fun k z h1 h2 h3=>hex2 ⟨k,z,h1,h2,h3⟩
          rw[hr2 m (fun k z h1 h2 _ h3=>hno k z h1 (hroot k z h2 h3) h3),s2 m hno]
    have hgl:=hmw.globOk
    unfold wpOp
    rw[ho]
    simp only
    generalize hoc:oc i=c at hA
    generalize hexi:ex i=xx at hA
    cases hA with
    | skip _ hwn h=>
      rw[if_neg (by rw[DW hem.env hcg hwn];simp)]
      exact mk0 R w undef (fun hW=>by have h9:=hW.1;rw[hexi]at h9;cases h9) (fun m z hh=>by rw[hoc]at hh;cases hh) hx hmem (Le.refl _) (fun t _=>by rw[hoc];exact⟨_,rfl,rfl⟩)
    | mark _ pw id nx m off hwn hs h=>
      rw[if_pos (DW hem.env hcg hwn)]
      left
      have hs2:GD C.E D pw (sts p).U.next ((sts p).U.next+1) (Ad P C.G o.op) (ED true pi.looks (sts i).e) (Kd true pi.looks (sts i).q) rL (sts p).U (.mark m off):=iK hs
      refine Lw hD hmem hem hqm o (hmw.fresh _ (AK _)) (IK _) (EM _) hs2 K Q (fun v2 r2 U2 heq=>by cases heq) (fun m2 off2 heq b hb=>?_)
      cases heq
      refine mk0 R w _ (fun hW=>?_) (fun m z hh=>by rw[hoc]at hh;cases hh) hx hmem (Le.refl _) (fun t _=>by rw[hoc];exact⟨b,hb,rfl⟩)
      obtain⟨_,o3,ho3,hc3⟩:=hW
      rw[ho]at ho3;cases ho3
      cases hs with
      | mv x _ _ hoo _=>have hoo:Ad P C.G o.op=_\/Ad P C.G o.op=_:=hoo;rcases hoo with hoo | hoo<;>(rw[hoo]at hc3;cases hc3)
      | fa d x _ _ hoo _=>have hoo:Ad P C.G o.op=_:=hoo;rw[hoo]at hc3;cases hc3
    | pal _ d el z hdd hoo hwn h=>
      rw[if_pos (DW hem.env hcg hwn)]
      left
      have hoo:Ad P C.G o.op = .alloc el z:=hoo
      have hdd:o.dst=some d:=hdd
      have hca:(Ad P C.G o.op).cls = .a:=by rw[hoo];rfl
      have hple:=hpi' (fun j hj hW hij=>(hclk j hj hW).2.2 hca hij)
      have hBd:B d=none:=hbs i d z hin hoc hnl
      refine iB hmem o (d:=d) hoo K Q (fun b w' hmem'=>?_)
      refine mk R (fun m=>if m=d then some b else B m) p ((d,z)::Bg [d] rL) w' _ hpn ?_ ?_ hx hnp hmem' ?_ ?_ ?_ (Le.refl _) (fun m b' hb'=>?_) (fun t _=>?_)
      · rcases hp0 with h | ⟨j,h5,h6,h7⟩
        · exact .inl h
        · exact .inr ⟨j,h5,h6,by rw[hLs,h7];simp⟩
      · intro j hj hWj
        by_cases hji:j=i
        · subst hji
          obtain⟨_,o3,ho3,hc3⟩:=hWj
          rw[ho]at ho3;cases ho3
          rw[hca]at hc3;cases hc3
        · rw[hLo j hji];exact hpw j hj hWj
      · intro k m z' hk1 hk2 hk3 hk4
        by_cases hki:k=i
        · subst hki;rw[hoc]at hk4;cases hk4;simp[look]
        · rw[hLo k hki]at hk3
          have hmd:¬d=m:=fun he=>hki (hpalu k i m z' z hk2 hin hk4 (by rw[hoc,he]))
          simp only[look,AU]
          rw[if_neg hmd,CT,if_neg (fun hh=>hmd ((Gn d m).1 hh))]
          exact hr1 k m z' hk1 hk2 hk3 hk4
      · intro m hm
        have hmd:¬d=m:=fun he=>hm i z hple hin hLi (by rw[hoc,he])
        simp only[look,AU]
        rw[if_neg hmd,CT,if_neg (fun hh=>hmd ((Gn d m).1 hh))]
        exact hr2 m (fun k z' hk1 hk2 hk3=>hm k z' hk1 hk2 (by rw[hLs,hk3];simp))
      · intro k m z' hk1 hk2 hk3
        by_cases hki:k=i
        · subst hki;rw[hLi]at hk3;cases hk3
        · rw[hLo k hki]at hk3
          have hmd:¬m=d:=fun he=>hki (hpalu k i m z' z hk1 hin hk2 (by rw[hoc,he]))
          rw[if_neg hmd];exact hbs k m z' hk1 hk2 hk3
      · by_cases hmd:m=d
        · subst hmd;rw[hBd]at hb';cases hb'
        · rw[if_neg hmd];exact hb'
      · rw[hoc];exact⟨b,by simp,rfl⟩
    | val _ pw v r' U' hwn hs hl' hna h=>
      rw[if_pos (DW hem.env hcg hwn)]
      left
      have hs:GD C.E D pw (sts i).U.next ((sts i).U.next+1) (Ad P C.G o.op) (ED true pi.looks (sts i).e) (Kd true pi.looks (sts i).q) (sts i).r (sts i).U (.val v r' U'):=hs
      have hl':o.dst=none\/v.live=true\/(Ad P C.G o.op).cls ≠ .k:=hl'
      have hna:(Ad P C.G o.op).cls ≠ .a:=hna
      have htok:∀(R':Cz) (x:Value),((v = .dead/\(Ad P C.G o.op).cls = .k)\/Ao R' v=some x)->∀t,o.dst=some t->CK R' B (some x) (oc i):=by
        intro R' x hv t ht
        rw[hoc]
        refine⟨x,rfl,?_⟩
        rcases hv with ⟨rfl,hc⟩|hv
        · rcases hl' with h | h | h
          · rw[ht]at h;cases h
          · cases h
          · exact(h hc).elim
        · exact hv
      by_cases hck:(Ad P C.G o.op).cls = .k
      ·
        have hWi:W i:=⟨hexi,o,ho,hck⟩
        have hple:=hpi' (fun j hj hW hij=>((hclk j hj hW).1 hck).2 hij)
        have hnW:=hnoW (fun j hj hW hji=>((hclk j hj hW).1 hck).1 hji)
        obtain⟨hσ,hrm⟩:=hsame hple hnW
        obtain⟨s1,s2,s3⟩:=seg p i hple (by omega) hnW
        rw[hσ]at hs
        obtain⟨rL',hs2,hrel⟩:=Qc (rL:=rL) hs hrm
        refine Lw hD hmem hem hqm o (hmw.fresh _ (AK _)) (IK _) (EM _) hs2 K Q (fun v2 r2 U2 heq R' w' x hle hk hn' hmem' hv=>?_) (fun m off heq=>by cases heq)
        cases heq
        have hσ':(sts (i+1)).U=U':=h.2.2.2
        have hr':(sts (i+1)).r=r':=h.2.2.1
        have hall:=hallk listed hcl i o ho hed hck
        have hold:∀m,(∀k z,i<=k->k<n->(listed.setIfInBounds i true).getD k false=true->oc k ≠ .pal m z)->look rL m=look (sts i).r m:=by
          intro m hm
          by_cases hex2:∃k z,p<=k/\k<i/\oc k = .pal m z
          · obtain⟨k,z,h1,h2,h3⟩:=hex2
            rw[hr1 k m z h1 (by omega) (hall k m z h2 h3) h3,s3 k m z h1 h2 h3]
          · have hno:∀k z,p<=k->k<i->oc k ≠ .pal m z:=fun k z h1 h2 h3=>hex2 ⟨k,z,h1,h2,h3⟩
            rw[hr2 m (fun k z h1 h2 h3 h4=>?_),s2 m hno]
            rcases Av k i with h5|h5
            · exact hno k z h1 h5 h4
            · exact hm k z h5 h2 (by rw[hLs,h3];simp) h4
        have hmroot:∀x m off,Fl (Kd true pi.looks (sts i).q) x=some (m,off)->∀k z,k<n->oc k = .pal m z->k<i:=by
          intro x m off hmx
          cases x with
          | con v=>cases hmx
          | tmp u=>
            have hmx:look (Kd true pi.looks (sts i).q) u=some (m,off):=hmx
            exact roots i (by omega) u m off (Gp _ _ _ _ hmx).1
        refine mk R' B (i+1) rL' w' x (by omega) (.inr ⟨i,rfl,hWi,hLi⟩) ?_ (hext R' hk) (by rw[hσ'];omega) (by rw[hσ'];exact hmem') ?_ ?_ ?_ hle (fun _ _ h=>h) (htok R' x hv)
        · intro j hj hWj
          by_cases hji:j=i
          · subst hji;rw[hLi];simp
          · rw[hLo j hji]
            rcases AJc j i with h4|h4|h4
            · rw[((hclk j hj hWj).1 hck).1 h4];simp;omega
            · exact(hji h4).elim
            · rw[((hclk j hj hWj).1 hck).2 h4];simp;omega
        · intro k m z hk1 hk2 hk3 hk4
          have hk3':listed.getD k false=true:=by rw[hLo k (by omega)]at hk3;exact hk3
          have hb:=hr1 k m z (by omega) hk2 hk3' hk4
          rcases hrel with ⟨_,h6⟩|⟨x',m',off',c',l',h6,h7,_,h8⟩
          · rw[h6];exact hb
          · rw[h8]
            have hne:¬m'=m:=fun he=>by have:=hmroot x' m' off' h6 k z hk2 (by rw[he];exact hk4);omega
            rw[Hg (by rw[hrm x' m' off' h6];exact h7),if_neg hne];exact hb
        · intro m hm
          have hb:=hold m (fun k z hk1 hk2 hk3 hk4=>by
            rcases Nat.eq_or_lt_of_le hk1 with h5|h5
            · subst h5;rw[hoc]at hk4;cases hk4
            · exact hm k z (by omega) hk2 hk3 hk4)
          rw[hr']
          rcases hrel with ⟨h5,h6⟩|⟨x',m',off',c',l',h6,h7,h8,h9⟩
          · rw[h5,h6];exact hb
          · rw[h8,h9,Hg (by rw[hrm x' m' off' h6];exact h7),Hg h7,hb]
        · intro k m z hk1 hk2 hk3
          by_cases hki:k=i
          · subst hki;rw[hLi]at hk3;cases hk3
          · rw[hLo k hki]at hk3;exact hbs k m z hk1 hk2 hk3
      ·
        have hnWi:¬W i:=fun hW=>by
          obtain⟨_,o3,ho3,hc3⟩:=hW
          rw[ho]at ho3;cases ho3
          exact hck hc3
        have go:GD C.E D pw (sts p).U.next ((sts p).U.next+1) (Ad P C.G o.op) (ED true pi.looks (sts i).e) (Kd true pi.looks (sts i).q) rL (sts p).U (.val v rL (sts p).U)->o.wp P a w K Q:=by
          intro hs2
          refine Lw hD hmem hem hqm o (hmw.fresh _ (AK _)) (IK _) (EM _) hs2 K Q (fun v2 r2 U2 heq R' w' x hle hk hn' hmem' hv=>?_) (fun m off heq=>by cases heq)
          cases heq
          exact mk0 R' w' x hnWi (fun m z hh=>by rw[hoc]at hh;cases hh) (hext R' hk) hmem' hle (htok R' x hv)
        cases hcls:(Ad P C.G o.op).cls with
        | k=>exact(hck hcls).elim
        | a=>exact(hna hcls).elim
        | p=>
          refine go ?_
          cases hs with
          | p _ hc h9=>exact .p v hc h9
          | l _ hc h9=>rw[hcls]at hc;cases hc
          | a _ b hc h9=>rw[hcls]at hc;cases hc
          | k _ U1 _ hc h hs=>rw[hcls]at hc;cases hc
          | ld x m off l _ hoo hm hl h=>rw[hoo]at hcls;cases hcls
          | ldn n x m off l hoo hm hl h=>rw[hoo]at hcls;cases hcls
          | st n x y m off l cs u hw hoo hm hl hn hu hlu hcs h1 hlen h=>rw[hoo]at hcls;cases hcls
        | l=>
          have hple:=hpi' (fun j hj hW hij=>((hclk j hj hW).2.1 hcls).2 hij)
          have hnW:=hnoW (fun j hj hW hji=>((hclk j hj hW).2.1 hcls).1 hji)
          obtain⟨hσ,hrm⟩:=hsame hple hnW
          rw[hσ]at hs
          obtain⟨rL',hs2,_⟩:=Qc (rL:=rL) hs hrm
          obtain⟨e1,e2⟩:=OZ hs2 hck hna
          rw[e1,e2]at hs2
          exact go hs2
  have hany:∀fuel listed a w,Inv listed a w->(Da n).countP (fun k=>!listed.getD k false)<=fuel->wpAny P .any ops Q fuel listed a w:=by
    intro fuel
    induction fuel with
    | zero=>
      intro listed a w hI hcnt
      have hall:∀k,k<n->listed.getD k false=true:=by
        intro k hk
        have h0:(Da n).countP (fun k=>!listed.getD k false)=0:=by omega
        have:=List.countP_eq_zero.1 h0 k (ABb.2 hk)
        simpa using this
      refine⟨?_,hfin listed a w hI hall⟩
      apply X9.2
      intro j hj
      obtain⟨h1,o,h2,_⟩:=mem_ready.1 hj
      have hjn:j<n:=hlt h2
      rw[Dm hI.1 hjn,hall j hjn]at h1
      cases h1
    | succ fuel ih=>
      intro listed a w hI hcnt
      refine⟨fun hr=>hfin listed a w hI (hready_nil listed hI.1 hr),fun i hi=>?_⟩
      have hin:i<n:=by
        obtain⟨_,o,h2,_⟩:=mem_ready.1 hi
        exact hlt h2
      have hnl:listed.getD i false=false:=by rw[<-Dm hI.1 hin];exact(mem_ready.1 hi).1
      refine hstep listed a w hI i hi _ (fun a' w' hI'=>ih _ a' w' hI' ?_)
      have hsz':i<listed.size:=by rw[hI.1];exact hin
      have:=W4 (p:=fun k=>!(listed.setIfInBounds i true).getD k false) (q:=fun k=>!listed.getD k false) (fun k hk=>by
        simp only[C8]at hk ⊢
        rw[Ia hsz']at hk
        simp only[Bd]at hk
        exact hk.2) (i:=i) (by simp only[hnl];rfl) (by simp only[Ia hsz'];simp) (Da n) (ABb.2 hin)
      omega
  refine wp_region_any hmix ?_
  rw[hnn]
  have hrepl:∀k,(HB n false).getD k false=false:=fun k=>by
    simp only[EO,AOQ]
    split<;>rfl
  refine hany n _ a0 _ ⟨by simp,?_,hd0,Rs,Bi,0,s.r,DZ _,.inl rfl,?_,hx0,by rw[hst0.2.2.2];exact hn0,?_,?_,?_,?_,hnt0,?_,?_,?_⟩ ?_
  · intro i o hi;rw[hrepl]at hi;cases hi
  · intro j hj hW;rw[hrepl];simp
  · rw[hst0.2.2.2]
    refine⟨hm0.rel.drawn _,⟨fun m i hm=>?_,fun m m' i i' hm hm' hb=>?_,fun m i hm=>?_⟩⟩
    · simp only[Bi]at hm
      split at hm
      · cases hm
      · exact hm0.priv.at_ m i hm
    · simp only[Bi]at hm hm'
      split at hm
      · cases hm
      · split at hm'
        · cases hm'
        · exact hm0.priv.inj m m' i i' hm hm' hb
    · simp only[Bi]at hm
      split at hm
      · cases hm
      · exact hm0.priv.apart m i hm
  · intro k m z h1 h2 h3;rw[hrepl]at h3;cases h3
  · intro m _;rw[hst0.2.2.1]
  · intro k m z h1 h2 _
    simp only[Bi]
    rw[if_pos (hpalm k m z h1 h2)]
  · intro i o t hi;rw[hrepl]at hi;cases hi
  · intro t v hv _;exact he0.at_ t v hv
  · intro t m off hv _
    obtain⟨i,h1,h2⟩:=hq0.at_ t m off hv
    refine⟨i,?_,h2⟩
    simp only[Bi]
    rw[if_neg (fun hh=>LN hpo m hh t off hv)]
    exact h1
  · refine Bc (List.countP_le_length) (by simp)
end Go.Og
namespace Go.Og
variable {P:Program} {D:Ai} {C:Cx}
theorem Gq {α:Type}:∀{l:List (Nat × α)} {k:Nat} {a:α},look l k=some a->(k,a)∈l
 | [],k,a,h=>by simp[look]at h
 | (m,b)::l,k,a,h=>by
  simp only[look,AU]at h
  split at h
  ·rename_i he;subst he;cases h;exact Ab
  ·exact BM _ (Gq h)
theorem O3 {e:B6}:∀(ts:List (Nat × CZ)) (J:B6->AF) (res:V × H),Yv e ts J=some res->∃e',(∀t v,look e' t=some v->look e t=some v)/\J e'=some res
 | [],J,res,h=>⟨[],fun t v hv=>by simp[look]at hv,h⟩
 | (t,ty)::l,J,res,h=>by
  simp only[Yv]at h
  unfold CU at h
  simp only at h
  cases hl:look e t with
  | none=>rw[hl]at h;cases h
  | some v=>
   rw[hl]at h
   have h2:=HC _ _ _ _ h
   obtain⟨e',h3,h4⟩:=O3 l _ res h2
   refine⟨_,fun u w hu=>?_,h4⟩
   simp only[look,AU]at hu
   split at hu
   ·rename_i he;subst he;cases hu;exact hl
   ·exact h3 u w hu
theorem O2 {e:B6}:∀(ts:List (Nat × CZ)) (J:B6->AF) (res:V × H),Un e ts J=some res->∃e',(∀t v,look e' t=some v->look e t=some v/\v.live=true)/\J e'=some res
 | [],J,res,h=>⟨[],fun t v hv=>by simp[look]at hv,h⟩
 | (t,ty)::l,J,res,h=>by
  simp only[Un,BL]at h
  cases hl:look e t with
  | none=>rw[hl]at h;cases h
  | some v=>
   rw[hl]at h
   obtain⟨hlv,h⟩:=Ds h
   have h2:=HC _ _ _ _ h
   obtain⟨e',h3,h4⟩:=O2 l _ res h2
   refine⟨_,fun u w hu=>?_,h4⟩
   simp only[look,AU]at hu
   split at hu
   ·rename_i he;subst he;cases hu;exact⟨hl,hlv⟩
   ·exact h3 u w hu
theorem Oz {r:Rg}:∀(rs:List (Nat × List CZ)) (J:Rg->AF) (res:V × H),Yu r rs J=some res->∃r',(∀m l,look r' m=some l->look r m=some l)/\(∀m,Bn (rs.map Prod.fst) m=true->∃l,look r' m=some l)/\J r'=some res
 | [],J,res,h=>⟨[],fun t v hv=>by simp[look]at hv,fun m hm=>by simp[Bn]at hm,h⟩
 | (m,tys)::l,J,res,h=>by
  simp only[Yu]at h
  cases hl:look r m with
  | none=>rw[hl]at h;cases h
  | some cs=>
   rw[hl]at h
   have h2:=Jp _ _ _ _ h
   obtain⟨r',h3,h4,h5⟩:=Oz l _ res h2
   refine⟨_,fun u w hu=>?_,fun u hu=>?_,h5⟩
   ·simp only[look,AU]at hu
    split at hu
    ·rename_i he;subst he;cases hu;exact hl
    ·exact h3 u w hu
   ·simp only[look,AU]
    by_cases he:m=u
    ·exact⟨cs,by rw[if_pos he]⟩
    ·rw[if_neg he]
     simp only[B3]at hu
     exact h4 u (((DF m _ u).1 hu).resolve_left he)
theorem I0:∀(ms rs:List Nat) (q:Qs) (t:Nat) (p:Nat × Nat),look (O1 ms rs q) t=some p->look q t=some p/\Bn rs p.1=true
 | [],rs,q,t,p,h=>by simp[O1,look]at h
 | a::l,rs,q,t,p,h=>by
  simp only[O1]at h
  split at h
  ·rename_i p' hp
   split at h
   ·rename_i hm
    simp only[look,AU]at h
    split at h
    ·rename_i he;subst he;cases h;exact⟨hp,hm⟩
    ·exact I0 l rs q t p h
   ·exact I0 l rs q t p h
  ·exact I0 l rs q t p h
theorem Oy {nR:Nat} {R0:Cz} {nt:Nat} {ts:List (Nat × CZ)} {ms:List Nat} {rs:List (Nat × List CZ)} {s:St} {J:St->AF} {res:V × H} (h:JL ts ms rs s J=some res) {a:Act} {w:World} (hI:N6 C nR R0 nt s a w) :
  ∃s0,J s0=some res/\N6 C nR R0 nt s0 a w:=by
 unfold JL at h
 obtain⟨e',he',h⟩:=O3 _ _ _ h
 obtain⟨r',hr1,hr2,h⟩:=Oz _ _ _ h
 obtain⟨R,B,h1,h2,h3,h4,h5,h6,h7⟩:=hI
 refine⟨_,h,R,fun m=>if Bn (rs.map Prod.fst) m=true then B m else none,h1,h2,⟨h3.rel,⟨fun m i hm=>?_,fun m m' i i' hm hm'=>?_,fun m i hm=>?_⟩⟩,h4.sub he',⟨fun t m off hq=>?_⟩,h6,h7⟩
 ·split at hm
  ·rename_i hmem
   obtain⟨hO,l,hl,hok'⟩:=h3.priv.at_ m i hm
   obtain⟨l',hl'⟩:=hr2 m hmem
   have:=hr1 m l' hl'
   rw[hl]at this;cases this
   exact⟨hO,l,hl',hok'⟩
  ·cases hm
 ·split at hm
  ·split at hm'
   ·exact h3.priv.inj m m' i i' hm hm'
   ·cases hm'
  ·cases hm
 ·split at hm
  ·exact h3.priv.apart m i hm
  ·cases hm
 ·obtain⟨hq1,hq2⟩:=I0 _ _ _ _ _ hq
  obtain⟨i,hi1,hi2⟩:=h5.at_ t m off hq1
  refine⟨i,?_,hi2⟩
  rw[if_pos hq2];exact hi1
theorem rV (hD:∀f,Ce P C.E C.G f (D f)) {W:AH} (hW:Pw P C.E C.G W) (hmix:P.follows .mixedOrders=true) (N nt:Nat) {nR:Nat} {R0:Cz} {res:V × H} :
  ∀(xc:XC) (c:Code),xc.strip=CV P C.G nt c->xc.ok=true->∀(s:St) (kn:St->AF) (kx:Nat->St->AF) (kr:St->AF),Ay C.E D W N xc s kn kx kr=some res ->
   ∀(a:Act) (w:World) (Q:Exit->Act->World->Prop),N6 C nR R0 nt s a w->(∀s' a' w',kn s'=some res->N6 C nR R0 nt s' a' w'->Q .normal a' w') ->
    (∀id s' a' w',kx id s'=some res->N6 C nR R0 nt s' a' w'->Q (.exit id) a' w')->(∀s' a' w',kr s'=some res->N6 C nR R0 nt s' a' w'->Q .ret a' w')->c.wp P Q a w:=by
 intro xc
 induction xc with
 | bad=>intro c _ _ s kn kx kr h;cases h
 | keep ts ms rs xc ih=>
  intro c hs hok s kn kx kr h a w Q hI hn hx hr
  rw[eE]at h
  obtain⟨s0,h,hI⟩:=Oy h hI
  exact ih c hs hok s0 kn kx kr h a w Q hI hn hx hr
 | skip=>
  intro c hs hok s kn kx kr h a w Q hI hn hx hr
  cases c<;>simp only[XC.strip,CV]at hs<;>(try (cases hs;done))
  ·exact wp_skip (hn s a w h hI)
  ·rename_i i o d;cases d<;>(first | (cases hs;done) | (simp only[CV]at hs;split at hs<;>cases hs))
 | exit id=>
  intro c hs hok s kn kx kr h a w Q hI hn hx hr
  cases c<;>simp only[XC.strip,CV]at hs<;>(try (cases hs;done))
  ·rename_i i o d;cases d<;>(first | (cases hs;done) | (simp only[CV]at hs;split at hs<;>cases hs))
  ·cases hs;exact wp_exit (hx id s a w h hI)
 | ret=>
  intro c hs hok s kn kx kr h a w Q hI hn hx hr
  cases c<;>simp only[XC.strip,CV]at hs<;>(try (cases hs;done))
  ·rename_i i o d;cases d<;>(first | (cases hs;done) | (simp only[CV]at hs;split at hs<;>cases hs))
  ·exact wp_ret (hr s a w h hI)
 | ops l=>
  intro c hs hok s kn kx kr h a w Q hI hn hx hr
  cases c<;>simp only[XC.strip,CV]at hs<;>(try (cases hs;done))
  rename_i i o d
  cases d
  case true=>simp only[CV]at hs;split at hs<;>cases hs
  simp only[CV,AC.region.injEq]at hs
  rw[jS]at h
  obtain⟨s',hrun,hκ,_⟩:=Hm l none none none true 0 s _ res h hok (.inl ⟨rfl,rfl⟩) (fun h=>by cases h)
  refine wp_region_list (pb hD hrun o.toList a w ?_ hI (fun a' w' hI'=>hn _ a' w' hκ hI'))
  obtain⟨h1,h2⟩:=Gu l none
  rw[List.map_fst_zip (by omega),hs]
 | draw l ancs=>
  intro c hs hok s kn kx kr h a w Q hI hn hx hr
  cases c<;>simp only[XC.strip,CV]at hs<;>(try (cases hs;done))
  rename_i i o d
  cases d<;>simp only[CV]at hs<;>(try (cases hs;done))
  split at hs
  case isFalse=>cases hs
  rename_i hplan
  simp only[AC.draw.injEq]at hs
  rw[eF]at h
  unfold jM at h
  split at h
  ·rename_i hpo
   simp only[XC.ok,AG,AU,C8]at hok
   obtain⟨⟨⟨⟨k1,k2⟩,k3⟩,k4⟩,k5⟩:=hok
   exact rR hD hmix i hs.1 hs.2 hplan k1 k2 k3 k4 k5 hpo h hI Q (fun s' a' w' hκ hI'=>hn s' a' w' hκ hI')
  ·cases h
 | gdraw ops pl ts=>
  intro c hs hok s kn kx kr h a w Q hI hn hx hr
  cases c<;>simp only[XC.strip,CV]at hs<;>(try (cases hs;done))
  rename_i i o d
  cases d<;>simp only[CV]at hs<;>(try (cases hs;done))
  split at hs
  case isFalse=>cases hs
  rename_i hplan
  simp only[AC.draw.injEq]at hs
  obtain⟨rfl,rfl⟩:=hs
  rw[W0]at h
  cases h1:W (o.toList.map (BK P C.G nt o)) (GS o) s.e s.U with
  | none=>rw[h1]at h;cases h
  | some q=>
   obtain⟨e1,U1⟩:=q
   rw[h1]at h
   obtain⟨e',he',h⟩:=O2 _ _ _ h
   obtain⟨R,B,g1,g2,g3,g4,g5,g6,g7⟩:=hI
   refine hW C rfl rfl nt i o s.e s.U e1 U1 hplan h1 R a w Q g3.rel g4.env g6 g7 (fun R' a' w' hx' hn' hrel' he1 hsz hd=>?_)
   refine hn _ a' w' h ⟨R',fun _=>none,g1.trans hx' g2,Bc g2 hn',⟨hrel',⟨fun m i hm=>(by cases hm),fun m m' i i' hm=>(by cases hm),fun m i hm=>(by cases hm)⟩⟩,⟨fun t v hv=>?_⟩,⟨fun t m off hq=>(by simp[look]at hq)⟩,hsz,hd⟩
   obtain⟨h2,h3⟩:=he' t v hv
   rcases he1.at_ t v h2 with rfl|h4
   ·cases h3
   ·exact h4
 | seq p q ihp ihq=>
  intro c hs hok s kn kx kr h a w Q hI hn hx hr
  cases c<;>simp only[XC.strip,CV]at hs<;>(try (cases hs;done))
  ·rename_i i o d;cases d<;>(first | (cases hs;done) | (simp only[CV]at hs;split at hs<;>cases hs))
  rename_i c1 c2
  simp only[AC.seq.injEq]at hs
  simp only[XC.ok,AG]at hok
  rw[jR]at h
  refine wp_seq (ihp c1 hs.1 hok.1 s _ kx kr h a w _ hI (fun s' a' w' h' hI'=>?_) (fun id s' a' w' h' hI'=>hx id s' a' w' h' hI') (fun s' a' w' h' hI'=>hr s' a' w' h' hI'))
  exact ihq c2 hs.2 hok.2 s' kn kx kr h' a' w' Q hI' hn hx hr
 | cond o p q ihp ihq=>
  intro c hs hok s kn kx kr h a w Q hI hn hx hr
  cases c<;>simp only[XC.strip,CV]at hs<;>(try (cases hs;done))
  ·rename_i i o d;cases d<;>(first | (cases hs;done) | (simp only[CV]at hs;split at hs<;>cases hs))
  rename_i co c1 c2
  simp only[AC.cond.injEq]at hs
  obtain⟨rfl,h1,h2⟩:=hs
  simp only[XC.ok,AG]at hok
  rw[eK]at h
  obtain⟨v,hv,_,h⟩:=Ah h
  obtain⟨cb,rfl,h9⟩:=Fi h
  have hI2:=hI
  obtain⟨R,B,g1,g2,g3,g4,g5,g6,g7⟩:=hI2
  have hev:=KV (a:=a) g4.env g3.rel.globOk hv
  cases cb with
  | true=>exact wp_cond_true hev (ihp c1 h1 hok.1 s kn kx kr h9 a w Q hI hn hx hr)
  | false=>exact wp_cond_false hev (ihq c2 h2 hok.2 s kn kx kr h9 a w Q hI hn hx hr)
 | block id p ih=>
  intro c hs hok s kn kx kr h a w Q hI hn hx hr
  cases c<;>simp only[XC.strip,CV]at hs<;>(try (cases hs;done))
  ·rename_i i o d;cases d<;>(first | (cases hs;done) | (simp only[CV]at hs;split at hs<;>cases hs))
  rename_i i c1
  simp only[AC.block.injEq]at hs
  obtain⟨rfl,hs⟩:=hs
  rw[W1]at h
  refine wp_block (ih c1 hs hok s kn _ kr h a w _ hI (fun s' a' w' h' hI'=>hn s' a' w' h' hI') (fun j s' a' w' h' hI'=>?_) (fun s' a' w' h' hI'=>hr s' a' w' h' hI'))
  show Exit.inBlock id Q (.exit j) a' w'
  simp only[Exit.inBlock]
  unfold Bf at h'
  split at h'
  ·rename_i hj
   rw[AU]at hj
   rw[if_pos hj];exact hn s' a' w' h' hI'
  ·rename_i hj
   rw[if_neg (fun hh=>by rw[<-AU,hj]at hh;cases hh)];exact hx j s' a' w' h' hI'
 | loop ts ms rs p ih=>
  intro c hs hok s kn kx kr h a w Q hI hn hx hr
  cases c<;>simp only[XC.strip,CV]at hs<;>(try (cases hs;done))
  ·rename_i i o d;cases d<;>(first | (cases hs;done) | (simp only[CV]at hs;split at hs<;>cases hs))
  rename_i c1
  simp only[AC.loop.injEq]at hs
  rw[eC]at h
  obtain⟨s0,h,hI⟩:=Oy h hI
  have key:∀(n:Nat) (s:St) (a:Act) (w:World),BN (fun rec s'=>Ay C.E D W N p s' (fun s''=>JL ts ms rs s'' rec) kx kr) n s=some res->N6 C nR R0 nt s a w->Code.rounds P c1 Q n a w:=by
   intro n
   induction n with
   | zero=>intro s a w h;cases h
   | succ n ihn=>
    intro s a w h hI
    have h:Ay C.E D W N p s (fun s''=>JL ts ms rs s'' (BN (fun rec s'=>Ay C.E D W N p s' (fun s''=>JL ts ms rs s'' rec) kx kr) n)) kx kr=some res:=h
    rw[rounds_succ]
    refine ih c1 hs hok s _ kx kr h a w _ hI (fun s' a' w' h' hI'=>?_) (fun id s' a' w' h' hI'=>hx id s' a' w' h' hI') (fun s' a' w' h' hI'=>hr s' a' w' h' hI')
    obtain⟨s2,h2,hI2⟩:=Oy h' hI'
    exact ihn s2 a' w' h2 hI2
  exact wp_loop_rounds N (key N s0 a w h hI)
theorem VR {α β:Type} {x:Result α} {g:α->World->Result β} {z:β} {w:World} (h:Result.andThen x g = .ok z w):∃y w2,x = .ok y w2/\g y w2 = .ok z w:=by
 cases x with
 | ok y w2=>exact⟨y,w2,rfl,h⟩
 | _=>cases h
theorem YW {R:Cz} {B:Bs} {s:St} {w:World} {a:Act} (hm:TO C R B s.r s.U w) (he:HH R s.e a.tmps) (hq:TM B s.q a.tmps):∀(rs:List ResultVar) (as:List AR) (J:List V->AF) (res:V × H),Gc P rs=some as->DR C.E s as J=some res ->
  ∃l xs,J l=some res/\A1 R l=some xs/\(rs.mapM (m:=Sem) fun
   | .tmp t=>pure (a.tmps.getD t undef)
   | .cell b t=>do loadVar t (<-asAddr (a.tmps.getD b undef))).run P w = .ok xs w
 | [],as,J,res,hc,h=>by
  simp only[Gc,AQ.injEq]at hc;subst hc
  exact⟨[],[],h,rfl,rfl⟩
 | r::rs,as,J,res,hc,h=>by
  simp only[Gc]at hc
  cases hr:PF P r with
  | none=>rw[hr]at hc;cases hc
  | some ar=>
   cases hrs:Gc P rs with
   | none=>rw[hr,hrs]at hc;cases hc
   | some as'=>
    rw[hr,hrs]at hc
    simp only[AQ.injEq]at hc
    subst hc
    have one:∀(C2:Cx) (R2:Cz) (U2:H) (e2:B6) (v:V),Dt C2 R2 U2 w->B7 R2 e2 a.tmps->LL C2.E e2 U2 [ar]=some [v]->Le R R2->(∃x,Ao R v=some x)->DR C.E s as' (fun l=>J (v::l))=some res ->
      ∃l xs,J l=some res/\A1 R l=some xs/\((r::rs).mapM (m:=Sem) fun
       | .tmp t=>pure (a.tmps.getD t undef)
       | .cell b t=>do loadVar t (<-asAddr (a.tmps.getD b undef))).run P w = .ok xs w:=by
     intro C2 R2 U2 e2 v h1 h2 h3 hle ⟨x,hx⟩ h4
     obtain⟨xs,h5,h6⟩:=N9 (P:=P) h1 h2 [r] [ar] [v] (by simp only[Gc,hr]) h3
     obtain⟨y,ys,h7,h8,rfl⟩:=Be.1 h5
     simp only[A1,AQ.injEq]at h8;subst h8
     have:=Cr hle v x hx
     rw[h7]at this;cases this
     obtain⟨l,xs,g1,g2,g3⟩:=YW hm he hq rs as' _ res hrs h4
     refine⟨v::l,_,g1,Be.2 ⟨_,_,hx,g2,rfl⟩,?_⟩
     rw[Tw]at h6 ⊢
     rw[Sem.run_bind]at h6 ⊢
     obtain⟨y2,w2,e1,e2⟩:=VR h6
     simp only[Sem.run_bind,List.mapM_nil,Sem.run_pure,Result.andThen_ok,Result.ok.injEq,List.cons.injEq,and_true]at e2
     obtain⟨rfl,rfl⟩:=e2
     refine(congrArg (fun r=>Result.andThen r _) e1).trans ?_
     simp only[Result.andThen_ok,Sem.run_bind,g3,Sem.run_pure]
    cases r with
    | tmp t=>
     simp only[PF,AQ.injEq]at hr
     subst hr
     simp only[DR]at h
     unfold CU at h
     simp only at h
     cases hl:look s.e t with
     | none=>rw[hl]at h;cases h
     | some v=>
      rw[hl]at h
      obtain⟨x,hx1,hx2⟩:=he.at_ t v hl
      have hge:Ga s.e t=v:=by simp only[Ga,hl]
      refine one C R s.U s.e v hm.rel he.env ?_ (Le.refl _) ⟨x,hx2⟩ h
      simp only[LL,hge,MA hx2]
    | cell t ty=>
     simp only[PF]at hr
     cases hs:Gj P ty with
     | none=>rw[hs]at hr;cases hr
     | some n=>
      rw[hs]at hr
      simp only[AQ.injEq]at hr
      subst hr
      simp only[DR]at h
      split at h
      ·rename_i m off hqt
       obtain⟨i,hi1,hi2⟩:=hq.at_ t m off hqt
       split at h
       ·rename_i cs hcs
        have hr2:=hm.priv.one hm.rel hi1 hcs
        have he2:B7 (IP R s.U.next i) [(t,.ptr s.U.next off)] a.tmps:=B7.cons ⟨fun k v hk=>by simp[look]at hk⟩ hi2 (DH (CN _ _ _))
        have hle:Le R (IP R s.U.next i):=(E6 R s.U.next i).le hm.rel.fresh
        obtain⟨_,l',hl',hok⟩:=hm.priv.at_ m i hi1
        rw[hcs]at hl';cases hl'
        obtain⟨arr,el,lo,hi,_,hh,_⟩:=hok
        have hgp:Ga [(t,V.ptr s.U.next off)] t = .ptr s.U.next off:=by simp[Ga,look]
        have hrd:rd C.E ⟨s.U.next+1,[(s.U.next,.cells cs)]⟩ s.U.next=some cs:=by simp[rd,look]
        split at h
        ·obtain⟨v,hv,h⟩:=GU h
         obtain⟨x,hx,_⟩:=hh off v hv
         refine one _ _ _ _ v hr2 he2 ?_ hle ⟨x,hx⟩ h
         simp only[LL,hgp,hrd,hv]
        ·rename_i n
         obtain⟨hb,h⟩:=GN h
         obtain⟨xs,hxs,_⟩:=hh.cells (by simpa using hb)
         refine one _ _ _ _ _ hr2 he2 ?_ hle ⟨_,Dn hxs⟩ h
         simp only[LL,hgp,Lq,hrd,hb,if_true]
       ·cases h
      ·obtain⟨p,hp,_,h⟩:=Ah h
       obtain⟨b,o,rfl,h9⟩:=EE h
       have hgp:Ga s.e t = .ptr b o:=hp
       cases n with
       | none=>
        simp only at h9
        obtain⟨l,hl,h9⟩:=Jq h9
        obtain⟨v,hv,h9⟩:=GU h9
        obtain⟨i,arr,el,fr,_,_,hold⟩:=hm.rel.read hl
        obtain⟨x,hx,_⟩:=hold o v hv
        refine one C R s.U s.e v hm.rel he.env ?_ (Le.refl _) ⟨x,hx⟩ h9
        simp only[LL,hgp,hl,hv]
       | some n=>
        simp only at h9
        obtain⟨l,hl,h9⟩:=Jq h9
        obtain⟨hb,h9⟩:=GN h9
        obtain⟨i,arr,el,fr,_,_,hold⟩:=hm.rel.read hl
        obtain⟨xs,hxs,_⟩:=hold.cells (by simpa using hb)
        refine one C R s.U s.e _ hm.rel he.env ?_ (Le.refl _) ⟨_,Dn hxs⟩ h9
        simp only[LL,hgp,Lq,hl,hb,if_true]
theorem pe {E:EB} {G:Nat->Bool} (hD:∀f,Ce P E G f (D f)) {W:AH} (hW:Pw P E G W) (hmix:P.follows .mixedOrders=true) (N:Nat) {f:FuncId} {fn:Func} (hf:P.funcs[f]? = some fn)
  {xf:Dv} {af':fL} (hc:MO P G fn=some af') (hs:xf.strip=af') (hxok:xf.body.ok=true) (hok:JB P f=true):Ce P E G f (B9 E D W N xf):=by
 intro C hE hG R U w args xs v U' h hrel hxs
 subst hE hG
 refine⟨hok,?_⟩
 unfold MO at hc
 cases hb:fn.body with
 | none=>rw[hb]at hc;cases hc
 | some c=>
  cases hr:Gc P fn.results.toList with
  | none=>rw[hb,hr]at hc;cases hc
  | some rs=>
   rw[hb,hr]at hc
   simp only[AQ.injEq]at hc
   rw[<-hs]at hc
   obtain⟨nt,params,resl,body⟩:=xf
   simp only[Dv.strip,fL.mk.injEq]at hc
   obtain⟨rfl,rfl,_,hbody⟩:=hc
   unfold B9 at h
   simp only at h
   have h:=Jp _ _ _ _ h
   have hlen:=Bh hxs
   refine calls_of_wp hf hb ?_
   have hsz:fn.ntmps<=(xs.toArray++HB (fn.ntmps-xs.toArray.size) undef).size:=by simp;omega
   have harg:∀(l:List V) (ys:List Value) (k:Nat),A1 R l=some ys->∀(t:Nat) (v:V),look (N3 k l) t=some v->∃y,k<=t/\ys[t-k]? = some y/\Ao R v=some y:=by
    intro l
    induction l with
    | nil=>intro ys k _ t v h;simp[N3,look]at h
    | cons u l ih=>
     intro ys k hc t v h
     obtain⟨y,zs,hy,hz,rfl⟩:=Be.1 hc
     simp only[N3,look]at h
     by_cases hk:k=t
     ·subst hk
      rw[if_pos (by simp)]at h
      cases h
      exact⟨y,AK _,by simp,hy⟩
     ·rw[if_neg (by simpa using hk)]at h
      obtain⟨q,h1,h2,h3⟩:=ih zs (k+1) hz t v h
      exact⟨q,by omega,by rw[show t-k=(t-(k+1))+1 by omega,Bb];exact h2,h3⟩
   have he0:HH R (N3 0 args) (xs.toArray++HB (fn.ntmps-xs.toArray.size) undef):=by
    refine⟨fun k u hk=>?_⟩
    obtain⟨y,_,h2,h3⟩:=harg args xs 0 hxs k u hk
    refine⟨y,?_,h3⟩
    rw[Tu]at h2
    have hlt:k<xs.length:=by
     rcases Av k xs.length with h|h
     ·exact h
     ·rw[BF h]at h2;cases h2
    rw[Lp (by simpa using hlt)]
    simpa using h2
   have fin:∀(s':St) (a':Act) (w':World),(DR C.E s' rs fun l=>some (Dh l,s'.U))=some (v,U')->N6 C U.next R fn.ntmps s' a' w' ->
     a'.defers=[]/\∃x,(results fn a'.tmps).run P w' = .ok x w'/\∃R' x',G6 U.next R R'/\U.next<=U'.next/\Dt C R' U' w'/\Ao R' v=some x'/\Ending.returned x = .returned x':=by
    intro s' a' w' h' ⟨R1,B1,k1,k2,k3,k4,k5,k6,k7⟩
    obtain⟨l,ys,g1,g2,g3⟩:=YW (P:=P) k3 k4 k5 fn.results.toList rs _ _ hr h'
    simp only[AQ.injEq,Prod.mk.injEq]at g1
    obtain⟨rfl,rfl⟩:=g1
    have hres:(results fn a'.tmps).run P w' = .ok (if h:ys.toArray.size=1 then ys.toArray[0] else .tuple ys.toArray) w':=by
     unfold results
     refine(Sem.run_bind P w' _ _).trans ?_
     rw[Md,Sem.run_map]
     refine(congrArg (fun r=>Result.andThen (Result.andThen r _) _) g3).trans rfl
    exact⟨k7,_,hres,R1,_,k1,k2,k3.rel,Yf g2,rfl⟩
   refine rV (C:=C) hD hW hmix N fn.ntmps body c hbody.symm hxok _ _ _ _ h _ w _ ⟨R,fun _=>none,G6.refl _ _,AK _,⟨hrel,⟨fun m i hm=>(by cases hm),fun m m' i i' hm=>(by cases hm),fun m i hm=>(by cases hm)⟩⟩,he0,⟨fun t m off hq=>(by simp[look]at hq)⟩,hsz,rfl⟩ ?_ ?_ ?_
   ·intro s' a' w' h' hI'
    obtain⟨h1,x,h2,h3⟩:=fin s' a' w' h' hI'
    exact⟨h1,x,h2,h3⟩
   ·intro id s' a' w' h' _;cases h'
   ·intro s' a' w' h' hI'
    obtain⟨h1,x,h2,h3⟩:=fin s' a' w' h' hI'
    exact⟨h1,x,h2,h3⟩
end Go.Og
namespace Go.Og
def okB (a:AF):Bool:=match a with
 | some (.bool true,_)=>true
 | _=>false
theorem iD {a:AF} (h:okB a=true):∃U,a=some (.bool true,U):=by
 unfold okB at h
 split at h
 ·exact⟨_,rfl⟩
 ·cases h
def ij (ng:Nat):Cz:=fun id=>if id<ng then some ⟨id,0,0⟩else none
theorem ABi {G:Nat->Bool} {ng n0:Nat} (hG:∀g,G g=true->g<ng) (hn:ng<=n0) (w:World) :
  Dt ⟨fun blk=>w.heap.size<=blk,w,[],G⟩ (ij ng) ⟨n0,[]⟩ w where
 fresh id hid:=by
  have hid':n0<=id:=hid
  unfold ij;rw[if_neg (by omega)]
 own id b hb:=by simp[look]at hb
 inj id id' b b' i i' hb:=by simp[look]at hb
 ext id b hb:=by simp[look]at hb
 glob g hg:=⟨⟨g,0,0⟩,by unfold ij;rw[if_pos (hG g hg)],rfl,rfl⟩
 fr _ _:=rfl
 size:=AK _
 new _ h:=h
 os:=rfl
 tape:=rfl
 output:=rfl
def PL (ng:Nat) (l:List (Nat × BI)):Cz:=fun id=>if id<ng then some ⟨id,0,0⟩else look l id
theorem Ip.lt {R:Cz} {i:BI} {b:GM} {w:World} (h:Ip R i b w):i.blk<w.heap.size:=by
 cases b with
 | cells l=>
  obtain⟨arr,el,fr,h1,_⟩:=h
  exact(ABg.1 h1).1
 | _=>exact h.elim
theorem We {G:Nat->Bool} {ng n0:Nat} (hG:∀g,G g=true->g<ng) (hn:ng<=n0) (l:List (Nat × BI)) (E:EB) (w:World) (hl:∀id i,look l id=some i->id<n0)
  (hE:∀id b,look E id=some b->∃i,PL ng l id=some i/\Ip (PL ng l) i b w) :
  Dt ⟨fun blk=>w.heap.size<=blk,w,E,G⟩ (PL ng l) ⟨n0,[]⟩ w where
 fresh id hid:=by
  have hid':n0<=id:=hid
  unfold PL;rw[if_neg (by omega)]
  cases hk:look l id with
  | none=>rfl
  | some i=>have:=hl id i hk;omega
 own id b hb:=by simp[look]at hb
 inj id id' b b' i i' hb:=by simp[look]at hb
 ext id b hb:=by
  obtain⟨i,h1,h2⟩:=hE id b hb
  exact⟨i,h1,Nat.not_le.2 h2.lt,h2⟩
 glob g hg:=⟨⟨g,0,0⟩,by unfold PL;rw[if_pos (hG g hg)],rfl,rfl⟩
 fr _ _:=rfl
 size:=AK _
 new _ h:=h
 os:=rfl
 tape:=rfl
 output:=rfl
set_option linter.unusedVariables false
noncomputable section
section
variable {R S:Cz} {n0 d:Nat}
theorem Jw {α:Type}:∀(l m:List (Nat × α)) (id:Nat),look (l++m) id=match look l id with | some b=>some b | none=>look m id
 | [],m,id=>rfl
 | (k,b)::l,m,id=>by
  simp only[GG,look]
  cases Ak k id with
  | true=>rfl
  | false=>simpa using Jw l m id
end
def Yd:List (V × V)->List (V × V)->Bool
 | [],[]=>true
 | p::l,q::m=>V.beq p.1 q.1&&V.beq p.2 q.2&&Yd l m
 | _,_=>false
theorem US:∀{l m:List (V × V)},Yd l m=true->l=m
 | [],[],_=>rfl
 | (a,b)::l,(c,d)::m,h=>by
  simp only[Yd,AG]at h
  rw[M3 _ _ h.1.1,M3 _ _ h.1.2,US h.2]
 | [],_::_,h=>by cases h
 | _::_,[],h=>by cases h
def jd:GM->GM->Bool
 | .cells a,.cells b=>Kh a b
 | .map a,.map b=>Yd a b
 | _,_=>false
theorem jc {a b:GM} (h:jd a b=true):a=b:=by
 cases a<;>cases b<;>simp only[jd,DE]at h
 ·rw[KZ _ _ h]
 ·rw[US h]
def dW:EB->EB->Bool
 | [],_=>true
 | p::l,m=>(match BU m p.1 with
  | some b=>jd b p.2
  | none=>false)&&dW l m
theorem OD:∀{l m:EB},dW l m=true->∀p∈l,look m p.1=some p.2
 | [],_,_,p,hp=>by cases hp
 | q::l,m,h,p,hp=>by
  simp only[dW,AG,A5]at h
  rcases Ax.1 hp with rfl|hp
  ·have h1:=h.1
   cases hb:look m p.1 with
   | none=>rw[hb]at h1;cases h1
   | some b=>rw[hb]at h1;rw[jc h1]
  ·exact OD h.2 p hp
theorem jW {P:Program} {w:World} {r:Reach} {base:Nat} {t:TypeId} {k:IntKind} {v:Value} (ht:P.underlying t=some (.int k)) (h:Cell.okWide P w r base t v):∃n,v = .int k n:=by
 unfold Cell.okWide at h
 rw[ht]at h
 unfold Cell.ok at h
 rw[ht]at h
 cases v<;>simp at h
 obtain⟨rfl,_⟩:=h
 exact⟨_,rfl⟩
theorem W6 {P:Program} {w:World} {r:Reach} {base:Nat} {t e:TypeId} {v:Value} (ht:P.underlying t=some (.slice e)) (h:Cell.okWide P w r base t v) :
  v = .slice none 0 0\/∃blk off len cap,v = .slice (some ⟨blk,off,none⟩) len cap:=by
 unfold Cell.okWide at h
 rw[ht]at h
 unfold Cell.ok at h
 rw[ht]at h
 cases v<;>simp at h
 rename_i a len cap
 cases a with
 | none=>
  cases len<;>cases cap<;>first | exact .inl rfl | simp at h
 | some a=>
  obtain⟨b,o,s⟩:=a
  simp only at h
  obtain⟨_,_,_,hs,_⟩:=h
  simp only at hs
  subst hs
  exact .inr ⟨_,_,_,_,rfl⟩
end
end Go.Og
set_option linter.all false
namespace Go.Og
def XL.aA (b:Nat) (x0 x1 x2:Nat):XL := .b b .add .none (.t x0) (.i x1)<|.m x2 b<|.nil
def XL.aB (b:Nat) (x0 x1:Nat) (x2:CZ) (r:XL):XL := .f b x0 x1<|.l (b+1) x2 b<|r
def XL.aC (b:Nat) (x0 x1:Nat) (r:XL):XL := .m b x0<|.m (b+1) x1<|r
def XL.aD (b:Nat) (x0 x1 x2:Nat):XL := .b b .eql .none (.t x0) (.i x1)<|.m x2 b<|.nil
def XL.aE (b:Nat) (x0 x1 x2 x3 x4:Nat) (r:XL):XL := .p b [x0,x1] (.faddr x2 (.t x3))<|.op (some (b+1)) .i [b,x4] (.load none (.t b))<|r
def XL.aF (b:Nat) (x0 x1:Nat):XL := .b b .lss .none (.t x0) (.t x1)<|.nil
def XL.aG (b:Nat) (x0 x1 x2 x3:Nat) (r:XL):XL := .P b (.extract x0 (.t x1))<|.P (b+1) (.extract x2 (.t x3))<|r
def XL.aH (b:Nat) (x0:Nat):XL := .m b x0<|.nil
def XL.aI (b:Nat) (x0 x1 x2 x3:Nat) (r:XL):XL := .f b x0 x1<|.op none .any [b] (.store x2 (.t b) (.i x3))<|r
def XL.aJ (b:Nat) (x0 x1 x2 x3 x4 x5:Nat) (r:XL):XL := .p b [x0,x1] (.faddr x2 (.t x3))<|.p (b+1) [b,x4] (.load none (.t b))<|.p (b+2) [(b+1),x5] (.len false (.t (b+1)))<|r
def XL.aK (b:Nat) (x0 x1 x2:Nat) (r:XL):XL := .aB b x0 x1 .i<|.b (b+2) .eql .none (.t (b+1)) (.i x2)<|r
def XL.aL (b:Nat) (x0 x1 x2:Nat) (x3:CZ) (x4:Nat) (r:XL):XL := .s b x0 x1 x2<|.O (b+1) x3 (.load (some x4) (.t b))<|r
def XL.aM (b:Nat) (x0:Nat) (r:XL):XL := .m b x0<|.n (b+1) b<|r
def XL.aN (b:Nat) (x0:Nat):XL := .q b x0<|.nil
def XL.aO (b:Nat) (x0 x1 x2 x3 x4:Nat) (r:XL):XL := .p b [x0,x1] (.faddr x2 (.t x3))<|.op (some (b+1)) .bool [b,x4] (.load none (.t b))<|r
def XL.aP (b:Nat) (x0 x1 x2:Nat) (r:XL):XL := .aB b x0 x1 .i<|.b (b+2) .neq .none (.t (b+1)) (.i x2)<|r
def XL.aQ (b:Nat) (x0 x1 x2 x3:Nat):XL := .p b [x0,x1] (.bin .gtr .none (.t x2) (.i x3))<|.nil
def XL.aR (b:Nat) (x0:Nat) (x1:CZ) (x2 x3 x4:Nat) (r:XL):XL := .m b x0<|.k (b+1) x1 x2 [(.t b),(.con (V.str ⟨x3,x4⟩))]<|r
def XL.aS (b:Nat) (x0 x1:Nat) (r:XL):XL := .aB b x0 x1 .any<|.u (b+2) (b+1)<|r
def XL.aT (b:Nat) (x0:V):XL := .c b x0<|.nil
def XL.aU (b:Nat) (x0:Nat) (x1:CZ) (x2 x3 x4:Nat):XL := .m b x0<|.k (b+1) x1 x2 [(.t b),(.con (V.str ⟨x3,x4⟩))]<|.nil
def XL.aV (b:Nat) (x0 x1 x2 x3:Nat):XL := .p b [x0,x1] (.bin .eql .none (.t x2) (.i x3))<|.nil
def XL.aW (b:Nat):XL := .c b V.nils<|.nil
def XL.aX (b:Nat) (x0 x1 x2:Nat) (x3:V) (x4 x5 x6:Nat) (x7:CZ) (x8 x9 x10 x11:Nat) (r:XL):XL := .p b [x0] (.buildSlice x1 x2 [x3] [(x4,x5,(.t x6))])<|.O (b+1) x7 (.append x8 x9 x10 (.t x11) (.t b))<|r
def XL.aY (b:Nat) (x0 x1:Nat) (r:XL):XL := .m b x0<|.b (b+1) .lss .none (.t b) (.i x1)<|r
def XL.aZ (b:Nat) (x0 x1 x2:Nat) (r:XL):XL := .aB b x0 x1 .any<|.m (b+2) x2<|r
def XL.bA (b:Nat) (x0 x1 x2 x3 x4 x5 x6:Nat) (r:XL):XL := .p b [x0,x1] (.mov (.t x2))<|.p (b+1) [x3,b,x4] (.iaddrS x5 (.t x6) (.t b))<|r
def XL.bB (b:Nat) (x0:CZ) (x1 x2:Nat) (x3:CZ) (x4 x5 x6:Nat) (r:XL):XL := .O b x0 (.load (some x1) (.t x2))<|.op none x3 [x4,b] (.store x5 (.t x6) (.t b))<|r
def XL.bC (b:Nat) (x0 x1 x2 x3 x4:Nat) (r:XL):XL := .p b [x0,x1] (.faddr x2 (.t x3))<|.p (b+1) [b,x4] (.load none (.t b))<|r
def XL.bD (b:Nat) (x0 x1 x2 x3 x4:Nat) (r:XL):XL := .p b [x0,x1] (.bin .eql .none (.t x2) (.i x3))<|.p (b+1) [b,x4] (.mov (.t b))<|r
def XL.bE (b:Nat) (x0:Nat) (x1:CZ) (x2 x3:Nat) (r:XL):XL := .m b x0<|.O (b+1) x1 (.load (some x2) (.t x3))<|r
def XL.bF (b:Nat) (x0 x1:Nat) (r:XL):XL := .m b x0<|.b (b+1) .neq .none (.t b) (.i x1)<|r
def XL.bG (b:Nat) (x0 x1 x2:Nat):XL := .p b [x0,x1] (.un .not (.t x2))<|.nil
def XL.bH (b:Nat) (x0 x1 x2 x3:Nat):XL := .f b x0 x1<|.w x2 b x3<|.nil
def XL.bI (b:Nat) (x0 x1:Nat) (x2:Eb) (x3 x4 x5:Nat) (r:XL):XL := .p b [x0,x1] x2<|.p (b+1) [x3,b,x4] (.idxStr (.t x5) (.t b))<|r
def XL.bJ (b:Nat) (x0 x1:Nat) (r:XL):XL := .aC b x0 x1<|.P (b+2) (.idxStr (.t b) (.t (b+1)))<|r
def XL.bK (b:Nat) (x0:Nat):XL := .P b (.un .not (.t x0))<|.nil
def XL.bL (b:Nat) (x0 x1:Nat) (x2:Eb) (x3:Nat) (r:XL):XL := .p b [x0,x1] x2<|.op (some (b+1)) .i [b,x3] (.load none (.t b))<|r
def XL.bM (b:Nat) (x0 x1:Nat) (x2:CZ) (x3:Nat) (r:XL):XL := .aC b x0 x1<|.k (b+2) x2 x3 [(.t b),(.t (b+1))]<|r
def XL.bN (b:Nat) (x0 x1:Nat) (x2:Eb) (x3 x4 x5:Nat) (r:XL):XL := .p b [x0,x1] x2<|.p (b+1) [b,x3] (.nilck (.t b))<|.p (b+2) [(b+1),x4] (.faddr x5 (.t (b+1)))<|r
def XL.bO (b:Nat):XL := .m b (b+2)<|.nil
def XL.bP (b:Nat) (x0 x1 x2 x3:Nat):XL := .p b [x0,x1] (.bin .neq .none (.t x2) (.i x3))<|.nil
def XL.bQ (b:Nat) (x0 x1 x2 x3:Nat):XL := .p b [x0,x1] (.bin .geq .none (.t x2) (.i x3))<|.nil
def XL.bR (b:Nat) (x0:Nat) (r:XL):XL := .m b x0<|.P (b+1) (.conv (.toInt .u64) (.t b))<|r
def XL.bS (b:Nat) (x0 x1:Nat):XL := .b b .gtr .none (.t x0) (.i x1)<|.nil
def XL.bT (b:Nat) (x0 x1 x2:Nat) (x3:CZ) (r:XL):XL := .s b x0 x1 x2<|.l (b+1) x3 b<|r
def XL.bU (b:Nat) (x0 x1:Nat) (x2:CZ) (x3 x4 x5:Nat):XL := .f b x0 x1<|.op none x2 [b,x3] (.store x4 (.t b) (.t x5))<|.nil
def XL.bV (b:Nat) (x0:CZ) (x1 x2:Nat) (x3:CZ) (x4 x5:Nat) (r:XL):XL := .O b x0 (.load (some x1) (.t x2))<|.k (b+1) x3 x4 [(.t b),(.i x5)]<|r
def XL.bW (b:Nat) (x0:CZ) (x1 x2 x3:Nat) (r:XL):XL := .O b x0 (.load (some x1) (.t x2))<|.m (b+1) x3<|r
def XL.bX (b:Nat) (x0 x1 x2 x3:Nat) (r:XL):XL := .p b [x0,x1] (.un .not (.t x2))<|.p (b+1) [b,x3] (.mov (.t b))<|r
def XL.bY (b:Nat) (x0 x1:Nat) (r:XL):XL := .aC b x0 x1<|.P (b+2) (.len true (.t (b+1)))<|r
def XL.bZ (b:Nat) (x0:Nat) (r:XL):XL := .P b (.un .not (.t x0))<|.m (b+1) b<|r
noncomputable section
section
variable {A B C H I ASU K L O P Q R AST V α β γ δ ε ζ η θ ι J μ:Type} {F:(St->AF)->St->AF}
theorem lp3 {S:A->B->C->St} {T:(A->B->C->AF)->A->B->C->AF} (X:∀Y:St->AF,(fun a b c=>F Y (S a b c))=T fun a b c=>Y (S a b c)) (M:Nat):(fun a b c=>BN F M (S a b c))=Nat.rec (fun _ _ _=>none) (fun _ Z=>T Z) M:=by
 induction M with
 | zero=>rfl
 | succ M Z=>exact(X (BN F M)).trans (congrArg T Z)
theorem xW {S:A->B->C->H->St} {T:(A->B->C->H->AF)->A->B->C->H->AF} (X:∀Y:St->AF,(fun a b c d=>F Y (S a b c d))=T fun a b c d=>Y (S a b c d)) (M:Nat):(fun a b c d=>BN F M (S a b c d))=Nat.rec (fun _ _ _ _=>none) (fun _ Z=>T Z) M:=by
 induction M with
 | zero=>rfl
 | succ M Z=>exact(X (BN F M)).trans (congrArg T Z)
theorem WU {S:A->B->C->H->I->St} {T:(A->B->C->H->I->AF)->A->B->C->H->I->AF} (X:∀Y:St->AF,(fun a b c d e=>F Y (S a b c d e))=T fun a b c d e=>Y (S a b c d e)) (M:Nat):(fun a b c d e=>BN F M (S a b c d e))=Nat.rec (fun _ _ _ _ _=>none) (fun _ Z=>T Z) M:=by
 induction M with
 | zero=>rfl
 | succ M Z=>exact(X (BN F M)).trans (congrArg T Z)
theorem tu {S:A->B->C->H->I->ASU->St} {T:(A->B->C->H->I->ASU->AF)->A->B->C->H->I->ASU->AF} (X:∀Y:St->AF,(fun a b c d e f=>F Y (S a b c d e f))=T fun a b c d e f=>Y (S a b c d e f)) (M:Nat):(fun a b c d e f=>BN F M (S a b c d e f))=Nat.rec (fun _ _ _ _ _ _=>none) (fun _ Z=>T Z) M:=by
 induction M with
 | zero=>rfl
 | succ M Z=>exact(X (BN F M)).trans (congrArg T Z)
theorem qc {S:A->B->C->H->I->ASU->K->St} {T:(A->B->C->H->I->ASU->K->AF)->A->B->C->H->I->ASU->K->AF} (X:∀Y:St->AF,(fun a b c d e f g=>F Y (S a b c d e f g))=T fun a b c d e f g=>Y (S a b c d e f g)) (M:Nat):(fun a b c d e f g=>BN F M (S a b c d e f g))=Nat.rec (fun _ _ _ _ _ _ _=>none) (fun _ Z=>T Z) M:=by
 induction M with
 | zero=>rfl
 | succ M Z=>exact(X (BN F M)).trans (congrArg T Z)
theorem lp8 {S:A->B->C->H->I->ASU->K->L->St} {T:(A->B->C->H->I->ASU->K->L->AF)->A->B->C->H->I->ASU->K->L->AF} (X:∀Y:St->AF,(fun a b c d e f g h=>F Y (S a b c d e f g h))=T fun a b c d e f g h=>Y (S a b c d e f g h)) (M:Nat):(fun a b c d e f g h=>BN F M (S a b c d e f g h))=Nat.rec (fun _ _ _ _ _ _ _ _=>none) (fun _ Z=>T Z) M:=by
 induction M with
 | zero=>rfl
 | succ M Z=>exact(X (BN F M)).trans (congrArg T Z)
theorem lp9 {S:A->B->C->H->I->ASU->K->L->O->St} {T:(A->B->C->H->I->ASU->K->L->O->AF)->A->B->C->H->I->ASU->K->L->O->AF} (X:∀Y:St->AF,(fun a b c d e f g h i=>F Y (S a b c d e f g h i))=T fun a b c d e f g h i=>Y (S a b c d e f g h i)) (M:Nat):(fun a b c d e f g h i=>BN F M (S a b c d e f g h i))=Nat.rec (fun _ _ _ _ _ _ _ _ _=>none) (fun _ Z=>T Z) M:=by
 induction M with
 | zero=>rfl
 | succ M Z=>exact(X (BN F M)).trans (congrArg T Z)
theorem xX {S:A->B->C->H->I->ASU->K->L->O->P->St} {T:(A->B->C->H->I->ASU->K->L->O->P->AF)->A->B->C->H->I->ASU->K->L->O->P->AF} (X:∀Y:St->AF,(fun a b c d e f g h i j=>F Y (S a b c d e f g h i j))=T fun a b c d e f g h i j=>Y (S a b c d e f g h i j)) (M:Nat):(fun a b c d e f g h i j=>BN F M (S a b c d e f g h i j))=Nat.rec (fun _ _ _ _ _ _ _ _ _ _=>none) (fun _ Z=>T Z) M:=by
 induction M with
 | zero=>rfl
 | succ M Z=>exact(X (BN F M)).trans (congrArg T Z)
theorem AKT {S:A->B->C->H->I->ASU->K->L->O->P->Q->R->AST->St} {T:(A->B->C->H->I->ASU->K->L->O->P->Q->R->AST->AF)->A->B->C->H->I->ASU->K->L->O->P->Q->R->AST->AF} (X:∀Y:St->AF,(fun a b c d e f g h i j k l m=>F Y (S a b c d e f g h i j k l m))=T fun a b c d e f g h i j k l m=>Y (S a b c d e f g h i j k l m)) (M:Nat):(fun a b c d e f g h i j k l m=>BN F M (S a b c d e f g h i j k l m))=Nat.rec (fun _ _ _ _ _ _ _ _ _ _ _ _ _=>none) (fun _ Z=>T Z) M:=by
 induction M with
 | zero=>rfl
 | succ M Z=>exact(X (BN F M)).trans (congrArg T Z)
theorem AKS {S:A->B->C->H->I->ASU->K->L->O->P->Q->R->AST->V->St} {T:(A->B->C->H->I->ASU->K->L->O->P->Q->R->AST->V->AF)->A->B->C->H->I->ASU->K->L->O->P->Q->R->AST->V->AF} (X:∀Y:St->AF,(fun a b c d e f g h i j k l m n=>F Y (S a b c d e f g h i j k l m n))=T fun a b c d e f g h i j k l m n=>Y (S a b c d e f g h i j k l m n)) (M:Nat):(fun a b c d e f g h i j k l m n=>BN F M (S a b c d e f g h i j k l m n))=Nat.rec (fun _ _ _ _ _ _ _ _ _ _ _ _ _ _=>none) (fun _ Z=>T Z) M:=by
 induction M with
 | zero=>rfl
 | succ M Z=>exact(X (BN F M)).trans (congrArg T Z)
theorem AKR {S:A->B->C->H->I->ASU->K->L->O->P->Q->R->AST->V->α->β->γ->δ->St} {T:(A->B->C->H->I->ASU->K->L->O->P->Q->R->AST->V->α->β->γ->δ->AF)->A->B->C->H->I->ASU->K->L->O->P->Q->R->AST->V->α->β->γ->δ->AF} (X:∀Y:St->AF,(fun a b c d e f g h i j k l m n o p q r=>F Y (S a b c d e f g h i j k l m n o p q r))=T fun a b c d e f g h i j k l m n o p q r=>Y (S a b c d e f g h i j k l m n o p q r)) (M:Nat):(fun a b c d e f g h i j k l m n o p q r=>BN F M (S a b c d e f g h i j k l m n o p q r))=Nat.rec (fun _ _ _ _ _ _ _ _ _ _ _ _ _ _ _ _ _ _=>none) (fun _ Z=>T Z) M:=by
 induction M with
 | zero=>rfl
 | succ M Z=>exact(X (BN F M)).trans (congrArg T Z)
theorem AKQ {S:A->B->C->H->I->ASU->K->L->O->P->Q->R->AST->V->α->β->γ->δ->ε->St} {T:(A->B->C->H->I->ASU->K->L->O->P->Q->R->AST->V->α->β->γ->δ->ε->AF)->A->B->C->H->I->ASU->K->L->O->P->Q->R->AST->V->α->β->γ->δ->ε->AF} (X:∀Y:St->AF,(fun a b c d e f g h i j k l m n o p q r s=>F Y (S a b c d e f g h i j k l m n o p q r s))=T fun a b c d e f g h i j k l m n o p q r s=>Y (S a b c d e f g h i j k l m n o p q r s)) (M:Nat):(fun a b c d e f g h i j k l m n o p q r s=>BN F M (S a b c d e f g h i j k l m n o p q r s))=Nat.rec (fun _ _ _ _ _ _ _ _ _ _ _ _ _ _ _ _ _ _ _=>none) (fun _ Z=>T Z) M:=by
 induction M with
 | zero=>rfl
 | succ M Z=>exact(X (BN F M)).trans (congrArg T Z)
theorem ADx {S:A->B->C->H->I->ASU->K->L->O->P->Q->R->AST->V->α->β->γ->δ->ε->ζ->η->θ->ι->St} {T:(A->B->C->H->I->ASU->K->L->O->P->Q->R->AST->V->α->β->γ->δ->ε->ζ->η->θ->ι->AF)->A->B->C->H->I->ASU->K->L->O->P->Q->R->AST->V->α->β->γ->δ->ε->ζ->η->θ->ι->AF} (X:∀Y:St->AF,(fun a b c d e f g h i j k l m n o p q r s t u v w=>F Y (S a b c d e f g h i j k l m n o p q r s t u v w))=T fun a b c d e f g h i j k l m n o p q r s t u v w=>Y (S a b c d e f g h i j k l m n o p q r s t u v w)) (M:Nat):(fun a b c d e f g h i j k l m n o p q r s t u v w=>BN F M (S a b c d e f g h i j k l m n o p q r s t u v w))=Nat.rec (fun _ _ _ _ _ _ _ _ _ _ _ _ _ _ _ _ _ _ _ _ _ _ _=>none) (fun _ Z=>T Z) M:=by
 induction M with
 | zero=>rfl
 | succ M Z=>exact(X (BN F M)).trans (congrArg T Z)
theorem AKP {S:A->B->C->H->I->ASU->K->L->O->P->Q->R->AST->V->α->β->γ->δ->ε->ζ->η->θ->ι->J->St} {T:(A->B->C->H->I->ASU->K->L->O->P->Q->R->AST->V->α->β->γ->δ->ε->ζ->η->θ->ι->J->AF)->A->B->C->H->I->ASU->K->L->O->P->Q->R->AST->V->α->β->γ->δ->ε->ζ->η->θ->ι->J->AF} (X:∀Y:St->AF,(fun a b c d e f g h i j k l m n o p q r s t u v w x=>F Y (S a b c d e f g h i j k l m n o p q r s t u v w x))=T fun a b c d e f g h i j k l m n o p q r s t u v w x=>Y (S a b c d e f g h i j k l m n o p q r s t u v w x)) (M:Nat):(fun a b c d e f g h i j k l m n o p q r s t u v w x=>BN F M (S a b c d e f g h i j k l m n o p q r s t u v w x))=Nat.rec (fun _ _ _ _ _ _ _ _ _ _ _ _ _ _ _ _ _ _ _ _ _ _ _ _=>none) (fun _ Z=>T Z) M:=by
 induction M with
 | zero=>rfl
 | succ M Z=>exact(X (BN F M)).trans (congrArg T Z)
theorem AKO {S:A->B->C->H->I->ASU->K->L->O->P->Q->R->AST->V->α->β->γ->δ->ε->ζ->η->θ->ι->J->μ->St} {T:(A->B->C->H->I->ASU->K->L->O->P->Q->R->AST->V->α->β->γ->δ->ε->ζ->η->θ->ι->J->μ->AF)->A->B->C->H->I->ASU->K->L->O->P->Q->R->AST->V->α->β->γ->δ->ε->ζ->η->θ->ι->J->μ->AF} (X:∀Y:St->AF,(fun a b c d e f g h i j k l m n o p q r s t u v w x y=>F Y (S a b c d e f g h i j k l m n o p q r s t u v w x y))=T fun a b c d e f g h i j k l m n o p q r s t u v w x y=>Y (S a b c d e f g h i j k l m n o p q r s t u v w x y)) (M:Nat):(fun a b c d e f g h i j k l m n o p q r s t u v w x y=>BN F M (S a b c d e f g h i j k l m n o p q r s t u v w x y))=Nat.rec (fun _ _ _ _ _ _ _ _ _ _ _ _ _ _ _ _ _ _ _ _ _ _ _ _ _=>none) (fun _ Z=>T Z) M:=by
 induction M with
 | zero=>rfl
 | succ M Z=>exact(X (BN F M)).trans (congrArg T Z)
end
def cB (a:AF) (J:Bool->H->AF):AF:=CM a fun u s=>Ct u fun x=>J x s
def cI (a:AF) (J:Int->H->AF):AF:=CM a fun u s=>Ch .i64 u fun x=>J x s
def cS (a:AF) (J:BS->H->AF):AF:=CM a fun u s=>G7 u fun x=>J x s
def cT (a:AF) (J:List V->H->AF):AF:=CM a fun u s=>L0 u fun l=>J l s
def cA (a:AF) (J:List V->H->AF):AF:=CM a fun u s=>CW u fun l=>J l s
def c0 (a:AF) (J:H->AF):AF:=CM a fun u s=>L0 u fun l=>BJ l (J s)
def lI (E:EB) (U:H) (b o:Nat) (J:Int->AF):AF:=EG E U b o fun u=>Ch .i64 u J
def lB (E:EB) (U:H) (b o:Nat) (J:Bool->AF):AF:=EG E U b o fun u=>Ct u J
def lS (E:EB) (U:H) (b o:Nat) (J:BS->AF):AF:=EG E U b o fun u=>G7 u J
def lL (E:EB) (U:H) (b o:Nat) (J:Nat->AF):AF:=EG E U b o fun u=>A0 u J
def iX (E:EB) (U:H) (n:Nat) (u:V) (i:Int) (J:List V->AF):AF:=AW n u i fun b o=>Bv E U b o n J
def iY (E:EB) (U:H) (n:Nat) (u:V) (i:Int) (J:V->AF):AF:=AW n u i fun b o=>EG E U b o J
def jX (E:EB) (U:H) (b o n:Nat) (i:Int) (J:List V->AF):AF:=EG E U b o fun u=>AW n u i fun b o=>Bv E U b o n J
def r0 (U:H):AF:=some (.tup [],U)
def rB (b:Bool) (U:H):AF:=some (.bool b,U)
def rI (n:Int) (U:H):AF:=some (.int .i64 n,U)
def iN (n:Nat):V := .int .i64 (AA n)
def sN (n w:Nat):V := .str (BS.mk n w)
def uA (l:List V) (J:BS->V->V->V->AF):AF:=T0 l fun x0 l=>Ae l fun x1 l=>Ae l fun x2 l=>Ae l fun x3 l=>BJ l (J x0 x1 x2 x3)
def uB (l:List V) (J:Int->Int->V->V->Int->V->AF):AF:=Dy .i64 l fun x0 l=>Dy .i64 l fun x1 l=>Ae l fun x2 l=>Ae l fun x3 l=>Dy .i64 l fun x4 l=>Ae l fun x5 l=>BJ l (J x0 x1 x2 x3 x4 x5)
def uC (l:List V) (J:V->Int->AF):AF:=Ae l fun x0 l=>Dy .i64 l fun x1 l=>BJ l (J x0 x1)
def uD (l:List V) (J:BS->Int->V->V->V->AF):AF:=T0 l fun x0 l=>Dy .i64 l fun x1 l=>Ae l fun x2 l=>Ae l fun x3 l=>Ae l fun x4 l=>BJ l (J x0 x1 x2 x3 x4)
def uE (l:List V) (J:Int->Int->AF):AF:=Dy .i64 l fun x0 l=>Dy .i64 l fun x1 l=>BJ l (J x0 x1)
def uF (l:List V) (J:V->V->AF):AF:=Ae l fun x0 l=>Ae l fun x1 l=>BJ l (J x0 x1)
def uG (l:List V) (J:V->Int->Int->AF):AF:=Ae l fun x0 l=>Dy .i64 l fun x1 l=>Dy .i64 l fun x2 l=>BJ l (J x0 x1 x2)
def uH (l:List V) (J:V->Int->BS->Int->V->V->V->Int->Int->AF):AF:=Ae l fun x0 l=>Dy .i64 l fun x1 l=>T0 l fun x2 l=>Dy .i64 l fun x3 l=>Ae l fun x4 l=>Ae l fun x5 l=>Ae l fun x6 l=>Dy .i64 l fun x7 l=>Dy .i64 l fun x8 l=>BJ l (J x0 x1 x2 x3 x4 x5 x6 x7 x8)
def uI (l:List V) (J:Int->BS->Int->AF):AF:=Dy .i64 l fun x0 l=>T0 l fun x1 l=>Dy .i64 l fun x2 l=>BJ l (J x0 x1 x2)
def uJ (l:List V) (J:Int->V->Bool->Bool->Bool->Bool->Int->Int->V->V->Int->Bool->Int->AF):AF:=Dy .i64 l fun x0 l=>Ae l fun x1 l=>Lr l fun x2 l=>Lr l fun x3 l=>Lr l fun x4 l=>Lr l fun x5 l=>Dy .i64 l fun x6 l=>Dy .i64 l fun x7 l=>Ae l fun x8 l=>Ae l fun x9 l=>Dy .i64 l fun x10 l=>Lr l fun x11 l=>Dy .i64 l fun x12 l=>BJ l (J x0 x1 x2 x3 x4 x5 x6 x7 x8 x9 x10 x11 x12)
def uK (l:List V) (J:Nat->Nat->Int->AF):AF:=Ae l fun x0 l=>B4 x0 fun b0 o0=>Dy .i64 l fun x1 l=>BJ l (J b0 o0 x1)
def uL (l:List V) (J:Nat->Nat->BS->AF):AF:=Ae l fun x0 l=>B4 x0 fun b0 o0=>T0 l fun x1 l=>BJ l (J b0 o0 x1)
def uM (l:List V) (J:Int->BS->Bool->Int->Int->Bool->Bool->Bool->Bool->Int->Int->V->V->Int->Bool->Int->AF):AF:=Dy .i64 l fun x0 l=>T0 l fun x1 l=>Lr l fun x2 l=>Dy .i64 l fun x3 l=>Dy .i64 l fun x4 l=>Lr l fun x5 l=>Lr l fun x6 l=>Lr l fun x7 l=>Lr l fun x8 l=>Dy .i64 l fun x9 l=>Dy .i64 l fun x10 l=>Ae l fun x11 l=>Ae l fun x12 l=>Dy .i64 l fun x13 l=>Lr l fun x14 l=>Dy .i64 l fun x15 l=>BJ l (J x0 x1 x2 x3 x4 x5 x6 x7 x8 x9 x10 x11 x12 x13 x14 x15)
def uN (l:List V) (J:V->Bool->AF):AF:=Ae l fun x0 l=>Lr l fun x1 l=>BJ l (J x0 x1)
def uO (l:List V) (J:Nat->Nat->Int->Int->AF):AF:=Ae l fun x0 l=>B4 x0 fun b0 o0=>Dy .i64 l fun x1 l=>Dy .i64 l fun x2 l=>BJ l (J b0 o0 x1 x2)
def uP (l:List V) (J:V->Bool->V->AF):AF:=Ae l fun x0 l=>Lr l fun x1 l=>Ae l fun x2 l=>BJ l (J x0 x1 x2)
def uQ (l:List V) (J:Int->V->AF):AF:=Dy .i64 l fun x0 l=>Ae l fun x1 l=>BJ l (J x0 x1)
def uR (l:List V) (J:BS->Int->AF):AF:=T0 l fun x0 l=>Dy .i64 l fun x1 l=>BJ l (J x0 x1)
def uS (l:List V) (J:Int->BS->AF):AF:=Dy .i64 l fun x0 l=>T0 l fun x1 l=>BJ l (J x0 x1)
def uT (l:List V) (J:Bool->Bool->Bool->Bool->Int->Int->AF):AF:=Lr l fun x0 l=>Lr l fun x1 l=>Lr l fun x2 l=>Lr l fun x3 l=>Dy .i64 l fun x4 l=>Dy .i64 l fun x5 l=>BJ l (J x0 x1 x2 x3 x4 x5)
def uU (l:List V) (J:Nat->Nat->Nat->Nat->Int->AF):AF:=Ae l fun x0 l=>B4 x0 fun b0 o0=>Ae l fun x1 l=>B4 x1 fun b1 o1=>Dy .i64 l fun x2 l=>BJ l (J b0 o0 b1 o1 x2)
def uV (l:List V) (J:V->BS->AF):AF:=Ae l fun x0 l=>T0 l fun x1 l=>BJ l (J x0 x1)
def uW (l:List V) (J:Int->Int->V->AF):AF:=Dy .i64 l fun x0 l=>Dy .i64 l fun x1 l=>Ae l fun x2 l=>BJ l (J x0 x1 x2)
def uX (l:List V) (J:Nat->Nat->Int->Int->Int->AF):AF:=Ae l fun x0 l=>B4 x0 fun b0 o0=>Dy .i64 l fun x1 l=>Dy .i64 l fun x2 l=>Dy .i64 l fun x3 l=>BJ l (J b0 o0 x1 x2 x3)
def uY (l:List V) (J:BS->Int->Bool->Bool->Int->Int->V->V->Int->V->Int->AF):AF:=T0 l fun x0 l=>Dy .i64 l fun x1 l=>Lr l fun x2 l=>Lr l fun x3 l=>Dy .i64 l fun x4 l=>Dy .i64 l fun x5 l=>Ae l fun x6 l=>Ae l fun x7 l=>Dy .i64 l fun x8 l=>Ae l fun x9 l=>Dy .i64 l fun x10 l=>BJ l (J x0 x1 x2 x3 x4 x5 x6 x7 x8 x9 x10)
def uZ (l:List V) (J:Bool->V->AF):AF:=Lr l fun x0 l=>Ae l fun x1 l=>BJ l (J x0 x1)
def uAA (l:List V) (J:Int->Int->AF):AF:=Dy .u64 l fun x0 l=>Dy .i64 l fun x1 l=>BJ l (J x0 x1)
def uAB (l:List V) (J:Bool->Int->AF):AF:=Lr l fun x0 l=>Dy .i64 l fun x1 l=>BJ l (J x0 x1)
def uAC (l:List V) (J:V->Int->V->AF):AF:=Ae l fun x0 l=>Dy .i64 l fun x1 l=>Ae l fun x2 l=>BJ l (J x0 x1 x2)
def uAD (l:List V) (J:Bool->Int->Int->Int->AF):AF:=Lr l fun x0 l=>Dy .i64 l fun x1 l=>Dy .i64 l fun x2 l=>Dy .i64 l fun x3 l=>BJ l (J x0 x1 x2 x3)
def uAE (l:List V) (J:V->Nat->Nat->Int->Int->AF):AF:=Ae l fun x0 l=>Ae l fun x1 l=>B4 x1 fun b1 o1=>Dy .i64 l fun x2 l=>Dy .i64 l fun x3 l=>BJ l (J x0 b1 o1 x2 x3)
def uAF (l:List V) (J:V->Int->Int->V->AF):AF:=Ae l fun x0 l=>Dy .i64 l fun x1 l=>Dy .i64 l fun x2 l=>Ae l fun x3 l=>BJ l (J x0 x1 x2 x3)
def uAG (l:List V) (J:Int->Int->Int->AF):AF:=Dy .i64 l fun x0 l=>Dy .i64 l fun x1 l=>Dy .i64 l fun x2 l=>BJ l (J x0 x1 x2)
def uAH (l:List V) (J:Nat->Nat->V->Bool->AF):AF:=Ae l fun x0 l=>B4 x0 fun b0 o0=>Ae l fun x1 l=>Lr l fun x2 l=>BJ l (J b0 o0 x1 x2)
def uAI (l:List V) (J:Int->Int->Int->AF):AF:=Dy .u64 l fun x0 l=>Dy .i64 l fun x1 l=>Dy .i64 l fun x2 l=>BJ l (J x0 x1 x2)
def eA (x0:BS) (x1:V) (x2:V) (x3:V):List V:=[.str x0,x1,x2,x3]
def eB (x0:Int) (x1:Int) (x2:V) (x3:V) (x4:Int) (x5:V):List V:=[.int .i64 x0,.int .i64 x1,x2,x3,.int .i64 x4,x5]
def eD (x0:BS) (x1:Int) (x2:V) (x3:V) (x4:V):List V:=[.str x0,.int .i64 x1,x2,x3,x4]
def eG (x0:V) (x1:Int) (x2:Int):List V:=[x0,.int .i64 x1,.int .i64 x2]
def eH (x0:V) (x1:Int) (x2:BS) (x3:Int) (x4:V) (x5:V) (x6:V) (x7:Int) (x8:Int):List V:=[x0,.int .i64 x1,.str x2,.int .i64 x3,x4,x5,x6,.int .i64 x7,.int .i64 x8]
def eI (x0:Int) (x1:BS) (x2:Int):List V:=[.int .i64 x0,.str x1,.int .i64 x2]
def eJ (x0:Int) (x1:V) (x2:Bool) (x3:Bool) (x4:Bool) (x5:Bool) (x6:Int) (x7:Int) (x8:V) (x9:V) (x10:Int) (x11:Bool) (x12:Int):List V:=[.int .i64 x0,x1,.bool x2,.bool x3,.bool x4,.bool x5,.int .i64 x6,.int .i64 x7,x8,x9,.int .i64 x10,.bool x11,.int .i64 x12]
def eM (x0:Int) (x1:BS) (x2:Bool) (x3:Int) (x4:Int) (x5:Bool) (x6:Bool) (x7:Bool) (x8:Bool) (x9:Int) (x10:Int) (x11:V) (x12:V) (x13:Int) (x14:Bool) (x15:Int):List V:=[.int .i64 x0,.str x1,.bool x2,.int .i64 x3,.int .i64 x4,.bool x5,.bool x6,.bool x7,.bool x8,.int .i64 x9,.int .i64 x10,x11,x12,.int .i64 x13,.bool x14,.int .i64 x15]
def eT (x0:Bool) (x1:Bool) (x2:Bool) (x3:Bool) (x4:Int) (x5:Int):List V:=[.bool x0,.bool x1,.bool x2,.bool x3,.int .i64 x4,.int .i64 x5]
def eY (x0:BS) (x1:Int) (x2:Bool) (x3:Bool) (x4:Int) (x5:Int) (x6:V) (x7:V) (x8:Int) (x9:V) (x10:Int):List V:=[.str x0,.int .i64 x1,.bool x2,.bool x3,.int .i64 x4,.int .i64 x5,x6,x7,.int .i64 x8,x9,.int .i64 x10]
theorem rZ:type_of% (Aj @cB.eq_1 (Aj @cI.eq_1 (Aj @cS.eq_1 (Aj @cT.eq_1 (Aj @cA.eq_1 (Aj @c0.eq_1 (Aj @lI.eq_1 (Aj @lB.eq_1 (Aj @lS.eq_1 (Aj @lL.eq_1 (Aj @iX.eq_1 (Aj @iY.eq_1 (Aj @jX.eq_1 (Aj @r0.eq_1 (Aj @rB.eq_1 (Aj @rI.eq_1 (Aj @iN.eq_1 (Aj @sN.eq_1 (Aj @uA.eq_1 (Aj @uB.eq_1 (Aj @uC.eq_1 (Aj @uD.eq_1 (Aj @uE.eq_1 (Aj @uF.eq_1 (Aj @uG.eq_1 (Aj @uH.eq_1 (Aj @uI.eq_1 (Aj @uJ.eq_1 (Aj @uK.eq_1 (Aj @uL.eq_1 (Aj @uM.eq_1 (Aj @uN.eq_1 (Aj @uO.eq_1 (Aj @uP.eq_1 (Aj @uQ.eq_1 (Aj @uR.eq_1 (Aj @uS.eq_1 (Aj @uT.eq_1 (Aj @uU.eq_1 (Aj @uV.eq_1 (Aj @uW.eq_1 (Aj @uX.eq_1 (Aj @uY.eq_1 (Aj @uZ.eq_1 (Aj @uAA.eq_1 (Aj @uAB.eq_1 (Aj @uAC.eq_1 (Aj @uAD.eq_1 (Aj @uAE.eq_1 (Aj @uAF.eq_1 (Aj @uAG.eq_1 (Aj @uAH.eq_1 (Aj @uAI.eq_1 (Aj @eA.eq_1 (Aj @eB.eq_1 (Aj @eD.eq_1 (Aj @eG.eq_1 (Aj @eH.eq_1 (Aj @eI.eq_1 (Aj @eJ.eq_1 (Aj @eM.eq_1 (Aj @eT.eq_1 (@eY.eq_1))))))))))))))))))))))))))))))))))))))))))))))))))))))))))))))):=⟨@cB.eq_1,@cI.eq_1,@cS.eq_1,@cT.eq_1,@cA.eq_1,@c0.eq_1,@lI.eq_1,@lB.eq_1,@lS.eq_1,@lL.eq_1,@iX.eq_1,@iY.eq_1,@jX.eq_1,@r0.eq_1,@rB.eq_1,@rI.eq_1,@iN.eq_1,@sN.eq_1,@uA.eq_1,@uB.eq_1,@uC.eq_1,@uD.eq_1,@uE.eq_1,@uF.eq_1,@uG.eq_1,@uH.eq_1,@uI.eq_1,@uJ.eq_1,@uK.eq_1,@uL.eq_1,@uM.eq_1,@uN.eq_1,@uO.eq_1,@uP.eq_1,@uQ.eq_1,@uR.eq_1,@uS.eq_1,@uT.eq_1,@uU.eq_1,@uV.eq_1,@uW.eq_1,@uX.eq_1,@uY.eq_1,@uZ.eq_1,@uAA.eq_1,@uAB.eq_1,@uAC.eq_1,@uAD.eq_1,@uAE.eq_1,@uAF.eq_1,@uAG.eq_1,@uAH.eq_1,@uAI.eq_1,@eA.eq_1,@eB.eq_1,@eD.eq_1,@eG.eq_1,@eH.eq_1,@eI.eq_1,@eJ.eq_1,@eM.eq_1,@eT.eq_1,@eY.eq_1⟩
end
end Go.Og
set_option maxRecDepth 100000
set_option maxHeartbeats 0
namespace Go.Proofs.YtgblfbajgpboiaaGreatDoor
open Go Go.Og
noncomputable section
variable (E:EB) (D:Ai) (W:AH) (N:Nat)
def y0:V:=(V.int .i64 (AA 0))
def y1:CZ:=(.agg [.i,.any,.bool,.bool,.bool,.bool,.i,.i,.any,.any,.i,.bool,.i])
def y2:CZ:=(.agg [.i,.i,.any,.any,.i,.any])
def y3:V:=(V.bool false)
def y4:CZ:=(.agg [.i,.str,.bool,.i,.i,.bool,.bool,.bool,.bool,.i,.i,.any,.any,.i,.bool,.i])
def y5:V:=(V.str ⟨0,0⟩)
def y6:CZ:=(.agg [.str,.any,.any,.any])
def y7:CZ:=(.agg [.i,.str,.i])
def y8:CZ:=(.agg [.i,.i])
def y9:CZ:=(.agg [.str,.i,.bool,.bool,.i,.i,.any,.any,.i,.any,.i])
def T5:CZ:=(.agg [.bool,.bool,.bool,.bool,.i,.i])
def Tz:CZ:=(.agg [.str,.i,.any,.any,.any])
def Hy:Eb:=(.mov (.t 0))
def Me:AO:=(.con (V.bool true))
def Ji:Eb:=(.mov (.t 1))
def YB:AO:=(.con (V.int .u8 (AA 45)))
def WY:V:=(V.int .u8 (AA 0))
def HM:CZ:=(.tup [])
def fS:V:=(V.int .i64 (Az 0))
def Jh:XC:=(.exit 0)
def ow:V:=(V.int .u64 (AA 0))
def y21:AO:=(.con (V.int .u8 (AA 128)))
def y22:Eb:=(.alloc 31 [y5,V.nils,V.nils,V.nils])
def wL:XC:=(.cond (.tmp 9) .skip
 Jh)
def y24:XC:=(.ops (.m 10 5<|
.aA 11 10 1 5))
def y25:XC:=(.cond (.tmp 17) (.z (.c 4 (V.bool true)<|
.nil)
 .ret)
 .skip)
def y26:AO:=(.con (V.int .u8 (AA 48)))
def Qa:AO:=(.con y3)
def fR:Eb:=(.mov (.t 8))
def y29:Eb:=(.alloc 37 [y0,y0,V.nils,V.nils,y0,V.nils])
def y30:AO:=(.con (V.str ⟨10,488440487847103610377301⟩))
def y31:AO:=(.con (V.str ⟨10,322399817400452109389381⟩))
def y32:AO:=(.con (V.str ⟨4,1397178708⟩))
def wK:Eb:=(.faddr 1 (.t 6))
def y34:AO:=(.con (V.str ⟨1,123⟩))
def y35:AO:=(.con (V.str ⟨8,6073459554577832005⟩))
def y36:AO:=(.con (V.str ⟨8,6073459554577829193⟩))
def y37:AO:=(.con (V.str ⟨8,4990918871747741011⟩))
def nX:Nat->St->AF:=fun _ _=>none
def kX (ts:List (Nat × CZ)) (ms:List Nat) (rs:List (Nat × List CZ)) (J:St->AF):St->AF:=fun s=>JL ts ms rs s J
def dX (E:EB) (D:Ai) (W:AH) (N:Nat) (c:XC) (k:St->AF) (x:Nat->St->AF) (r:St->AF):St->AF:=fun s=>Ay E D W N c s k x r
def q4a:List (Nat × CZ):=[(7,.any),(10,.i),(13,.ptr),(14,.bool),(15,.ptr),(16,.bool),(17,.ptr),(18,.ptr),(19,.i)]
def q4b:List (Nat × CZ):=[(13,.ptr),(14,.bool),(15,.ptr),(16,.bool),(17,.ptr),(18,.ptr)]
def q4c:List (Nat × CZ):=[(0,.any),(1,.i),(5,.str),(6,.str),(7,.any),(8,.i)]
def xF:List (Nat × CZ):=[(5,.str),(6,.str),(7,.any),(10,.i),(11,.i)]
def q4e:List (Nat × CZ):=[(5,.str),(6,.str),(7,.any),(10,.i)]
def q4f:List (Nat × CZ):=[(1,.i),(5,.str),(6,.str),(7,.any)]
def ey:List BO:=[⟨(some 82),.mov (.tmp 5),none⟩,⟨(some 83),.bin .add .none (.tmp 82) (.con (V.str ⟨1,102⟩)),none⟩,⟨(some 84),.mov (.tmp 7),none⟩,⟨(some 85),.mov (.tmp 11),none⟩,⟨(some 86),.iaddrS 1 (.tmp 84) (.tmp 85),none⟩,⟨(some 87),.load none (.tmp 86),none⟩,⟨(some 88),.conv (.toInt .u64) (.tmp 87),none⟩,⟨(some 89),.call 6 [(.tmp 88)],none⟩,⟨(some 90),.bin .add .none (.tmp 83) (.tmp 89),none⟩,⟨(some 91),.bin .add .none (.tmp 90) (.con (V.str ⟨2,23328⟩)),none⟩,⟨(some 92),.mov (.tmp 7),none⟩,⟨(some 93),.mov (.tmp 11),none⟩,⟨(some 94),.iaddrS 1 (.tmp 92) (.tmp 93),none⟩,⟨(some 95),.load none (.tmp 94),none⟩,⟨(some 96),.conv (.toInt .u64) (.tmp 95),none⟩,⟨(some 97),.call 6 [(.tmp 96)],none⟩,⟨(some 98),.bin .add .none (.tmp 91) (.tmp 97),none⟩,⟨(some 99),.bin .add .none (.tmp 98) (.con (V.str ⟨9,1517625048984539701341⟩)),none⟩,⟨(some 5),.mov (.tmp 99),none⟩]
def n6:List DP:=[⟨0,[5]⟩,⟨1,[82]⟩,⟨0,[7]⟩,⟨0,[11]⟩,⟨12,[84,85]⟩,⟨28,[86]⟩,⟨60,[87]⟩,⟨124,[88]⟩,⟨255,[83,89]⟩,⟨511,[90]⟩,⟨0,[7]⟩,⟨0,[11]⟩,⟨3072,[92,93]⟩,⟨7168,[94]⟩,⟨15360,[95]⟩,⟨31996,[96]⟩,⟨65535,[91,97]⟩,⟨131071,[98]⟩,⟨262143,[99]⟩]
def ep:List BO:=[⟨(some 134),.faddr 3 (.tmp 17),none⟩,⟨(some 135),.load none (.tmp 134),none⟩,⟨(some 136),.mov (.tmp 7),none⟩,⟨(some 137),.mov (.tmp 19),none⟩,⟨(some 138),.iaddrS 1 (.tmp 136) (.tmp 137),none⟩,⟨(some 139),.load none (.tmp 138),none⟩,⟨(some 140),.build [(V.int .i64 (AA 0)),(V.int .i64 (AA 0)),V.nils,V.nils,(V.int .i64 (AA 0)),V.nils] [(0,1,(.con (V.int .i64 (AA 2)))),(1,1,(.tmp 139))],none⟩,⟨(some 141),.buildSlice 37 1 [(V.int .i64 (AA 0)),(V.int .i64 (AA 0)),V.nils,V.nils,(V.int .i64 (AA 0)),V.nils] [(0,6,(.tmp 140))],none⟩,⟨(some 142),.append 37 6 96 (.tmp 135) (.tmp 141),none⟩,⟨(some 143),.faddr 3 (.tmp 17),none⟩,⟨none,.store 1 (.tmp 143) (.tmp 142),none⟩]
def V9:List DP:=[⟨0,[17]⟩,⟨1,[134]⟩,⟨0,[7]⟩,⟨0,[19]⟩,⟨12,[136,137]⟩,⟨28,[138]⟩,⟨60,[139]⟩,⟨124,[140]⟩,⟨255,[135,141]⟩,⟨511,[17]⟩,⟨1023,[143,142]⟩]
def eo:List BO:=[⟨(some 144),.faddr 3 (.tmp 18),none⟩,⟨(some 145),.load none (.tmp 144),none⟩,⟨(some 146),.mov (.tmp 7),none⟩,⟨(some 147),.mov (.tmp 19),none⟩,⟨(some 148),.mov (.tmp 10),none⟩,⟨(some 149),.bin .add .none (.tmp 147) (.tmp 148),none⟩,⟨(some 150),.mov (.tmp 7),none⟩,⟨(some 151),.len false (.tmp 150),none⟩,⟨(some 152),.bin .rem .none (.tmp 149) (.tmp 151),none⟩,⟨(some 153),.iaddrS 1 (.tmp 146) (.tmp 152),none⟩,⟨(some 154),.load none (.tmp 153),none⟩,⟨(some 155),.build [(V.int .i64 (AA 0)),(V.int .i64 (AA 0)),V.nils,V.nils,(V.int .i64 (AA 0)),V.nils] [(0,1,(.con (V.int .i64 (AA 2)))),(1,1,(.tmp 154))],none⟩,⟨(some 156),.buildSlice 37 1 [(V.int .i64 (AA 0)),(V.int .i64 (AA 0)),V.nils,V.nils,(V.int .i64 (AA 0)),V.nils] [(0,6,(.tmp 155))],none⟩,⟨(some 157),.append 37 6 96 (.tmp 145) (.tmp 156),none⟩,⟨(some 158),.faddr 3 (.tmp 18),none⟩,⟨none,.store 1 (.tmp 158) (.tmp 157),none⟩]
def V8:List DP:=[⟨0,[18]⟩,⟨1,[144]⟩,⟨0,[7]⟩,⟨0,[19]⟩,⟨0,[10]⟩,⟨24,[147,148]⟩,⟨0,[7]⟩,⟨64,[150]⟩,⟨248,[149,151]⟩,⟨508,[146,152]⟩,⟨1020,[153]⟩,⟨2044,[154]⟩,⟨4092,[155]⟩,⟨8191,[145,156]⟩,⟨16383,[18]⟩,⟨32767,[158,157]⟩]
def Jb (E:EB):St->AF:=fun s=>DR E s [(.tmp 4)] fun l=>some (Dh l,s.U)
def b4a (c0:XC):Nat->St->AF:=Bf 2 (dX E D W N (.keep q4e [] [] c0) (Jb E) nX (Jb E)) nX
def b4b (c0 c1:XC) (l0:St->AF):St->AF:=dX E D W N (.keep xF [] [] c0) (kX xF [] [] l0) (b4a E D W N c1) (Jb E)
def b4c (c0:XC):Nat->St->AF:=Bf 0 (dX E D W N (.keep q4f [] [] c0) (Jb E) nX (Jb E)) nX
def b4d (c0:XC):Nat->St->AF:=Bf 4 (dX E D W N (.keep q4b [] [] c0) (Jb E) nX (Jb E)) nX
def AIq (cc1:XC) (cc2:XC):XC:=(.z (.aT 4 y3)
 (.seq (.z (.m 24 0<|
.u 25 24<|
.b 26 .eql .none (.t 25) (.i 0)<|
.m 27 26<|
.gO 27 false (.p 28 [0,27] Hy<|
.p 29 [28,27] (.len false (.t 28))<|
.aQ 30 29 27 29 10) 31 27 30<|
.nil)
 (.cond (.tmp 31) (.z (.k 32 .bool 5 []<|
.aH 4 32)
 .ret)
 .skip))
 (.z (.c 5 y5<|
.aT 6 y5)
 (.z (.aW 7)
 (.seq (.z (.aN 8 0)
 (.block 0 (.loop q4c [] [] cc2)))
 (.keep q4f [] [] cc1))))))
def Vf (E:EB) (D:Ai) (W:AH) (K2:V->Int->BS->BS->V->Int->H->AF) (a:V) (b:Int) (U:H):AF:=
 A0 a fun c=>
 Af (fun d e=>
 AI d (
 cB (D 5 [] e) fun d f=>
 rB d f) (
 K2 a b (BS.mk 0 0) (BS.mk 0 0) V.nils (AA 0) e)) fun d=>
 AI (Bt (AA c) (AA 0)) (
 d true U) (
 A0 a fun c=>
 d (Ci (AA 10) (AA c)) U)
def fK (cc3:XC) (cc4:XC):XC:=(.z (.bR 54 1<|
.m 56 7<|
.u 57 56<|
.P 58 (.conv (.toInt .u64) (.t 57))<|
.b 59 .rem .none (.t 55) (.t 58)<|
.P 60 (.conv (.toInt .i64) (.t 59))<|
.aH 10 60)
 (.seq (.z (.aN 11 0)
 (.block 2 (.loop xF [] [] cc4)))
 (.keep q4e [] [] cc3)))
def sA (E:EB) (D:Ai) (W:AH) (K4:BS->BS->V->Int->Int->H->AF) (a:Int) (b c:BS) (d:V) (U:H):AF:=
 A0 d fun e=>
 tp (BE .u64 (AA e)) (
 K4 b c d (BE .i64 (Lo (BE .u64 a) (BE .u64 (AA e)))) (AA 0) U)
def tN:XC:=(.seq (.z (.aC 33 8 0<|
.u 35 34<|
.aF 36 33 35)
 (.cond (.tmp 36) .skip
 Jh))
 (.seq (.block 1 (.z (.aC 39 0 8<|
.bT 41 1 39 40 .i<|
.P 43 (.conv (.toInt .u64) (.t 42))<|
.b 44 .rem .none (.t 43) (.con (V.int .u64 (AA 50)))<|
.P 45 (.conv (.toInt .i64) (.t 44))<|
.aH 9 45)
 (.seq (.z (.bM 46 7 9 .bool 12<|
.nil)
 (.cond (.tmp 48) (.z (.k 49 .bool 5 []<|
.aH 4 49)
 .ret)
 .skip))
 (.ops (.aC 50 7 9<|
.aX 52 51 3 1 y0 0 1 51 .one 3 1 8 50<|
.aH 7 53)))))
 (.ops (.m 37 8<|
.aA 38 37 1 8))))
def kS (E:EB) (D:Ai) (W:AH) (K1:Int->BS->BS->V->H->AF) (R2:V->Int->BS->BS->V->Int->H->AF) (a:V) (b:Int) (c d:BS) (e:V) (f:Int) (U:H):AF:=
 A0 a fun g=>
 AI (Ci f (AA g)) (
 AW 1 a f fun g h=>
 lI E U g h fun g=>
 cB (D 12 [e,.int .i64 (BE .i64 (Lo (BE .u64 g) (AA 50)))] U) fun h i=>
 AI h (
 cB (D 5 [] i) fun h j=>
 rB h j) (
 let h:=Br i (.cells [.int .i64 (BE .i64 (Lo (BE .u64 g) (AA 50)))]);
 DV E 1 8 e (V.sl (H.next i) 0 1 (.ex 1)) h fun g h=>
 CB g (
 R2 a b c d g (Ba .i64 f (AA 1)) h))) (
 K1 b c d e U)
def Kj (cc7:XC) (cc8:XC):XC:=(.z (.m 113 5<|
.b 114 .add .none (.con (V.str ⟨50,327632657439666379000588799368074089870184164557754827699467780837579140917348969856314753296955196148228008736788324429⟩)) (.t 113)<|
.b 115 .add .none (.t 114) (.con (V.str ⟨6,75102957894944⟩))<|
.k 116 (.tup [y6,.bool]) 7 [(.t 115)]<|
.m 112 116<|
.aG 117 0 112 1 112<|
.p 13 [] y22<|
.op none y6 [13,117] (.store 4 (.t 13) (.t 117))<|
.aH 14 118)
 (.z (.m 120 6<|
.b 121 .add .none (.con (V.str ⟨50,327632657439666379000588799368074089870184164557754827699467780837579140917348969856314753296955196148228008736788324429⟩)) (.t 120)<|
.b 122 .add .none (.t 121) (.con (V.str ⟨6,75102957894944⟩))<|
.k 123 (.tup [y6,.bool]) 7 [(.t 122)]<|
.m 119 123<|
.aG 124 0 119 1 119<|
.p 15 [] y22<|
.op none y6 [15,124] (.store 4 (.t 15) (.t 124))<|
.aH 16 125)
 (.z (.p 17 [] y29<|
.p 18 [] y29<|
.nil)
 (.z (.aI 126 0 17 1 8<|
.aI 127 0 18 1 8<|
.nil)
 (.seq (.z (.aN 19 0)
 (.block 4 (.loop q4a [] [] cc8)))
 (.keep q4b [] [] cc7))))))
def r9 (E:EB) (D:Ai) (W:AH) (K8:V->Int->Nat->Nat->Bool->Nat->Nat->Bool->Nat->Nat->Nat->Nat->Int->H->AF) (a b:BS) (c:V) (d:Int) (U:H):AF:=
 GC (BS.mk 50 327632657439666379000588799368074089870184164557754827699467780837579140917348969856314753296955196148228008736788324429) a fun e=>
 GC e (BS.mk 6 75102957894944) fun e=>
 cT (D 7 [.str e] U) fun e f=>
 Ae e fun e g=>
 CW e fun e=>
 uA e fun e h i j=>
 Lr g fun g k=>
 BJ k (
 let k:=Br f (.cells [.str ⟨0,0⟩,V.nils,V.nils,V.nils]);
 DX 4 (H.next f) 0 (V.agg (eA e h i j)) k fun e=>
 GC (BS.mk 50 327632657439666379000588799368074089870184164557754827699467780837579140917348969856314753296955196148228008736788324429) b fun h=>
 GC h (BS.mk 6 75102957894944) fun h=>
 cT (D 7 [.str h] e) fun e h=>
 Ae e fun e i=>
 CW e fun e=>
 uA e fun e j k l=>
 Lr i fun i m=>
 BJ m (
 let m:=Br h (.cells [.str ⟨0,0⟩,V.nils,V.nils,V.nils]);
 DX 4 (H.next h) 0 (V.agg (eA e j k l)) m fun e=>
 let j:=Br e (.cells [iN 0,iN 0,V.nils,V.nils,iN 0,V.nils]);
 let k:=Br j (.cells [iN 0,iN 0,V.nils,V.nils,iN 0,V.nils]);
 DX 1 (H.next e) 0 (iN 8) k fun k=>
 DX 1 (H.next j) 0 (iN 8) k fun k=>
 K8 c d (H.next f) 0 g (H.next h) 0 i (H.next e) 0 (H.next j) 0 (AA 0) k))
def WS (cc5:XC) (cc6:XC):XC:=(.seq (.z (.aC 61 11 7<|
.u 63 62<|
.aF 64 61 63)
 (.cond (.tmp 64) .skip
 (.exit 2)))
 (.seq (.block 3 (.seq (.z (.m 67 11<|
.bS 68 67 0)
 (.cond (.tmp 68) (.ops (.m 69 5<|
.b 70 .add .none (.t 69) (.con (V.str ⟨2,8236⟩))<|
.m 71 6<|
.b 72 .add .none (.t 71) (.con (V.str ⟨2,8236⟩))<|
.aC 5 70 72<|
.nil))
 .skip))
 (.keep xF [] [] cc6)))
 (.keep xF [] [] cc5)))
def kR (E:EB) (D:Ai) (W:AH) (K3:BS->BS->V->Int->H->AF) (K6:BS->BS->V->Int->Int->H->AF) (a b:BS) (c:V) (d e:Int) (U:H):AF:=
 A0 c fun f=>
 AI (Ci e (AA f)) (
 AI (Ci (AA 0) e) (
 GC a (BS.mk 2 8236) fun f=>
 GC b (BS.mk 2 8236) fun g=>
 K6 f g c d e U) (
 K6 a b c d e U)) (
 K3 a b c d U)
def NB:XC:=(.ops (.m 65 11<|
.aA 66 65 1 11))
def yW (E:EB) (D:Ai) (W:AH) (R4:BS->BS->V->Int->Int->H->AF) (a b:BS) (c:V) (d e:Int) (U:H):AF:=
 R4 a b c d (Ba .i64 e (AA 1)) U
def QX:XC:=(.z (.aC 73 7 11<|
.m 75 10<|
.b 76 .add .none (.t 74) (.t 75)<|
.m 77 7<|
.u 78 77<|
.b 79 .rem .none (.t 76) (.t 78)<|
.bT 80 1 73 79 .i<|
.aH 12 81)
 (.seq (.keep [(5,.str),(6,.str),(7,.any),(10,.i),(11,.i),(12,.i)] [] [] (.gdraw ey n6 [(5,.str),(6,.str),(7,.any),(10,.i),(11,.i),(12,.i)]))
 (.ops (.m 100 6<|
.b 101 .add .none (.t 100) (.con (V.str ⟨1,102⟩))<|
.bR 102 12<|
.k 104 .str 6 [(.t 103)]<|
.b 105 .add .none (.t 101) (.t 104)<|
.b 106 .add .none (.t 105) (.con (V.str ⟨2,23328⟩))<|
.bR 107 12<|
.k 109 .str 6 [(.t 108)]<|
.b 110 .add .none (.t 106) (.t 109)<|
.b 111 .add .none (.t 110) (.con (V.str ⟨9,1517625048984539701341⟩))<|
.aH 6 111))))
def yV (K5:BS->BS->V->Int->Int->H->AF) (a b:BS) (c:V) (d e:Int) (U:H):AF:=
 A0 c fun f=>
 tp (AA f) (
 AW 1 c (Lo (Ba .i64 e d) (AA f)) fun f g=>
 lI E U f g fun f=>
 Cc (W ey n6 [(5,.str a),(6,.str b),(7,c),(10,.int .i64 d),(11,.int .i64 e),(12,.int .i64 f)] U) fun f g=>
 BL f 5 fun h=>
 G7 h fun h=>
 BL f 6 fun i=>
 G7 i fun i=>
 BL f 7 fun j=>
 BL f 10 fun k=>
 Ch .i64 k fun k=>
 BL f 11 fun l=>
 Ch .i64 l fun l=>
 BL f 12 fun f=>
 Ch .i64 f fun f=>
 GC i (BS.mk 1 102) fun i=>
 cS (D 6 [.int .u64 (BE .u64 f)] g) fun g m=>
 GC i g fun g=>
 GC g (BS.mk 2 23328) fun g=>
 cS (D 6 [.int .u64 (BE .u64 f)] m) fun f i=>
 GC g f fun f=>
 GC f (BS.mk 9 1517625048984539701341) fun f=>
 K5 h f j k l i)
def Jd:XC:=(.z (.O 160 y6 (.load (some 4) (.t 13))<|
.O 161 y2 (.load (some 6) (.t 17))<|
.k 162 (.tup [.any,.i]) 10 [(.t 160),(.i 0),(.t 161)]<|
.m 159 162<|
.aG 163 0 159 1 159<|
.aC 20 163 164<|
.nil)
 (.z (.O 166 y6 (.load (some 4) (.t 15))<|
.O 167 y2 (.load (some 6) (.t 18))<|
.k 168 (.tup [.any,.i]) 10 [(.t 166),(.i 0),(.t 167)]<|
.m 165 168<|
.aG 169 0 165 1 165<|
.aC 22 169 170<|
.nil)
 (.z (.k 171 .bool 5 []<|
.m 172 171<|
.gA 172 true (.p 173 [14,172] (.mov (.t 14))<|
.nil) 174 172 173<|
.m 175 174<|
.gA 175 true (.p 176 [16,175] (.mov (.t 16))<|
.nil) 177 175 176<|
.m 178 177<|
.gA 178 true (.p 179 [21,178] (.mov (.t 21))<|
.aV 180 179 178 179 0) 181 178 180<|
.m 182 181<|
.gA 182 true (.p 183 [23,182] (.mov (.t 23))<|
.aV 184 183 182 183 0) 185 182 184<|
.m 186 185<|
.gA 186 true (.p 187 [20,186] (.mov (.t 20))<|
.p 188 [22,186] (.mov (.t 22))<|
.op (some 189) .bool [187,188,186] (.call 11 [(.t 187),(.t 188)])<|
.nil) 190 186 189<|
.aH 4 190)
 .ret)))
def yU (E:EB) (D:Ai) (W:AH) (a b:Nat) (c:Bool) (d e:Nat) (f:Bool) (g h i j:Nat) (U:H):AF:=
 Bv E U a b 4 fun k=>
 uA k fun k l m n=>
 Bv E U g h 6 fun o=>
 uB o fun o p q r s t=>
 cT (D 10 [.agg (eA k l m n),iN 0,.agg (eB o p q r s t)] U) fun k l=>
 uC k fun k m=>
 Bv E l d e 4 fun n=>
 uA n fun n o p q=>
 Bv E l i j 6 fun r=>
 uB r fun r s t u v w=>
 cT (D 10 [.agg (eA n o p q),iN 0,.agg (eB r s t u v w)] l) fun l n=>
 uC l fun l o=>
 cB (D 5 [] n) fun n p=>
 Af (fun q r=>
 Af (fun s t=>
 Af (fun u v=>
 Af (fun w x=>
 Af (fun y z=>
 rB y z) fun y=>
 AI w (
 cB (D 11 [k,l] x) fun k l=>
 y k l) (
 y false x)) fun k=>
 AI u (
 k (Bt o (AA 0)) v) (
 k false v)) fun k=>
 AI s (
 k (Bt m (AA 0)) t) (
 k false t)) fun k=>
 AI q (
 k f r) (
 k false r)) fun k=>
 AI n (
 k c p) (
 k false p)
def Jc:XC:=(.seq (.z (.aC 128 19 7<|
.u 130 129<|
.aF 131 128 130)
 (.cond (.tmp 131) .skip
 (.exit 4)))
 (.seq (.block 5 (.seq (.keep q4a [] [] (.gdraw ep V9 q4a))
 (.keep q4a [] [] (.gdraw eo V8 q4a))))
 (.ops (.m 132 19<|
.aA 133 132 1 19))))
def kQ (E:EB) (D:Ai) (W:AH) (K7:Nat->Nat->Bool->Nat->Nat->Bool->Nat->Nat->Nat->Nat->H->AF) (R8:V->Int->Nat->Nat->Bool->Nat->Nat->Bool->Nat->Nat->Nat->Nat->Int->H->AF) (a:V) (b:Int) (c d:Nat) (e:Bool) (f g:Nat) (h:Bool) (i j k l:Nat) (m:Int) (U:H):AF:=
 A0 a fun n=>
 AI (Ci m (AA n)) (
 Cc (W ep V9 [(7,a),(10,.int .i64 b),(13,.ptr c d),(14,.bool e),(15,.ptr f g),(16,.bool h),(17,.ptr i j),(18,.ptr k l),(19,.int .i64 m)] U) fun n o=>
 BL n 7 fun p=>
 BL n 10 fun q=>
 Ch .i64 q fun q=>
 BL n 13 fun r=>
 B4 r fun r s=>
 BL n 14 fun t=>
 Ct t fun t=>
 BL n 15 fun u=>
 B4 u fun u v=>
 BL n 16 fun w=>
 Ct w fun w=>
 BL n 17 fun x=>
 B4 x fun x y=>
 BL n 18 fun z=>
 B4 z fun z aa=>
 BL n 19 fun n=>
 Ch .i64 n fun n=>
 Cc (W eo V8 [(7,p),(10,.int .i64 q),(13,.ptr r s),(14,.bool t),(15,.ptr u v),(16,.bool w),(17,.ptr x y),(18,.ptr z aa),(19,.int .i64 n)] o) fun n o=>
 BL n 7 fun p=>
 BL n 10 fun q=>
 Ch .i64 q fun q=>
 BL n 13 fun r=>
 B4 r fun r s=>
 BL n 14 fun t=>
 Ct t fun t=>
 BL n 15 fun u=>
 B4 u fun u v=>
 BL n 16 fun w=>
 Ct w fun w=>
 BL n 17 fun x=>
 B4 x fun x y=>
 BL n 18 fun z=>
 B4 z fun z aa=>
 BL n 19 fun n=>
 Ch .i64 n fun n=>
 R8 p q r s t u v w x y z aa (Ba .i64 n (AA 1)) o) (
 K7 c d e f g h i j k l U)
def AL7 (a:V) (b:Int) (U:H):St:=⟨[(0,a),(1,.int .i64 b)],[],[],U⟩
def AL6 (a:Int) (b c:BS) (d:V) (U:H):St:=⟨[(1,.int .i64 a),(5,.str b),(6,.str c),(7,d)],[],[],U⟩
def AL5 (a:V) (b:Int) (c d:BS) (e:V) (f:Int) (U:H):St:=⟨[(0,a),(1,.int .i64 b),(5,.str c),(6,.str d),(7,e),(8,.int .i64 f)],[],[],U⟩
def AL4 (a b:BS) (c:V) (d:Int) (U:H):St:=⟨[(5,.str a),(6,.str b),(7,c),(10,.int .i64 d)],[],[],U⟩
def lW (a b:BS) (c:V) (d e:Int) (U:H):St:=⟨[(5,.str a),(6,.str b),(7,c),(10,.int .i64 d),(11,.int .i64 e)],[],[],U⟩
def AL3 (a:V) (b:Int) (c d:Nat) (e:Bool) (f g:Nat) (h:Bool) (i j k l:Nat) (m:Int) (U:H):St:=⟨[(7,a),(10,.int .i64 b),(13,.ptr c d),(14,.bool e),(15,.ptr f g),(16,.bool h),(17,.ptr i j),(18,.ptr k l),(19,.int .i64 m)],[],[],U⟩
def AGr (E:EB) (D:Ai) (W:AH) (N:Nat):=yU E D W
def sa (n:Nat):V->Int->Nat->Nat->Bool->Nat->Nat->Bool->Nat->Nat->Nat->Nat->Int->H->AF:=
 Nat.rec (fun _ _ _ _ _ _ _ _ _ _ _ _ _ _=>none) (fun _ ih=>kQ E D W (AGr E D W N ) ih) n
theorem AGX (n:Nat) :
 (fun a b c d e f g h i j k l m U=>BN (fun rec s'=>Ay E D W N Jc s' (kX q4a [] [] rec) (b4d E D W N Jd) (Jb E)) n (AL3 a b c d e f g h i j k l m U))=sa E D W N n:=AKS (fun _=>by kernel_rfl) n
def mq:=r9 E D W (sa E D W N N)
theorem AGc :
 (fun a b c d U=>Ay E D W N (Kj Jd Jc) (AL4 a b c d U) (Jb E) nX (Jb E))=mq E D W N:=by
 unfold mq;rw[<-AGX];generalize Jd=x0,Jc=x1;revert x0 x1;refine id ?_;intros;kernel_rfl
def AA6 (E:EB) (D:Ai) (W:AH) (N:Nat) (R4:BS->BS->V->Int->Int->H->AF):=yW E D W R4
theorem AGb (li4:St->AF) :
 (fun a b c d e U=>Ay E D W N NB (lW a b c d e U) (kX xF [] [] li4) (b4a E D W N (Kj Jd Jc)) (Jb E))=AA6 E D W N (fun a b c d e U=>li4 (lW a b c d e U)):=by
 unfold AA6;generalize Kj Jd Jc=x0;revert x0;refine id ?_;intros;kernel_rfl
def AA5 (R4:BS->BS->V->Int->Int->H->AF):=yV E D W (AA6 E D W N R4)
theorem AGa (li4:St->AF) :
 (fun a b c d e U=>Ay E D W N QX (lW a b c d e U) (b4b E D W N NB (Kj Jd Jc) li4) (Bf 3 (b4b E D W N NB (Kj Jd Jc) li4) (b4a E D W N (Kj Jd Jc))) (Jb E))=AA5 E D W N (fun a b c d e U=>li4 (lW a b c d e U)):=by
 unfold AA5;rw[<-AGb];generalize Kj Jd Jc=x0,NB=x1;revert x0 x1;refine id ?_;intros;kernel_rfl
def se (n:Nat):BS->BS->V->Int->Int->H->AF:=
 Nat.rec (fun _ _ _ _ _ _=>none) (fun _ ih=>kR E D W (mq E D W N ) (AA5 E D W N ih)) n
theorem AGY (n:Nat) :
 (fun a b c d e U=>BN (fun rec s'=>Ay E D W N (WS NB QX) s' (kX xF [] [] rec) (b4a E D W N (Kj Jd Jc)) (Jb E)) n (lW a b c d e U))=se E D W N n:=tu (fun li=>by rw[<-AGc,<-AGa];generalize Kj Jd Jc=x0,NB=x1,QX=x2;revert x0 x1 x2;refine id ?_;intros;kernel_rfl) n
def tM:=sA E D W (se E D W N N)
theorem AGd :
 (fun a b c d U=>Ay E D W N (fK (Kj Jd Jc) (WS NB QX)) (AL6 a b c d U) (Jb E) nX (Jb E))=tM E D W N:=by
 unfold tM;rw[<-AGY];generalize Kj Jd Jc=x0,WS NB QX=x1;revert x0 x1;refine id ?_;intros;kernel_rfl
def sg (n:Nat):V->Int->BS->BS->V->Int->H->AF:=
 Nat.rec (fun _ _ _ _ _ _ _=>none) (fun _ ih=>kS E D W (tM E D W N ) ih) n
theorem AGZ (n:Nat) :
 (fun a b c d e f U=>BN (fun rec s'=>Ay E D W N tN s' (kX q4c [] [] rec) (b4c E D W N (fK (Kj Jd Jc) (WS NB QX))) (Jb E)) n (AL5 a b c d e f U))=sg E D W N n:=qc (fun li=>by rw[<-AGd];generalize fK (Kj Jd Jc) (WS NB QX)=x0;revert x0;refine id ?_;intros;kernel_rfl) n
def AA7:=Vf E D W (sg E D W N N)
theorem AGe :
 (fun a b U=>Ay E D W N (AIq (fK (Kj Jd Jc) (WS NB QX)) tN) (AL7 a b U) (Jb E) nX (Jb E))=AA7 E D W N:=by
 unfold AA7;rw[<-AGZ];generalize fK (Kj Jd Jc) (WS NB QX)=x0,tN=x1;revert x0 x1;refine id ?_;intros;kernel_rfl
def F4 (args:List V) (U:H):AF:=
 uC args fun a b=>
 AA7 E D W N a b U
def A4:Dv:=⟨191,[.any,.i],[(.tmp 4)],(AIq (fK (Kj Jd Jc) (WS NB QX)) tN)⟩
theorem FE4 (args:List V) (U:H):B9 E D W N A4 args U=F4 E D W N args U:=by
 unfold F4;rw[<-AGe];kernel_rfl
def ABJ:List BO:=[⟨(some 10),.mov (.tmp 0),none⟩,⟨(some 11),.bin .quo .none (.tmp 10) (.con (V.int .u64 (AA 10))),none⟩,⟨(some 12),.call 6 [(.tmp 11)],none⟩,⟨(some 13),.mov (.tmp 0),none⟩,⟨(some 14),.bin .rem .none (.tmp 13) (.con (V.int .u64 (AA 10))),none⟩,⟨(some 15),.bin .add .none (.con (V.int .u64 (AA 48))) (.tmp 14),none⟩,⟨(some 16),.conv (.toInt .u8) (.tmp 15),none⟩,⟨(some 17),.buildSlice 5 1 [(V.int .u8 (AA 0))] [(0,1,(.tmp 16))],none⟩,⟨(some 18),.conv .toStr (.tmp 17),none⟩,⟨(some 19),.bin .add .none (.tmp 12) (.tmp 18),none⟩,⟨(some 2),.mov (.tmp 19),none⟩]
def ny:List DP:=[⟨0,[0]⟩,⟨1,[10]⟩,⟨3,[11]⟩,⟨0,[0]⟩,⟨8,[13]⟩,⟨24,[14]⟩,⟨56,[15]⟩,⟨120,[16]⟩,⟨248,[17]⟩,⟨511,[12,18]⟩,⟨1023,[19]⟩]
def AN6:XC:=(.z (.aT 2 y5)
 (.seq (.z (.m 3 0<|
.b 4 .lss .none (.t 3) (.con (V.int .u64 (AA 10)))<|
.nil)
 (.cond (.tmp 4) (.z (.m 5 0<|
.b 6 .add .none (.con (V.int .u64 (AA 48))) (.t 5)<|
.P 7 (.conv (.toInt .u8) (.t 6))<|
.p 8 [7] (.buildSlice 5 1 [WY] [(0,1,(.t 7))])<|
.P 9 (.conv .toStr (.t 8))<|
.m 2 9<|
.nil)
 .ret)
 .skip))
 (.seq (.keep [(0,(.int .u64))] [] [] (.gdraw ABJ ny [(2,.str)]))
 .ret)))
def j8 (E:EB) (D:Ai) (W:AH) (a:Int) (U:H):AF:=
 AI (Ci a (AA 10)) (
 let b:=Br U (.cells [.int .u8 (BE .u8 (Ba .u64 (AA 48) a))]);
 Jk E b (V.sl (H.next U) 0 1 (.ex 1)) fun c=>
 some ((V.str c),b)) (
 Cc (W ABJ ny [(0,.int .u64 a)] U) fun b c=>
 BL b 2 fun b=>
 G7 b fun b=>
 some ((V.str b),c))
def F6 (N:Nat) (args:List V) (U:H):AF:=
 Dy .u64 args fun a b=>
 BJ b (
 j8 E D W a U)
def A6:Dv:=⟨20,[(.int .u64)],[(.tmp 2)],AN6⟩
theorem FE6 (args:List V) (U:H):B9 E D W N A6 args U=F6 E D W N args U:=by kernel_rfl
def ej:List BO:=[⟨(some 29),.load (some 4) (.tmp 7),none⟩,⟨(some 30),.mov (.tmp 9),none⟩,⟨(some 31),.bin .eql .none (.tmp 30) (.con (V.int .i64 (AA 0))),none⟩,⟨(some 32),.mov (.tmp 31),none⟩,⟨(some 33),.faddr 3 (.tmp 7),(some (32,true))⟩,⟨(some 34),.load none (.tmp 33),(some (32,true))⟩,⟨(some 35),.len false (.tmp 34),(some (32,true))⟩,⟨(some 36),.bin .leq .none (.tmp 35) (.con (V.int .i64 (AA 120))),(some (32,true))⟩,⟨(some 37),.pick (.tmp 32) (.tmp 36) (.con (V.bool false)),none⟩,⟨none,.store 4 (.tmp 2) (.tmp 29),none⟩,⟨(some 3),.mov (.tmp 37),none⟩]
def ei:List DP:=[⟨0,[7]⟩,⟨0,[9]⟩,⟨2,[30]⟩,⟨6,[31]⟩,⟨14,[7,32]⟩,⟨30,[33,32]⟩,⟨62,[34,32]⟩,⟨126,[35,32]⟩,⟨254,[32,36]⟩,⟨15,[2,29]⟩,⟨1023,[37]⟩]
def AN5:XC:=(.z (.p 2 [] y22<|
.aT 3 y3)
 (.seq (.z (.m 10 0<|
.P 11 (.len true (.t 10))<|
.bS 12 11 3000)
 (.cond (.tmp 12) (.z (.op (some 13) y6 [] (.build [y5,V.nils,V.nils,V.nils] [])<|
.op none y6 [2,13] (.store 4 (.t 2) (.t 13))<|
.aT 3 y3)
 .ret)
 .skip))
 (.z (.m 15 0<|
.k 16 (.tup [Tz,.i,.i]) 13 [(.t 15)]<|
.m 14 16<|
.aG 17 0 14 1 14<|
.P 19 (.extract 2 (.t 14))<|
.pal 4 [] 51 [y5,y0,V.nils,V.nils,V.nils]<|
.op none Tz [4,17] (.store 5 (.t 4) (.t 17))<|
.aC 5 18 19<|
.nil)
 (.seq (.z (.bF 20 6 0<|
.nil)
 (.cond (.tmp 21) (.z (.op (some 22) y6 [] (.build [y5,V.nils,V.nils,V.nils] [])<|
.op none y6 [2,22] (.store 4 (.t 2) (.t 22))<|
.aT 3 y3)
 .ret)
 .skip))
 (.z (.O 24 Tz (.load (some 5) (.t 4))<|
.k 25 (.tup [y6,.i,.i]) 14 [(.t 24)]<|
.m 23 25<|
.aG 26 0 23 1 23<|
.P 28 (.extract 2 (.t 23))<|
.p 7 [] y22<|
.op none y6 [7,26] (.store 4 (.t 7) (.t 26))<|
.aC 8 27 28<|
.nil)
 (.seq (.keep [(2,.ptr),(7,.ptr),(9,.i)] [] [] (.gdraw ej ei [(2,.ptr),(3,.bool)]))
 .ret))))))
def yT (a:BS) (U:H):AF:=
 let b:=Br U (.cells [.str ⟨0,0⟩,V.nils,V.nils,V.nils]);
 AI (Ci (AA 3000) (AA (BS.len a))) (
 DX 4 (H.next U) 0 (V.agg [sN 0 0,V.nils,V.nils,V.nils]) b fun c=>
 Bv E c (H.next U) 0 4 fun d=>
 some ((V.tup [.agg d,.bool false]),c)) (
 cT (D 13 [.str a] b) fun b c=>
 Ae b fun b d=>
 CW b fun b=>
 uD b fun b e f g h=>
 uE d fun d i=>
 GK (An (eD b e f g h)) (
 AI (not (Bt i (AA 0))) (
 DX 4 (H.next U) 0 (V.agg [sN 0 0,V.nils,V.nils,V.nils]) c fun d=>
 Bv E d (H.next U) 0 4 fun i=>
 some ((V.tup [.agg i,.bool false]),d)) (
 cT (D 14 [.agg (eD b e f g h)] c) fun b c=>
 Ae b fun b d=>
 CW b fun b=>
 uA b fun b e f g=>
 uE d fun d h=>
 let d:=Br c (.cells [.str ⟨0,0⟩,V.nils,V.nils,V.nils]);
 DX 4 (H.next c) 0 (V.agg (eA b e f g)) d fun b=>
 Cc (W ej ei [(2,.ptr (H.next U) 0),(7,.ptr (H.next c) 0),(9,.int .i64 h)] b) fun b c=>
 BL b 2 fun d=>
 B4 d fun d e=>
 BL b 3 fun b=>
 Ct b fun b=>
 Bv E c d e 4 fun d=>
 some ((V.tup [.agg d,.bool b]),c))))
def F7 (N:Nat) (args:List V) (U:H):AF:=
 T0 args fun a b=>
 BJ b (
 yT E D W a U)
def A7:Dv:=⟨38,[.str],[(.cell 2 (some 4)),(.tmp 3)],AN5⟩
theorem FE7 (args:List V) (U:H):B9 E D W N A7 args U=F7 E D W N args U:=by kernel_rfl
def AJQ:XC:=(.z (.P 3 (.box 31 (.t 0))<|
.P 5 (.box 37 (.t 2))<|
.c 6 V.nils<|
.aN 7 0)
 (.seq (.block 0 (.z (.O 11 y6 (.load (some 4) (.t 3))<|
.bE 12 1 y2 6 5<|
.k 14 .bool 16 [(.t 11),(.t 12),(.t 13)]<|
.P 15 (.un .not (.t 14))<|
.m 10 15<|
.nil)
 (.cond (.tmp 10) (.z (.c 6 V.nils<|
.q 7 13<|
.nil)
 .ret)
 (.z (.O 17 y2 (.load (some 6) (.t 5))<|
.k 18 .bool 17 [(.t 17),(.i 1)]<|
.P 19 (.un .not (.t 18))<|
.m 16 19<|
.nil)
 (.cond (.tmp 16) (.z (.c 6 V.nils<|
.q 7 16<|
.nil)
 .ret)
 .skip)))))
 (.z (.O 20 y6 (.load (some 4) (.t 3))<|
.op (some 21) y6 [20] (.build [y5,V.nils,V.nils,V.nils] [(0,4,(.t 20))])<|
.P 22 (.box 61 (.t 21))<|
.aH 8 22)
 (.z (.aC 23 8 1<|
.O 25 y2 (.load (some 6) (.t 5))<|
.k 26 .one 18 [(.t 23),(.t 24),(.t 25)]<|
.aH 9 26)
 (.seq (.z (.m 27 9<|
.u 28 27<|
.bS 29 28 70000)
 (.cond (.tmp 29) (.z (.c 6 V.nils<|
.aN 7 5)
 .ret)
 .skip))
 (.z (.m 30 9<|
.m 6 30<|
.aN 7 0)
 .ret))))))
def lE (E:EB) (D:Ai) (W:AH) (a:BS) (b c d:V) (e f g:Int) (h i:V) (j:Int) (k:V) (U:H):AF:=
 Ix (eA a b c d) U fun l=>
 Ix (eB f g h i j k) l fun m=>
 Bv E m (H.next U) 0 4 fun n=>
 uA n fun n o p q=>
 Bv E m (H.next l) 0 6 fun r=>
 uB r fun r s t u v w=>
 cB (D 16 [.agg (eA n o p q),.int .i64 e,.agg (eB r s t u v w)] m) fun m n=>
 AI (not m) (
 some ((V.tup [V.nils,iN 13]),n)) (
 Bv E n (H.next l) 0 6 fun m=>
 uB m fun m o p q r s=>
 cB (D 17 [.agg (eB m o p q r s),iN 1] n) fun m n=>
 AI (not m) (
 some ((V.tup [V.nils,iN 16]),n)) (
 Bv E n (H.next U) 0 4 fun m=>
 uA m fun m o p q=>
 Ix (eA m o p q) n fun m=>
 Bv E m (H.next l) 0 6 fun l=>
 uB l fun l o p q r s=>
 CM (D 18 [.ptr (H.next n) 0,.int .i64 e,.agg (eB l o p q r s)] m) fun l m=>
 CB l (
 A0 l fun n=>
 AI (Ci (AA 70000) (AA n)) (
 some ((V.tup [V.nils,iN 5]),m)) (
 some ((V.tup [l,iN 0]),m)))))
def F10 (N:Nat) (args:List V) (U:H):AF:=
 Ae args fun a b=>
 CW a fun a=>
 uA a fun a c d e=>
 Dy .i64 b fun b f=>
 Ae f fun f g=>
 CW f fun f=>
 uB f fun f h i j k l=>
 BJ g (
 lE E D W a c d e b f h i j k l U)
def A10:Dv:=⟨31,[y6,.i,y2],[(.tmp 6),(.tmp 7)],AJQ⟩
theorem ANC (args:List V) (U:H):B9 E D W N A10 args U=F10 E D W N args U:=by kernel_rfl
def AJP:XC:=(.z (.aT 4 y3)
 (.z (.m 5 0<|
.P 6 (.conv .toStr (.t 5))<|
.m 7 1<|
.P 8 (.conv .toStr (.t 7))<|
.b 9 .eql .none (.t 6) (.t 8)<|
.m 4 9<|
.nil)
 .ret))
def lD (E:EB) (D:Ai) (W:AH) (a b:V) (U:H):AF:=
 Jk E U a fun c=>
 Jk E U b fun d=>
 rB (BS.beq c d) U
def F11 (N:Nat) (args:List V) (U:H):AF:=
 uF args fun a b=>
 lD E D W a b U
def A11:Dv:=⟨10,[.any,.any],[(.tmp 4)],AJP⟩
theorem ANB (args:List V) (U:H):B9 E D W N A11 args U=F11 E D W N args U:=by kernel_rfl
def ADh:List (Nat × CZ):=[(0,.any),(1,.i),(5,.i)]
def WR (E:EB):St->AF:=fun s=>DR E s [(.tmp 4)] fun l=>some (Dh l,s.U)
def AKy (c0:XC):Nat->St->AF:=Bf 0 (dX E D W N (.keep [] [] [] c0) (WR E) nX (WR E)) nX
def wI (cc1:XC) (cc2:XC):XC:=(.z (.aT 4 y3)
 (.seq (.z (.aN 5 0)
 (.block 0 (.loop ADh [] [] cc2)))
 (.keep [] [] [] cc1)))
def AFD (E:EB) (D:Ai) (W:AH) (K2:V->Int->Int->H->AF) (a:V) (b:Int) (U:H):AF:=
 K2 a b (AA 0) U
def cc:XC:=(.z (.aT 4 y3)
 .ret)
def RM (E:EB) (D:Ai) (W:AH) (U:H):AF:=
 rB false U
def ca:XC:=(.seq (.z (.aC 6 5 0<|
.u 8 7<|
.aF 9 6 8)
 wL)
 (.seq (.block 1 (.z (.aC 12 0 5<|
.bT 14 1 12 13 .i<|
.m 16 1<|
.b 17 .eql .none (.t 15) (.t 16)<|
.nil)
 y25))
 y24))
def Pj (E:EB) (D:Ai) (W:AH) (K1:H->AF) (R2:V->Int->Int->H->AF) (a:V) (b c:Int) (U:H):AF:=
 A0 a fun d=>
 AI (Ci c (AA d)) (
 AW 1 a c fun d e=>
 lI E U d e fun d=>
 AI (Bt d b) (
 rB true U) (
 R2 a b (Ba .i64 c (AA 1)) U)) (
 K1 U)
def AGW (a:V) (b:Int) (U:H):St:=⟨[(0,a),(1,.int .i64 b)],[],[],U⟩
def AGV (a:V) (b c:Int) (U:H):St:=⟨[(0,a),(1,.int .i64 b),(5,.int .i64 c)],[],[],U⟩
def AHD (E:EB) (D:Ai) (W:AH) (N:Nat):=RM E D W
def Z2 (n:Nat):V->Int->Int->H->AF:=
 Nat.rec (fun _ _ _ _=>none) (fun _ ih=>Pj E D W (AHD E D W N ) ih) n
theorem z6 (n:Nat) :
 (fun a b c U=>BN (fun rec s'=>Ay E D W N ca s' (kX ADh [] [] rec) (AKy E D W N cc) (WR E)) n (AGV a b c U))=Z2 E D W N n:=xW (fun _=>by kernel_rfl) n
def nk:=AFD E D W (Z2 E D W N N)
theorem AA4 :
 (fun a b U=>Ay E D W N (wI cc ca) (AGW a b U) (WR E) nX (WR E))=nk E D W N:=by
 unfold nk;rw[<-z6];generalize cc=x0,ca=x1;revert x0 x1;refine id ?_;intros;kernel_rfl
def F12 (args:List V) (U:H):AF:=
 uC args fun a b=>
 nk E D W N a b U
def A12:Dv:=⟨18,[.any,.i],[(.tmp 4)],(wI cc ca)⟩
theorem ANA (args:List V) (U:H):B9 E D W N A12 args U=F12 E D W N args U:=by
 unfold F12;rw[<-AA4];kernel_rfl
def SR:List (Nat × CZ):=[(2,.ptr),(8,.ptr)]
def vX:List BO:=[⟨(some 140),.build [(V.str ⟨0,0⟩),(V.int .i64 (AA 0)),V.nils,V.nils,V.nils] [],none⟩,⟨(some 141),.mov (.tmp 8),none⟩,⟨(some 142),.nilck (.tmp 141),none⟩,⟨(some 143),.faddr 8 (.tmp 142),none⟩,⟨(some 144),.load none (.tmp 143),none⟩,⟨(some 145),.mov (.tmp 8),none⟩,⟨(some 146),.nilck (.tmp 145),none⟩,⟨(some 147),.faddr 7 (.tmp 146),none⟩,⟨(some 148),.load none (.tmp 147),none⟩,⟨none,.store 5 (.tmp 2) (.tmp 140),none⟩,⟨(some 3),.mov (.tmp 144),none⟩,⟨(some 4),.mov (.tmp 148),none⟩]
def vQ:List DP:=[⟨0,[]⟩,⟨0,[8]⟩,⟨2,[141]⟩,⟨6,[142]⟩,⟨14,[143]⟩,⟨0,[8]⟩,⟨32,[145]⟩,⟨96,[146]⟩,⟨224,[147]⟩,⟨1,[2,140]⟩,⟨543,[144]⟩,⟨2047,[148]⟩]
def Kw (E:EB):St->AF:=fun s=>DR E s [(.cell 2 (some 5)),(.tmp 3),(.tmp 4)] fun l=>some (Dh l,s.U)
def AES (c0:XC):Nat->St->AF:=Bf 1 (dX E D W N (.keep SR [] [] c0) (Kw E) nX (Kw E)) nX
def wH (cc1:XC):XC:=(.z (.p 2 [] (.alloc 51 [y5,y0,V.nils,V.nils,V.nils])<|
.q 3 0<|
.aN 4 0)
 (.z (.m 13 0<|
.k 14 (.tup [.any,.i,.i]) 19 [(.t 13)]<|
.m 12 14<|
.aG 15 0 12 1 12<|
.P 17 (.extract 2 (.t 12))<|
.aC 5 15 16<|
.aH 7 17)
 (.seq (.z (.bF 18 7 0<|
.nil)
 (.cond (.tmp 19) (.z (.op (some 20) Tz [] (.build [y5,y0,V.nils,V.nils,V.nils] [])<|
.aC 21 6 7<|
.op none Tz [2,20] (.store 5 (.t 2) (.t 20))<|
.aC 3 21 22<|
.nil)
 .ret)
 .skip))
 (.z (.m 23 5<|
.op (some 24) (.agg [.any,.i,.str,.i,.any,.any,.any,.i,.i]) [23] (.build [V.nils,y0,y5,y0,V.nils,V.nils,V.nils,y0,y0] [(0,1,(.t 23))])<|
.P 25 (.box 68 (.t 24))<|
.aH 8 25)
 (.z (.aC 26 8 8<|
.k 28 .str 20 [(.t 27),(.i 1)]<|
.n 29 26<|
.f 30 2 29<|
.bH 31 0 30 1 28)
 (.z (.aU 32 8 HM 21 11 100710650190388740279911748)
 (.seq (.block 0 (.z (.m 35 8<|
.k 36 .bool 22 [(.t 35),y35]<|
.bO 34)
 (.cond (.tmp 34) (.ops (.m 37 8<|
.k 38 HM 21 [(.t 37),y32]<|
.nil))
 (.z (.m 40 8<|
.k 41 .bool 22 [(.t 40),y36]<|
.bO 39)
 (.cond (.tmp 39) (.z (.aM 42 8<|
.f 44 2 43<|
.aI 45 1 44 1 1<|
.nil)
 (.ops (.m 46 8<|
.k 47 HM 21 [(.t 46),y32]<|
.nil)))
 (.z (.aR 49 8 .bool 22 9 1241215773001651606849<|
.bO 48)
 (.cond (.tmp 48) (.z (.aM 51 8<|
.f 53 2 52<|
.aI 54 1 53 1 2<|
.nil)
 (.ops (.m 55 8<|
.k 56 HM 21 [(.t 55),y32]<|
.nil)))
 .skip)))))))
 (.keep SR [] [] cc1))))))))
def Ze (E:EB) (D:Ai) (W:AH) (K1:Nat->Nat->Nat->Nat->H->AF) (a:BS) (U:H):AF:=
 let b:=Br U (.cells [.str ⟨0,0⟩,iN 0,V.nils,V.nils,V.nils]);
 cT (D 19 [.str a] b) fun b c=>
 uG b fun b d e=>
 AI (not (Bt e (AA 0))) (
 DX 5 (H.next U) 0 (V.agg [sN 0 0,iN 0,V.nils,V.nils,V.nils]) c fun f=>
 Bv E f (H.next U) 0 5 fun g=>
 some ((V.tup [.agg g,.int .i64 d,.int .i64 e]),f)) (
 D9 [(0,1,b)] [V.nils,iN 0,.str ⟨0,0⟩,iN 0,V.nils,V.nils,V.nils,iN 0,iN 0] fun b=>
 uH b fun b d e f g h i j k=>
 Ix (eH b d e f g h i j k) c fun b=>
 cS (D 20 [.ptr (H.next c) 0,iN 1] b) fun b d=>
 DX 1 (H.next c) 2 (V.str b) d fun b=>
 c0 (D 21 [.ptr (H.next c) 0,sN 11 100710650190388740279911748] b) fun b=>
 cB (D 22 [.ptr (H.next c) 0,sN 8 6073459554577832005] b) fun b d=>
 AI b (
 c0 (D 21 [.ptr (H.next c) 0,sN 4 1397178708] d) fun b=>
 K1 (H.next U) 0 (H.next c) 0 b) (
 cB (D 22 [.ptr (H.next c) 0,sN 8 6073459554577829193] d) fun b d=>
 AI b (
 DX 1 (H.next c) 3 (iN 1) d fun b=>
 c0 (D 21 [.ptr (H.next c) 0,sN 4 1397178708] b) fun b=>
 K1 (H.next U) 0 (H.next c) 0 b) (
 cB (D 22 [.ptr (H.next c) 0,sN 9 1241215773001651606849] d) fun b d=>
 AI b (
 DX 1 (H.next c) 3 (iN 2) d fun b=>
 c0 (D 21 [.ptr (H.next c) 0,sN 4 1397178708] b) fun b=>
 K1 (H.next U) 0 (H.next c) 0 b) (
 K1 (H.next U) 0 (H.next c) 0 d))))
def cZ (cc2:XC) (cc3:XC):XC:=(.z (.aU 57 8 HM 21 3 4012602)
 (.z (.aU 59 8 HM 21 5 336236856642)
 (.seq (.block 1 (.loop SR [] [] cc3))
 (.keep SR [] [] cc2))))
def Zd (E:EB) (D:Ai) (W:AH) (K3:Nat->Nat->Nat->Nat->H->AF) (a b c d:Nat) (U:H):AF:=
 c0 (D 21 [.ptr c d,sN 3 4012602] U) fun e=>
 c0 (D 21 [.ptr c d,sN 5 336236856642] e) fun e=>
 K3 a b c d e
def LG (cc5:XC):XC:=(.seq (.z (.aM 120 8<|
.aK 122 7 121 0<|
.m 125 124<|
.gA 125 true (.p 126 [8,125] fR<|
.op (some 127) y7 [126,125] (.call 23 [(.t 126)])<|
.op (some 128) .i [127,125] (.field 0 none (.t 127))<|
.bP 129 128 125 128 0) 130 125 129<|
.nil)
 (.cond (.tmp 130) (.ops (.aC 131 8 8<|
.k 133 y7 23 [(.t 132)]<|
.k 134 HM 24 [(.t 131),(.i 7),(.t 133)]<|
.nil))
 .skip))
 (.keep SR [] [] cc5))
def RL (E:EB) (D:Ai) (W:AH) (K5:Nat->Nat->Nat->Nat->H->AF) (a b c d:Nat) (U:H):AF:=
 lI E U c (AP d 7) fun e=>
 Af (fun f g=>
 AI f (
 cA (D 23 [.ptr c d] g) fun f h=>
 uI f fun f i j=>
 c0 (D 24 [.ptr c d,iN 7,.agg (eI f i j)] h) fun f=>
 K5 a b c d f) (
 K5 a b c d g)) fun f=>
 AI (Bt e (AA 0)) (
 cA (D 23 [.ptr c d] U) fun e g=>
 uI e fun e h i=>
 f (not (Bt e (AA 0))) g) (
 f false U)
def SB (cc4:XC):XC:=(.seq (.z (.aM 61 8<|
.aK 63 7 62 0<|
.m 66 65<|
.gA 66 true (.p 67 [8,66] fR<|
.op (some 68) .bool [67,66] (.call 22 [(.t 67),(.con (V.str ⟨3,4476485⟩))])<|
.bG 69 68 66 68) 70 66 69<|
.nil)
 (.cond (.tmp 70) .skip
 (.exit 1)))
 (.block 2 (.z (.m 71 8<|
.k 72 y7 23 [(.t 71)]<|
.pal 9 [] 73 [y0,y5,y0]<|
.op none y7 [9,72] (.store 3 (.t 9) (.t 72))<|
.nil)
 (.z (.m 73 8<|
.k 74 .str 20 [(.t 73),(.i 1)]<|
.aH 10 74)
 (.seq (.z (.aM 75 8<|
.aK 77 7 76 0<|
.m 80 79<|
.gA 80 true (.bN 81 8 80 fR 80 80 2<|
.aJ 84 83 80 2 83 80 80<|
.bQ 87 86 80 86 40) 88 80 87<|
.nil)
 (.cond (.tmp 88) (.ops (.bE 89 8 y7 3 9<|
.k 91 HM 24 [(.t 89),(.i 5),(.t 90)]<|
.nil))
 .skip))
 (.keep [(2,.ptr),(8,.ptr),(10,.str)] [] [] cc4))))))
def RK (E:EB) (D:Ai) (W:AH) (K2:Nat->Nat->Nat->Nat->H->AF) (K4:Nat->Nat->Nat->Nat->BS->H->AF) (a b c d:Nat) (U:H):AF:=
 lI E U c (AP d 7) fun e=>
 Af (fun f g=>
 AI f (
 cA (D 23 [.ptr c d] g) fun f h=>
 uI f fun f i j=>
 cS (D 20 [.ptr c d,iN 1] h) fun h k=>
 lI E k c (AP d 7) fun l=>
 Af (fun m n=>
 AI m (
 c0 (D 24 [.ptr c d,iN 5,.agg (eI f i j)] n) fun f=>
 K4 a b c d h f) (
 K4 a b c d h n)) fun f=>
 AI (Bt l (AA 0)) (
 lL E k c (AP (AP d 2) 2) fun h=>
 f (I3 (AA 40) (AA h)) k) (
 f false k)) (
 K2 a b c d g)) fun f=>
 AI (Bt e (AA 0)) (
 cB (D 22 [.ptr c d,sN 3 4476485] U) fun e g=>
 f (not e) g) (
 f false U)
def Nx:XC:=(.z (.aU 92 8 HM 21 3 4012602)
 (.z (.m 94 8<|
.k 95 .i 25 [(.t 94),(.i 0)]<|
.aH 11 95)
 (.z (.aC 96 8 8<|
.n 98 97<|
.f 99 2 98<|
.aZ 100 2 99 10<|
.aX 103 102 9 1 y5 0 1 102 .one 9 1 16 101<|
.n 105 96<|
.f 106 2 105<|
.bH 107 2 106 1 104)
 (.ops (.aC 108 8 8<|
.n 110 109<|
.f 111 2 110<|
.aZ 112 3 111 11<|
.aX 115 114 3 1 y0 0 1 114 .one 3 1 8 113<|
.n 117 108<|
.f 118 2 117<|
.bH 119 3 118 1 116)))))
def Zc (E:EB) (D:Ai) (W:AH) (R3:Nat->Nat->Nat->Nat->H->AF) (a b c d:Nat) (e:BS) (U:H):AF:=
 c0 (D 21 [.ptr c d,sN 3 4012602] U) fun f=>
 cI (D 25 [.ptr c d,iN 0] f) fun f g=>
 EG E g c (AP (AP d 2) 2) fun h=>
 let i:=Br g (.cells [.str e]);
 DV E 1 16 h (V.sl (H.next g) 0 1 (.ex 1)) i fun g h=>
 CB g (
 DX 1 c (AP (AP d 2) 2) g h fun g=>
 EG E g c (AP (AP d 2) 3) fun h=>
 let i:=Br g (.cells [.int .i64 f]);
 DV E 1 8 h (V.sl (H.next g) 0 1 (.ex 1)) i fun f g=>
 CB f (
 DX 1 c (AP (AP d 2) 3) f g fun f=>
 R3 a b c d f))
def LF:XC:=(.seq (.z (.aM 135 8<|
.aP 137 7 136 0<|
.nil)
 (.cond (.tmp 139) (.seq (.keep SR [] [] (.gdraw vX vQ [(2,.ptr),(3,.i),(4,.i)]))
 .ret)
 .skip))
 (.z (.aM 149 8<|
.f 151 2 150<|
.bB 152 Tz 5 151 Tz 2 5 2<|
.q 3 0<|
.aN 4 0)
 .ret))
def RJ (E:EB) (D:Ai) (W:AH) (a b c d:Nat) (U:H):AF:=
 lI E U c (AP d 7) fun e=>
 AI (not (Bt e (AA 0))) (
 Cc (W vX vQ [(2,.ptr a b),(8,.ptr c d)] U) fun e f=>
 BL e 2 fun g=>
 B4 g fun g h=>
 BL e 3 fun i=>
 Ch .i64 i fun i=>
 BL e 4 fun e=>
 Ch .i64 e fun e=>
 Bv E f g h 5 fun g=>
 some ((V.tup [.agg g,.int .i64 i,.int .i64 e]),f)) (
 Bv E U c (AP d 2) 5 fun e=>
 uD e fun e f g h i=>
 DX 5 a b (V.agg (eD e f g h i)) U fun e=>
 Bv E e a b 5 fun f=>
 some ((V.tup [.agg f,iN 0,iN 0]),e))
def AGU (a:BS) (U:H):St:=⟨[(0,.str a)],[],[],U⟩
def Zt (a b c d:Nat) (U:H):St:=⟨[(2,.ptr a b),(8,.ptr c d)],[],[],U⟩
def AGT (a b c d:Nat) (e:BS) (U:H):St:=⟨[(2,.ptr a b),(8,.ptr c d),(10,.str e)],[],[],U⟩
def AHC (E:EB) (D:Ai) (W:AH) (N:Nat):=RJ E D W
def nZ:=RL E D W (AHC E D W N )
theorem AA1 :
 (fun a b c d U=>Ay E D W N (LG LF) (Zt a b c d U) (Kw E) nX (Kw E))=nZ E D W N:=by
 unfold nZ;kernel_rfl
def nY (E:EB) (D:Ai) (W:AH) (N:Nat) (R3:Nat->Nat->Nat->Nat->H->AF):=Zc E D W R3
theorem AA0 (li3:St->AF) :
 (fun a b c d e U=>Ay E D W N Nx (AGT a b c d e U) (kX SR [] [] li3) (Bf 2 (kX SR [] [] li3) (AES E D W N (LG LF))) (Kw E))=nY E D W N (fun a b c d U=>li3 (Zt a b c d U)):=by
 unfold nY;generalize LG LF=x0;revert x0;refine id ?_;intros;kernel_rfl
def V3 (n:Nat):Nat->Nat->Nat->Nat->H->AF:=
 Nat.rec (fun _ _ _ _ _=>none) (fun _ ih=>RK E D W (nZ E D W N ) (nY E D W N ih)) n
theorem z5 (n:Nat) :
 (fun a b c d U=>BN (fun rec s'=>Ay E D W N (SB Nx) s' (kX SR [] [] rec) (AES E D W N (LG LF)) (Kw E)) n (Zt a b c d U))=V3 E D W N n:=WU (fun li=>by rw[<-AA1,<-AA0];generalize LG LF=x0,Nx=x1;revert x0 x1;refine id ?_;intros;kernel_rfl) n
def nh:=Zd E D W (V3 E D W N N)
theorem AA2 :
 (fun a b c d U=>Ay E D W N (cZ (LG LF) (SB Nx)) (Zt a b c d U) (Kw E) nX (Kw E))=nh E D W N:=by
 unfold nh;rw[<-z5];generalize LG LF=x0,SB Nx=x1;revert x0 x1;refine id ?_;intros;kernel_rfl
def nj:=Ze E D W (nh E D W N )
theorem AA3 :
 (fun a U=>Ay E D W N (wH (cZ (LG LF) (SB Nx))) (AGU a U) (Kw E) nX (Kw E))=nj E D W N:=by
 unfold nj;rw[<-AA2];generalize cZ (LG LF) (SB Nx)=x0;revert x0;refine id ?_;intros;kernel_rfl
def F13 (args:List V) (U:H):AF:=
 T0 args fun a b=>
 BJ b (
 nj E D W N a U)
def A13:Dv:=⟨153,[.str],[(.cell 2 (some 5)),(.tmp 3),(.tmp 4)],(wH (cZ (LG LF) (SB Nx)))⟩
theorem AM9 (args:List V) (U:H):B9 E D W N A13 args U=F13 E D W N args U:=by
 unfold F13;rw[<-AA3];kernel_rfl
def qH:List (Nat × CZ):=[(1,.ptr),(2,.ptr),(8,.ptr),(9,.ptr),(10,.i)]
def ADg:List (Nat × CZ):=[(2,.ptr),(8,.ptr),(9,.ptr)]
def Rb:List BO:=[⟨(some 25),.faddr 0 (.tmp 1),none⟩,⟨(some 26),.load none (.tmp 25),none⟩,⟨(some 27),.faddr 2 (.tmp 1),none⟩,⟨(some 28),.load none (.tmp 27),none⟩,⟨(some 29),.append 9 1 16 (.con V.nils) (.tmp 28),none⟩,⟨(some 30),.build [(V.str ⟨0,0⟩),V.nils,V.nils,V.nils] [(0,1,(.tmp 26)),(1,1,(.tmp 29))],none⟩,⟨(some 9),.alloc 31 [(V.str ⟨0,0⟩),V.nils,V.nils,V.nils],none⟩,⟨none,.store 4 (.tmp 9) (.tmp 30),none⟩]
def Nj:List DP:=[⟨0,[1]⟩,⟨1,[25]⟩,⟨0,[1]⟩,⟨4,[27]⟩,⟨12,[28]⟩,⟨31,[26,29]⟩,⟨0,[]⟩,⟨127,[9,30]⟩]
def Ra:List BO:=[⟨(some 38),.faddr 2 (.tmp 9),none⟩,⟨(some 39),.load none (.tmp 38),none⟩,⟨(some 40),.mov (.tmp 8),none⟩,⟨(some 41),.faddr 3 (.tmp 1),none⟩,⟨(some 42),.load none (.tmp 41),none⟩,⟨(some 43),.mov (.tmp 10),none⟩,⟨(some 44),.iaddrS 1 (.tmp 42) (.tmp 43),none⟩,⟨(some 45),.load none (.tmp 44),none⟩,⟨(some 46),.call 27 [(.tmp 40),(.tmp 45),(.con (V.int .i64 (AA 0)))],none⟩,⟨(some 47),.buildSlice 3 1 [(V.int .i64 (AA 0))] [(0,1,(.tmp 46))],none⟩,⟨(some 48),.append 3 1 8 (.tmp 39) (.tmp 47),none⟩,⟨(some 49),.faddr 2 (.tmp 9),none⟩,⟨none,.store 1 (.tmp 49) (.tmp 48),none⟩]
def MY:List DP:=[⟨0,[9]⟩,⟨1,[38]⟩,⟨0,[8]⟩,⟨0,[1]⟩,⟨8,[41]⟩,⟨0,[10]⟩,⟨56,[42,43]⟩,⟨120,[44]⟩,⟨252,[40,45]⟩,⟨508,[46]⟩,⟨1023,[39,47]⟩,⟨2047,[9]⟩,⟨4095,[49,48]⟩]
def vW:List BO:=[⟨(some 55),.build [(V.str ⟨0,0⟩),V.nils,V.nils,V.nils] [],none⟩,⟨(some 56),.mov (.tmp 10),none⟩,⟨(some 57),.mov (.tmp 8),none⟩,⟨(some 58),.nilck (.tmp 57),none⟩,⟨(some 59),.faddr 6 (.tmp 58),none⟩,⟨(some 60),.load none (.tmp 59),none⟩,⟨none,.store 4 (.tmp 2) (.tmp 55),none⟩,⟨(some 3),.mov (.tmp 56),none⟩,⟨(some 4),.mov (.tmp 60),none⟩]
def vP:List DP:=[⟨0,[]⟩,⟨0,[10]⟩,⟨0,[8]⟩,⟨4,[57]⟩,⟨12,[58]⟩,⟨28,[59]⟩,⟨1,[2,55]⟩,⟨67,[56]⟩,⟨255,[60]⟩]
def WQ (E:EB):St->AF:=fun s=>DR E s [(.cell 2 (some 4)),(.tmp 3),(.tmp 4)] fun l=>some (Dh l,s.U)
def AKx (c0:XC):Nat->St->AF:=Bf 0 (dX E D W N (.keep ADg [] [] c0) (WQ E) nX (WQ E)) nX
def wG (cc1:XC) (cc2:XC):XC:=(.z (.P 1 (.box 51 (.t 0))<|
.p 2 [] y22<|
.q 3 0<|
.aN 4 0)
 (.z (.O 12 Tz (.load (some 5) (.t 1))<|
.k 13 (.tup [.any,.i,.i]) 26 [(.t 12)]<|
.m 11 13<|
.aG 14 0 11 1 11<|
.P 16 (.extract 2 (.t 11))<|
.m 5 14<|
.m 6 15<|
.m 7 16<|
.nil)
 (.seq (.z (.bF 17 7 0<|
.nil)
 (.cond (.tmp 18) (.z (.op (some 19) y6 [] (.build [y5,V.nils,V.nils,V.nils] [])<|
.aC 20 6 7<|
.op none y6 [2,19] (.store 4 (.t 2) (.t 19))<|
.aC 3 20 21<|
.nil)
 .ret)
 .skip))
 (.z (.O 22 Tz (.load (some 5) (.t 1))<|
.op (some 23) (.agg [.str,.i,.any,.any,.any,.any,.i]) [22] (.build [y5,y0,V.nils,V.nils,V.nils,V.nils,y0] [(0,5,(.t 22))])<|
.P 24 (.box 81 (.t 23))<|
.aH 8 24)
 (.seq (.keep [(1,.ptr),(2,.ptr),(8,.ptr)] [] [] (.gdraw Rb Nj [(1,.ptr),(2,.ptr),(8,.ptr),(9,.ptr)]))
 (.seq (.z (.aN 10 0)
 (.block 0 (.loop qH [] [] cc2)))
 (.keep ADg [] [] cc1)))))))
def Zb (K2:Nat->Nat->Nat->Nat->Nat->Nat->Nat->Nat->Int->H->AF) (a:BS) (b:Int) (c d e:V) (U:H):AF:=
 Ix (eD a b c d e) U fun f=>
 let g:=Br f (.cells [.str ⟨0,0⟩,V.nils,V.nils,V.nils]);
 Bv E g (H.next U) 0 5 fun h=>
 uD h fun h i j k l=>
 cT (D 26 [.agg (eD h i j k l)] g) fun g h=>
 uG g fun g i j=>
 AI (not (Bt j (AA 0))) (
 DX 4 (H.next f) 0 (V.agg [sN 0 0,V.nils,V.nils,V.nils]) h fun g=>
 Bv E g (H.next f) 0 4 fun k=>
 some ((V.tup [.agg k,.int .i64 i,.int .i64 j]),g)) (
 Bv E h (H.next U) 0 5 fun g=>
 uD g fun g i j k l=>
 Ix [.str g,.int .i64 i,j,k,l,V.nils,iN 0] h fun g=>
 Cc (W Rb Nj [(1,.ptr (H.next U) 0),(2,.ptr (H.next f) 0),(8,.ptr (H.next h) 0)] g) fun f g=>
 BL f 1 fun h=>
 B4 h fun h i=>
 BL f 2 fun j=>
 B4 j fun j k=>
 BL f 8 fun l=>
 B4 l fun l m=>
 BL f 9 fun f=>
 B4 f fun f n=>
 K2 h i j k l m f n (AA 0) g)
def cY:XC:=(.z (.aM 61 8<|
.aB 63 5 62 .any<|
.bH 65 3 9 1 64)
 (.z (.bB 66 y6 4 9 y6 2 4 2<|
.q 3 0<|
.aN 4 0)
 .ret))
def RI (E:EB) (D:Ai) (W:AH) (a b c d e f:Nat) (U:H):AF:=
 EG E U c (AP d 5) fun g=>
 DX 1 e (AP f 3) g U fun g=>
 Bv E g e f 4 fun h=>
 uA h fun h i j k=>
 DX 4 a b (V.agg (eA h i j k)) g fun g=>
 Bv E g a b 4 fun h=>
 some ((V.tup [.agg h,iN 0,iN 0]),g)
def cX:XC:=(.seq (.z (.m 31 10<|
.aS 32 2 1<|
.aF 35 31 34)
 (.cond (.tmp 35) .skip
 Jh))
 (.seq (.block 1 (.seq (.keep qH [] [] (.gdraw Ra MY qH))
 (.z (.aM 50 8<|
.aP 52 6 51 0<|
.nil)
 (.cond (.tmp 54) (.seq (.keep [(2,.ptr),(8,.ptr),(10,.i)] [] [] (.gdraw vW vP [(2,.ptr),(3,.i),(4,.i)]))
 .ret)
 .skip))))
 (.ops (.m 36 10<|
.aA 37 36 1 10))))
def Pe (E:EB) (D:Ai) (W:AH) (K1:Nat->Nat->Nat->Nat->Nat->Nat->H->AF) (R2:Nat->Nat->Nat->Nat->Nat->Nat->Nat->Nat->Int->H->AF) (a b c d e f g h:Nat) (i:Int) (U:H):AF:=
 lL E U a (AP b 2) fun j=>
 AI (Ci i (AA j)) (
 Cc (W Ra MY [(1,.ptr a b),(2,.ptr c d),(8,.ptr e f),(9,.ptr g h),(10,.int .i64 i)] U) fun j k=>
 BL j 1 fun l=>
 B4 l fun l m=>
 BL j 2 fun n=>
 B4 n fun n o=>
 BL j 8 fun p=>
 B4 p fun p q=>
 BL j 9 fun r=>
 B4 r fun r s=>
 BL j 10 fun j=>
 Ch .i64 j fun j=>
 lI E k p (AP q 6) fun t=>
 AI (not (Bt t (AA 0))) (
 Cc (W vW vP [(2,.ptr n o),(8,.ptr p q),(10,.int .i64 j)] k) fun t u=>
 BL t 2 fun v=>
 B4 v fun v w=>
 BL t 3 fun x=>
 Ch .i64 x fun x=>
 BL t 4 fun t=>
 Ch .i64 t fun t=>
 Bv E u v w 4 fun v=>
 some ((V.tup [.agg v,.int .i64 x,.int .i64 t]),u)) (
 R2 l m n o p q r s (Ba .i64 j (AA 1)) k)) (
 K1 c d e f g h U)
def AGS (a:BS) (b:Int) (c d e:V) (U:H):St:=⟨[(0,.agg [.str a,.int .i64 b,c,d,e])],[],[],U⟩
def AGR (a b c d e f g h:Nat) (i:Int) (U:H):St:=⟨[(1,.ptr a b),(2,.ptr c d),(8,.ptr e f),(9,.ptr g h),(10,.int .i64 i)],[],[],U⟩
def AHB (E:EB) (D:Ai) (W:AH) (N:Nat):=RI E D W
def V2 (n:Nat):Nat->Nat->Nat->Nat->Nat->Nat->Nat->Nat->Int->H->AF:=
 Nat.rec (fun _ _ _ _ _ _ _ _ _ _=>none) (fun _ ih=>Pe E D W (AHB E D W N ) ih) n
theorem z4 (n:Nat) :
 (fun a b c d e f g h i U=>BN (fun rec s'=>Ay E D W N cX s' (kX qH [] [] rec) (AKx E D W N cY) (WQ E)) n (AGR a b c d e f g h i U))=V2 E D W N n:=xX (fun _=>by kernel_rfl) n
def nW:=Zb E D W (V2 E D W N N)
theorem AAz :
 (fun a b c d e U=>Ay E D W N (wG cY cX) (AGS a b c d e U) (WQ E) nX (WQ E))=nW E D W N:=by
 unfold nW;rw[<-z4];generalize cY=x0,cX=x1;revert x0 x1;refine id ?_;intros;kernel_rfl
def F14 (args:List V) (U:H):AF:=
 Ae args fun a b=>
 CW a fun a=>
 uD a fun a c d e f=>
 BJ b (
 nW E D W N a c d e f U)
def A14:Dv:=⟨67,[Tz],[(.cell 2 (some 4)),(.tmp 3),(.tmp 4)],(wG cY cX)⟩
theorem AM8 (args:List V) (U:H):B9 E D W N A14 args U=F14 E D W N args U:=by
 unfold F14;rw[<-AAz];kernel_rfl
def AJO:XC:=(.z (.P 3 (.box 31 (.t 0))<|
.P 5 (.box 37 (.t 2))<|
.aT 6 y3)
 (.z (.O 8 y6 (.load (some 4) (.t 3))<|
.op (some 9) y6 [8] (.build [y5,V.nils,V.nils,V.nils] [(0,4,(.t 8))])<|
.op (some 10) (.agg [.str,.any,.any,.any,.bool]) [9] (.build [y5,V.nils,V.nils,V.nils,y3] [(0,4,(.t 9))])<|
.P 11 (.box 88 (.t 10))<|
.m 7 11<|
.nil)
 (.z (.aC 12 7 1<|
.O 14 y2 (.load (some 6) (.t 5))<|
.k 15 .bool 30 [(.t 12),(.t 13),(.t 14),(.i 1)]<|
.m 16 15<|
.gA 16 true (.op (some 17) y2 [5,16] (.load (some 6) (.t 5))<|
.op (some 18) .i [17,16] (.call 31 [(.t 17)])<|
.p 19 [18,16] (.bin .leq .none (.t 18) (.i 5000))<|
.nil) 20 16 19<|
.aH 6 20)
 .ret)))
def lC (E:EB) (D:Ai) (W:AH) (a:BS) (b c d:V) (e f g:Int) (h i:V) (j:Int) (k:V) (U:H):AF:=
 Ix (eA a b c d) U fun l=>
 Ix (eB f g h i j k) l fun m=>
 Bv E m (H.next U) 0 4 fun n=>
 uA n fun n o p q=>
 Ix [.str n,o,p,q,.bool false] m fun n=>
 Bv E n (H.next l) 0 6 fun o=>
 uB o fun o p q r s t=>
 cB (D 30 [.ptr (H.next m) 0,.int .i64 e,.agg (eB o p q r s t),iN 1] n) fun m n=>
 Af (fun o p=>
 rB o p) fun o=>
 AI m (
 Bv E n (H.next l) 0 6 fun l=>
 uB l fun l m p q r s=>
 cI (D 31 [.agg (eB l m p q r s)] n) fun l m=>
 o (I3 l (AA 5000)) m) (
 o false n)
def F16 (N:Nat) (args:List V) (U:H):AF:=
 Ae args fun a b=>
 CW a fun a=>
 uA a fun a c d e=>
 Dy .i64 b fun b f=>
 Ae f fun f g=>
 CW f fun f=>
 uB f fun f h i j k l=>
 BJ g (
 lC E D W a c d e b f h i j k l U)
def A16:Dv:=⟨21,[y6,.i,y2],[(.tmp 6)],AJO⟩
theorem AM7 (args:List V) (U:H):B9 E D W N A16 args U=F16 E D W N args U:=by kernel_rfl
def AJN:XC:=(.z (.P 2 (.box 37 (.t 0))<|
.P 3 (.box 3 (.t 1))<|
.aT 4 y3)
 (.z (.aK 5 4 2 0<|
.m 8 7<|
.gO 8 false (.aE 9 2 8 4 2 8<|
.op (some 11) .i [3,8] (.load none (.t 3))<|
.p 12 [10,11,8] (.bin .eql .none (.t 10) (.t 11))<|
.nil) 13 8 12<|
.m 14 13<|
.gA 14 true (.bC 15 2 14 3 2 14<|
.p 17 [3,14] (.mkfn 33 [] [(.t 3)])<|
.op (some 18) .bool [16,17,14] (.call 32 [(.t 16),(.t 17)])<|
.bG 19 18 14 18) 20 14 19<|
.aH 4 20)
 .ret))
def lA (E:EB) (D:Ai) (W:AH) (a b:Int) (c d:V) (e:Int) (f:V) (g:Int) (U:H):AF:=
 Ix (eB a b c d e f) U fun h=>
 Ix (V.cells (V.int .i64 g)) h fun i=>
 lI E i (H.next U) 4 fun j=>
 Af (fun k l=>
 Af (fun m n=>
 rB m n) fun m=>
 AI k (
 EG E l (H.next U) 3 fun k=>
 cB (D 32 [k,.fn 33 [] [.ptr (H.next h) 0]] l) fun k n=>
 m (not k) n) (
 m false l)) fun k=>
 AI (Bt j (AA 0)) (
 k true i) (
 lI E i (H.next U) 4 fun j=>
 lI E i (H.next h) 0 fun h=>
 k (Bt j h) i)
def F17 (N:Nat) (args:List V) (U:H):AF:=
 Ae args fun a b=>
 CW a fun a=>
 uB a fun a c d e f g=>
 Dy .i64 b fun b h=>
 BJ h (
 lA E D W a c d e f g b U)
def A17:Dv:=⟨21,[y2,.i],[(.tmp 4)],AJN⟩
theorem AM6 (args:List V) (U:H):B9 E D W N A17 args U=F17 E D W N args U:=by kernel_rfl
def ADf:List (Nat × CZ):=[(0,.ptr),(7,.ptr),(8,.any),(49,.any),(50,.i),(51,.i)]
def xH:List (Nat × CZ):=[(5,.ptr),(7,.ptr)]
def RZ:List BO:=[⟨(some 39),.faddr 1 (.tmp 7),none⟩,⟨(some 40),.load none (.tmp 39),none⟩,⟨(some 41),.faddr 1 (.tmp 5),none⟩,⟨(some 42),.load none (.tmp 41),none⟩,⟨(some 43),.call 35 [(.tmp 42)],none⟩,⟨(some 44),.buildSlice 22 1 [V.nils] [(0,1,(.tmp 43))],none⟩,⟨(some 45),.call 34 [(.tmp 40),(.con (V.bool false)),(.tmp 44)],none⟩,⟨(some 6),.mov (.tmp 45),none⟩]
def WC:List DP:=[⟨0,[7]⟩,⟨1,[39]⟩,⟨0,[5]⟩,⟨4,[41]⟩,⟨12,[42]⟩,⟨28,[43]⟩,⟨63,[40,44]⟩,⟨127,[45]⟩]
def vV:List BO:=[⟨(some 79),.faddr 1 (.tmp 7),none⟩,⟨(some 80),.load none (.tmp 79),none⟩,⟨(some 81),.mov (.tmp 0),none⟩,⟨(some 82),.faddr 9 (.tmp 7),none⟩,⟨(some 83),.load none (.tmp 82),none⟩,⟨(some 84),.faddr 1 (.tmp 5),none⟩,⟨(some 85),.load none (.tmp 84),none⟩,⟨(some 86),.iaddrS 11 (.tmp 83) (.tmp 85),none⟩,⟨(some 87),.faddr 1 (.tmp 86),none⟩,⟨(some 88),.load none (.tmp 87),none⟩,⟨(some 89),.faddr 3 (.tmp 5),none⟩,⟨(some 90),.load none (.tmp 89),none⟩,⟨(some 91),.iaddrS 6 (.tmp 90) (.con (V.int .i64 (AA 0))),none⟩,⟨(some 92),.load (some 6) (.tmp 91),none⟩,⟨(some 93),.call 18 [(.tmp 81),(.tmp 88),(.tmp 92)],none⟩,⟨(some 94),.buildSlice 22 1 [V.nils] [(0,1,(.tmp 93))],none⟩,⟨(some 95),.call 34 [(.tmp 80),(.con (V.bool true)),(.tmp 94)],none⟩,⟨(some 6),.mov (.tmp 95),none⟩]
def vO:List DP:=[⟨0,[7]⟩,⟨1,[79]⟩,⟨0,[0]⟩,⟨0,[7]⟩,⟨8,[82]⟩,⟨0,[5]⟩,⟨32,[84]⟩,⟨120,[83,85]⟩,⟨248,[86]⟩,⟨504,[87]⟩,⟨0,[5]⟩,⟨1024,[89]⟩,⟨3072,[90]⟩,⟨7168,[91]⟩,⟨16380,[81,88,92]⟩,⟨32764,[93]⟩,⟨65535,[80,94]⟩,⟨131071,[95]⟩]
def RY:List BO:=[⟨(some 99),.faddr 1 (.tmp 7),none⟩,⟨(some 100),.load none (.tmp 99),none⟩,⟨(some 101),.mov (.tmp 0),none⟩,⟨(some 102),.load (some 13) (.tmp 7),none⟩,⟨(some 103),.load (some 6) (.tmp 5),none⟩,⟨(some 104),.call 36 [(.tmp 101),(.tmp 102),(.tmp 103)],none⟩,⟨(some 105),.call 34 [(.tmp 100),(.con (V.bool true)),(.tmp 104)],none⟩,⟨(some 6),.mov (.tmp 105),none⟩]
def WB:List DP:=[⟨0,[7]⟩,⟨1,[99]⟩,⟨0,[0]⟩,⟨0,[7]⟩,⟨0,[5]⟩,⟨28,[101,102,103]⟩,⟨63,[100,104]⟩,⟨127,[105]⟩]
def MZ (E:EB):St->AF:=fun s=>DR E s [(.tmp 6)] fun l=>some (Dh l,s.U)
def Si (c0:XC):St->AF:=dX E D W N (.keep xH [] [] c0) (MZ E) nX (MZ E)
def AKw (c0 c1:XC):Nat->St->AF:=Bf 1 (dX E D W N (.keep [(7,.ptr),(8,.any)] [] [] c0) (Si E D W N c1) (Bf 0 (Si E D W N c1) nX) (MZ E)) (Bf 0 (Si E D W N c1) nX)
def wF (cc1:XC) (cc2:XC):XC:=(.z (.P 5 (.box 37 (.t 2))<|
.aW 6)
 (.z (.aM 11 0<|
.f 13 0 12<|
.aZ 14 3 13 1<|
.aL 17 13 15 16 y1 13<|
.p 7 [] (.alloc 99 [y0,V.nils,y3,y3,y3,y3,y0,y0,V.nils,V.nils,y0,y3,y0])<|
.op none y1 [7,18] (.store 13 (.t 7) (.t 18))<|
.nil)
 (.seq (.z (.aB 19 0 7 .i<|
.nil)
 (.block 0 (.z (.aD 22 20 1 21)
 (.cond (.tmp 21) (.seq (.z (.aK 23 1 5 1<|
.nil)
 (.cond (.tmp 25) (.z (.aB 26 1 7 .any<|
.p 28 [] (.buildSlice 5 1 [WY] [(0,1,(.con (V.int .u8 (AA 255))))])<|
.p 29 [28] (.buildSlice 22 1 [V.nils] [(0,1,(.t 28))])<|
.k 30 .one 34 [(.t 27),Qa,(.t 29)]<|
.aH 6 30)
 .ret)
 .skip))
 (.z (.aB 31 1 7 .any<|
.p 33 [] (.buildSlice 5 1 [WY] [(0,1,(.con WY))])<|
.p 34 [33] (.buildSlice 22 1 [V.nils] [(0,1,(.t 33))])<|
.k 35 .one 34 [(.t 32),Qa,(.t 34)]<|
.aH 6 35)
 .ret))
 (.seq (.z (.aD 37 20 2 36)
 (.cond (.tmp 36) .skip
 (.ops (.aD 38 20 3 36))))
 (.keep [(0,.ptr),(5,.ptr),(7,.ptr),(20,.i),(36,.bool)] [] [] cc2))))))
 (.keep xH [] [] cc1))))
def Il (E:EB) (D:Ai) (W:AH) (K2:Nat->Nat->Nat->Nat->Nat->Nat->Int->Bool->H->AF) (a b:Nat) (c d e:Int) (f g:V) (h:Int) (i:V) (U:H):AF:=
 Ix (eB d e f g h i) U fun j=>
 jX E j a (AP b 3) 13 c fun k=>
 uJ k fun k l m n o p q r s t u v w=>
 let x:=Br j (.cells [iN 0,V.nils,.bool false,.bool false,.bool false,.bool false,iN 0,iN 0,V.nils,V.nils,iN 0,.bool false,iN 0]);
 DX 13 (H.next j) 0 (V.agg (eJ k l m n o p q r s t u v w)) x fun k=>
 lI E k (H.next j) 0 fun l=>
 AI (Bt l (AA 1)) (
 lI E k (H.next U) 1 fun m=>
 AI (Bt m (AA 1)) (
 EG E k (H.next j) 1 fun m=>
 let n:=Br k (.cells [.int .u8 (AA 255)]);
 let o:=Br n (.cells [.sl (H.next k) 0 1 (.ex 1)]);
 CM (D 34 [m,.bool false,.sl (H.next n) 0 1 (.ex 1)] o) fun m n=>
 CB m (
 some (m,n))) (
 EG E k (H.next j) 1 fun m=>
 let n:=Br k (.cells [.int .u8 (AA 0)]);
 let o:=Br n (.cells [.sl (H.next k) 0 1 (.ex 1)]);
 CM (D 34 [m,.bool false,.sl (H.next n) 0 1 (.ex 1)] o) fun m n=>
 CB m (
 some (m,n)))) (
 AI (Bt l (AA 2)) (
 K2 a b (H.next U) 0 (H.next j) 0 l (Bt l (AA 2)) k) (
 K2 a b (H.next U) 0 (H.next j) 0 l (Bt l (AA 3)) k))
def Iq:XC:=(.z (.aB 106 1 7 .any<|
.aB 108 2 5 .any<|
.p 110 [109] (.buildSlice 22 1 [V.nils] [(0,1,(.t 109))])<|
.k 111 .one 34 [(.t 107),Qa,(.t 110)]<|
.aH 6 111)
 .ret)
def RH (E:EB) (D:Ai) (W:AH) (a b c d:Nat) (U:H):AF:=
 EG E U c (AP d 1) fun e=>
 EG E U a (AP b 2) fun f=>
 D9 [(0,1,f)] [V.nils] fun f=>
 GK (An f) (
 let g:=Br U (.cells f);
 CM (D 34 [e,.bool false,.sl (H.next U) 0 1 (.ex 1)] g) fun e f=>
 CB e (
 some (e,f)))
def cW (cc3:XC) (cc4:XC) (cc5:XC):XC:=(.cond (.tmp 36) (.seq (.keep xH [] [] (.gdraw RZ WC [(6,.any)]))
 .ret)
 (.z (.aD 47 20 10 46)
 (.cond (.tmp 46) (.z (.aW 8)
 (.seq (.z (.aS 48 3 5<|
.aN 51 0)
 (.block 1 (.loop ADf [] [] cc4)))
 (.keep [(7,.ptr),(8,.any)] [] [] cc3)))
 (.z (.aD 69 20 9 68)
 (.cond (.tmp 68) (.seq (.z (.aK 70 0 5 12<|
.nil)
 (.cond (.tmp 72) (.z (.aB 73 1 7 .any<|
.aB 75 2 5 .any<|
.p 77 [76] (.buildSlice 22 1 [V.nils] [(0,1,(.t 76))])<|
.k 78 .one 34 [(.t 74),Me,(.t 77)]<|
.aH 6 78)
 .ret)
 .skip))
 (.seq (.keep [(0,.ptr),(5,.ptr),(7,.ptr)] [] [] (.gdraw vV vO [(6,.any)]))
 .ret))
 (.seq (.z (.aD 97 20 7 96)
 (.cond (.tmp 96) .skip
 (.ops (.aD 98 20 8 96))))
 (.keep [(0,.ptr),(5,.ptr),(7,.ptr),(96,.bool)] [] [] cc5)))))))
def MT (K4:Nat->Nat->Nat->Nat->V->V->Int->Int->H->AF) (K5:Nat->Nat->Nat->Nat->Nat->Nat->Bool->H->AF) (a b c d e f:Nat) (g:Int) (h:Bool) (U:H):AF:=
 AI h (
 Cc (W RZ WC [(5,.ptr c d),(7,.ptr e f)] U) fun i j=>
 BL i 6 fun i=>
 some (i,j)) (
 AI (Bt g (AA 10)) (
 EG E U c (AP d 3) fun i=>
 A0 i fun j=>
 K4 a b e f V.nils i (AA j) (AA 0) U) (
 AI (Bt g (AA 9)) (
 lI E U c d fun i=>
 AI (Bt i (AA 12)) (
 EG E U e (AP f 1) fun i=>
 EG E U c (AP d 2) fun j=>
 D9 [(0,1,j)] [V.nils] fun j=>
 GK (An j) (
 let k:=Br U (.cells j);
 CM (D 34 [i,.bool true,.sl (H.next U) 0 1 (.ex 1)] k) fun i j=>
 CB i (
 some (i,j)))) (
 Cc (W vV vO [(0,.ptr a b),(5,.ptr c d),(7,.ptr e f)] U) fun i j=>
 BL i 6 fun i=>
 some (i,j))) (
 AI (Bt g (AA 7)) (
 K5 a b c d e f (Bt g (AA 7)) U) (
 K5 a b c d e f (Bt g (AA 8)) U))))
def Nw:XC:=(.z (.aZ 64 1 7 8<|
.k 67 .one 34 [(.t 65),Me,(.t 66)]<|
.aH 6 67)
 .ret)
def AFC (E:EB) (D:Ai) (W:AH) (a b:Nat) (c:V) (U:H):AF:=
 EG E U a (AP b 1) fun d=>
 CM (D 34 [d,.bool true,c] U) fun d e=>
 CB d (
 some (d,e))
def SA:XC:=(.z (.aF 52 51 50)
 (.seq (.cond (.tmp 52) .skip
 (.exit 1))
 (.seq (.block 2 (.z (.aL 53 6 49 51 y2 6<|
.pal 10 [] 37 [y0,y0,V.nils,V.nils,y0,V.nils]<|
.op none y2 [10,54] (.store 6 (.t 10) (.t 54))<|
.nil)
 (.ops (.aC 55 8 0<|
.aB 57 12 7 .i<|
.O 59 y2 (.load (some 6) (.t 10))<|
.k 60 .one 18 [(.t 56),(.t 58),(.t 59)]<|
.p 61 [60] (.buildSlice 22 1 [V.nils] [(0,1,(.t 60))])<|
.O 62 .one (.append 22 1 24 (.t 55) (.t 61))<|
.aH 8 62))))
 (.ops (.aA 63 51 1 51)))))
def AFB (E:EB) (D:Ai) (W:AH) (K3:Nat->Nat->V->H->AF) (R4:Nat->Nat->Nat->Nat->V->V->Int->Int->H->AF) (a b c d:Nat) (e f:V) (g h:Int) (U:H):AF:=
 AI (Ci h g) (
 iX E U 6 f h fun i=>
 uB i fun i j k l m n=>
 GK (An (eB i j k l m n)) (
 lI E U c (AP d 12) fun o=>
 CM (D 18 [.ptr a b,.int .i64 o,.agg (eB i j k l m n)] U) fun i j=>
 CB i (
 D9 [(0,1,i)] [V.nils] fun i=>
 GK (An i) (
 let k:=Br j (.cells i);
 DV E 1 24 e (V.sl (H.next j) 0 1 (.ex 1)) k fun i j=>
 CB i (
 R4 a b c d i f g (Ba .i64 h (AA 1)) j))))) (
 K3 c d e U)
def R6:XC:=(.cond (.tmp 96) (.seq (.keep [(0,.ptr),(5,.ptr),(7,.ptr)] [] [] (.gdraw RY WB [(6,.any)]))
 .ret)
 .skip)
def Pd (E:EB) (D:Ai) (W:AH) (K1:Nat->Nat->Nat->Nat->H->AF) (a b c d e f:Nat) (g:Bool) (U:H):AF:=
 AI g (
 Cc (W RY WB [(0,.ptr a b),(5,.ptr c d),(7,.ptr e f)] U) fun h i=>
 BL h 6 fun h=>
 some (h,i)) (
 K1 c d e f U)
def AGQ (a b:Nat) (c d e:Int) (f g:V) (h:Int) (i:V) (U:H):St:=⟨[(0,.ptr a b),(1,.int .i64 c),(2,.agg [.int .i64 d,.int .i64 e,f,g,.int .i64 h,i])],[],[],U⟩
def AGP (a b c d e f:Nat) (g:Int) (h:Bool) (U:H):St:=⟨[(0,.ptr a b),(5,.ptr c d),(7,.ptr e f),(20,.int .i64 g),(36,.bool h)],[],[],U⟩
def AGO (a b:Nat) (c:V) (U:H):St:=⟨[(7,.ptr a b),(8,c)],[],[],U⟩
def AGN (a b c d:Nat) (e f:V) (g h:Int) (U:H):St:=⟨[(0,.ptr a b),(7,.ptr c d),(8,e),(49,f),(50,.int .i64 g),(51,.int .i64 h)],[],[],U⟩
def AGM (a b c d e f:Nat) (g:Bool) (U:H):St:=⟨[(0,.ptr a b),(5,.ptr c d),(7,.ptr e f),(96,.bool g)],[],[],U⟩
def nU (E:EB) (D:Ai) (W:AH) (N:Nat):=AFC E D W
theorem AAw :
 (fun a b c U=>Ay E D W N Nw (AGO a b c U) (Si E D W N Iq) (Bf 0 (Si E D W N Iq) nX) (MZ E))=nU E D W N:=by
 unfold nU;generalize Iq=x0;revert x0;refine id ?_;intros;kernel_rfl
def vE (n:Nat):Nat->Nat->Nat->Nat->V->V->Int->Int->H->AF:=
 Nat.rec (fun _ _ _ _ _ _ _ _ _=>none) (fun _ ih=>AFB E D W (nU E D W N ) ih) n
theorem z3 (n:Nat) :
 (fun a b c d e f g h U=>BN (fun rec s'=>Ay E D W N SA s' (kX ADf [] [] rec) (AKw E D W N Nw Iq) (MZ E)) n (AGN a b c d e f g h U))=vE E D W N n:=lp9 (fun li=>by rw[<-AAw];generalize Iq=x0,Nw=x1;revert x0 x1;refine id ?_;intros;kernel_rfl) n
def AHA (E:EB) (D:Ai) (W:AH) (N:Nat):=RH E D W
def nS:=Pd E D W (AHA E D W N )
theorem AAv :
 (fun a b c d e f g U=>Ay E D W N R6 (AGM a b c d e f g U) (Si E D W N Iq) (Bf 0 (Si E D W N Iq) nX) (MZ E))=nS E D W N:=by
 unfold nS;kernel_rfl
def V6:=MT E D W (vE E D W N N) (nS E D W N )
theorem AAx :
 (fun a b c d e f g h U=>Ay E D W N (cW Nw SA R6) (AGP a b c d e f g h U) (Si E D W N Iq) (Bf 0 (Si E D W N Iq) nX) (MZ E))=V6 E D W N:=by
 unfold V6;rw[<-z3,<-AAv];generalize Iq=x0,Nw=x1,SA=x2,R6=x3;revert x0 x1 x2 x3;refine id ?_;intros;kernel_rfl
def nV:=Il E D W (V6 E D W N )
theorem AAy :
 (fun a b c d e f g h i U=>Ay E D W N (wF Iq (cW Nw SA R6)) (AGQ a b c d e f g h i U) (MZ E) nX (MZ E))=nV E D W N:=by
 unfold nV;rw[<-AAx];generalize cW Nw SA R6=x0,Iq=x1;revert x0 x1;refine id ?_;intros;kernel_rfl
def F18 (args:List V) (U:H):AF:=
 Ae args fun a b=>
 B4 a fun a c=>
 Dy .i64 b fun b d=>
 Ae d fun d e=>
 CW d fun d=>
 uB d fun d f g h i j=>
 BJ e (
 nV E D W N a c b d f g h i j U)
def A18:Dv:=⟨112,[.ptr,.i,y2],[(.tmp 6)],(wF Iq (cW Nw SA R6))⟩
theorem AM5 (args:List V) (U:H):B9 E D W N A18 args U=F18 E D W N args U:=by
 unfold F18;rw[<-AAy];kernel_rfl
def ADe:List (Nat × CZ):=[(0,.str),(5,.any),(6,.i)]
def ay (E:EB):St->AF:=fun s=>DR E s [(.tmp 2),(.tmp 3),(.tmp 4)] fun l=>some (Dh l,s.U)
def wE (cc1:XC):XC:=(.z (.c 2 V.nils<|
.q 3 0<|
.aN 4 0)
 (.seq (.z (.m 9 0<|
.P 10 (.len true (.t 9))<|
.bS 11 10 8000)
 (.cond (.tmp 11) (.z (.c 2 V.nils<|
.q 3 0<|
.q 4 5<|
.nil)
 .ret)
 .skip))
 (.z (.aW 5)
 (.z (.aN 6 0)
 (.block 0 (.loop ADe [] [] cc1))))))
def Za (E:EB) (D:Ai) (W:AH) (K1:BS->V->Int->H->AF) (a:BS) (U:H):AF:=
 AI (Ci (AA 8000) (AA (BS.len a))) (
 some ((V.tup [V.nils,iN 0,iN 5]),U)) (
 K1 a V.nils (AA 0) U)
def cV:XC:=(.block 1 (.z (.bM 12 0 6 .i 37<|
.m 6 14<|
.nil)
 (.seq (.z (.bY 15 6 0<|
.b 18 .geq .none (.t 15) (.t 17)<|
.nil)
 (.cond (.tmp 18) (.z (.bY 19 5 0<|
.op (some 22) y7 [21] (.build [y0,y5,y0] [(2,1,(.t 21))])<|
.p 23 [22] (.buildSlice 73 1 [y0,y5,y0] [(0,3,(.t 22))])<|
.O 24 .one (.append 73 3 32 (.t 19) (.t 23))<|
.m 2 24<|
.q 3 0<|
.aN 4 0)
 .ret)
 .skip))
 (.z (.aC 26 0 6<|
.k 28 (.tup [y7,.i]) 38 [(.t 26),(.t 27)]<|
.m 25 28<|
.aG 29 0 25 1 25<|
.pal 7 [] 73 [y0,y5,y0]<|
.op none y7 [7,29] (.store 3 (.t 7) (.t 29))<|
.aH 8 30)
 (.seq (.z (.aY 31 8 0<|
.nil)
 (.cond (.tmp 32) (.z (.m 33 6<|
.c 2 V.nils<|
.m 3 33<|
.q 4 6<|
.nil)
 .ret)
 .skip))
 (.z (.bE 34 5 y7 3 7<|
.p 36 [35] (.buildSlice 73 1 [y0,y5,y0] [(0,3,(.t 35))])<|
.O 37 .one (.append 73 3 32 (.t 34) (.t 36))<|
.aH 5 37)
 (.ops (.m 38 8<|
.aH 6 38))))))))
def Pc (E:EB) (D:Ai) (W:AH) (R1:BS->V->Int->H->AF) (a:BS) (b:V) (c:Int) (U:H):AF:=
 cI (D 37 [.str a,.int .i64 c] U) fun d e=>
 AI (I3 (AA (BS.len a)) d) (
 let f:=Br e (.cells [iN 0,sN 0 0,.int .i64 (AA (BS.len a))]);
 DV E 3 32 b (V.sl (H.next e) 0 1 (.ex 1)) f fun f g=>
 CB f (
 some ((V.tup [f,iN 0,iN 0]),g))) (
 cT (D 38 [.str a,.int .i64 d] e) fun e f=>
 Ae e fun e g=>
 CW e fun e=>
 uI e fun e h i=>
 Dy .i64 g fun g j=>
 BJ j (
 AI (Ci g (AA 0)) (
 some ((V.tup [V.nils,.int .i64 d,iN 6]),f)) (
 let d:=Br f (.cells (eI e h i));
 DV E 3 32 b (V.sl (H.next f) 0 1 (.ex 1)) d fun d e=>
 CB d (
 R1 a d g e))))
def AGL (a:BS) (U:H):St:=⟨[(0,.str a)],[],[],U⟩
def AGK (a:BS) (b:V) (c:Int) (U:H):St:=⟨[(0,.str a),(5,b),(6,.int .i64 c)],[],[],U⟩
def V1 (E:EB) (D:Ai) (W:AH) (N:Nat) (n:Nat):BS->V->Int->H->AF:=
 Nat.rec (fun _ _ _ _=>none) (fun _ ih=>Pc E D W ih) n
theorem zz (n:Nat) :
 (fun a b c U=>BN (fun rec s'=>Ay E D W N cV s' (kX ADe [] [] rec) (Bf 0 (ay E) nX) (ay E)) n (AGK a b c U))=V1 E D W N n:=xW (fun _=>by kernel_rfl) n
def nQ:=Za E D W (V1 E D W N N)
theorem AAu :
 (fun a U=>Ay E D W N (wE cV) (AGL a U) (ay E) nX (ay E))=nQ E D W N:=by
 unfold nQ;rw[<-zz];generalize cV=x0;revert x0;refine id ?_;intros;kernel_rfl
def F19 (args:List V) (U:H):AF:=
 T0 args fun a b=>
 BJ b (
 nQ E D W N a U)
def A19:Dv:=⟨39,[.str],[(.tmp 2),(.tmp 3),(.tmp 4)],(wE cV)⟩
theorem AM4 (args:List V) (U:H):B9 E D W N A19 args U=F19 E D W N args U:=by
 unfold F19;rw[<-AAu];kernel_rfl
def AJM:XC:=(.z (.aT 4 y5)
 (.z (.m 6 0<|
.k 7 y7 23 [(.t 6)]<|
.pal 5 [] 73 [y0,y5,y0]<|
.op none y7 [5,7] (.store 3 (.t 5) (.t 7))<|
.nil)
 (.seq (.z (.aM 8 0<|
.aP 10 7 9 0<|
.m 13 12<|
.gO 13 false (.aE 14 5 13 0 5 13<|
.p 16 [1,13] Ji<|
.p 17 [15,16,13] (.bin .neq .none (.t 15) (.t 16))<|
.nil) 18 13 17<|
.nil)
 (.cond (.tmp 18) (.z (.bE 19 0 y7 3 5<|
.k 21 HM 24 [(.t 19),(.i 7),(.t 20)]<|
.nil)
 (.z (.aT 4 y5)
 .ret))
 .skip))
 (.z (.m 22 0<|
.k 23 y7 39 [(.t 22)]<|
.O 24 .str (.field 1 none (.t 23))<|
.aH 4 24)
 .ret))))
def kz (E:EB) (D:Ai) (W:AH) (a b:Nat) (c:Int) (U:H):AF:=
 cA (D 23 [.ptr a b] U) fun d e=>
 uI d fun d f g=>
 lI E e a (AP b 7) fun h=>
 Af (fun i j=>
 AI i (
 c0 (D 24 [.ptr a b,iN 7,.agg (eI d f g)] j) fun f=>
 some ((V.str (BS.mk 0 0)),f)) (
 cA (D 39 [.ptr a b] j) fun f g=>
 uI f fun f i j=>
 some ((V.str i),g))) fun f=>
 AI (not (Bt h (AA 0))) (
 f true e) (
 f (not (Bt d c)) e)
def F20 (N:Nat) (args:List V) (U:H):AF:=
 uK args fun a b c=>
 kz E D W a b c U
def A20:Dv:=⟨25,[.ptr,.i],[(.tmp 4)],AJM⟩
theorem AM3 (args:List V) (U:H):B9 E D W N A20 args U=F20 E D W N args U:=by kernel_rfl
def AJL:XC:=(.z (.aM 4 0<|
.f 6 7 5<|
.l 7 .i 6<|
.b 8 .eql .none (.t 7) (.i 0)<|
.m 9 8<|
.gA 9 true (.p 10 [0,9] Hy<|
.p 11 [1,9] Ji<|
.op (some 12) .bool [10,11,9] (.call 22 [(.t 10),(.t 11)])<|
.bG 13 12 9 12) 14 9 13<|
.nil)
 (.cond (.tmp 14) (.ops (.aC 15 0 0<|
.k 17 y7 23 [(.t 16)]<|
.k 18 HM 24 [(.t 15),(.i 7),(.t 17)]<|
.nil))
 .skip))
def ky (E:EB) (D:Ai) (W:AH) (a b:Nat) (c:BS) (U:H):AF:=
 lI E U a (AP b 7) fun d=>
 Af (fun e f=>
 AI e (
 cA (D 23 [.ptr a b] f) fun e g=>
 uI e fun e h i=>
 c0 (D 24 [.ptr a b,iN 7,.agg (eI e h i)] g) fun e=>
 r0 e) (
 r0 f)) fun e=>
 AI (Bt d (AA 0)) (
 cB (D 22 [.ptr a b,.str c] U) fun d f=>
 e (not d) f) (
 e false U)
def F21 (N:Nat) (args:List V) (U:H):AF:=
 uL args fun a b c=>
 ky E D W a b c U
def A21:Dv:=⟨19,[.ptr,.str],[],AJL⟩
theorem AM2 (args:List V) (U:H):B9 E D W N A21 args U=F21 E D W N args U:=by kernel_rfl
def AJK:XC:=(.z (.aT 4 y3)
 (.z (.m 6 0<|
.k 7 y7 23 [(.t 6)]<|
.pal 5 [] 73 [y0,y5,y0]<|
.op none y7 [5,7] (.store 3 (.t 5) (.t 7))<|
.nil)
 (.seq (.z (.aM 8 0<|
.aK 10 7 9 0<|
.m 13 12<|
.gA 13 true (.aE 14 5 13 0 5 13<|
.bD 16 15 13 15 5 13<|
.grp 17 false (.p 18 [5,17] (.faddr 0 (.t 5))<|
.op (some 19) .i [18,17] (.load none (.t 18))<|
.aV 20 19 17 19 6) 21 [17,20,13] (.t 17) Me (.t 20)<|
.nil) 22 13 21<|
.m 23 22<|
.gA 23 true (.p 24 [5,23] (.faddr 1 (.t 5))<|
.op (some 25) .str [24,23] (.load none (.t 24))<|
.p 26 [1,23] Ji<|
.p 27 [25,26,23] (.bin .eql .none (.t 25) (.t 26))<|
.nil) 28 23 27<|
.nil)
 (.cond (.tmp 28) (.z (.m 29 0<|
.k 30 y7 39 [(.t 29)]<|
.nil)
 (.z (.c 4 (V.bool true)<|
.nil)
 .ret))
 .skip))
 (.z (.aT 4 y3)
 .ret))))
def ZZ (E:EB) (D:Ai) (W:AH) (a b:Nat) (c:BS) (U:H):AF:=
 cA (D 23 [.ptr a b] U) fun d e=>
 uI d fun d f g=>
 lI E e a (AP b 7) fun g=>
 Af (fun h i=>
 Af (fun j k=>
 AI j (
 cA (D 39 [.ptr a b] k) fun j l=>
 uI j fun j m n=>
 rB true l) (
 rB false k)) fun j=>
 AI h (
 j (BS.beq f c) i) (
 j false i)) fun f=>
 AI (Bt g (AA 0)) (
 Af (fun g h=>
 f g h) fun g=>
 AI (Bt d (AA 5)) (
 g true e) (
 g (Bt d (AA 6)) e)) (
 f false e)
def F22 (N:Nat) (args:List V) (U:H):AF:=
 uL args fun a b c=>
 ZZ E D W a b c U
def A22:Dv:=⟨31,[.ptr,.str],[(.tmp 4)],AJK⟩
theorem AM1 (args:List V) (U:H):B9 E D W N A22 args U=F22 E D W N args U:=by kernel_rfl
def AJJ:XC:=(.z (.pal 2 [] 73 [y0,y5,y0]<|
.nil)
 (.seq (.draw (.aM 3 0<|
.aB 5 0 4 .any<|
.aM 7 0<|
.aB 9 1 8 .i<|
.aL 11 3 6 10 y7 3<|
.op none y7 [2,12] (.store 3 (.t 2) (.t 12))<|
.nil) [0,1,3,7,0,16,48,112,255,511,1023])
 .ret))
def kv (E:EB) (D:Ai) (W:AH) (a b:Nat) (U:H):AF:=
 EG E U a b fun c=>
 lI E U a (AP b 1) fun d=>
 iX E U 3 c d fun c=>
 uI c fun c d e=>
 some ((V.agg (eI c d e)),U)
def F23 (N:Nat) (args:List V) (U:H):AF:=
 Ae args fun a b=>
 B4 a fun a c=>
 BJ b (
 kv E D W a c U)
def A23:Dv:=⟨13,[.ptr],[(.cell 2 (some 3))],AJJ⟩
theorem AM0 (args:List V) (U:H):B9 E D W N A23 args U=F23 E D W N args U:=by kernel_rfl
def AKJ:List (Nat × CZ):=[(0,.ptr),(1,.i),(5,.i),(6,.ptr)]
def AJI (cc1:XC) (cc2:XC):XC:=(.z (.aN 4 0)
 (.seq (.z (.aM 9 0<|
.aP 11 7 10 0<|
.nil)
 (.cond (.tmp 13) (.z (.aN 4 0)
 .ret)
 .skip))
 (.seq (.z (.m 14 0<|
.k 15 y7 23 [(.t 14)]<|
.k 16 .bool 40 [(.t 15)]<|
.bK 17 16)
 (.cond (.tmp 17) (.z (.aC 18 0 0<|
.k 20 y7 23 [(.t 19)]<|
.k 21 HM 24 [(.t 18),(.i 7),(.t 20)]<|
.nil)
 (.z (.aN 4 0)
 .ret))
 .skip))
 (.seq (.z (.m 22 1<|
.b 23 .gtr .none (.t 22) (.i 16)<|
.m 24 23<|
.gO 24 false (.bN 25 0 24 Hy 24 24 2<|
.aJ 28 27 24 4 27 24 24<|
.bQ 31 30 24 30 300) 32 24 31<|
.nil)
 (.cond (.tmp 32) (.z (.aC 33 0 0<|
.k 35 y7 23 [(.t 34)]<|
.k 36 HM 24 [(.t 33),(.i 5),(.t 35)]<|
.nil)
 (.z (.aN 4 0)
 .ret))
 .skip))
 (.z (.aM 37 0<|
.f 39 2 38<|
.aS 40 4 39<|
.aH 5 42)
 (.z (.aC 43 0 0<|
.n 45 44<|
.f 46 2 45<|
.aB 47 4 46 .any<|
.op (some 49) y4 [] (.build [y0,y5,y3,y0,y0,y3,y3,y3,y3,y0,y0,V.nils,V.nils,y0,y3,y0] [])<|
.p 50 [49] (.buildSlice 111 1 [y0,y5,y3,y0,y0,y3,y3,y3,y3,y0,y0,V.nils,V.nils,y0,y3,y0] [(0,16,(.t 49))])<|
.O 51 .one (.append 111 16 144 (.t 48) (.t 50))<|
.n 52 43<|
.f 53 2 52<|
.bH 54 4 53 1 51)
 (.z (.op (some 55) y4 [] (.build [y0,y5,y3,y0,y0,y3,y3,y3,y3,y0,y0,V.nils,V.nils,y0,y3,y0] [])<|
.p 6 [] (.alloc 111 [y0,y5,y3,y0,y0,y3,y3,y3,y3,y0,y0,V.nils,V.nils,y0,y3,y0])<|
.op none y4 [6,55] (.store 16 (.t 6) (.t 55))<|
.nil)
 (.seq (.z (.aR 56 0 .bool 22 1 91<|
.nil)
 (.cond (.tmp 57) (.z (.m 58 0<|
.k 59 y7 23 [(.t 58)]<|
.pal 7 [] 73 [y0,y5,y0]<|
.op none y7 [7,59] (.store 3 (.t 7) (.t 59))<|
.nil)
 (.z (.m 60 0<|
.k 61 .i 41 [(.t 60)]<|
.aH 8 61)
 (.seq (.z (.aM 62 0<|
.aK 64 7 63 0<|
.m 67 66<|
.gA 67 true (.p 68 [8,67] fR<|
.p 69 [68,67] (.bin .lss .none (.t 68) (.i 0))<|
.p 70 [69,67] (.mov (.t 69))<|
.grp 70 false (.p 71 [8,70] fR<|
.aQ 72 71 70 71 268435456) 73 [70,72,67] (.t 70) Me (.t 72)<|
.nil) 74 67 73<|
.nil)
 (.cond (.tmp 74) (.ops (.bE 75 0 y7 3 7<|
.k 77 HM 24 [(.t 75),(.i 12),(.t 76)]<|
.nil))
 .skip))
 (.keep [(0,.ptr),(1,.i),(5,.i),(6,.ptr),(8,.i)] [] [] cc2))))
 .skip))
 (.keep AKJ [] [] cc1)))))))))
def RG (E:EB) (D:Ai) (W:AH) (K1:Nat->Nat->Int->Int->Nat->Nat->H->AF) (K2:Nat->Nat->Int->Int->Nat->Nat->Int->H->AF) (a b:Nat) (c:Int) (U:H):AF:=
 lI E U a (AP b 7) fun d=>
 AI (not (Bt d (AA 0))) (
 rI (AA 0) U) (
 cA (D 23 [.ptr a b] U) fun d e=>
 uI d fun d f g=>
 cB (D 40 [.agg (eI d f g)] e) fun d e=>
 AI (not d) (
 cA (D 23 [.ptr a b] e) fun d f=>
 uI d fun d g h=>
 c0 (D 24 [.ptr a b,iN 7,.agg (eI d g h)] f) fun d=>
 rI (AA 0) d) (
 Af (fun d f=>
 AI d (
 cA (D 23 [.ptr a b] f) fun d g=>
 uI d fun d h i=>
 c0 (D 24 [.ptr a b,iN 5,.agg (eI d h i)] g) fun d=>
 rI (AA 0) d) (
 lL E f a (AP (AP b 2) 4) fun d=>
 EG E f a (AP (AP b 2) 4) fun g=>
 let h:=Br f (.cells [iN 0,sN 0 0,.bool false,iN 0,iN 0,.bool false,.bool false,.bool false,.bool false,iN 0,iN 0,V.nils,V.nils,iN 0,.bool false,iN 0]);
 DV E 16 144 g (V.sl (H.next f) 0 1 (.ex 1)) h fun f g=>
 CB f (
 DX 1 a (AP (AP b 2) 4) f g fun f=>
 let g:=Br f (.cells [iN 0,.str ⟨0,0⟩,.bool false,iN 0,iN 0,.bool false,.bool false,.bool false,.bool false,iN 0,iN 0,V.nils,V.nils,iN 0,.bool false,iN 0]);
 DX 16 (H.next f) 0 (V.agg [iN 0,sN 0 0,.bool false,iN 0,iN 0,.bool false,.bool false,.bool false,.bool false,iN 0,iN 0,V.nils,V.nils,iN 0,.bool false,iN 0]) g fun g=>
 cB (D 22 [.ptr a b,sN 1 91] g) fun g h=>
 AI g (
 cA (D 23 [.ptr a b] h) fun g i=>
 uI g fun g j k=>
 cI (D 41 [.ptr a b] i) fun i l=>
 lI E l a (AP b 7) fun m=>
 Af (fun n o=>
 AI n (
 c0 (D 24 [.ptr a b,iN 12,.agg (eI g j k)] o) fun g=>
 K2 a b c (AA d) (H.next f) 0 i g) (
 K2 a b c (AA d) (H.next f) 0 i o)) fun g=>
 AI (Bt m (AA 0)) (
 Af (fun j k=>
 g j k) fun j=>
 AI (Ci i (AA 0)) (
 j true l) (
 j (Ci (AA 268435456) i) l)) (
 g false l)) (
 K1 a b c (AA d) (H.next f) 0 h)))) fun d=>
 AI (Ci (AA 16) c) (
 d true e) (
 lL E e a (AP (AP b 2) 4) fun f=>
 d (I3 (AA 300) (AA f)) e)))
def AJH:XC:=(.z (.aC 91 0 1<|
.k 93 HM 42 [(.t 91),(.t 6),(.t 92)]<|
.nil)
 (.seq (.z (.aM 94 0<|
.aP 96 7 95 0<|
.nil)
 (.cond (.tmp 98) (.z (.aN 4 0)
 .ret)
 .skip))
 (.seq (.draw (.aM 99 0<|
.f 101 2 100<|
.aZ 102 4 101 5<|
.O 105 y4 (.load (some 16) (.t 6))<|
.s 106 16 103 104<|
.op none y4 [106,105] (.store 16 (.t 106) (.t 105))<|
.nil) [0,1,3,7,15,0,0,127,255])
 (.z (.m 107 5<|
.aH 4 107)
 .ret))))
def ZY (E:EB) (D:Ai) (W:AH) (a b:Nat) (c d:Int) (e f:Nat) (U:H):AF:=
 c0 (D 42 [.ptr a b,.ptr e f,.int .i64 c] U) fun g=>
 lI E g a (AP b 7) fun h=>
 AI (not (Bt h (AA 0))) (
 rI (AA 0) g) (
 EG E g a (AP (AP b 2) 4) fun h=>
 Bv E g e f 16 fun i=>
 uM i fun i j k l m n o p q r s t u v w x=>
 AW 16 h d fun h y=>
 DX 16 h y (V.agg (eM i j k l m n o p q r s t u v w x)) g fun g=>
 rI d g)
def AJG:XC:=(.z (.aU 78 0 HM 21 1 93)
 (.z (.m 80 8<|
.op (some 81) (.agg [.bool,.i,.i]) [80] (.build [y3,y0,y0] [(0,1,Me),(1,1,(.t 80))])<|
.f 82 2 6<|
.op none (.agg [.bool,.i,.i]) [82,81] (.store 3 (.t 82) (.t 81))<|
.nil)
 (.z (.m 83 0<|
.k 84 .bool 22 [(.t 83),y35]<|
.nil)
 (.cond (.tmp 84) (.ops (.f 85 2 6<|
.aI 86 2 85 1 1<|
.nil))
 (.z (.m 87 0<|
.k 88 .bool 22 [(.t 87),y36]<|
.nil)
 (.cond (.tmp 88) (.ops (.f 89 2 6<|
.aI 90 2 89 1 2<|
.nil))
 .skip))))))
def Nh (E:EB) (D:Ai) (W:AH) (K1:Nat->Nat->Int->Int->Nat->Nat->H->AF) (a b:Nat) (c d:Int) (e f:Nat) (g:Int) (U:H):AF:=
 c0 (D 21 [.ptr a b,sN 1 93] U) fun h=>
 DX 3 e (AP f 2) (V.agg [.bool true,.int .i64 g,iN 0]) h fun h=>
 cB (D 22 [.ptr a b,sN 8 6073459554577832005] h) fun h i=>
 AI h (
 DX 1 e (AP (AP f 2) 2) (iN 1) i fun h=>
 K1 a b c d e f h) (
 cB (D 22 [.ptr a b,sN 8 6073459554577829193] i) fun h i=>
 AI h (
 DX 1 e (AP (AP f 2) 2) (iN 2) i fun h=>
 K1 a b c d e f h) (
 K1 a b c d e f i))
def vJ (E:EB) (D:Ai) (W:AH) (N:Nat):=ZY E D W
def AG9:=Nh E D W (vJ E D W N )
def F25 (args:List V) (U:H):AF:=
 uK args fun a b c=>
 RG E D W (vJ E D W N ) (AG9 E D W N ) a b c U
def A25:Dv:=⟨108,[.ptr,.i],[(.tmp 4)],(AJI AJH AJG)⟩
theorem AMz (args:List V) (U:H):B9 E D W N A25 args U=F25 E D W N args U:=by kernel_rfl
def ADd:List (Nat × CZ):=[(1,.ptr),(5,.any),(12,.any),(13,.i),(14,.bool),(15,.i)]
def ADc:List (Nat × CZ):=[(1,.ptr),(5,.any),(12,.any),(13,.i),(14,.bool)]
def dG:List (Nat × CZ):=[(1,.ptr),(5,.any),(12,.any),(13,.i)]
def ADb:List (Nat × CZ):=[(1,.ptr),(5,.any),(6,.i),(7,.i)]
def qG:List (Nat × CZ):=[(1,.ptr),(5,.any),(6,.i),(8,.i)]
def qF:List (Nat × CZ):=[(1,.ptr),(5,.any),(12,.any)]
def ADa:List (Nat × CZ):=[(1,.ptr),(5,.any),(11,.i)]
def xG:List (Nat × CZ):=[(1,.ptr),(5,.any),(6,.i)]
def EY (E:EB):St->AF:=fun s=>DR E s [(.tmp 2),(.tmp 3),(.tmp 4)] fun l=>some (Dh l,s.U)
def eS (c0:XC) (l0:St->AF):Nat->St->AF:=Bf 8 (kX qF [] [] l0) (Bf 7 (kX qF [] [] l0) (Bf 6 (dX E D W N (.keep [(12,.any)] [] [] c0) (EY E) nX (EY E)) nX))
def jl (c0 c1:XC) (l0 l1:St->AF):St->AF:=dX E D W N (.keep dG [] [] c0) (kX dG [] [] l0) (eS E D W N c1 l1) (EY E)
def yP (c0:XC):St->AF:=dX E D W N (.keep xG [] [] c0) (EY E) nX (EY E)
def AKv (c0 c1 c2:XC) (l0 l1:St->AF):Nat->St->AF:=Bf 10 (dX E D W N (.keep ADc [] [] c0) (jl E D W N c1 c2 l0 l1) (Bf 9 (jl E D W N c1 c2 l0 l1) (eS E D W N c2 l1)) (EY E)) (Bf 9 (jl E D W N c1 c2 l0 l1) (eS E D W N c2 l1))
def AKu (c0:XC):Nat->St->AF:=Bf 4 (dX E D W N (.keep [(1,.ptr),(5,.any)] [] [] c0) (EY E) nX (EY E)) nX
def AKt (c0:XC):Nat->St->AF:=Bf 6 (dX E D W N (.keep [(12,.any)] [] [] c0) (EY E) nX (EY E)) nX
def wD (cc1:XC) (cc2:XC):XC:=(.z (.P 1 (.box 51 (.t 0))<|
.c 2 V.nils<|
.q 3 0<|
.aN 4 0)
 (.z (.aW 5)
 (.z (.aT 6 fS)
 (.seq (.z (.aN 7 0)
 (.block 0 (.loop ADb [] [] cc2)))
 (.keep xG [] [] cc1)))))
def ZX (E:EB) (D:Ai) (W:AH) (K2:Nat->Nat->V->Int->Int->H->AF) (a:BS) (b:Int) (c d e:V) (U:H):AF:=
 Ix (eD a b c d e) U fun f=>
 K2 (H.next U) 0 V.nils (Az 0) (AA 0) f
def Rz (cc3:XC) (cc4:XC):XC:=(.seq (.z (.aN 8 0)
 (.block 2 (.loop qG [] [] cc4)))
 (.keep xG [] [] cc3))
def AFA (E:EB) (D:Ai) (W:AH) (K4:Nat->Nat->V->Int->Int->H->AF) (a b:Nat) (c:V) (d:Int) (U:H):AF:=
 K4 a b c d (AA 0) U
def cU:XC:=(.seq (.z (.m 16 7<|
.aS 17 2 1<|
.aF 20 16 19)
 (.cond (.tmp 20) .skip
 Jh))
 (.seq (.block 1 (.seq (.draw (.aZ 23 2 1 7<|
.p 26 [24,25] (.sliceSl 1 (.t 24) none (some (.t 25)) none)<|
.aZ 27 2 1 7<|
.bT 30 1 28 29 .str<|
.k 32 .bool 43 [(.t 26),(.t 31)]<|
.nil) [0,1,0,7,0,16,0,112,240,511])
 (.cond (.tmp 32) (.z (.m 33 7<|
.c 2 V.nils<|
.m 3 33<|
.q 4 8<|
.nil)
 .ret)
 .skip)))
 (.ops (.m 21 7<|
.aA 22 21 1 7))))
def Ng (E:EB) (D:Ai) (W:AH) (K1:Nat->Nat->V->Int->H->AF) (R2:Nat->Nat->V->Int->Int->H->AF) (a b:Nat) (c:V) (d e:Int) (U:H):AF:=
 lL E U a (AP b 2) fun f=>
 AI (Ci e (AA f)) (
 EG E U a (AP b 2) fun f=>
 gK (Cs 1 f none (some (V.int .i64 e)) none) fun f=>
 EG E U a (AP b 2) fun g=>
 AW 1 g e fun g h=>
 lS E U g h fun g=>
 cB (D 43 [f,.str g] U) fun f g=>
 AI f (
 some ((V.tup [V.nils,.int .i64 e,iN 8]),g)) (
 R2 a b c d (Ba .i64 e (AA 1)) g)) (
 K1 a b c d U)
def JX (cc6:XC) (cc7:XC):XC:=(.seq (.z (.m 61 6<|
.b 62 .geq .none (.t 61) (.i 0)<|
.nil)
 (.cond (.tmp 62) (.z (.m 63 6<|
.c 2 V.nils<|
.m 3 63<|
.q 4 9<|
.nil)
 .ret)
 .skip))
 (.seq (.z (.aN 11 0)
 (.block 4 (.loop ADa [] [] cc7)))
 (.keep [(1,.ptr),(5,.any)] [] [] cc6)))
def ku (E:EB) (D:Ai) (W:AH) (K7:Nat->Nat->V->Int->H->AF) (a b:Nat) (c:V) (d:Int) (U:H):AF:=
 AI (I3 (AA 0) d) (
 some ((V.tup [V.nils,.int .i64 d,iN 9]),U)) (
 K7 a b c (AA 0) U)
def Nv (cc5:XC):XC:=(.seq (.z (.m 34 8<|
.aS 35 2 1<|
.aF 38 34 37)
 (.cond (.tmp 38) .skip
 (.exit 2)))
 (.seq (.block 3 (.seq (.draw (.O 42 Tz (.load (some 5) (.t 1))<|
.aZ 43 3 1 8<|
.bT 46 1 44 45 .i<|
.k 48 (.tup [.any,.bool]) 44 [(.t 42),(.t 47),(.i 0),(.con V.nils)]<|
.m 41 48<|
.aG 49 0 41 1 41<|
.aC 9 49 50<|
.nil) [0,0,2,0,14,30,63,127,255,255,511,2047])
 (.z (.aC 51 5 9<|
.p 53 [52] (.buildSlice 28 1 [V.nils] [(0,1,(.t 52))])<|
.O 54 .one (.append 28 1 24 (.t 51) (.t 53))<|
.aH 5 54)
 (.z (.m 55 10<|
.m 56 55<|
.gA 56 true (.p 57 [6,56] (.mov (.t 6))<|
.p 58 [57,56] (.bin .lss .none (.t 57) (.i 0))<|
.nil) 59 56 58<|
.nil)
 (.cond (.tmp 59) (.ops (.m 60 8<|
.aH 6 60))
 .skip)))))
 (.keep qG [] [] cc5)))
def Nf (E:EB) (D:Ai) (W:AH) (K3:Nat->Nat->V->Int->H->AF) (K5:Nat->Nat->V->Int->Int->H->AF) (a b:Nat) (c:V) (d e:Int) (U:H):AF:=
 lL E U a (AP b 2) fun f=>
 AI (Ci e (AA f)) (
 Bv E U a b 5 fun f=>
 uD f fun f g h i j=>
 EG E U a (AP b 3) fun k=>
 AW 1 k e fun k l=>
 lI E U k l fun k=>
 cT (D 44 [.agg (eD f g h i j),.int .i64 k,iN 0,V.nils] U) fun f g=>
 uN f fun f h=>
 D9 [(0,1,f)] [V.nils] fun f=>
 GK (An f) (
 let i:=Br g (.cells f);
 DV E 1 24 c (V.sl (H.next g) 0 1 (.ex 1)) i fun f g=>
 CB f (
 Af (fun i j=>
 AI i (
 K5 a b f e e j) (
 K5 a b f d e j)) fun f=>
 AI h (
 f (Ci d (AA 0)) g) (
 f false g)))) (
 K3 a b c d U)
def LD:XC:=(.ops (.m 39 8<|
.aA 40 39 1 8))
def Vm (E:EB) (D:Ai) (W:AH) (R4:Nat->Nat->V->Int->Int->H->AF) (a b:Nat) (c:V) (d e:Int) (U:H):AF:=
 R4 a b c d (Ba .i64 e (AA 1)) U
def HA (cc8:XC) (cc9:XC):XC:=(.z (.aW 12)
 (.seq (.block 6 (.loop qF [] [] cc9))
 (.keep [(12,.any)] [] [] cc8)))
def AE9 (E:EB) (D:Ai) (W:AH) (K9:Nat->Nat->V->V->H->AF) (a b:Nat) (c:V) (U:H):AF:=
 K9 a b c V.nils U
def ID:XC:=(.seq (.z (.m 64 11<|
.aS 65 2 1<|
.aF 68 64 67)
 (.cond (.tmp 68) .skip
 (.exit 4)))
 (.seq (.block 5 (.z (.aC 71 5 11<|
.m 73 11<|
.k 74 .bool 45 [(.t 71),(.t 72),(.t 73)]<|
.nil)
 (.cond (.tmp 74) (.z (.m 75 11<|
.c 2 V.nils<|
.m 3 75<|
.q 4 10<|
.nil)
 .ret)
 .skip)))
 (.ops (.m 69 11<|
.aA 70 69 1 11))))
def Nd (E:EB) (D:Ai) (W:AH) (K6:Nat->Nat->V->H->AF) (R7:Nat->Nat->V->Int->H->AF) (a b:Nat) (c:V) (d:Int) (U:H):AF:=
 lL E U a (AP b 2) fun e=>
 AI (Ci d (AA e)) (
 cB (D 45 (eG c d d) U) fun e f=>
 AI e (
 some ((V.tup [V.nils,.int .i64 d,iN 10]),f)) (
 R7 a b c (Ba .i64 d (AA 1)) f)) (
 K6 a b c U)
def EH:XC:=(.z (.m 119 12<|
.m 2 119<|
.q 3 0<|
.aN 4 0)
 .ret)
def ZW (E:EB) (D:Ai) (W:AH) (a:V) (U:H):AF:=
 some ((V.tup [a,iN 0,iN 0]),U)
def GL (cc10:XC):XC:=(.seq (.z (.m 76 12<|
.u 77 76<|
.aS 78 2 1<|
.aF 81 77 80)
 (.cond (.tmp 81) .skip
 (.exit 6)))
 (.block 7 (.z (.aN 13 0)
 (.block 8 (.loop dG [] [] cc10)))))
def Pb (E:EB) (D:Ai) (W:AH) (K8:V->H->AF) (K10:Nat->Nat->V->V->Int->H->AF) (a b:Nat) (c d:V) (U:H):AF:=
 A0 d fun e=>
 lL E U a (AP b 2) fun f=>
 AI (Ci (AA e) (AA f)) (
 K10 a b c d (AA 0) U) (
 K8 d U)
def Ea (cc11:XC) (cc12:XC) (cc13:XC):XC:=(.seq (.z (.m 82 13<|
.aS 83 2 1<|
.aF 86 82 85)
 (.cond (.tmp 86) .skip
 (.exit 8)))
 (.seq (.block 9 (.z (.bM 89 12 13 .bool 12<|
.P 92 (.un .not (.t 91))<|
.aH 14 92)
 (.seq (.z (.aN 15 0)
 (.block 10 (.loop ADd [] [] cc13)))
 (.keep ADc [] [] cc12))))
 (.keep dG [] [] cc11)))
def Lc (E:EB) (D:Ai) (W:AH) (K13:Nat->Nat->V->V->Int->Bool->Int->H->AF) (R9:Nat->Nat->V->V->H->AF) (a b:Nat) (c d:V) (e:Int) (U:H):AF:=
 lL E U a (AP b 2) fun f=>
 AI (Ci e (AA f)) (
 cB (D 12 [d,.int .i64 e] U) fun f g=>
 K13 a b c d e (not f) (AA 0) g) (
 R9 a b c d U)
def DJ:XC:=(.ops (.m 87 13<|
.aA 88 87 1 13))
def M5 (E:EB) (D:Ai) (W:AH) (R10:Nat->Nat->V->V->Int->H->AF) (a b:Nat) (c d:V) (e:Int) (U:H):AF:=
 R10 a b c d (Ba .i64 e (AA 1)) U
def Di:XC:=(.z (.aH 114 14)
 (.cond (.tmp 114) (.z (.aC 115 12 13<|
.aX 117 116 3 1 y0 0 1 116 .one 3 1 8 115<|
.aH 12 118)
 (.exit 8))
 .skip))
def Lb (E:EB) (D:Ai) (W:AH) (K11:Nat->Nat->V->V->Int->H->AF) (R9:Nat->Nat->V->V->H->AF) (a b:Nat) (c d:V) (e:Int) (f:Bool) (U:H):AF:=
 AI f (
 let g:=Br U (.cells [.int .i64 e]);
 DV E 1 8 d (V.sl (H.next U) 0 1 (.ex 1)) g fun g h=>
 CB g (
 R9 a b c g h)) (
 K11 a b c d e U)
def D0:XC:=(.seq (.z (.aC 93 15 5<|
.m 95 13<|
.bT 96 1 94 95 .any<|
.u 98 97<|
.aF 99 93 98)
 (.cond (.tmp 99) .skip
 (.exit 10)))
 (.seq (.block 11 (.ops (.m 102 14<|
.m 103 102<|
.gA 103 true (.p 104 [12,103] (.mov (.t 12))<|
.p 105 [5,103] (.mov (.t 5))<|
.bA 106 13 103 13 105 103 1 105<|
.p 108 [107,103] (.load none (.t 107))<|
.bA 109 15 103 15 108 103 1 108<|
.op (some 111) .i [110,103] (.load none (.t 110))<|
.op (some 112) .bool [104,111,103] (.call 12 [(.t 104),(.t 111)])<|
.nil) 113 103 112<|
.aH 14 113)))
 (.ops (.m 100 15<|
.aA 101 100 1 15))))
def La (E:EB) (D:Ai) (W:AH) (K12:Nat->Nat->V->V->Int->Bool->H->AF) (R13:Nat->Nat->V->V->Int->Bool->Int->H->AF) (a b:Nat) (c d:V) (e:Int) (f:Bool) (g:Int) (U:H):AF:=
 AW 1 c e fun h i=>
 lL E U h i fun h=>
 AI (Ci g (AA h)) (
 Af (fun h i=>
 R13 a b c d e h (Ba .i64 g (AA 1)) i) fun h=>
 AI f (
 iY E U 1 c e fun i=>
 AW 1 i g fun i j=>
 lI E U i j fun i=>
 cB (D 12 [d,.int .i64 i] U) fun i j=>
 h i j) (
 h false U)) (
 K12 a b c d e f U)
def AGJ (a:BS) (b:Int) (c d e:V) (U:H):St:=⟨[(0,.agg [.str a,.int .i64 b,c,d,e])],[],[],U⟩
def uy (a b:Nat) (c:V) (d:Int) (U:H):St:=⟨[(1,.ptr a b),(5,c),(6,.int .i64 d)],[],[],U⟩
def AGI (a b:Nat) (c:V) (d e:Int) (U:H):St:=⟨[(1,.ptr a b),(5,c),(6,.int .i64 d),(7,.int .i64 e)],[],[],U⟩
def lY (a b:Nat) (c:V) (d e:Int) (U:H):St:=⟨[(1,.ptr a b),(5,c),(6,.int .i64 d),(8,.int .i64 e)],[],[],U⟩
def AGH (a b:Nat) (c:V) (U:H):St:=⟨[(1,.ptr a b),(5,c)],[],[],U⟩
def AGG (a b:Nat) (c:V) (d:Int) (U:H):St:=⟨[(1,.ptr a b),(5,c),(11,.int .i64 d)],[],[],U⟩
def Zs (a b:Nat) (c d:V) (U:H):St:=⟨[(1,.ptr a b),(5,c),(12,d)],[],[],U⟩
def P0 (a b:Nat) (c d:V) (e:Int) (U:H):St:=⟨[(1,.ptr a b),(5,c),(12,d),(13,.int .i64 e)],[],[],U⟩
def yn (a b:Nat) (c d:V) (e:Int) (f:Bool) (U:H):St:=⟨[(1,.ptr a b),(5,c),(12,d),(13,.int .i64 e),(14,.bool f)],[],[],U⟩
def ym (a b:Nat) (c d:V) (e:Int) (f:Bool) (g:Int) (U:H):St:=⟨[(1,.ptr a b),(5,c),(12,d),(13,.int .i64 e),(14,.bool f),(15,.int .i64 g)],[],[],U⟩
def AG8 (E:EB) (D:Ai) (W:AH) (N:Nat):=ZW E D W
def Xq (E:EB) (D:Ai) (W:AH) (N:Nat) (R10:Nat->Nat->V->V->Int->H->AF):=M5 E D W R10
theorem sn (li9:St->AF)(li10:St->AF) :
 (fun a b c d e U=>Ay E D W N DJ (P0 a b c d e U) (kX dG [] [] li10) (eS E D W N EH li9) (EY E))=Xq E D W N (fun a b c d e U=>li10 (P0 a b c d e U)):=by
 unfold Xq;generalize EH=x0;revert x0;refine id ?_;intros;kernel_rfl
def Xp (R9:Nat->Nat->V->V->H->AF) (R10:Nat->Nat->V->V->Int->H->AF):=Lb E D W (Xq E D W N R10) R9
theorem sk (li9:St->AF)(li10:St->AF) :
 (fun a b c d e f U=>Ay E D W N Di (yn a b c d e f U) (jl E D W N DJ EH li10 li9) (Bf 9 (jl E D W N DJ EH li10 li9) (eS E D W N EH li9)) (EY E))=Xp E D W N (fun a b c d U=>li9 (Zs a b c d U)) (fun a b c d e U=>li10 (P0 a b c d e U)):=by
 unfold Xp;rw[<-sn (li9:=li9)];generalize DJ=x0,EH=x1;revert x0 x1;refine id ?_;intros;kernel_rfl
def P6 (R9:Nat->Nat->V->V->H->AF) (R10:Nat->Nat->V->V->Int->H->AF) (n:Nat):Nat->Nat->V->V->Int->Bool->Int->H->AF:=
 Nat.rec (fun _ _ _ _ _ _ _ _=>none) (fun _ ih=>La E D W (Xp E D W N R9 R10) ih) n
theorem sI (li9:St->AF) (li10:St->AF) (n:Nat) :
 (fun a b c d e f g U=>BN (fun rec s'=>Ay E D W N D0 s' (kX ADd [] [] rec) (AKv E D W N Di DJ EH li10 li9) (EY E)) n (ym a b c d e f g U))=P6 E D W N (fun a b c d U=>li9 (Zs a b c d U)) (fun a b c d e U=>li10 (P0 a b c d e U)) n:=lp8 (fun li=>by rw[<-sk];generalize DJ=x0,Di=x1,EH=x2;revert x0 x1 x2;refine id ?_;intros;kernel_rfl) n
def J9 (R9:Nat->Nat->V->V->H->AF) (n:Nat):Nat->Nat->V->V->Int->H->AF:=
 Nat.rec (fun _ _ _ _ _ _=>none) (fun _ ih=>Lc E D W (P6 E D W N R9 ih N) R9) n
theorem sJ (li9:St->AF) (n:Nat) :
 (fun a b c d e U=>BN (fun rec s'=>Ay E D W N (Ea DJ Di D0) s' (kX dG [] [] rec) (eS E D W N EH li9) (EY E)) n (P0 a b c d e U))=J9 E D W N (fun a b c d U=>li9 (Zs a b c d U)) n:=tu (fun li=>by rw[<-sI];generalize DJ=x0,Di=x1,D0=x2,EH=x3;revert x0 x1 x2 x3;refine id ?_;intros;kernel_rfl) n
def V0 (n:Nat):Nat->Nat->V->V->H->AF:=
 Nat.rec (fun _ _ _ _ _=>none) (fun _ ih=>Pb E D W (AG8 E D W N ) (J9 E D W N ih N)) n
theorem zu (n:Nat) :
 (fun a b c d U=>BN (fun rec s'=>Ay E D W N (GL (Ea DJ Di D0)) s' (kX qF [] [] rec) (AKt E D W N EH) (EY E)) n (Zs a b c d U))=V0 E D W N n:=WU (fun li=>by rw[<-sJ];generalize Ea DJ Di D0=x0;revert x0;refine id ?_;intros;kernel_rfl) n
def Z8:=AE9 E D W (V0 E D W N N)
theorem AAp :
 (fun a b c U=>Ay E D W N (HA EH (GL (Ea DJ Di D0))) (AGH a b c U) (EY E) nX (EY E))=Z8 E D W N:=by
 unfold Z8;rw[<-zu];generalize GL (Ea DJ Di D0)=x0,EH=x1;revert x0 x1;refine id ?_;intros;kernel_rfl
def mB (n:Nat):Nat->Nat->V->Int->H->AF:=
 Nat.rec (fun _ _ _ _ _=>none) (fun _ ih=>Nd E D W (Z8 E D W N ) ih) n
theorem zw (n:Nat) :
 (fun a b c d U=>BN (fun rec s'=>Ay E D W N ID s' (kX ADa [] [] rec) (AKu E D W N (HA EH (GL (Ea DJ Di D0)))) (EY E)) n (AGG a b c d U))=mB E D W N n:=WU (fun li=>by rw[<-AAp];generalize HA EH (GL (Ea DJ Di D0))=x0;revert x0;refine id ?_;intros;kernel_rfl) n
def Z9:=ku E D W (mB E D W N N)
theorem AAr :
 (fun a b c d U=>Ay E D W N (JX (HA EH (GL (Ea DJ Di D0))) ID) (uy a b c d U) (EY E) nX (EY E))=Z9 E D W N:=by
 unfold Z9;rw[<-zw];generalize HA EH (GL (Ea DJ Di D0))=x0,ID=x1;revert x0 x1;refine id ?_;intros;kernel_rfl
def nO (E:EB) (D:Ai) (W:AH) (N:Nat) (R4:Nat->Nat->V->Int->Int->H->AF):=Vm E D W R4
theorem AAq (li4:St->AF) :
 (fun a b c d e U=>Ay E D W N LD (lY a b c d e U) (kX qG [] [] li4) (Bf 2 (yP E D W N (JX (HA EH (GL (Ea DJ Di D0))) ID)) nX) (EY E))=nO E D W N (fun a b c d e U=>li4 (lY a b c d e U)):=by
 unfold nO;generalize JX (HA EH (GL (Ea DJ Di D0))) ID=x0;revert x0;refine id ?_;intros;kernel_rfl
def mC (n:Nat):Nat->Nat->V->Int->Int->H->AF:=
 Nat.rec (fun _ _ _ _ _ _=>none) (fun _ ih=>Nf E D W (Z9 E D W N ) (nO E D W N ih)) n
theorem zx (n:Nat) :
 (fun a b c d e U=>BN (fun rec s'=>Ay E D W N (Nv LD) s' (kX qG [] [] rec) (Bf 2 (yP E D W N (JX (HA EH (GL (Ea DJ Di D0))) ID)) nX) (EY E)) n (lY a b c d e U))=mC E D W N n:=tu (fun li=>by rw[<-AAr,<-AAq];generalize JX (HA EH (GL (Ea DJ Di D0))) ID=x0,LD=x1;revert x0 x1;refine id ?_;intros;kernel_rfl) n
def au:=AFA E D W (mC E D W N N)
theorem AAs :
 (fun a b c d U=>Ay E D W N (Rz (JX (HA EH (GL (Ea DJ Di D0))) ID) (Nv LD)) (uy a b c d U) (EY E) nX (EY E))=au E D W N:=by
 unfold au;rw[<-zx];generalize JX (HA EH (GL (Ea DJ Di D0))) ID=x0,Nv LD=x1;revert x0 x1;refine id ?_;intros;kernel_rfl
def mD (n:Nat):Nat->Nat->V->Int->Int->H->AF:=
 Nat.rec (fun _ _ _ _ _ _=>none) (fun _ ih=>Ng E D W (au E D W N ) ih) n
theorem zy (n:Nat) :
 (fun a b c d e U=>BN (fun rec s'=>Ay E D W N cU s' (kX ADb [] [] rec) (Bf 0 (yP E D W N (Rz (JX (HA EH (GL (Ea DJ Di D0))) ID) (Nv LD))) nX) (EY E)) n (AGI a b c d e U))=mD E D W N n:=tu (fun li=>by rw[<-AAs];generalize Rz (JX (HA EH (GL (Ea DJ Di D0))) ID) (Nv LD)=x0;revert x0;refine id ?_;intros;kernel_rfl) n
def nP:=ZX E D W (mD E D W N N)
theorem AAt :
 (fun a b c d e U=>Ay E D W N (wD (Rz (JX (HA EH (GL (Ea DJ Di D0))) ID) (Nv LD)) cU) (AGJ a b c d e U) (EY E) nX (EY E))=nP E D W N:=by
 unfold nP;rw[<-zy];generalize Rz (JX (HA EH (GL (Ea DJ Di D0))) ID) (Nv LD)=x0,cU=x1;revert x0 x1;refine id ?_;intros;kernel_rfl
def F26 (args:List V) (U:H):AF:=
 Ae args fun a b=>
 CW a fun a=>
 uD a fun a c d e f=>
 BJ b (
 nP E D W N a c d e f U)
def A26:Dv:=⟨120,[Tz],[(.tmp 2),(.tmp 3),(.tmp 4)],(wD (Rz (JX (HA EH (GL (Ea DJ Di D0))) ID) (Nv LD)) cU)⟩
theorem AMy (args:List V) (U:H):B9 E D W N A26 args U=F26 E D W N args U:=by
 unfold F26;rw[<-AAt];kernel_rfl
def vU:List BO:=[⟨(some 26),.mov (.tmp 0),none⟩,⟨(some 27),.mov (.tmp 0),none⟩,⟨(some 28),.nilck (.tmp 27),none⟩,⟨(some 29),.faddr 0 (.tmp 28),none⟩,⟨(some 30),.faddr 3 (.tmp 29),none⟩,⟨(some 31),.load none (.tmp 30),none⟩,⟨(some 32),.mov (.tmp 0),none⟩,⟨(some 33),.nilck (.tmp 32),none⟩,⟨(some 34),.faddr 0 (.tmp 33),none⟩,⟨(some 35),.load (some 5) (.tmp 34),none⟩,⟨(some 36),.faddr 1 (.tmp 7),none⟩,⟨(some 37),.load none (.tmp 36),none⟩,⟨(some 38),.call 46 [(.tmp 35),(.tmp 37)],none⟩,⟨(some 39),.iaddrS 1 (.tmp 31) (.tmp 38),none⟩,⟨(some 40),.load none (.tmp 39),none⟩,⟨(some 41),.mov (.tmp 2),none⟩,⟨(some 42),.call 27 [(.tmp 26),(.tmp 40),(.tmp 41)],none⟩,⟨(some 8),.mov (.tmp 42),none⟩]
def vN:List DP:=[⟨0,[0]⟩,⟨0,[0]⟩,⟨2,[27]⟩,⟨6,[28]⟩,⟨14,[29]⟩,⟨30,[30]⟩,⟨0,[0]⟩,⟨64,[32]⟩,⟨192,[33]⟩,⟨448,[34]⟩,⟨0,[7]⟩,⟨1024,[36]⟩,⟨4032,[35,37]⟩,⟨8190,[31,38]⟩,⟨16382,[39]⟩,⟨0,[2]⟩,⟨65535,[26,40,41]⟩,⟨131071,[42]⟩]
def AJF (cc1:XC):XC:=(.z (.aN 6 0)
 (.seq (.z (.aM 10 0<|
.aP 12 6 11 0<|
.nil)
 (.cond (.tmp 14) (.z (.aN 6 0)
 .ret)
 .skip))
 (.z (.aM 15 0<|
.f 17 0 16<|
.aZ 18 4 17 1<|
.aL 21 16 19 20 y4 16<|
.p 7 [] (.alloc 111 [y0,y5,y3,y0,y0,y3,y3,y3,y3,y0,y0,V.nils,V.nils,y0,y3,y0])<|
.op none y4 [7,22] (.store 16 (.t 7) (.t 22))<|
.nil)
 (.z (.aN 8 0)
 (.seq (.z (.aK 23 0 7 11<|
.nil)
 (.cond (.tmp 25) (.keep [(0,.ptr),(2,.i),(7,.ptr)] [] [] (.gdraw vU vN [(0,.ptr),(7,.ptr),(8,.i)]))
 (.ops (.bE 43 0 y4 16 7<|
.m 45 2<|
.k 46 .i 47 [(.t 43),(.t 44),(.t 45)]<|
.aH 8 46))))
 (.keep [(0,.ptr),(7,.ptr),(8,.i)] [] [] cc1))))))
def ZV (K1:Nat->Nat->Nat->Nat->Int->H->AF) (a b:Nat) (c d:Int) (U:H):AF:=
 lI E U a (AP b 6) fun e=>
 AI (not (Bt e (AA 0))) (
 rI (AA 0) U) (
 jX E U a (AP b 4) 16 c fun e=>
 uM e fun e f g h i j k l m n o p q r s t=>
 let u:=Br U (.cells [iN 0,.str ⟨0,0⟩,.bool false,iN 0,iN 0,.bool false,.bool false,.bool false,.bool false,iN 0,iN 0,V.nils,V.nils,iN 0,.bool false,iN 0]);
 DX 16 (H.next U) 0 (V.agg (eM e f g h i j k l m n o p q r s t)) u fun e=>
 lI E e (H.next U) 0 fun f=>
 AI (Bt f (AA 11)) (
 Cc (W vU vN [(0,.ptr a b),(2,.int .i64 d),(7,.ptr (H.next U) 0)] e) fun f g=>
 BL f 0 fun h=>
 B4 h fun h i=>
 BL f 7 fun j=>
 B4 j fun j k=>
 BL f 8 fun f=>
 Ch .i64 f fun f=>
 K1 h i j k f g) (
 Bv E e (H.next U) 0 16 fun f=>
 uM f fun f g h i j k l m n o p q r s t u=>
 cI (D 47 [.ptr a b,.agg (eM f g h i j k l m n o p q r s t u),.int .i64 d] e) fun e f=>
 K1 a b (H.next U) 0 e f))
def AJE (cc2:XC) (cc3:XC):XC:=(.seq (.z (.aM 47 0<|
.aK 49 6 48 0<|
.m 52 51<|
.gA 52 true (.p 53 [7,52] (.faddr 2 (.t 7))<|
.aO 54 53 52 0 53 52<|
.nil) 56 52 55<|
.nil)
 (.cond (.tmp 56) (.z (.aN 9 0)
 (.seq (.block 0 (.z (.f 58 2 7<|
.aB 59 2 58 .i<|
.aD 61 60 2 57)
 (.cond (.tmp 57) (.ops (.aN 9 1))
 (.z (.f 63 2 7<|
.aK 64 2 63 0<|
.m 67 66<|
.gA 67 true (.bN 68 0 67 Hy 67 67 0<|
.aE 71 70 67 1 70 67<|
.bP 73 72 67 72 0) 74 67 73<|
.aH 62 74)
 (.cond (.tmp 62) (.ops (.bM 75 0 8 .i 48<|
.aH 9 77))
 .skip)))))
 (.keep [(0,.ptr),(7,.ptr),(8,.i),(9,.i)] [] [] cc3)))
 .skip))
 (.keep [(8,.i)] [] [] cc2))
def Pa (E:EB) (D:Ai) (W:AH) (K2:Int->H->AF) (K3:Nat->Nat->Nat->Nat->Int->Int->H->AF) (a b c d:Nat) (e:Int) (U:H):AF:=
 lI E U a (AP b 6) fun f=>
 Af (fun g h=>
 AI g (
 lI E h c (AP (AP d 2) 2) fun g=>
 AI (Bt g (AA 2)) (
 K3 a b c d e (AA 1) h) (
 lI E h c (AP (AP d 2) 2) fun g=>
 Af (fun i j=>
 AI i (
 cI (D 48 [.ptr a b,.int .i64 e] j) fun i k=>
 K3 a b c d e i k) (
 K3 a b c d e (AA 0) j)) fun i=>
 AI (Bt g (AA 0)) (
 lI E h a (AP b 1) fun g=>
 i (not (Bt g (AA 0))) h) (
 i false h))) (
 K2 e h)) fun g=>
 AI (Bt f (AA 0)) (
 lB E U c (AP d 2) fun f=>
 g f U) (
 g false U)
def AJD:XC:=(.z (.m 85 8<|
.aH 6 85)
 .ret)
def Nc (E:EB) (D:Ai) (W:AH) (a:Int) (U:H):AF:=
 rI a U
def AJC:XC:=(.ops (.aC 78 0 8<|
.f 80 2 7<|
.aB 81 1 80 .i<|
.m 83 9<|
.k 84 HM 49 [(.t 78),(.t 79),(.t 82),(.t 83)]<|
.nil))
def RF (E:EB) (D:Ai) (W:AH) (K2:Int->H->AF) (a b c d:Nat) (e f:Int) (U:H):AF:=
 lI E U c (AP (AP d 2) 1) fun g=>
 c0 (D 49 [.ptr a b,.int .i64 e,.int .i64 g,.int .i64 f] U) fun g=>
 K2 e g
def vI (E:EB) (D:Ai) (W:AH) (N:Nat):=Nc E D W
def AG6:=RF E D W (vI E D W N )
def AG7:=Pa E D W (vI E D W N ) (AG6 E D W N )
def F27 (args:List V) (U:H):AF:=
 uO args fun a b c d=>
 ZV E D W (AG7 E D W N ) a b c d U
def A27:Dv:=⟨86,[.ptr,.i,.i],[(.tmp 6)],(AJF (AJE AJD AJC))⟩
theorem AMx (args:List V) (U:H):B9 E D W N A27 args U=F27 E D W N args U:=by kernel_rfl
end
end Go.Proofs.YtgblfbajgpboiaaGreatDoor
