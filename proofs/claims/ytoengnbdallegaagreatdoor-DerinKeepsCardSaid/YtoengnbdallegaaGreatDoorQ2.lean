/- What the last text leans on, part 3 of 7: merged out of smaller texts. No condition. -/
import GoSem.ClaimChange
import Derived.Below
import Derived.KernelRfl
import Derived.Test.YtoengnbdallegaaGreatDoorQ1
open Int renaming ofNat -> AA,negSucc -> BQ,tmod -> E3
open Nat renaming le_refl -> AL,beq_eq -> AS,beq -> AW,ble -> Ag,add -> Ap,lt_or_ge -> A6,le_trans -> BP,blt -> DA,le_succ -> EI,lt_of_lt_of_le -> Ga,zero_le -> HE,lt_succ_self -> IT,sub_zero -> Ma,strongRecOn -> OH,lt_succ_of_lt -> Sx,lt_trichotomy -> AEi
open Bool renaming and_eq_true -> AJ,or_eq_false_iff -> BJ,or_eq_true -> BN,not_eq_true' -> Cr,false_eq_true -> Eg
open Option renaming some -> AM
open List renaming replicate -> AY,mem_cons -> Ae,getElem?_eq_getElem -> Af,mem_cons_self -> Av,getElem?_eq_none -> Bl,getD_eq_getElem?_getD -> B7,getElem?_map -> B9,getElem?_cons_succ -> CA,map_cons -> CP,mem_cons_of_mem -> Cu,range -> Cz,mem_map -> EF,cons_append -> Ef,mem_range -> Sz,mapM_cons -> S0,eq_nil_iff_forall_not_mem -> V3
open Array renaming getElem?_setIfInBounds -> A1,getElem?_eq_none -> B5,getElem?_eq_getElem -> CH,getElem?_toList -> C7,size_setIfInBounds -> Dk,getD_eq_getD_getElem? -> D5,replicate -> G6,mem_of_getElem? -> KG,getElem?_append_left -> Lj,mapM_eq_mapM_toList -> Mf,getElem?_eq_some_iff -> wy,getElem?_replicate -> AIx
set_option linter.unusedSimpArgs false
namespace Go.Og
variable {P:Program} {D:Ak} {C:Cx}
theorem QG:∀{l:List BM},TQ l=true->∀o∈l,o.op ≠ .bad
 | [],_,o,ho=>by simp at ho
 | a::l,h,o,ho=>by
  simp only[TQ,AJ]at h
  rcases Ae.1 ho with rfl|ho
  ·intro hb;rw[hb]at h;cases h.1
  ·exact QG h.2 o ho
def sA (R:Ren) (B:Bs) (x:Option Value):Oc->Prop
 | .val v=>∃y,x=some y/\Ao R v=some y
 | .mark m off=>∃i,B m=some i/\x=some (.pointer (some ⟨i.blk,i.shift+off,none⟩))
 | .pal d _=>∃i,B d=some i/\x=some (.pointer (some ⟨i.blk,i.shift+0,none⟩))
theorem sA.mono {R R':Ren} {B B':Bs} {x:Option Value} {c:Oc} (h:sA R B x c) (hR:Le R R') (hB:∀m i,B m=some i->B' m=some i):sA R' B' x c:=by
 cases c with
 | val v=>obtain⟨y,h1,h2⟩:=h;exact⟨y,h1,Cd hR v y h2⟩
 | mark m off=>obtain⟨i,h1,h2⟩:=h;exact⟨i,hB _ _ h1,h2⟩
 | pal d z=>obtain⟨i,h1,h2⟩:=h;exact⟨i,hB _ _ h1,h2⟩
set_option maxHeartbeats 2000000 in
theorem jW (hD:∀f,CN P C.E C.G f (D f)) (hmix:P.follows .mixedOrders=true) {nR:Nat} {R0:Ren} {nt:Nat} (rid:Nat) {ops:Array Oper} {l:XL} {ancs:List Nat}
    (hflat:l.flat none=ops.toList.map (BE P C.G nt ops)) (hpl:List.zipWith DP.mk ancs l.lks=GL ops) (hplan:OY ops (ops.toList.map (BE P C.G nt ops)) (GL ops)=true)
    (hok:l.okG none none=true) (hdo:bK (l.flat none) ancs=true) (hanl:ancs.length=l.lks.length) (hmk:l.makes=false) (hnb:TQ (l.flat none)=true)
    {s:St} {a0:Act} {w00:World} {J:Bz->Qs->Rg->H->AH} {res:V × H} (hpo:Oa s.q l.pals=true)
    (h:Im C.E D true true 0 l 0 s.e s.q s.r s.Z J=some res) (hI:Ny C nR R0 nt s a0 w00) (Q:Exit->Act->World->Prop)
    (hQ:∀s' a' w',J s'.e s'.q s'.r s'.Z=some res->Ny C nR R0 nt s' a' w'->Q .normal a' w'):(Code.region rid ops true).wp P Q a0 w00:=by
  obtain⟨s',hrun,hκ,_⟩:=Hc l none none none true 0 s J res h hok (.inl ⟨rfl,rfl⟩) (fun _=>hmk)
  obtain⟨sts,oc,ex,hst0,hs',hat⟩:=X5 hrun
  rw[RT]at hs'
  obtain⟨hfl1,hfl2⟩:=Gi l none
  have hsz:l.size=ops.size:=by rw[<-hfl1,hflat];simp
  generalize hnn:ops.size=n at *
  rw[hsz]at hs'
  have F:=QD (l:=ops.toList.map (BE P C.G nt ops)) (by simp) hplan
  have hgood:∀(i:Nat) (o:Oper),ops[i]? = some o->∃g,BE P C.G nt ops o=⟨o.dst,Ab P C.G o.op,g⟩/\O2 ops o.guard=some g/\GG nt o.dst=true:=by
    intro i o ho
    have hmem:BE P C.G nt ops o∈l.flat none:=by
      rw[hflat,EF]
      exact⟨o,by simpa using KG ho,rfl⟩
    have hb:=QG hnb _ hmem
    unfold BE at hb ⊢
    split at hb
    · rename_i g h1 h2;exact⟨g,rfl,h1,h2⟩
    · exact(hb rfl).elim
  have hlt:∀{i:Nat} {o:Oper},ops[i]? = some o->i<n:=fun {i o} ho=>by
    rcases A6 i ops.size with h|h
    · omega
    · rw[B5 h]at ho;cases ho
  have some3:∀(i:Nat),i<n->∃(o:Oper) (p:DP),ops[i]? = some o/\(GL ops)[i]? = some p/\ancs.getD i 0=p.anc/\(l.flat none)[i]? = some (BE P C.G nt ops o)/\At C.E D (sts i) (BE P C.G nt ops o) p.looks (oc i) (ex i) (sts (i+1)):=by
    intro i hi
    have h1:i<ops.size:=by omega
    have ho:ops[i]? = some ops[i]:=CH h1
    have hf:(l.flat none)[i]? = some (BE P C.G nt ops ops[i]):=by
      rw[hflat,B9,C7,ho];rfl
    have hk:l.lks[i]? = some (l.lks[i]'(by omega)):=Af _
    have ha:ancs[i]? = some (ancs[i]'(by omega)):=Af _
    refine⟨ops[i],⟨ancs[i]'(by omega),l.lks[i]'(by omega)⟩,ho,?_,?_,hf,?_⟩
    · rw[<-hpl,List.getElem?_zipWith,ha,hk]
    · rw[B7,ha];rfl
    · exact hat i _ _ (by rw[List.getElem?_zip_eq_some];exact⟨hf,hk⟩)
  have hdlt:∀(i:Nat) (o:Oper) (t:Nat),ops[i]? = some o->o.dst=some t->t<nt:=by
    intro i o t ho ht
    obtain⟨g,_,_,hd⟩:=hgood i o ho
    rw[ht]at hd;simpa[GG]using hd
  have hdu:∀(i k:Nat) (o o':Oper) (t:Nat),i≠k->ops[i]? = some o->ops[k]? = some o'->o.dst=some t->o'.dst≠some t:=by
    intro i k o o' t hne ho ho' ht
    obtain⟨o1,p1,h1,h2,_⟩:=some3 i (hlt ho)
    obtain⟨o2,p2,h3,h4,_⟩:=some3 k (hlt ho')
    exact(F.dsts i k o o' p1 p2 hne ho ho' h2 h4 t ht).1
  have hpald:∀(k m:Nat) (z:List V),k<n->oc k = .pal m z->ex k=true/\∃(o:Oper) (el:TypeId),ops[k]? = some o/\o.dst=some m/\Ab P C.G o.op = .alloc el z:=by
    intro k m z hk hc
    obtain⟨o,p,ho,_,_,_,hA⟩:=some3 k hk
    obtain⟨g,hg,_,_⟩:=hgood k o ho
    rw[hg]at hA
    rw[hc]at hA
    generalize ex k=x at hA ⊢
    cases hA with
    | pal _ d el z hd ho' hw h=>exact⟨rfl,o,el,ho,hd,ho'⟩
  have hpalu:∀(k k' m:Nat) (z z':List V),k<n->k'<n->oc k = .pal m z->oc k' = .pal m z'->k=k':=by
    intro k k' m z z' hk hk' h1 h2
    rcases Nat.decEq k k' with hne|he
    · exfalso
      obtain⟨_,o,_,ho,hd,_⟩:=hpald k m z hk h1
      obtain⟨_,o',_,ho',hd',_⟩:=hpald k' m z' hk' h2
      exact hdu k k' o o' m hne ho ho' hd hd'
    · exact he
  let W:Nat->Prop:=fun i=>ex i=true/\∃o:Oper,ops[i]? = some o/\(Ab P C.G o.op).cls = .k
  have seg:∀(p i:Nat),p<=i->i<=n->(∀k:Nat,p<=k->k<i->¬W k)->(sts i).Z=(sts p).Z/\(∀m,(∀k z,p<=k->k<i->oc k ≠ .pal m z)->look (sts i).r m=look (sts p).r m) /\
      (∀k m z,p<=k->k<i->oc k = .pal m z->look (sts i).r m=some z):=by
    intro p i
    induction i with
    | zero=>
      intro hpi _ _
      have:p=0:=by omega
      subst this
      exact⟨rfl,fun _ _=>rfl,fun k m z h1 h2=>by omega⟩
    | succ i ih=>
      intro hpi' hin hW
      by_cases hpe:p=i+1
      · subst hpe;exact⟨rfl,fun _ _=>rfl,fun k m z h1 h2=>by omega⟩
      have hpi:p<=i:=by omega
      have ih:=ih hpi
      obtain⟨h1,h2,h3⟩:=ih (by omega) (fun k hk1 hk2=>hW k hk1 (by omega))
      obtain⟨o,p',ho,_,_,_,hA⟩:=some3 i (by omega)
      obtain⟨g,hg,_,_⟩:=hgood i o ho
      rw[hg]at hA
      have same:(sts (i+1)).Z=(sts i).Z->(sts (i+1)).r=(sts i).r->(∀m z,oc i ≠ .pal m z)->(sts (i+1)).Z=(sts p).Z/\(∀m,(∀k z,p<=k->k<i+1->oc k ≠ .pal m z)->look (sts (i+1)).r m=look (sts p).r m) /\
          (∀k m z,p<=k->k<i+1->oc k = .pal m z->look (sts (i+1)).r m=some z):=by
        intro e1 e2 hnp
        refine⟨e1.trans h1,fun m hm=>by rw[e2];exact h2 m (fun k z hk1 hk2=>hm k z hk1 (by omega)),fun k m z hk1 hk2 hkc=>?_⟩
        rw[e2]
        by_cases hki:k=i
        · subst hki;exact(hnp _ _ hkc).elim
        · exact h3 k m z hk1 (by omega) hkc
      have hWi:=hW i hpi (by omega)
      generalize hoc:oc i=c at hA
      generalize hex:ex i=x at hA
      cases hA with
      | skip _ hw h=>exact same h.2.2.2 h.2.2.1 (fun m z hh=>by rw[hoc]at hh;cases hh)
      | val _ pw v r' Z' hw hs hl hna h=>
        obtain⟨e1,e2⟩:=OP hs (fun hk=>hWi ⟨hex,o,ho,hk⟩) hna
        exact same (h.2.2.2.trans e2) (h.2.2.1.trans e1) (fun m z hh=>by rw[hoc]at hh;cases hh)
      | mark _ pw id nx m off hw hs h=>exact same h.2.2.2 h.2.2.1 (fun m z hh=>by rw[hoc]at hh;cases hh)
      | pal _ d el z hd ho' hw h=>
        have hr:(sts (i+1)).r=(d,z)::Bd [d] (sts i).r:=h.2.2.1
        have hne:∀m,m≠d->look (sts (i+1)).r m=look (sts i).r m:=fun m hm=>by
          rw[hr]
          simp only[look,AS]
          rw[if_neg (Ne.symm hm),CJ,if_neg (fun hh=>hm ((Gf d m).1 hh).symm)]
        refine⟨h.2.2.2.trans h1,fun m hm=>?_,fun k m z' hk1 hk2 hkc=>?_⟩
        · have hmd:m≠d:=fun he=>hm i z hpi (by omega) (by rw[hoc,he])
          rw[hne m hmd]
          exact h2 m (fun k z hk1 hk2=>hm k z hk1 (by omega))
        · by_cases hki:k=i
          · subst hki
            rw[hoc]at hkc;cases hkc
            rw[hr];simp[look]
          · have hmd:m≠d:=fun he=>hki (hpalu k i d z' z (by omega) (by omega) (by rw[hkc,he]) hoc)
            rw[hne m hmd]
            exact h3 k m z' hk1 (by omega) hkc
  have roots:∀(i:Nat),i<=n->∀(t m off:Nat),look (sts i).q t=some (m,off)->∀k z,k<n->oc k = .pal m z->k<i:=by
    intro i
    induction i with
    | zero=>
      intro _ t m off hl k z hk hc
      exfalso
      obtain⟨_,o,el,ho,hd,hcc⟩:=hpald k m z hk hc
      obtain⟨g,hg,_,_⟩:=hgood k o ho
      have hmem:BE P C.G nt ops o∈l.flat none:=by
        rw[hflat,EF]
        exact⟨o,by simpa using KG ho,rfl⟩
      have:=Ig l none hmk _ hmem m (by rw[hg];simp only[hcc];rfl) (by rw[hg];exact hd)
      exact K8 hpo m this t off (hst0.2.1 t _ hl)
    | succ i ih=>
      intro hin t m off hl k z hk hc
      have ih:=ih (by omega)
      obtain⟨o,p',ho,_,_,_,hA⟩:=some3 i (by omega)
      generalize hoc:oc i=c at hA
      generalize hex:ex i=x at hA
      have old:∀t,look (sts i).q t=some (m,off)->k<i+1:=fun t ht=>Sx (ih t m off ht k z hk hc)
      cases hA with
      | skip _ hw h=>
        have:=h.2.1 t _ hl
        rw[B6]at this
        split at this
        · cases this
        · exact old t this
      | val _ pw v r' Z' hw hs hl' hna h=>
        have:=h.2.1 t _ hl
        rw[B6]at this
        split at this
        · cases this
        · exact old t this
      | mark _ pw id nx m' off' hw hs h=>
        have:=h.2.1 t _ hl
        rw[KU]at this
        split at this
        · simp only[AM.injEq,Prod.mk.injEq]at this
          obtain⟨rfl,rfl⟩:=this
          obtain⟨x,off2,hx⟩:=YD hs
          cases x with
          | con v=>cases hx
          | tmp u=>
            have hx:look (Kz p'.looks (sts i).q) u=some (m',off2):=hx
            exact Sx (ih u m' off2 (Gg _ _ _ _ hx).1 k z hk hc)
        · rw[B6]at this
          split at this
          · cases this
          · exact old t this
      | pal _ d el z' hd ho' hw h=>
        have:=h.2.1 t _ hl
        simp only[look,AS]at this
        split at this
        · simp only[AM.injEq,Prod.mk.injEq]at this
          obtain⟨rfl,rfl⟩:=this
          have:=hpalu k i d z z' hk (by omega) hc hoc
          omega
        · have h2:=(Jn _ _ _ _ this).2
          rw[CJ]at h2
          split at h2
          · cases h2
          · exact old t h2
  have srcE:∀(i:Nat),i<=n->∀(t:Nat) (v:V),look (sts i).e t=some v->(∃(k:Nat) (o':Oper),k<i/\ops[k]? = some o'/\o'.dst=some t/\oc k = .val v)\/(look s.e t=some v/\∀(k:Nat) (o':Oper),k<i->ops[k]? = some o'->o'.dst≠some t):=by
    intro i
    induction i with
    | zero=>intro _ t v hl;exact .inr ⟨hst0.1 t v hl,fun k o' hk=>by omega⟩
    | succ i ih=>
      intro hin t v hl
      have ih:=ih (by omega)
      obtain⟨o,p',ho,_,_,_,hA⟩:=some3 i (by omega)
      obtain⟨g,hg,_,_⟩:=hgood i o ho
      rw[hg]at hA
      generalize hoc:oc i=c at hA
      generalize hex:ex i=x at hA
      have old:o.dst≠some t->look (sts i).e t=some v->(∃(k:Nat) (o':Oper),k<i+1/\ops[k]? = some o'/\o'.dst=some t/\oc k = .val v)\/(look s.e t=some v/\∀(k:Nat) (o':Oper),k<i+1->ops[k]? = some o'->o'.dst≠some t):=by
        intro hne ht
        rcases ih t v ht with ⟨k,o',h1,h2,h3,h4⟩|⟨h1,h2⟩
        · exact .inl ⟨k,o',by omega,h2,h3,h4⟩
        · refine .inr ⟨h1,fun k o' hk ho'=>?_⟩
          by_cases hki:k=i
          · subst hki;rw[ho]at ho';cases ho';exact hne
          · exact h2 k o' (by omega) ho'
      cases hA with
      | skip _ hw h=>
        have:=h.1 t _ hl
        rw[GP]at this
        split at this
        · rename_i hd;cases this;exact .inl ⟨i,o,by omega,ho,hd,hoc⟩
        · rename_i hd;exact old hd this
      | val _ pw v' r' Z' hw hs hl' hna h=>
        have:=h.1 t _ hl
        rw[GP]at this
        split at this
        · rename_i hd;cases this;exact .inl ⟨i,o,by omega,ho,hd,hoc⟩
        · rename_i hd;exact old hd this
      | mark _ pw id nx m' off' hw hs h=>
        have:=h.1 t _ hl
        rw[B6]at this
        split at this
        · cases this
        · rename_i hd;exact old hd this
      | pal _ d el z' hd ho' hw h=>
        have:=h.1 t _ hl
        rw[CJ]at this
        split at this
        · cases this
        · rename_i hm
          exact old (fun hh=>hm ((Gf d t).2 (by rw[show o.dst=some d from hd]at hh;simpa using hh))) this
  have srcQ:∀(i:Nat),i<=n->∀(t m off:Nat),look (sts i).q t=some (m,off)->(∃(k:Nat) (o':Oper),k<i/\ops[k]? = some o'/\o'.dst=some t/\(oc k = .mark m off\/∃z,oc k = .pal m z/\off=0)) \/
      (look s.q t=some (m,off)/\∀(k:Nat) (o':Oper),k<i->ops[k]? = some o'->o'.dst≠some t):=by
    intro i
    induction i with
    | zero=>intro _ t m off hl;exact .inr ⟨hst0.2.1 t _ hl,fun k o' hk=>by omega⟩
    | succ i ih=>
      intro hin t m off hl
      have ih:=ih (by omega)
      obtain⟨o,p',ho,_,_,_,hA⟩:=some3 i (by omega)
      obtain⟨g,hg,_,_⟩:=hgood i o ho
      rw[hg]at hA
      generalize hoc:oc i=c at hA
      generalize hex:ex i=x at hA
      have old:o.dst≠some t->look (sts i).q t=some (m,off)->(∃(k:Nat) (o':Oper),k<i+1/\ops[k]? = some o'/\o'.dst=some t/\(oc k = .mark m off\/∃z,oc k = .pal m z/\off=0)) \/
          (look s.q t=some (m,off)/\∀(k:Nat) (o':Oper),k<i+1->ops[k]? = some o'->o'.dst≠some t):=by
        intro hne ht
        rcases ih t m off ht with ⟨k,o',h1,h2,h3,h4⟩|⟨h1,h2⟩
        · exact .inl ⟨k,o',by omega,h2,h3,h4⟩
        · refine .inr ⟨h1,fun k o' hk ho'=>?_⟩
          by_cases hki:k=i
          · subst hki;rw[ho]at ho';cases ho';exact hne
          · exact h2 k o' (by omega) ho'
      cases hA with
      | skip _ hw h=>
        have:=h.2.1 t _ hl
        rw[B6]at this
        split at this
        · cases this
        · rename_i hd;exact old hd this
      | val _ pw v' r' Z' hw hs hl' hna h=>
        have:=h.2.1 t _ hl
        rw[B6]at this
        split at this
        · cases this
        · rename_i hd;exact old hd this
      | mark _ pw id nx m' off' hw hs h=>
        have:=h.2.1 t _ hl
        rw[KU]at this
        split at this
        · rename_i hd
          simp only[AM.injEq,Prod.mk.injEq]at this
          obtain⟨rfl,rfl⟩:=this
          exact .inl ⟨i,o,by omega,ho,hd,.inl hoc⟩
        · rename_i hd
          rw[B6,if_neg hd]at this
          exact old hd this
      | pal _ d el z' hd ho' hw h=>
        have:=h.2.1 t _ hl
        simp only[look,AS]at this
        split at this
        · rename_i hdt
          simp only[AM.injEq,Prod.mk.injEq]at this
          obtain⟨rfl,rfl⟩:=this
          exact .inl ⟨i,o,by omega,ho,by rw[<-hdt];exact hd,.inr ⟨z',hoc,rfl⟩⟩
        · rename_i hdt
          have h2:=(Jn _ _ _ _ this).2
          rw[CJ]at h2
          split at h2
          · cases h2
          · exact old (fun hh=>hdt (by rw[show o.dst=some d from hd]at hh;simpa using hh)) h2
  obtain⟨Rs,Bs0,hx0,hn0,hm0,he0,hq0,hnt0,hd0⟩:=hI
  let Bi:Bs:=fun m=>if Bg l.pals m=true then none else Bs0 m
  have hpalm:∀(k m:Nat) (z:List V),k<n->oc k = .pal m z->Bg l.pals m=true:=by
    intro k m z hk hc
    obtain⟨_,o,el,ho,hd,hcc⟩:=hpald k m z hk hc
    obtain⟨g,hg,_,_⟩:=hgood k o ho
    have hmem:BE P C.G nt ops o∈l.flat none:=by
      rw[hflat,EF]
      exact⟨o,by simpa using KG ho,rfl⟩
    exact Ig l none hmk _ hmem m (by rw[hg];simp only[hcc];rfl) (by rw[hg];exact hd)
  let Inv:Array Bool->Act->World->Prop:=fun listed a w=>
    listed.size=n/\(∀(i:Nat) (o:Oper),listed.getD i false=true->ops[i]? = some o->∀ed∈o.after,Region.binds .any ed=true->listed.getD ed.on false=true)/\a.defers=[] /\
    ∃(R:Ren) (B:Bs) (p:Nat) (rL:Rg),p<=n/\(p=0\/∃j,p=j+1/\W j/\listed.getD j false=true)/\(∀j,j<n->W j->(listed.getD j false=true↔j<p))/\Gp nR R0 R/\nR<=(sts p).Z.next /\
      Sj C R B rL (sts p).Z w/\(∀k m z,p<=k->k<n->listed.getD k false=true->oc k = .pal m z->look rL m=some z) /\
      (∀m,(∀k z,p<=k->k<n->listed.getD k false=true->oc k ≠ .pal m z)->look rL m=look (sts p).r m) /\
      (∀k m z,k<n->oc k = .pal m z->listed.getD k false=false->B m=none)/\nt<=a.tmps.size /\
      (∀(i:Nat) (o:Oper) (t:Nat),listed.getD i false=true->ops[i]? = some o->o.dst=some t->sA R B a.tmps[t]? (oc i)) /\
      (∀t v,look s.e t=some v->(∀(i:Nat) (o:Oper),listed.getD i false=true->ops[i]? = some o->o.dst≠some t)->∃x,a.tmps[t]? = some x/\Ao R v=some x) /\
      (∀t m off,look s.q t=some (m,off)->(∀(i:Nat) (o:Oper),listed.getD i false=true->ops[i]? = some o->o.dst≠some t)->∃i,B m=some i/\a.tmps[t]? = some (.pointer (some ⟨i.blk,i.shift+off,none⟩)))
  have hanc:∀(listed:Array Bool),(∀(i:Nat) (o:Oper),listed.getD i false=true->ops[i]? = some o->∀ed∈o.after,Region.binds .any ed=true->listed.getD ed.on false=true) ->
      ∀(i:Nat) (o:Oper) (p:DP),ops[i]? = some o->(GL ops)[i]? = some p->(∀ed∈o.after,Region.binds .any ed=true->listed.getD ed.on false=true)->∀(k:Nat),k<n->p.anc.testBit k=true->listed.getD k false=true:=by
    intro listed hcl i
    induction i using OH with
    | _ i ih=>
      intro o p ho hp hed k hk hb
      obtain⟨ed,hem,hbe,hr⟩:=F.anc i o p ho hp k (by omega) hb
      have hlt':=F.edges i o ho ed hem hbe
      have hli:=hed ed hem hbe
      rcases hr with rfl|hr
      · exact hli
      · have hin:i<n:=hlt ho
        obtain⟨o2,p2,h1,h3,_⟩:=some3 ed.on (by omega)
        exact ih ed.on hlt' o2 p2 h1 h3 (fun ed2 hm2 hb2=>hcl ed.on o2 hli h1 ed2 hm2 hb2) k hk (by rw[<-Iu h3];exact hr)
  have hready_nil:∀listed:Array Bool,listed.size=n->Region.ready .any ops listed=[]->∀k,k<n->listed.getD k false=true:=by
    intro listed hsz' hr k
    induction k using OH with
    | _ k ih=>
      intro hk
      cases hb:listed.getD k false with
      | true=>rfl
      | false=>
        exfalso
        obtain⟨o,p,h1,_⟩:=some3 k hk
        have:k∈Region.ready .any ops listed:=mem_ready.2 ⟨by rw[DW hsz' hk];exact hb,o,h1,fun ed hm hbd=>ih ed.on (F.edges k o h1 ed hm hbd) (by have:=F.edges k o h1 ed hm hbd;omega)⟩
        rw[hr]at this;cases this
  have hnone:∀(listed:Array Bool),(∀(i:Nat) (o:Oper),listed.getD i false=true->ops[i]? = some o->∀ed∈o.after,Region.binds .any ed=true->listed.getD ed.on false=true) ->
      ∀(j:Nat) (t:Nat),j<=n->(j<n->∃o p,ops[j]? = some o/\(GL ops)[j]? = some p/\listed.getD j false=false/\Bg p.looks t=true) ->
      (∀(k:Nat) (o':Oper),k<j->ops[k]? = some o'->o'.dst≠some t)->∀(i:Nat) (o:Oper),listed.getD i false=true->ops[i]? = some o->o.dst≠some t:=by
    intro listed hcl j t hj hrd hk2 i oi hli hoi hdst
    have hin:i<n:=hlt hoi
    by_cases hij:i<j
    · exact hk2 i oi hij hoi hdst
    · have hjn:j<n:=by omega
      obtain⟨o,p,ho,hp,hnl,hlook⟩:=hrd hjn
      by_cases hie:i=j
      · subst hie;rw[hnl]at hli;cases hli
      · obtain⟨o3,p3,h1,h3,_⟩:=some3 i hin
        rw[hoi]at h1;cases h1
        have hd:=(F.dsts i j oi o p3 p hie hoi ho h3 hp t hdst).2 hlook
        rcases hd with hd|hd
        · have:=F.ancLt j p hp i (by omega) hd;omega
        · have:=hanc listed hcl i oi p3 hoi h3 (fun ed hm hb=>hcl i oi hli hoi ed hm hb) j hjn hd
          rw[hnl]at this;cases this
  have hwritten:∀(listed:Array Bool),(∀(i:Nat) (o:Oper),listed.getD i false=true->ops[i]? = some o->∀ed∈o.after,Region.binds .any ed=true->listed.getD ed.on false=true) ->
      ∀(j t k:Nat) (ok:Oper),j<=n->(j=n->∀k,k<n->listed.getD k false=true)->(j<n->∃o p,ops[j]? = some o/\(GL ops)[j]? = some p/\Bg p.looks t=true/\(∀ed∈o.after,Region.binds .any ed=true->listed.getD ed.on false=true)) ->
      k<j->ops[k]? = some ok->ok.dst=some t->listed.getD k false=true:=by
    intro listed hcl j t k ok hj hall hrd hk hok' hdst
    by_cases hjn:j<n
    · obtain⟨o,p,ho,hp,hlook,hed⟩:=hrd hjn
      obtain⟨o3,p3,h1,h3,_⟩:=some3 k (by omega)
      rw[hok']at h1;cases h1
      have hd:=(F.dsts k j ok o p3 p (by omega) hok' ho h3 hp t hdst).2 hlook
      rcases hd with hd|hd
      · exact hanc listed hcl j o p ho hp hed k (by omega) hd
      · have:=F.ancLt k p3 h3 j (by omega) hd;omega
    · exact hall (by omega) k (by omega)
  have hput:∀(a:Act) (d:Option Nat) (x:Value) (t:Nat),d≠some t->(a.put d x).tmps[t]? = a.tmps[t]? := by
    intro a d x t hne
    cases d with
    | none=>rfl
    | some d=>
      simp only[Act.put,A1]
      rw[if_neg (fun h=>hne (by rw[h]))]
  have hputsz:∀(a:Act) (d:Option Nat) (x:Value),(a.put d x).tmps.size=a.tmps.size:=by
    intro a d x;cases d<;>simp[Act.put]
  have hclsk:∀(listed:Array Bool),(∀(i:Nat) (o:Oper),listed.getD i false=true->ops[i]? = some o->∀ed∈o.after,Region.binds .any ed=true->listed.getD ed.on false=true) ->
      ∀(i:Nat) (o:Oper),ops[i]? = some o->listed.getD i false=false->(∀ed∈o.after,Region.binds .any ed=true->listed.getD ed.on false=true)->∀j,j<n->W j ->
        ((Ab P C.G o.op).cls = .k->(j<i->listed.getD j false=true)/\(i<j->listed.getD j false=false)) /\
        ((Ab P C.G o.op).cls = .l->(j<i->listed.getD j false=true)/\(i<j->listed.getD j false=false)) /\
        ((Ab P C.G o.op).cls = .a->(i<j->listed.getD j false=false)):=by
    intro listed hcl i o ho hnl hed j hj hWj
    obtain⟨hexj,oj,hoj,hcj⟩:=hWj
    have hi:i<n:=hlt ho
    obtain⟨o1,p1,e1,e2,e3,e4,_⟩:=some3 i hi
    rw[ho]at e1;cases e1
    obtain⟨o2,p2,f1,f2,f3,f4,_⟩:=some3 j hj
    rw[hoj]at f1;cases f1
    obtain⟨g1,hg1,_⟩:=hgood i o ho
    obtain⟨g2,hg2,_⟩:=hgood j oj hoj
    have hup:∀k,k<n->p1.anc.testBit k=true->listed.getD k false=true:=hanc listed hcl i o p1 ho e2 hed
    have hdown:p2.anc.testBit i=true->listed.getD j false=false:=by
      intro hb
      cases hlj:listed.getD j false with
      | false=>rfl
      | true=>
        exfalso
        have:=hanc listed hcl j oj p2 hoj f2 (fun ed hm hb=>hcl j oj hlj hoj ed hm hb) i hi hb
        rw[hnl]at this;cases this
    have hl1:(ops.toList.map (BE P C.G nt ops))[i]? = some (BE P C.G nt ops o):=by rw[<-hflat];exact e4
    have hl2:(ops.toList.map (BE P C.G nt ops))[j]? = some (BE P C.G nt ops oj):=by rw[<-hflat];exact f4
    have hkj:(BE P C.G nt ops oj).op.cls = .k:=by rw[hg2];exact hcj
    have hdoj:=HB hdo j (by rw[hfl1];omega)
    rw[f4]at hdoj
    simp only[hkj]at hdoj
    have hdoji:=HB hdoj i (by rw[hfl1];omega)
    rw[e4]at hdoji
    rw[e3,f3]at hdoji
    refine⟨fun hk=>?_,fun hk=>?_,fun hk=>?_⟩
    · have hki:(BE P C.G nt ops o).op.cls = .k:=by rw[hg1];exact hk
      exact⟨fun hji=>hup j hj (F.kk j i _ _ p1 hji hl2 hl1 e2 hkj hki),fun hij=>hdown (F.kk i j _ _ p2 hij hl1 hl2 f2 hki hkj)⟩
    · have hki:(BE P C.G nt ops o).op.cls = .l:=by rw[hg1];exact hk
      simp only[hki,BN]at hdoji
      rcases hdoji with hb|hb
      · have:=F.ancLt i p1 e2 j (by omega) hb
        exact⟨fun _=>hup j hj hb,fun hij=>by omega⟩
      · have:=F.ancLt j p2 f2 i (by omega) hb
        exact⟨fun hji=>by omega,fun _=>hdown hb⟩
    · have hki:(BE P C.G nt ops o).op.cls = .a:=by rw[hg1];exact hk
      simp only[hki,BN,Cr]at hdoji
      intro hij
      rcases hdoji with hb|hb
      · have:DA i j=true:=by simpa using hij
        rw[this]at hb;cases hb
      · exact hdown hb
  have hallk:∀(listed:Array Bool),(∀(i:Nat) (o:Oper),listed.getD i false=true->ops[i]? = some o->∀ed∈o.after,Region.binds .any ed=true->listed.getD ed.on false=true) ->
      ∀(i:Nat) (o:Oper),ops[i]? = some o->(∀ed∈o.after,Region.binds .any ed=true->listed.getD ed.on false=true)->(Ab P C.G o.op).cls = .k->∀k m z,k<i->oc k = .pal m z->listed.getD k false=true:=by
    intro listed hcl i o ho hed hk k m z hki hc
    have hi:i<n:=hlt ho
    obtain⟨o1,p1,e1,e2,e3,e4,_⟩:=some3 i hi
    rw[ho]at e1;cases e1
    obtain⟨g1,hg1,_⟩:=hgood i o ho
    obtain⟨_,ok,el,hok',hdk,hck⟩:=hpald k m z (by omega) hc
    obtain⟨o2,p2,f1,f2,f3,f4,_⟩:=some3 k (by omega)
    rw[hok']at f1;cases f1
    obtain⟨g2,hg2,_⟩:=hgood k ok hok'
    have hkk:(BE P C.G nt ops o).op.cls = .k:=by rw[hg1];exact hk
    have hdoj:=HB hdo i (by rw[hfl1];omega)
    rw[e4]at hdoj
    simp only[hkk]at hdoj
    have hdoji:=HB hdoj k (by rw[hfl1];omega)
    rw[f4]at hdoji
    have hka:(BE P C.G nt ops ok).op.cls = .a:=by rw[hg2];simp only[hck];rfl
    rw[e3]at hdoji
    simp only[hka,BN,Cr]at hdoji
    rcases hdoji with hb|hb
    · have:DA k i=true:=by simpa using hki
      rw[this]at hb;cases hb
    · exact hanc listed hcl i o p1 ho e2 hed k (by omega) hb
  have hfin:∀listed a w,Inv listed a w->(∀k,k<n->listed.getD k false=true)->Q .normal a w:=by
    intro listed a w hI hall
    obtain⟨hls,hcl,hd,R,B,p,rL,hpn,hp0,hpw,hx,hnp,hmem,hr1,hr2,hbs,htsz,hw,hu,hqq⟩:=hI
    have hnW:∀k,p<=k->k<n->¬W k:=fun k h1 h2 hW=>by have:=(hpw k h2 hW).1 (hall k h2);omega
    obtain⟨s1,s2,s3⟩:=seg p n hpn (AL _) hnW
    have hrr:∀m,look rL m=look (sts n).r m:=by
      intro m
      by_cases hex2:∃k z,p<=k/\k<n/\oc k = .pal m z
      · obtain⟨k,z,h1,h2,h3⟩:=hex2
        rw[hr1 k m z h1 h2 (hall k h2) h3,s3 k m z h1 h2 h3]
      · have hno:∀k z,p<=k->k<n->oc k ≠ .pal m z:=fun k z h1 h2 h3=>hex2 ⟨k,z,h1,h2,h3⟩
        rw[hr2 m (fun k z h1 h2 _=>hno k z h1 h2),s2 m hno]
    rw[hs']at hκ
    refine hQ (sts n) a w hκ ⟨R,B,hx,by rw[s1];exact hnp,⟨by rw[s1];exact hmem.rel,⟨fun m i hm=>?_,hmem.priv.inj,by rw[s1];exact hmem.priv.apart⟩⟩,⟨fun t v hv=>?_⟩,⟨fun t m off hv=>?_⟩,htsz,hd⟩
    · obtain⟨h1,l',h2,h3⟩:=hmem.priv.at_ m i hm
      exact⟨h1,l',by rw[<-hrr];exact h2,h3⟩
    · rcases srcE n (AL _) t v hv with ⟨k,o',h1,h2,h3,h4⟩ | ⟨h1,h2⟩
      · have:=hw k o' t (hall k h1) h2 h3
        rw[h4]at this;exact this
      · exact hu t v h1 (hnone listed hcl n t (AL _) (fun h=>by omega) h2)
    · rcases srcQ n (AL _) t m off hv with ⟨k,o',h1,h2,h3,h4⟩ | ⟨h1,h2⟩
      · have:=hw k o' t (hall k h1) h2 h3
        rcases h4 with h4|⟨z,h4,rfl⟩
        · rw[h4]at this;exact this
        · rw[h4]at this;exact this
      · exact hqq t m off h1 (hnone listed hcl n t (AL _) (fun h=>by omega) h2)
  have hstep:∀listed a w,Inv listed a w->∀i,i∈Region.ready .any ops listed->∀K:Act->World->Prop,(∀a' w',Inv (listed.setIfInBounds i true) a' w'->K a' w')->wpOp P ops Q i K a w:=by
    intro listed a w hI i hi K hK
    obtain⟨hls,hcl,hd,R,B,p,rL,hpn,hp0,hpw,hx,hnp,hmem,hr1,hr2,hbs,htsz,hw,hu,hqq⟩:=hI
    obtain⟨hli,o,ho,hed⟩:=mem_ready.1 hi
    have hin:i<n:=hlt ho
    have hnl:listed.getD i false=false:=by rw[<-DW hls hin];exact hli
    obtain⟨o2,pi,ho2,hpi,_,_,hA⟩:=some3 i hin
    rw[ho]at ho2;cases ho2
    obtain⟨g,hg,hcg,hdok⟩:=hgood i o ho
    rw[hg]at hA
    have hsz':i<listed.size:=by omega
    have hLs:∀k,(listed.setIfInBounds i true).getD k false=(decide (k=i) || listed.getD k false):=fun k=>If hsz'
    have hLi:(listed.setIfInBounds i true).getD i false=true:=by rw[hLs];simp
    have hLo:∀k,k≠i->(listed.setIfInBounds i true).getD k false=listed.getD k false:=fun k hk=>by rw[hLs];simp[hk]
    have hclk:=hclsk listed hcl i o ho hnl hed
    have hmw:=hmem.rel
    have hem:HD R (Dt true pi.looks (sts i).e) a.tmps:=by
      refine⟨fun t v hv=>?_⟩
      obtain⟨ht,hmemt⟩:=GO _ _ _ _ hv
      rcases srcE i (by omega) t v ht with ⟨k,o',h1,h2,h3,h4⟩|⟨h1,h2⟩
      · have:=hw k o' t (hwritten listed hcl i t k o' (by omega) (fun h=>by omega) (fun _=>⟨o,pi,ho,hpi,hmemt,hed⟩) h1 h2 h3) h2 h3
        rw[h4]at this;exact this
      · exact hu t v h1 (hnone listed hcl i t (by omega) (fun _=>⟨o,pi,ho,hpi,hnl,hmemt⟩) h2)
    have hqm:Si B (Kd true pi.looks (sts i).q) a.tmps:=by
      refine⟨fun t m off hv=>?_⟩
      obtain⟨ht,hmemt⟩:=Gg _ _ _ _ hv
      rcases srcQ i (by omega) t m off ht with ⟨k,o',h1,h2,h3,h4⟩|⟨h1,h2⟩
      · have:=hw k o' t (hwritten listed hcl i t k o' (by omega) (fun h=>by omega) (fun _=>⟨o,pi,ho,hpi,hmemt,hed⟩) h1 h2 h3) h2 h3
        rcases h4 with h4|⟨z,h4,rfl⟩
        · rw[h4]at this;exact this
        · rw[h4]at this;exact this
      · exact hqq t m off h1 (hnone listed hcl i t (by omega) (fun _=>⟨o,pi,ho,hpi,hnl,hmemt⟩) h2)
    have mk:∀(R':Ren) (B':Bs) (p':Nat) (rL':Rg) (w':World) (x:Value),p'<=n->(p'=0\/∃j,p'=j+1/\W j/\(listed.setIfInBounds i true).getD j false=true) ->
        (∀j,j<n->W j->((listed.setIfInBounds i true).getD j false=true↔j<p'))->Gp nR R0 R'->nR<=(sts p').Z.next->Sj C R' B' rL' (sts p').Z w' ->
        (∀k m z,p'<=k->k<n->(listed.setIfInBounds i true).getD k false=true->oc k = .pal m z->look rL' m=some z) ->
        (∀m,(∀k z,p'<=k->k<n->(listed.setIfInBounds i true).getD k false=true->oc k ≠ .pal m z)->look rL' m=look (sts p').r m) ->
        (∀k m z,k<n->oc k = .pal m z->(listed.setIfInBounds i true).getD k false=false->B' m=none)->Le R R'->(∀m b,B m=some b->B' m=some b) ->
        (∀t,o.dst=some t->sA R' B' (some x) (oc i))->K (a.put o.dst x) w':=by
      intro R' B' p' rL' w' x h1 h2 h3 h4 h5 h6 h7 h8 h9 h10 h11 h12
      refine hK _ _ ⟨by rw[Dk];exact hls,?_,by rw[EY];exact hd,R',B',p',rL',h1,h2,h3,h4,h5,h6,h7,h8,h9,by rw[hputsz];exact htsz,?_,?_,?_⟩
      · intro i' o' hi' ho' ed hm' hb'
        rw[hLs]at hi' ⊢
        simp only[BN,decide_eq_true_eq]at hi' ⊢
        rcases hi' with rfl|hi'
        · rw[ho]at ho';cases ho'
          exact .inr (hed ed hm' hb')
        · exact .inr (hcl i' o' hi' ho' ed hm' hb')
      · intro i' o' t hi' ho' hdt
        rw[hLs]at hi'
        simp only[BN,decide_eq_true_eq]at hi'
        by_cases he:i'=i
        · subst he
          rw[ho]at ho';cases ho'
          have:=h12 t hdt
          have htl:t<a.tmps.size:=Ga (hdlt i' o t ho hdt) htsz
          have hpt:(a.put o.dst x).tmps[t]? = some x:=by rw[hdt];simp[Act.put,A1,htl]
          rw[hpt];exact this
        · have:=hw i' o' t (hi'.resolve_left he) ho' hdt
          rw[hput a o.dst x t (hdu i' i o' o t he ho' ho hdt)]
          exact this.mono h10 h11
      · intro t v hv hno
        rw[hput a o.dst x t (hno i o hLi ho)]
        obtain⟨y,hy1,hy2⟩:=hu t v hv (fun i' o' hi' ho'=>hno i' o' (by rw[hLs,hi'];simp) ho')
        exact⟨y,hy1,Cd h10 v y hy2⟩
      · intro t m off hv hno
        rw[hput a o.dst x t (hno i o hLi ho)]
        obtain⟨b,hb1,hb2⟩:=hqq t m off hv (fun i' o' hi' ho'=>hno i' o' (by rw[hLs,hi'];simp) ho')
        exact⟨b,h11 m b hb1,hb2⟩
    have mk0:∀(R':Ren) (w':World) (x:Value),¬W i->(∀m z,oc i ≠ .pal m z)->Gp nR R0 R'->Sj C R' B rL (sts p).Z w'->Le R R'->(∀t,o.dst=some t->sA R' B (some x) (oc i))->K (a.put o.dst x) w':=by
      intro R' w' x hnW hnp' h1 h2 h3 h4
      refine mk R' B p rL w' x hpn ?_ ?_ h1 hnp h2 ?_ ?_ ?_ h3 (fun _ _ h=>h) h4
      · rcases hp0 with h | ⟨j,h5,h6,h7⟩
        · exact .inl h
        · exact .inr ⟨j,h5,h6,by rw[hLs,h7];simp⟩
      · intro j hj hWj
        by_cases hji:j=i
        · subst hji;exact(hnW hWj).elim
        · rw[hLo j hji];exact hpw j hj hWj
      · intro k m z hk1 hk2 hk3 hk4
        by_cases hki:k=i
        · subst hki;exact(hnp' m z hk4).elim
        · rw[hLo k hki]at hk3;exact hr1 k m z hk1 hk2 hk3 hk4
      · intro m hm
        refine hr2 m (fun k z hk1 hk2 hk3=>?_)
        exact hm k z hk1 hk2 (by rw[hLs,hk3];simp)
      · intro k m z hk1 hk2 hk3
        by_cases hki:k=i
        · subst hki;rw[hLi]at hk3;cases hk3
        · rw[hLo k hki]at hk3;exact hbs k m z hk1 hk2 hk3
    have hext:∀R',(∀k,k<(sts p).Z.next->k≠(sts p).Z.next->R' k=R k)->Gp nR R0 R':=fun R' hk k hkn=>by rw[hk k (by omega) (by omega)];exact hx k hkn
    have hpi':(∀j,j<n->W j->i<j->listed.getD j false=false)->p<=i:=by
      intro hno
      rcases hp0 with h|⟨j,h1,h2,h3⟩
      · omega
      · rcases AEi j i with h4 | h4 | h4
        · omega
        · subst h4;rw[hnl]at h3;cases h3
        · have hW:=h2
          obtain⟨_,oj,hoj,_⟩:=h2
          rw[hno j (hlt hoj) hW h4]at h3;cases h3
    have hnoW:(∀j,j<n->W j->j<i->listed.getD j false=true)->∀k,p<=k->k<i->¬W k:=by
      intro hyes k hk1 hk2 hWk
      have:=(hpw k (by omega) hWk).1 (hyes k (by omega) hWk hk2)
      omega
    have hsame:p<=i->(∀k,p<=k->k<i->¬W k)->(sts i).Z=(sts p).Z/\∀x m off,FQ (Kd true pi.looks (sts i).q) x=some (m,off)->look rL m=look (sts i).r m:=by
      intro hpi2 hnW
      obtain⟨s1,s2,s3⟩:=seg p i hpi2 (by omega) hnW
      refine⟨s1,fun x m off hmx=>?_⟩
      cases x with
      | con v=>cases hmx
      | tmp u=>
        have hmx:look (Kd true pi.looks (sts i).q) u=some (m,off):=hmx
        obtain⟨b,hb,_⟩:=hqm.at_ u m off hmx
        have hroot:=roots i (by omega) u m off (Gg _ _ _ _ hmx).1
        by_cases hex2:∃k z,p<=k/\k<i/\oc k = .pal m z
        · obtain⟨k,z,h1,h2,h3⟩:=hex2
          have hlk:listed.getD k false=true:=by
            cases hlk:listed.getD k false with
            | true=>rfl
            | false=>have:=hbs k m z (by omega) h3 hlk;rw[hb]at this;cases this
          rw[hr1 k m z h1 (by omega) hlk h3,s3 k m z h1 h2 h3]
        · have hno:∀k z,p<=k->k<i->oc k ≠ .pal m z:=fun k z h1 h2 h3=>hex2 ⟨k,z,h1,h2,h3⟩
          rw[hr2 m (fun k z h1 h2 _ h3=>hno k z h1 (hroot k z h2 h3) h3),s2 m hno]
    have hgl:=hmw.globOk
    unfold wpOp
    rw[ho]
    simp only
    generalize hoc:oc i=c at hA
    generalize hexi:ex i=xx at hA
    cases hA with
    | skip _ hwn h=>
      rw[if_neg (by rw[DG hem.env hcg hwn];simp)]
      exact mk0 R w undef (fun hW=>by have h9:=hW.1;rw[hexi]at h9;cases h9) (fun m z hh=>by rw[hoc]at hh;cases hh) hx hmem (Le.refl _) (fun t _=>by rw[hoc];exact⟨_,rfl,rfl⟩)
    | mark _ pw id nx m off hwn hs h=>
      rw[if_pos (DG hem.env hcg hwn)]
      left
      have hs2:GC C.E D pw (sts p).Z.next ((sts p).Z.next+1) (Ab P C.G o.op) (Dt true pi.looks (sts i).e) (Kd true pi.looks (sts i).q) rL (sts p).Z (.mark m off):=aU hs
      refine Lr hD hmem hem hqm o (hmw.fresh _ (AL _)) (IT _) (EI _) hs2 K Q (fun v2 r2 Z2 heq=>by cases heq) (fun m2 off2 heq b hb=>?_)
      cases heq
      refine mk0 R w _ (fun hW=>?_) (fun m z hh=>by rw[hoc]at hh;cases hh) hx hmem (Le.refl _) (fun t _=>by rw[hoc];exact⟨b,hb,rfl⟩)
      obtain⟨_,o3,ho3,hc3⟩:=hW
      rw[ho]at ho3;cases ho3
      cases hs with
      | mv x _ _ hoo _=>have hoo:Ab P C.G o.op=_\/Ab P C.G o.op=_:=hoo;rcases hoo with hoo | hoo<;>(rw[hoo]at hc3;cases hc3)
      | fa d x _ _ hoo _=>have hoo:Ab P C.G o.op=_:=hoo;rw[hoo]at hc3;cases hc3
    | pal _ d el z hdd hoo hwn h=>
      rw[if_pos (DG hem.env hcg hwn)]
      left
      have hoo:Ab P C.G o.op = .alloc el z:=hoo
      have hdd:o.dst=some d:=hdd
      have hca:(Ab P C.G o.op).cls = .a:=by rw[hoo];rfl
      have hple:=hpi' (fun j hj hW hij=>(hclk j hj hW).2.2 hca hij)
      have hBd:B d=none:=hbs i d z hin hoc hnl
      refine aH hmem o (d:=d) hoo K Q (fun b w' hmem'=>?_)
      refine mk R (fun m=>if m=d then some b else B m) p ((d,z)::Bd [d] rL) w' _ hpn ?_ ?_ hx hnp hmem' ?_ ?_ ?_ (Le.refl _) (fun m b' hb'=>?_) (fun t _=>?_)
      · rcases hp0 with h | ⟨j,h5,h6,h7⟩
        · exact .inl h
        · exact .inr ⟨j,h5,h6,by rw[hLs,h7];simp⟩
      · intro j hj hWj
        by_cases hji:j=i
        · subst hji
          obtain⟨_,o3,ho3,hc3⟩:=hWj
          rw[ho]at ho3;cases ho3
          rw[hca]at hc3;cases hc3
        · rw[hLo j hji];exact hpw j hj hWj
      · intro k m z' hk1 hk2 hk3 hk4
        by_cases hki:k=i
        · subst hki;rw[hoc]at hk4;cases hk4;simp[look]
        · rw[hLo k hki]at hk3
          have hmd:¬d=m:=fun he=>hki (hpalu k i m z' z hk2 hin hk4 (by rw[hoc,he]))
          simp only[look,AS]
          rw[if_neg hmd,CJ,if_neg (fun hh=>hmd ((Gf d m).1 hh))]
          exact hr1 k m z' hk1 hk2 hk3 hk4
      · intro m hm
        have hmd:¬d=m:=fun he=>hm i z hple hin hLi (by rw[hoc,he])
        simp only[look,AS]
        rw[if_neg hmd,CJ,if_neg (fun hh=>hmd ((Gf d m).1 hh))]
        exact hr2 m (fun k z' hk1 hk2 hk3=>hm k z' hk1 hk2 (by rw[hLs,hk3];simp))
      · intro k m z' hk1 hk2 hk3
        by_cases hki:k=i
        · subst hki;rw[hLi]at hk3;cases hk3
        · rw[hLo k hki]at hk3
          have hmd:¬m=d:=fun he=>hki (hpalu k i m z' z hk1 hin hk2 (by rw[hoc,he]))
          rw[if_neg hmd];exact hbs k m z' hk1 hk2 hk3
      · by_cases hmd:m=d
        · subst hmd;rw[hBd]at hb';cases hb'
        · rw[if_neg hmd];exact hb'
      · rw[hoc];exact⟨b,by simp,rfl⟩
    | val _ pw v r' Z' hwn hs hl' hna h=>
      rw[if_pos (DG hem.env hcg hwn)]
      left
      have hs:GC C.E D pw (sts i).Z.next ((sts i).Z.next+1) (Ab P C.G o.op) (Dt true pi.looks (sts i).e) (Kd true pi.looks (sts i).q) (sts i).r (sts i).Z (.val v r' Z'):=hs
      have hl':o.dst=none\/v.live=true\/(Ab P C.G o.op).cls ≠ .k:=hl'
      have hna:(Ab P C.G o.op).cls ≠ .a:=hna
      have htok:∀(R':Ren) (x:Value),((v = .dead/\(Ab P C.G o.op).cls = .k)\/Ao R' v=some x)->∀t,o.dst=some t->sA R' B (some x) (oc i):=by
        intro R' x hv t ht
        rw[hoc]
        refine⟨x,rfl,?_⟩
        rcases hv with ⟨rfl,hc⟩|hv
        · rcases hl' with h | h | h
          · rw[ht]at h;cases h
          · cases h
          · exact(h hc).elim
        · exact hv
      by_cases hck:(Ab P C.G o.op).cls = .k
      ·
        have hWi:W i:=⟨hexi,o,ho,hck⟩
        have hple:=hpi' (fun j hj hW hij=>((hclk j hj hW).1 hck).2 hij)
        have hnW:=hnoW (fun j hj hW hji=>((hclk j hj hW).1 hck).1 hji)
        obtain⟨hσ,hrm⟩:=hsame hple hnW
        obtain⟨s1,s2,s3⟩:=seg p i hple (by omega) hnW
        rw[hσ]at hs
        obtain⟨rL',hs2,hrel⟩:=P9 (rL:=rL) hs hrm
        refine Lr hD hmem hem hqm o (hmw.fresh _ (AL _)) (IT _) (EI _) hs2 K Q (fun v2 r2 Z2 heq R' w' x hle hk hn' hmem' hv=>?_) (fun m off heq=>by cases heq)
        cases heq
        have hσ':(sts (i+1)).Z=Z':=h.2.2.2
        have hr':(sts (i+1)).r=r':=h.2.2.1
        have hall:=hallk listed hcl i o ho hed hck
        have hold:∀m,(∀k z,i<=k->k<n->(listed.setIfInBounds i true).getD k false=true->oc k ≠ .pal m z)->look rL m=look (sts i).r m:=by
          intro m hm
          by_cases hex2:∃k z,p<=k/\k<i/\oc k = .pal m z
          · obtain⟨k,z,h1,h2,h3⟩:=hex2
            rw[hr1 k m z h1 (by omega) (hall k m z h2 h3) h3,s3 k m z h1 h2 h3]
          · have hno:∀k z,p<=k->k<i->oc k ≠ .pal m z:=fun k z h1 h2 h3=>hex2 ⟨k,z,h1,h2,h3⟩
            rw[hr2 m (fun k z h1 h2 h3 h4=>?_),s2 m hno]
            rcases A6 k i with h5|h5
            · exact hno k z h1 h5 h4
            · exact hm k z h5 h2 (by rw[hLs,h3];simp) h4
        have hmroot:∀x m off,FQ (Kd true pi.looks (sts i).q) x=some (m,off)->∀k z,k<n->oc k = .pal m z->k<i:=by
          intro x m off hmx
          cases x with
          | con v=>cases hmx
          | tmp u=>
            have hmx:look (Kd true pi.looks (sts i).q) u=some (m,off):=hmx
            exact roots i (by omega) u m off (Gg _ _ _ _ hmx).1
        refine mk R' B (i+1) rL' w' x (by omega) (.inr ⟨i,rfl,hWi,hLi⟩) ?_ (hext R' hk) (by rw[hσ'];omega) (by rw[hσ'];exact hmem') ?_ ?_ ?_ hle (fun _ _ h=>h) (htok R' x hv)
        · intro j hj hWj
          by_cases hji:j=i
          · subst hji;rw[hLi];simp
          · rw[hLo j hji]
            rcases AEi j i with h4|h4|h4
            · rw[((hclk j hj hWj).1 hck).1 h4];simp;omega
            · exact(hji h4).elim
            · rw[((hclk j hj hWj).1 hck).2 h4];simp;omega
        · intro k m z hk1 hk2 hk3 hk4
          have hk3':listed.getD k false=true:=by rw[hLo k (by omega)]at hk3;exact hk3
          have hb:=hr1 k m z (by omega) hk2 hk3' hk4
          rcases hrel with ⟨_,h6⟩|⟨x',m',off',c',l',h6,h7,_,h8⟩
          · rw[h6];exact hb
          · rw[h8]
            have hne:¬m'=m:=fun he=>by have:=hmroot x' m' off' h6 k z hk2 (by rw[he];exact hk4);omega
            rw[HY (by rw[hrm x' m' off' h6];exact h7),if_neg hne];exact hb
        · intro m hm
          have hb:=hold m (fun k z hk1 hk2 hk3 hk4=>by
            rcases Nat.eq_or_lt_of_le hk1 with h5|h5
            · subst h5;rw[hoc]at hk4;cases hk4
            · exact hm k z (by omega) hk2 hk3 hk4)
          rw[hr']
          rcases hrel with ⟨h5,h6⟩|⟨x',m',off',c',l',h6,h7,h8,h9⟩
          · rw[h5,h6];exact hb
          · rw[h8,h9,HY (by rw[hrm x' m' off' h6];exact h7),HY h7,hb]
        · intro k m z hk1 hk2 hk3
          by_cases hki:k=i
          · subst hki;rw[hLi]at hk3;cases hk3
          · rw[hLo k hki]at hk3;exact hbs k m z hk1 hk2 hk3
      ·
        have hnWi:¬W i:=fun hW=>by
          obtain⟨_,o3,ho3,hc3⟩:=hW
          rw[ho]at ho3;cases ho3
          exact hck hc3
        have go:GC C.E D pw (sts p).Z.next ((sts p).Z.next+1) (Ab P C.G o.op) (Dt true pi.looks (sts i).e) (Kd true pi.looks (sts i).q) rL (sts p).Z (.val v rL (sts p).Z)->o.wp P a w K Q:=by
          intro hs2
          refine Lr hD hmem hem hqm o (hmw.fresh _ (AL _)) (IT _) (EI _) hs2 K Q (fun v2 r2 Z2 heq R' w' x hle hk hn' hmem' hv=>?_) (fun m off heq=>by cases heq)
          cases heq
          exact mk0 R' w' x hnWi (fun m z hh=>by rw[hoc]at hh;cases hh) (hext R' hk) hmem' hle (htok R' x hv)
        cases hcls:(Ab P C.G o.op).cls with
        | k=>exact(hck hcls).elim
        | a=>exact(hna hcls).elim
        | p=>
          refine go ?_
          cases hs with
          | p _ hc h9=>exact .p v hc h9
          | l _ hc h9=>rw[hcls]at hc;cases hc
          | a _ b hc h9=>rw[hcls]at hc;cases hc
          | k _ Z1 _ hc h hs=>rw[hcls]at hc;cases hc
          | ld x m off l _ hoo hm hl h=>rw[hoo]at hcls;cases hcls
          | ldn n x m off l hoo hm hl h=>rw[hoo]at hcls;cases hcls
          | st n x y m off l cs u hw hoo hm hl hn hu hlu hcs h1 hlen h=>rw[hoo]at hcls;cases hcls
        | l=>
          have hple:=hpi' (fun j hj hW hij=>((hclk j hj hW).2.1 hcls).2 hij)
          have hnW:=hnoW (fun j hj hW hji=>((hclk j hj hW).2.1 hcls).1 hji)
          obtain⟨hσ,hrm⟩:=hsame hple hnW
          rw[hσ]at hs
          obtain⟨rL',hs2,_⟩:=P9 (rL:=rL) hs hrm
          obtain⟨e1,e2⟩:=OP hs2 hck hna
          rw[e1,e2]at hs2
          exact go hs2
  have hany:∀fuel listed a w,Inv listed a w->(Cz n).countP (fun k=>!listed.getD k false)<=fuel->wpAny P .any ops Q fuel listed a w:=by
    intro fuel
    induction fuel with
    | zero=>
      intro listed a w hI hcnt
      have hall:∀k,k<n->listed.getD k false=true:=by
        intro k hk
        have h0:(Cz n).countP (fun k=>!listed.getD k false)=0:=by omega
        have:=List.countP_eq_zero.1 h0 k (Sz.2 hk)
        simpa using this
      refine⟨?_,hfin listed a w hI hall⟩
      apply V3.2
      intro j hj
      obtain⟨h1,o,h2,_⟩:=mem_ready.1 hj
      have hjn:j<n:=hlt h2
      rw[DW hI.1 hjn,hall j hjn]at h1
      cases h1
    | succ fuel ih=>
      intro listed a w hI hcnt
      refine⟨fun hr=>hfin listed a w hI (hready_nil listed hI.1 hr),fun i hi=>?_⟩
      have hin:i<n:=by
        obtain⟨_,o,h2,_⟩:=mem_ready.1 hi
        exact hlt h2
      have hnl:listed.getD i false=false:=by rw[<-DW hI.1 hin];exact(mem_ready.1 hi).1
      refine hstep listed a w hI i hi _ (fun a' w' hI'=>ih _ a' w' hI' ?_)
      have hsz':i<listed.size:=by rw[hI.1];exact hin
      have:=U9 (p:=fun k=>!(listed.setIfInBounds i true).getD k false) (q:=fun k=>!listed.getD k false) (fun k hk=>by
        simp only[Cr]at hk ⊢
        rw[If hsz']at hk
        simp only[BJ]at hk
        exact hk.2) (i:=i) (by simp only[hnl];rfl) (by simp only[If hsz'];simp) (Cz n) (Sz.2 hin)
      omega
  refine wp_region_any hmix ?_
  rw[hnn]
  have hrepl:∀k,(G6 n false).getD k false=false:=fun k=>by
    simp only[D5,AIx]
    split<;>rfl
  refine hany n _ a0 _ ⟨by simp,?_,hd0,Rs,Bi,0,s.r,HE _,.inl rfl,?_,hx0,by rw[hst0.2.2.2];exact hn0,?_,?_,?_,?_,hnt0,?_,?_,?_⟩ ?_
  · intro i o hi;rw[hrepl]at hi;cases hi
  · intro j hj hW;rw[hrepl];simp
  · rw[hst0.2.2.2]
    refine⟨hm0.rel.drawn _,⟨fun m i hm=>?_,fun m m' i i' hm hm' hb=>?_,fun m i hm=>?_⟩⟩
    · simp only[Bi]at hm
      split at hm
      · cases hm
      · exact hm0.priv.at_ m i hm
    · simp only[Bi]at hm hm'
      split at hm
      · cases hm
      · split at hm'
        · cases hm'
        · exact hm0.priv.inj m m' i i' hm hm' hb
    · simp only[Bi]at hm
      split at hm
      · cases hm
      · exact hm0.priv.apart m i hm
  · intro k m z h1 h2 h3;rw[hrepl]at h3;cases h3
  · intro m _;rw[hst0.2.2.1]
  · intro k m z h1 h2 _
    simp only[Bi]
    rw[if_pos (hpalm k m z h1 h2)]
  · intro i o t hi;rw[hrepl]at hi;cases hi
  · intro t v hv _;exact he0.at_ t v hv
  · intro t m off hv _
    obtain⟨i,h1,h2⟩:=hq0.at_ t m off hv
    refine⟨i,?_,h2⟩
    simp only[Bi]
    rw[if_neg (fun hh=>K8 hpo m hh t off hv)]
    exact h1
  · refine BP (List.countP_le_length) (by simp)
end Go.Og
namespace Go.Og
variable {P:Program} {D:Ak} {C:Cx}
theorem Ff {α:Type}:∀{l:List (Nat × α)} {k:Nat} {a:α},look l k=some a->(k,a)∈l
 | [],k,a,h=>by simp[look]at h
 | (m,b)::l,k,a,h=>by
  simp only[look,AS]at h
  split at h
  ·rename_i he;subst he;cases h;exact Av
  ·exact Cu _ (Ff h)
theorem Om {e:Bz}:∀(ts:List (Nat × C6)) (J:Bz->AH) (res:V × H),WY e ts J=some res->∃e',(∀t v,look e' t=some v->look e t=some v)/\J e'=some res
 | [],J,res,h=>⟨[],fun t v hv=>by simp[look]at hv,h⟩
 | (t,ty)::l,J,res,h=>by
  simp only[WY]at h
  unfold CL at h
  simp only at h
  cases hl:look e t with
  | none=>rw[hl]at h;cases h
  | some v=>
   rw[hl]at h
   have h2:=G7 _ _ _ _ h
   obtain⟨e',h3,h4⟩:=Om l _ res h2
   refine⟨_,fun u w hu=>?_,h4⟩
   simp only[look,AS]at hu
   split at hu
   ·rename_i he;subst he;cases hu;exact hl
   ·exact h3 u w hu
theorem Ol {e:Bz}:∀(ts:List (Nat × C6)) (J:Bz->AH) (res:V × H),TU e ts J=some res->∃e',(∀t v,look e' t=some v->look e t=some v/\v.live=true)/\J e'=some res
 | [],J,res,h=>⟨[],fun t v hv=>by simp[look]at hv,h⟩
 | (t,ty)::l,J,res,h=>by
  simp only[TU,BR]at h
  cases hl:look e t with
  | none=>rw[hl]at h;cases h
  | some v=>
   rw[hl]at h
   obtain⟨hlv,h⟩:=Dd h
   have h2:=G7 _ _ _ _ h
   obtain⟨e',h3,h4⟩:=Ol l _ res h2
   refine⟨_,fun u w hu=>?_,h4⟩
   simp only[look,AS]at hu
   split at hu
   ·rename_i he;subst he;cases hu;exact⟨hl,hlv⟩
   ·exact h3 u w hu
theorem Oj {r:Rg}:∀(rs:List (Nat × List C6)) (J:Rg->AH) (res:V × H),WX r rs J=some res->∃r',(∀m l,look r' m=some l->look r m=some l)/\(∀m,Bg (rs.map Prod.fst) m=true->∃l,look r' m=some l)/\J r'=some res
 | [],J,res,h=>⟨[],fun t v hv=>by simp[look]at hv,fun m hm=>by simp[Bg]at hm,h⟩
 | (m,tys)::l,J,res,h=>by
  simp only[WX]at h
  cases hl:look r m with
  | none=>rw[hl]at h;cases h
  | some cs=>
   rw[hl]at h
   have h2:=Jh _ _ _ _ h
   obtain⟨r',h3,h4,h5⟩:=Oj l _ res h2
   refine⟨_,fun u w hu=>?_,fun u hu=>?_,h5⟩
   ·simp only[look,AS]at hu
    split at hu
    ·rename_i he;subst he;cases hu;exact hl
    ·exact h3 u w hu
   ·simp only[look,AS]
    by_cases he:m=u
    ·exact⟨cs,by rw[if_pos he]⟩
    ·rw[if_neg he]
     simp only[CP]at hu
     exact h4 u (((C1 m _ u).1 hu).resolve_left he)
theorem I3:∀(ms rs:List Nat) (q:Qs) (t:Nat) (p:Nat × Nat),look (Ok ms rs q) t=some p->look q t=some p/\Bg rs p.1=true
 | [],rs,q,t,p,h=>by simp[Ok,look]at h
 | a::l,rs,q,t,p,h=>by
  simp only[Ok]at h
  split at h
  ·rename_i p' hp
   split at h
   ·rename_i hm
    simp only[look,AS]at h
    split at h
    ·rename_i he;subst he;cases h;exact⟨hp,hm⟩
    ·exact I3 l rs q t p h
   ·exact I3 l rs q t p h
  ·exact I3 l rs q t p h
theorem Oi {nR:Nat} {R0:Ren} {nt:Nat} {ts:List (Nat × C6)} {ms:List Nat} {rs:List (Nat × List C6)} {s:St} {J:St->AH} {res:V × H} (h:JQ ts ms rs s J=some res) {a:Act} {w:World} (hI:Ny C nR R0 nt s a w) :
  ∃s0,J s0=some res/\Ny C nR R0 nt s0 a w:=by
 unfold JQ at h
 obtain⟨e',he',h⟩:=Om _ _ _ h
 obtain⟨r',hr1,hr2,h⟩:=Oj _ _ _ h
 obtain⟨R,B,h1,h2,h3,h4,h5,h6,h7⟩:=hI
 refine⟨_,h,R,fun m=>if Bg (rs.map Prod.fst) m=true then B m else none,h1,h2,⟨h3.rel,⟨fun m i hm=>?_,fun m m' i i' hm hm'=>?_,fun m i hm=>?_⟩⟩,h4.sub he',⟨fun t m off hq=>?_⟩,h6,h7⟩
 ·split at hm
  ·rename_i hmem
   obtain⟨hO,l,hl,hok'⟩:=h3.priv.at_ m i hm
   obtain⟨l',hl'⟩:=hr2 m hmem
   have:=hr1 m l' hl'
   rw[hl]at this;cases this
   exact⟨hO,l,hl',hok'⟩
  ·cases hm
 ·split at hm
  ·split at hm'
   ·exact h3.priv.inj m m' i i' hm hm'
   ·cases hm'
  ·cases hm
 ·split at hm
  ·exact h3.priv.apart m i hm
  ·cases hm
 ·obtain⟨hq1,hq2⟩:=I3 _ _ _ _ _ hq
  obtain⟨i,hi1,hi2⟩:=h5.at_ t m off hq1
  refine⟨i,?_,hi2⟩
  rw[if_pos hq2];exact hi1
theorem jY (hD:∀f,CN P C.E C.G f (D f)) {W:AI} (hW:PK P C.E C.G W) (hmix:P.follows .mixedOrders=true) (N nt:Nat) {nR:Nat} {R0:Ren} {res:V × H} :
  ∀(xc:XC) (c:Code),xc.strip=CO P C.G nt c->xc.ok=true->∀(s:St) (kn:St->AH) (kx:Nat->St->AH) (kr:St->AH),AN C.E D W N xc s kn kx kr=some res ->
   ∀(a:Act) (w:World) (Q:Exit->Act->World->Prop),Ny C nR R0 nt s a w->(∀s' a' w',kn s'=some res->Ny C nR R0 nt s' a' w'->Q .normal a' w') ->
    (∀id s' a' w',kx id s'=some res->Ny C nR R0 nt s' a' w'->Q (.exit id) a' w')->(∀s' a' w',kr s'=some res->Ny C nR R0 nt s' a' w'->Q .ret a' w')->c.wp P Q a w:=by
 intro xc
 induction xc with
 | bad=>intro c _ _ s kn kx kr h;cases h
 | keep ts ms rs xc ih=>
  intro c hs hok s kn kx kr h a w Q hI hn hx hr
  rw[Yf]at h
  obtain⟨s0,h,hI⟩:=Oi h hI
  exact ih c hs hok s0 kn kx kr h a w Q hI hn hx hr
 | skip=>
  intro c hs hok s kn kx kr h a w Q hI hn hx hr
  cases c<;>simp only[XC.strip,CO]at hs<;>(try (cases hs;done))
  ·exact wp_skip (hn s a w h hI)
  ·rename_i i o d;cases d<;>(first | (cases hs;done) | (simp only[CO]at hs;split at hs<;>cases hs))
 | exit id=>
  intro c hs hok s kn kx kr h a w Q hI hn hx hr
  cases c<;>simp only[XC.strip,CO]at hs<;>(try (cases hs;done))
  ·rename_i i o d;cases d<;>(first | (cases hs;done) | (simp only[CO]at hs;split at hs<;>cases hs))
  ·cases hs;exact wp_exit (hx id s a w h hI)
 | ret=>
  intro c hs hok s kn kx kr h a w Q hI hn hx hr
  cases c<;>simp only[XC.strip,CO]at hs<;>(try (cases hs;done))
  ·rename_i i o d;cases d<;>(first | (cases hs;done) | (simp only[CO]at hs;split at hs<;>cases hs))
  ·exact wp_ret (hr s a w h hI)
 | ops l=>
  intro c hs hok s kn kx kr h a w Q hI hn hx hr
  cases c<;>simp only[XC.strip,CO]at hs<;>(try (cases hs;done))
  rename_i i o d
  cases d
  case true=>simp only[CO]at hs;split at hs<;>cases hs
  simp only[CO,AC.region.injEq]at hs
  rw[bQ]at h
  obtain⟨s',hrun,hκ,_⟩:=Hc l none none none true 0 s _ res h hok (.inl ⟨rfl,rfl⟩) (fun h=>by cases h)
  refine wp_region_list (iW hD hrun o.toList a w ?_ hI (fun a' w' hI'=>hn _ a' w' hκ hI'))
  obtain⟨h1,h2⟩:=Gi l none
  rw[List.map_fst_zip (by omega),hs]
 | draw l ancs=>
  intro c hs hok s kn kx kr h a w Q hI hn hx hr
  cases c<;>simp only[XC.strip,CO]at hs<;>(try (cases hs;done))
  rename_i i o d
  cases d<;>simp only[CO]at hs<;>(try (cases hs;done))
  split at hs
  case isFalse=>cases hs
  rename_i hplan
  simp only[AC.draw.injEq]at hs
  rw[Yg]at h
  unfold bM at h
  split at h
  ·rename_i hpo
   simp only[XC.ok,AJ,AS,Cr]at hok
   obtain⟨⟨⟨⟨k1,k2⟩,k3⟩,k4⟩,k5⟩:=hok
   exact jW hD hmix i hs.1 hs.2 hplan k1 k2 k3 k4 k5 hpo h hI Q (fun s' a' w' hκ hI'=>hn s' a' w' hκ hI')
  ·cases h
 | gdraw ops pl ts=>
  intro c hs hok s kn kx kr h a w Q hI hn hx hr
  cases c<;>simp only[XC.strip,CO]at hs<;>(try (cases hs;done))
  rename_i i o d
  cases d<;>simp only[CO]at hs<;>(try (cases hs;done))
  split at hs
  case isFalse=>cases hs
  rename_i hplan
  simp only[AC.draw.injEq]at hs
  obtain⟨rfl,rfl⟩:=hs
  rw[U5]at h
  cases h1:W (o.toList.map (BE P C.G nt o)) (GL o) s.e s.Z with
  | none=>rw[h1]at h;cases h
  | some q=>
   obtain⟨e1,Z1⟩:=q
   rw[h1]at h
   obtain⟨e',he',h⟩:=Ol _ _ _ h
   obtain⟨R,B,g1,g2,g3,g4,g5,g6,g7⟩:=hI
   refine hW C rfl rfl nt i o s.e s.Z e1 Z1 hplan h1 R a w Q g3.rel g4.env g6 g7 (fun R' a' w' hx' hn' hrel' he1 hsz hd=>?_)
   refine hn _ a' w' h ⟨R',fun _=>none,g1.trans hx' g2,BP g2 hn',⟨hrel',⟨fun m i hm=>(by cases hm),fun m m' i i' hm=>(by cases hm),fun m i hm=>(by cases hm)⟩⟩,⟨fun t v hv=>?_⟩,⟨fun t m off hq=>(by simp[look]at hq)⟩,hsz,hd⟩
   obtain⟨h2,h3⟩:=he' t v hv
   rcases he1.at_ t v h2 with rfl|h4
   ·cases h3
   ·exact h4
 | seq p q ihp ihq=>
  intro c hs hok s kn kx kr h a w Q hI hn hx hr
  cases c<;>simp only[XC.strip,CO]at hs<;>(try (cases hs;done))
  ·rename_i i o d;cases d<;>(first | (cases hs;done) | (simp only[CO]at hs;split at hs<;>cases hs))
  rename_i c1 c2
  simp only[AC.seq.injEq]at hs
  simp only[XC.ok,AJ]at hok
  rw[bP]at h
  refine wp_seq (ihp c1 hs.1 hok.1 s _ kx kr h a w _ hI (fun s' a' w' h' hI'=>?_) (fun id s' a' w' h' hI'=>hx id s' a' w' h' hI') (fun s' a' w' h' hI'=>hr s' a' w' h' hI'))
  exact ihq c2 hs.2 hok.2 s' kn kx kr h' a' w' Q hI' hn hx hr
 | cond o p q ihp ihq=>
  intro c hs hok s kn kx kr h a w Q hI hn hx hr
  cases c<;>simp only[XC.strip,CO]at hs<;>(try (cases hs;done))
  ·rename_i i o d;cases d<;>(first | (cases hs;done) | (simp only[CO]at hs;split at hs<;>cases hs))
  rename_i co c1 c2
  simp only[AC.cond.injEq]at hs
  obtain⟨rfl,h1,h2⟩:=hs
  simp only[XC.ok,AJ]at hok
  rw[Yh]at h
  obtain⟨v,hv,_,h⟩:=Ac h
  obtain⟨cb,rfl,h9⟩:=FO h
  have hI2:=hI
  obtain⟨R,B,g1,g2,g3,g4,g5,g6,g7⟩:=hI2
  have hev:=KY (a:=a) g4.env g3.rel.globOk hv
  cases cb with
  | true=>exact wp_cond_true hev (ihp c1 h1 hok.1 s kn kx kr h9 a w Q hI hn hx hr)
  | false=>exact wp_cond_false hev (ihq c2 h2 hok.2 s kn kx kr h9 a w Q hI hn hx hr)
 | block id p ih=>
  intro c hs hok s kn kx kr h a w Q hI hn hx hr
  cases c<;>simp only[XC.strip,CO]at hs<;>(try (cases hs;done))
  ·rename_i i o d;cases d<;>(first | (cases hs;done) | (simp only[CO]at hs;split at hs<;>cases hs))
  rename_i i c1
  simp only[AC.block.injEq]at hs
  obtain⟨rfl,hs⟩:=hs
  rw[U6]at h
  refine wp_block (ih c1 hs hok s kn _ kr h a w _ hI (fun s' a' w' h' hI'=>hn s' a' w' h' hI') (fun j s' a' w' h' hI'=>?_) (fun s' a' w' h' hI'=>hr s' a' w' h' hI'))
  show Exit.inBlock id Q (.exit j) a' w'
  simp only[Exit.inBlock]
  unfold BY at h'
  split at h'
  ·rename_i hj
   rw[AS]at hj
   rw[if_pos hj];exact hn s' a' w' h' hI'
  ·rename_i hj
   rw[if_neg (fun hh=>by rw[<-AS,hj]at hh;cases hh)];exact hx j s' a' w' h' hI'
 | loop ts ms rs p ih=>
  intro c hs hok s kn kx kr h a w Q hI hn hx hr
  cases c<;>simp only[XC.strip,CO]at hs<;>(try (cases hs;done))
  ·rename_i i o d;cases d<;>(first | (cases hs;done) | (simp only[CO]at hs;split at hs<;>cases hs))
  rename_i c1
  simp only[AC.loop.injEq]at hs
  rw[Ye]at h
  obtain⟨s0,h,hI⟩:=Oi h hI
  have key:∀(n:Nat) (s:St) (a:Act) (w:World),Ad (fun rec s'=>AN C.E D W N p s' (fun s''=>JQ ts ms rs s'' rec) kx kr) n s=some res->Ny C nR R0 nt s a w->Code.rounds P c1 Q n a w:=by
   intro n
   induction n with
   | zero=>intro s a w h;cases h
   | succ n ihn=>
    intro s a w h hI
    have h:AN C.E D W N p s (fun s''=>JQ ts ms rs s'' (Ad (fun rec s'=>AN C.E D W N p s' (fun s''=>JQ ts ms rs s'' rec) kx kr) n)) kx kr=some res:=h
    rw[rounds_succ]
    refine ih c1 hs hok s _ kx kr h a w _ hI (fun s' a' w' h' hI'=>?_) (fun id s' a' w' h' hI'=>hx id s' a' w' h' hI') (fun s' a' w' h' hI'=>hr s' a' w' h' hI')
    obtain⟨s2,h2,hI2⟩:=Oi h' hI'
    exact ihn s2 a' w' h2 hI2
  exact wp_loop_rounds N (key N s0 a w h hI)
theorem Tw {α β:Type} {x:Result α} {g:α->World->Result β} {z:β} {w:World} (h:Result.andThen x g = .ok z w):∃y w2,x = .ok y w2/\g y w2 = .ok z w:=by
 cases x with
 | ok y w2=>exact⟨y,w2,rfl,h⟩
 | _=>cases h
theorem WI {R:Ren} {B:Bs} {s:St} {w:World} {a:Act} (hm:Sj C R B s.r s.Z w) (he:HD R s.e a.tmps) (hq:Si B s.q a.tmps):∀(rs:List ResultVar) (as:List AR) (J:List V->AH) (res:V × H),GV P rs=some as->DF C.E s as J=some res ->
  ∃l xs,J l=some res/\Ax R l=some xs/\(rs.mapM (m:=Sem) fun
   | .tmp t=>pure (a.tmps.getD t undef)
   | .cell b t=>do loadVar t (<-asAddr (a.tmps.getD b undef))).run P w = .ok xs w
 | [],as,J,res,hc,h=>by
  simp only[GV,AM.injEq]at hc;subst hc
  exact⟨[],[],h,rfl,rfl⟩
 | r::rs,as,J,res,hc,h=>by
  simp only[GV]at hc
  cases hr:O1 P r with
  | none=>rw[hr]at hc;cases hc
  | some ar=>
   cases hrs:GV P rs with
   | none=>rw[hr,hrs]at hc;cases hc
   | some as'=>
    rw[hr,hrs]at hc
    simp only[AM.injEq]at hc
    subst hc
    have one:∀(C2:Cx) (R2:Ren) (Z2:H) (e2:Bz) (v:V),De C2 R2 Z2 w->Bv R2 e2 a.tmps->K0 C2.E e2 Z2 [ar]=some [v]->Le R R2->(∃x,Ao R v=some x)->DF C.E s as' (fun l=>J (v::l))=some res ->
      ∃l xs,J l=some res/\Ax R l=some xs/\((r::rs).mapM (m:=Sem) fun
       | .tmp t=>pure (a.tmps.getD t undef)
       | .cell b t=>do loadVar t (<-asAddr (a.tmps.getD b undef))).run P w = .ok xs w:=by
     intro C2 R2 Z2 e2 v h1 h2 h3 hle ⟨x,hx⟩ h4
     obtain⟨xs,h5,h6⟩:=N5 (P:=P) h1 h2 [r] [ar] [v] (by simp only[GV,hr]) h3
     obtain⟨y,ys,h7,h8,rfl⟩:=BO.1 h5
     simp only[Ax,AM.injEq]at h8;subst h8
     have:=Cd hle v x hx
     rw[h7]at this;cases this
     obtain⟨l,xs,g1,g2,g3⟩:=WI hm he hq rs as' _ res hrs h4
     refine⟨v::l,_,g1,BO.2 ⟨_,_,hx,g2,rfl⟩,?_⟩
     rw[S0]at h6 ⊢
     rw[Sem.run_bind]at h6 ⊢
     obtain⟨y2,w2,e1,e2⟩:=Tw h6
     simp only[Sem.run_bind,List.mapM_nil,Sem.run_pure,Result.andThen_ok,Result.ok.injEq,List.cons.injEq,and_true]at e2
     obtain⟨rfl,rfl⟩:=e2
     refine(congrArg (fun r=>Result.andThen r _) e1).trans ?_
     simp only[Result.andThen_ok,Sem.run_bind,g3,Sem.run_pure]
    cases r with
    | tmp t=>
     simp only[O1,AM.injEq]at hr
     subst hr
     simp only[DF]at h
     unfold CL at h
     simp only at h
     cases hl:look s.e t with
     | none=>rw[hl]at h;cases h
     | some v=>
      rw[hl]at h
      obtain⟨x,hx1,hx2⟩:=he.at_ t v hl
      have hge:GS s.e t=v:=by simp only[GS,hl]
      refine one C R s.Z s.e v hm.rel he.env ?_ (Le.refl _) ⟨x,hx2⟩ h
      simp only[K0,hge,L9 hx2]
    | cell t ty=>
     simp only[O1]at hr
     cases hs:Gc P ty with
     | none=>rw[hs]at hr;cases hr
     | some n=>
      rw[hs]at hr
      simp only[AM.injEq]at hr
      subst hr
      simp only[DF]at h
      split at h
      ·rename_i m off hqt
       obtain⟨i,hi1,hi2⟩:=hq.at_ t m off hqt
       split at h
       ·rename_i cs hcs
        have hr2:=hm.priv.one hm.rel hi1 hcs
        have he2:Bv (IY R s.Z.next i) [(t,.ptr s.Z.next off)] a.tmps:=Bv.cons ⟨fun k v hk=>by simp[look]at hk⟩ hi2 (C4 (CC _ _ _))
        have hle:Le R (IY R s.Z.next i):=(Eh R s.Z.next i).le hm.rel.fresh
        obtain⟨_,l',hl',hok⟩:=hm.priv.at_ m i hi1
        rw[hcs]at hl';cases hl'
        obtain⟨arr,el,lo,hi,_,hh,_⟩:=hok
        have hgp:GS [(t,V.ptr s.Z.next off)] t = .ptr s.Z.next off:=by simp[GS,look]
        have hrd:rd C.E ⟨s.Z.next+1,[(s.Z.next,.cells cs)]⟩ s.Z.next=some cs:=by simp[rd,look]
        split at h
        ·obtain⟨v,hv,h⟩:=GM h
         obtain⟨x,hx,_⟩:=hh off v hv
         refine one _ _ _ _ v hr2 he2 ?_ hle ⟨x,hx⟩ h
         simp only[K0,hgp,hrd,hv]
        ·rename_i n
         obtain⟨hb,h⟩:=GI h
         obtain⟨xs,hxs,_⟩:=hh.cells (by simpa using hb)
         refine one _ _ _ _ _ hr2 he2 ?_ hle ⟨_,DX hxs⟩ h
         simp only[K0,hgp,Kh,hrd,hb,if_true]
       ·cases h
      ·obtain⟨p,hp,_,h⟩:=Ac h
       obtain⟨b,o,rfl,h9⟩:=Du h
       have hgp:GS s.e t = .ptr b o:=hp
       cases n with
       | none=>
        simp only at h9
        obtain⟨l,hl,h9⟩:=Ji h9
        obtain⟨v,hv,h9⟩:=GM h9
        obtain⟨i,arr,el,fr,_,_,hold⟩:=hm.rel.read hl
        obtain⟨x,hx,_⟩:=hold o v hv
        refine one C R s.Z s.e v hm.rel he.env ?_ (Le.refl _) ⟨x,hx⟩ h9
        simp only[K0,hgp,hl,hv]
       | some n=>
        simp only at h9
        obtain⟨l,hl,h9⟩:=Ji h9
        obtain⟨hb,h9⟩:=GI h9
        obtain⟨i,arr,el,fr,_,_,hold⟩:=hm.rel.read hl
        obtain⟨xs,hxs,_⟩:=hold.cells (by simpa using hb)
        refine one C R s.Z s.e _ hm.rel he.env ?_ (Le.refl _) ⟨_,DX hxs⟩ h9
        simp only[K0,hgp,Kh,hl,hb,if_true]
theorem iX {E:EB} {G:Nat->Bool} (hD:∀f,CN P E G f (D f)) {W:AI} (hW:PK P E G W) (hmix:P.follows .mixedOrders=true) (N:Nat) {f:FuncId} {fn:Func} (hf:P.funcs[f]? = some fn)
  {xf:DR} {af':ZA} (hc:ML P G fn=some af') (hs:xf.strip=af') (hxok:xf.body.ok=true) (hok:Hf P f=true):CN P E G f (Bq E D W N xf):=by
 intro C hE hG R Z w args xs v Z' h hrel hxs
 subst hE hG
 refine⟨hok,?_⟩
 unfold ML at hc
 cases hb:fn.body with
 | none=>rw[hb]at hc;cases hc
 | some c=>
  cases hr:GV P fn.results.toList with
  | none=>rw[hb,hr]at hc;cases hc
  | some rs=>
   rw[hb,hr]at hc
   simp only[AM.injEq]at hc
   rw[<-hs]at hc
   obtain⟨nt,params,resl,body⟩:=xf
   simp only[DR.strip,ZA.mk.injEq]at hc
   obtain⟨rfl,rfl,_,hbody⟩:=hc
   unfold Bq at h
   simp only at h
   have h:=Jh _ _ _ _ h
   have hlen:=BX hxs
   refine calls_of_wp hf hb ?_
   have hsz:fn.ntmps<=(xs.toArray++G6 (fn.ntmps-xs.toArray.size) undef).size:=by simp;omega
   have harg:∀(l:List V) (ys:List Value) (k:Nat),Ax R l=some ys->∀(t:Nat) (v:V),look (Nx k l) t=some v->∃y,k<=t/\ys[t-k]? = some y/\Ao R v=some y:=by
    intro l
    induction l with
    | nil=>intro ys k _ t v h;simp[Nx,look]at h
    | cons u l ih=>
     intro ys k hc t v h
     obtain⟨y,zs,hy,hz,rfl⟩:=BO.1 hc
     simp only[Nx,look]at h
     by_cases hk:k=t
     ·subst hk
      rw[if_pos (by simp)]at h
      cases h
      exact⟨y,AL _,by simp,hy⟩
     ·rw[if_neg (by simpa using hk)]at h
      obtain⟨q,h1,h2,h3⟩:=ih zs (k+1) hz t v h
      exact⟨q,by omega,by rw[show t-k=(t-(k+1))+1 by omega,CA];exact h2,h3⟩
   have he0:HD R (Nx 0 args) (xs.toArray++G6 (fn.ntmps-xs.toArray.size) undef):=by
    refine⟨fun k u hk=>?_⟩
    obtain⟨y,_,h2,h3⟩:=harg args xs 0 hxs k u hk
    refine⟨y,?_,h3⟩
    rw[Ma]at h2
    have hlt:k<xs.length:=by
     rcases A6 k xs.length with h|h
     ·exact h
     ·rw[Bl h]at h2;cases h2
    rw[Lj (by simpa using hlt)]
    simpa using h2
   have fin:∀(s':St) (a':Act) (w':World),(DF C.E s' rs fun l=>some (Da l,s'.Z))=some (v,Z')->Ny C Z.next R fn.ntmps s' a' w' ->
     a'.defers=[]/\∃x,(results fn a'.tmps).run P w' = .ok x w'/\∃R' x',Gp Z.next R R'/\Z.next<=Z'.next/\De C R' Z' w'/\Ao R' v=some x'/\Ending.returned x = .returned x':=by
    intro s' a' w' h' ⟨R1,B1,k1,k2,k3,k4,k5,k6,k7⟩
    obtain⟨l,ys,g1,g2,g3⟩:=WI (P:=P) k3 k4 k5 fn.results.toList rs _ _ hr h'
    simp only[AM.injEq,Prod.mk.injEq]at g1
    obtain⟨rfl,rfl⟩:=g1
    have hres:(results fn a'.tmps).run P w' = .ok (if h:ys.toArray.size=1 then ys.toArray[0] else .tuple ys.toArray) w':=by
     unfold results
     refine(Sem.run_bind P w' _ _).trans ?_
     rw[Mf,Sem.run_map]
     refine(congrArg (fun r=>Result.andThen (Result.andThen r _) _) g3).trans rfl
    exact⟨k7,_,hres,R1,_,k1,k2,k3.rel,WR g2,rfl⟩
   refine jY (C:=C) hD hW hmix N fn.ntmps body c hbody.symm hxok _ _ _ _ h _ w _ ⟨R,fun _=>none,Gp.refl _ _,AL _,⟨hrel,⟨fun m i hm=>(by cases hm),fun m m' i i' hm=>(by cases hm),fun m i hm=>(by cases hm)⟩⟩,he0,⟨fun t m off hq=>(by simp[look]at hq)⟩,hsz,rfl⟩ ?_ ?_ ?_
   ·intro s' a' w' h' hI'
    obtain⟨h1,x,h2,h3⟩:=fin s' a' w' h' hI'
    exact⟨h1,x,h2,h3⟩
   ·intro id s' a' w' h' _;cases h'
   ·intro s' a' w' h' hI'
    obtain⟨h1,x,h2,h3⟩:=fin s' a' w' h' hI'
    exact⟨h1,x,h2,h3⟩
end Go.Og
namespace Go.Og
def okB (a:AH):Bool:=match a with
 | some (.bool true,_)=>true
 | _=>false
theorem aK {a:AH} (h:okB a=true):∃Z,a=some (.bool true,Z):=by
 unfold okB at h
 split at h
 ·exact⟨_,rfl⟩
 ·cases h
def LQ (ng:Nat) (l:List (Nat × BI)):Ren:=fun id=>if id<ng then some ⟨id,0,0⟩else look l id
theorem G0.lt {R:Ren} {i:BI} {b:FX} {w:World} (h:G0 R i b w):i.blk<w.heap.size:=by
 cases b with
 | cells l=>
  obtain⟨arr,el,fr,h1,_⟩:=h
  exact(wy.1 h1).1
 | _=>exact h.elim
theorem Ui {G:Nat->Bool} {ng n0:Nat} (hG:∀g,G g=true->g<ng) (hn:ng<=n0) (l:List (Nat × BI)) (E:EB) (w:World) (hl:∀id i,look l id=some i->id<n0)
  (hE:∀id b,look E id=some b->∃i,LQ ng l id=some i/\G0 (LQ ng l) i b w) :
  De ⟨fun blk=>w.heap.size<=blk,w,E,G⟩ (LQ ng l) ⟨n0,[]⟩ w where
 fresh id hid:=by
  have hid':n0<=id:=hid
  unfold LQ;rw[if_neg (by omega)]
  cases hk:look l id with
  | none=>rfl
  | some i=>have:=hl id i hk;omega
 own id b hb:=by simp[look]at hb
 inj id id' b b' i i' hb:=by simp[look]at hb
 ext id b hb:=by
  obtain⟨i,h1,h2⟩:=hE id b hb
  exact⟨i,h1,Nat.not_le.2 h2.lt,h2⟩
 glob g hg:=⟨⟨g,0,0⟩,by unfold LQ;rw[if_pos (hG g hg)],rfl,rfl⟩
 fr _ _:=rfl
 size:=AL _
 new _ h:=h
 os:=rfl
 tape:=rfl
 output:=rfl
set_option linter.unusedVariables false
noncomputable section
section
variable {R S:Ren} {n0 d:Nat}
theorem Ij {α:Type}:∀(l m:List (Nat × α)) (id:Nat),look (l++m) id=match look l id with | some b=>some b | none=>look m id
 | [],m,id=>rfl
 | (k,b)::l,m,id=>by
  simp only[Ef,look]
  cases AW k id with
  | true=>rfl
  | false=>simpa using Ij l m id
end
def WL:List (V × V)->List (V × V)->Bool
 | [],[]=>true
 | p::l,q::m=>V.beq p.1 q.1&&V.beq p.2 q.2&&WL l m
 | _,_=>false
theorem TO:∀{l m:List (V × V)},WL l m=true->l=m
 | [],[],_=>rfl
 | (a,b)::l,(c,d)::m,h=>by
  simp only[WL,AJ]at h
  rw[Mz _ _ h.1.1,Mz _ _ h.1.2,TO h.2]
 | [],_::_,h=>by cases h
 | _::_,[],h=>by cases h
def be:FX->FX->Bool
 | .cells a,.cells b=>JY a b
 | .map a,.map b=>WL a b
 | _,_=>false
theorem bc {a b:FX} (h:be a b=true):a=b:=by
 cases a<;>cases b<;>simp only[be,Eg]at h
 ·rw[Kc _ _ h]
 ·rw[TO h]
def Uu:EB->EB->Bool
 | [],_=>true
 | p::l,m=>(match BC m p.1 with
  | some b=>be b p.2
  | none=>false)&&Uu l m
theorem MD:∀{l m:EB},Uu l m=true->∀p∈l,look m p.1=some p.2
 | [],_,_,p,hp=>by cases hp
 | q::l,m,h,p,hp=>by
  simp only[Uu,AJ,As]at h
  rcases Ae.1 hp with rfl|hp
  ·have h1:=h.1
   cases hb:look m p.1 with
   | none=>rw[hb]at h1;cases h1
   | some b=>rw[hb]at h1;rw[bc h1]
  ·exact MD h.2 p hp
theorem O3 {P:Program} {w:World} {r:Reach} {base:Nat} {t e:TypeId} {v:Value} (ht:P.underlying t=some (.slice e)) (h:Cell.okWide P w r base t v) :
  v = .slice none 0 0\/∃blk off len cap,v = .slice (some ⟨blk,off,none⟩) len cap:=by
 unfold Cell.okWide at h
 rw[ht]at h
 unfold Cell.ok at h
 rw[ht]at h
 cases v<;>simp at h
 rename_i a len cap
 cases a with
 | none=>
  cases len<;>cases cap<;>first | exact .inl rfl | simp at h
 | some a=>
  obtain⟨b,o,s⟩:=a
  simp only at h
  obtain⟨_,_,_,hs,_⟩:=h
  simp only at hs
  subst hs
  exact .inr ⟨_,_,_,_,rfl⟩
end
end Go.Og
set_option linter.all false
set_option maxRecDepth 100000
set_option maxHeartbeats 0
namespace Go.Proofs.YtoengnbdallegaaGreatDoor
open Go Go.Og
noncomputable section
variable (E:EB) (D:Ak) (W:AI) (N:Nat)
def y0:V:=(V.int .i64 (AA 0))
def y1:C6:=(.agg [.i,.i,.any,.any,.i,.any])
def y2:C6:=(.agg [.i,.any,.bool,.bool,.bool,.bool,.i,.i,.any,.any,.i,.bool,.i])
def y3:V:=(V.bool false)
def y4:C6:=(.agg [.i,.i])
def y5:V:=(V.int .u8 (AA 0))
def y6:C6:=(.agg [.str,.any,.any,.any])
def y7:C6:=(.agg [.i,.str,.i])
def y8:V:=(V.str ⟨0,0⟩)
def y9:EH:=(.mov (.t 0))
def Uf:V:=(V.int .u64 (AA 0))
def lq:C6:=(.agg [.str,.i,.bool,.bool,.i,.i,.any,.any,.i,.any,.i])
def Jd:EH:=(.mov (.t 1))
def iE:V:=(V.bool true)
def Pw:AO:=(.con iE)
def ZJ:EH:=(.alloc 34 [y0,y0,V.nils,V.nils,y0,V.nils])
def V5:AO:=(.con (V.int .u8 (AA 45)))
def ZI:V:=(V.int .i64 (BQ 0))
def lj:AO:=(.con (V.int .u8 (AA 128)))
def Me:XC:=(.exit 0)
def lh:XC:=(.cond (.tmp 9) .skip
 Me)
def Ue:C6:=(.agg [.i,.any])
def y20:XC:=(.cond (.tmp 16) (.z (.m 17 5<|
.m 4 17<|
.nil)
 .ret)
 .skip)
def y21:XC:=(.ops (.b 18 .add .none (.t 8) (.i 1)<|
.m 8 18<|
.nil))
def Ln:AO:=(.con y3)
def xR:XC:=(.ops (.m 17 7<|
.b 18 .add .none (.t 17) (.i 1)<|
.m 7 18<|
.nil))
def qW:AO:=(.con (V.int .u8 (AA 48)))
def y26:AO:=(.con (V.int .u64 (AA 7)))
def qV:EH:=(.faddr 1 (.t 6))
def y28:C6:=(.agg [.bool,.bool,.bool,.bool,.i,.i])
def y29:EH:=(.alloc 26 [y8,V.nils,V.nils,V.nils])
def y31:XC:=(.cond (.tmp 16) .skip
 Me)
def nX:Nat->St->AH:=fun _ _=>none
def kX (ts:List (Nat × C6)) (ms:List Nat) (rs:List (Nat × List C6)) (J:St->AH):St->AH:=fun s=>JQ ts ms rs s J
def dX (E:EB) (D:Ak) (W:AI) (N:Nat) (c:XC) (k:St->AH) (x:Nat->St->AH) (r:St->AH):St->AH:=fun s=>AN E D W N c s k x r
def q3a:List (Nat × C6):=[(7,.ptr),(8,.bool),(10,.any),(11,.bool),(12,.ptr)]
def ACW:List BM:=[⟨(some 74),.load (some 4) (.tmp 7),none⟩,⟨(some 75),.build [(V.int .i64 (AA 0)),(V.int .i64 (AA 0))] [(1,1,(.con (V.int .i64 (AA 16))))],none⟩,⟨(some 76),.mov (.tmp 10),none⟩,⟨(some 77),.call 8 [(.tmp 75),(.con (V.bool true)),(.tmp 76)],none⟩,⟨(some 78),.call 9 [(.tmp 74),(.con (V.int .i64 (AA 0))),(.tmp 77)],none⟩,⟨(some 73),.mov (.tmp 78),none⟩,⟨(some 79),.extract 0 (.tmp 73),none⟩,⟨(some 80),.extract 1 (.tmp 73),none⟩,⟨(some 14),.alloc 34 [(V.int .i64 (AA 0)),(V.int .i64 (AA 0)),V.nils,V.nils,(V.int .i64 (AA 0)),V.nils],none⟩,⟨none,.store 6 (.tmp 14) (.tmp 79),none⟩,⟨(some 15),.mov (.tmp 80),none⟩]
def ACU:List DP:=[⟨0,[7]⟩,⟨0,[]⟩,⟨0,[10]⟩,⟨6,[75,76]⟩,⟨15,[74,77]⟩,⟨31,[78]⟩,⟨63,[73]⟩,⟨63,[73]⟩,⟨0,[]⟩,⟨383,[14,79]⟩,⟨1023,[80]⟩]
def AIP (cc1:XC) (cc2:XC):XC:=(.z (.c 6 y3<|
.nil)
 (.z (.k 17 (.tup [y6,.bool]) 6 [(.con (V.str ⟨137,226512669145774835787552813045342205744664672948163956739964864073194674402257524072219146352772370422835385268860203894635856546299145261305076249863035954196228233577801936438188401159539121422570938484479284731963997307652805544338596275674289996615417362922097323455017081215090127200226272488853258482717530386776042823229517⟩))]<|
.m 16 17<|
.P 18 (.extract 0 (.t 16))<|
.P 19 (.extract 1 (.t 16))<|
.p 7 [] y29<|
.op none y6 [7,18] (.store 4 (.t 7) (.t 18))<|
.m 8 19<|
.nil)
 (.z (.m 20 0<|
.k 21 .one 7 [(.t 20)]<|
.m 9 21<|
.nil)
 (.z (.c 10 V.nils<|
.nil)
 (.z (.c 11 y3<|
.nil)
 (.z (.P 22 (.mkslice 34 6 96 [y0,y0,V.nils,V.nils,y0,V.nils] (.i 3) (.i 3))<|
.op (some 23) y1 [22] (.build [y0,y0,V.nils,V.nils,y0,V.nils] [(0,1,(.i 7)),(3,1,(.t 22))])<|
.p 12 [] ZJ<|
.op none y1 [12,23] (.store 6 (.t 12) (.t 23))<|
.nil)
 (.seq (.z (.m 24 2<|
.P 25 (.conv (.toInt .u64) (.t 24))<|
.b 26 .rem .none (.t 25) (.con (V.int .u64 (AA 4)))<|
.nil)
 (.block 0 (.z (.b 33 .eql .none (.t 26) (.con Uf)<|
.m 32 33<|
.nil)
 (.cond (.tmp 32) (.z (.op (some 34) y4 [] (.build [y0,y0] [(0,1,(.i 2))])<|
.m 35 1<|
.p 36 [35] (.buildSlice 5 1 [y5] [(0,1,(.t 35))])<|
.k 37 .one 8 [(.t 34),Ln,(.t 36)]<|
.m 10 37<|
.nil)
 (.z (.m 38 1<|
.b 39 .eql .none (.t 38) (.con y5)<|
.m 40 39<|
.gO 40 false (.p 41 [1,40] Jd<|
.p 42 [41,40] (.bin .eql .none (.t 41) (.con (V.int .u8 (AA 255))))<|
.nil) 43 40 42<|
.m 11 43<|
.nil)
 (.ops (.f 44 3 12<|
.l 45 .any 44<|
.m 46 1<|
.b 47 .and .none (.t 46) (.con (V.int .u8 (AA 1)))<|
.P 48 (.conv (.toInt .i64) (.t 47))<|
.op (some 49) y1 [48] (.build [y0,y0,V.nils,V.nils,y0,V.nils] [(0,1,(.i 1)),(1,1,(.t 48))])<|
.P 50 (.iaddrS 6 (.t 45) (.i 0))<|
.op none y1 [50,49] (.store 6 (.t 50) (.t 49))<|
.nil))))
 (.z (.b 52 .eql .none (.t 26) (.con (V.int .u64 (AA 1)))<|
.m 51 52<|
.nil)
 (.cond (.tmp 51) (.z (.op (some 53) y4 [] (.build [y0,y0] [(0,1,(.i 2)),(1,1,(.i 1))])<|
.m 54 9<|
.k 55 .one 8 [(.t 53),Ln,(.t 54)]<|
.m 10 55<|
.nil)
 (.z (.m 56 0<|
.b 57 .neq .none (.t 56) (.i 5)<|
.m 11 57<|
.nil)
 (.ops (.f 58 3 12<|
.l 59 .any 58<|
.m 60 0<|
.op (some 61) y1 [60] (.build [y0,y0,V.nils,V.nils,y0,V.nils] [(0,1,(.i 2)),(1,1,(.t 60))])<|
.P 62 (.iaddrS 6 (.t 59) (.i 1))<|
.op none y1 [62,61] (.store 6 (.t 62) (.t 61))<|
.nil))))
 (.z (.b 64 .eql .none (.t 26) (.con (V.int .u64 (AA 2)))<|
.m 63 64<|
.nil)
 (.cond (.tmp 63) (.z (.c 13 y5<|
.nil)
 (.seq (.z (.m 65 0<|
.b 66 .lss .none (.t 65) (.i 0)<|
.nil)
 (.cond (.tmp 66) (.ops (.c 13 (V.int .u8 (AA 255))<|
.nil))
 .skip))
 (.keep [(7,.ptr),(8,.bool),(9,.any),(11,.bool),(12,.ptr),(13,(.int .u8))] [] [] cc2)))
 (.ops (.op (some 27) y4 [] (.build [y0,y0] [(0,1,(.i 2)),(1,1,(.i 2))])<|
.op (some 28) y4 [] (.build [y0,y0] [(1,1,(.i 4))])<|
.m 29 9<|
.k 30 .one 8 [(.t 28),Ln,(.t 29)]<|
.k 31 .one 8 [(.t 27),Pw,(.t 30)]<|
.m 10 31<|
.nil))))))))))
 (.keep q3a [] [] cc1))))))))
def AFo (E:EB) (D:Ak) (W:AI) (K1:Nat->Nat->Bool->V->Bool->Nat->Nat->H->AH) (K2:Nat->Nat->Bool->V->Bool->Nat->Nat->Int->H->AH) (a b c:Int) (Z:H):AH:=
 AV (D 6 [.str (BS.mk 137 226512669145774835787552813045342205744664672948163956739964864073194674402257524072219146352772370422835385268860203894635856546299145261305076249863035954196228233577801936438188401159539121422570938484479284731963997307652805544338596275674289996615417362922097323455017081215090127200226272488853258482717530386776042823229517)] Z) fun u1 s2=>
 DH u1 fun l3=>
 AE l3 fun x4 l5=>
 Bm x4 fun l6=>
 IZ l6 fun x9 l8=>
 AE l8 fun x10 l11=>
 AE l11 fun x12 l13=>
 AE l13 fun x14 l15=>
 AP l15 (
 DQ l5 fun x18 l17=>
 AP l17 (
 let s19:=Br s2 (.cells [.str ⟨0,0⟩,V.nils,V.nils,V.nils]);
 FW 4 (H.next s2) 0 (V.agg [.str x9,x10,x12,x14]) s19 fun s20=>
 AV (D 7 [.int .i64 a] s20) fun u21 s22=>
 Ba u21 (
 N8 (AA 3) fun n23=>
 N8 (AA 3) fun n24=>
 GW (Ag n23 n24&&Ag (n24*96) 281474976710656&&Ag n24 1000000000000) (
 let s25:=Br s22 (.cells (AY n24 [.int .i64 (AA 0),.int .i64 (AA 0),V.nils,V.nils,.int .i64 (AA 0),V.nils]).flatten);
 let s26:=Br s25 (.cells [.int .i64 (AA 0),.int .i64 (AA 0),V.nils,V.nils,.int .i64 (AA 0),V.nils]);
 FW 6 (H.next s25) 0 (V.agg [.int .i64 (AA 7),.int .i64 (AA 0),V.nils,.sl (H.next s22) 0 n23 (.ex n24),.int .i64 (AA 0),V.nils]) s26 fun s27=>
 AK (B4 (E3 (An .u64 c) (AA 4)) (AA 0)) (
 let s28:=Br s27 (.cells [.int .u8 b]);
 AV (D 8 [.agg [.int .i64 (AA 2),.int .i64 (AA 0)],.bool false,.sl (H.next s27) 0 1 (.ex 1)] s28) fun u29 s30=>
 Ba u29 (
 Aa (fun c31 s32=>
 Bc E s32 (H.next s25) 3 fun u34=>
 AU 6 u34 (AA 0) fun b35 o36=>
 FW 6 b35 o36 (V.agg [.int .i64 (AA 1),.int .i64 (An .i64 (Eo .u8 b (AA 1))),V.nils,V.nils,.int .i64 (AA 0),V.nils]) s32 fun s37=>
 K1 (H.next s2) 0 x18 u29 c31 (H.next s25) 0 s37) fun k33=>
 AK (B4 b (AA 0)) (
 k33 true s30) (
 k33 (B4 b (AA 255)) s30))) (
 AK (B4 (E3 (An .u64 c) (AA 4)) (AA 1)) (
 AV (D 8 [.agg [.int .i64 (AA 2),.int .i64 (AA 1)],.bool false,u21] s27) fun u38 s39=>
 Ba u38 (
 Bc E s39 (H.next s25) 3 fun u40=>
 AU 6 u40 (AA 1) fun b41 o42=>
 FW 6 b41 o42 (V.agg [.int .i64 (AA 2),.int .i64 a,V.nils,V.nils,.int .i64 (AA 0),V.nils]) s39 fun s43=>
 K1 (H.next s2) 0 x18 u38 (not (B4 a (AA 5))) (H.next s25) 0 s43)) (
 AK (B4 (E3 (An .u64 c) (AA 4)) (AA 2)) (
 AK (C8 a (AA 0)) (
 K2 (H.next s2) 0 x18 u21 false (H.next s25) 0 (AA 255) s27) (
 K2 (H.next s2) 0 x18 u21 false (H.next s25) 0 (AA 0) s27)) (
 AV (D 8 [.agg [.int .i64 (AA 0),.int .i64 (AA 4)],.bool false,u21] s27) fun u44 s45=>
 Ba u44 (
 AV (D 8 [.agg [.int .i64 (AA 2),.int .i64 (AA 2)],.bool true,u44] s45) fun u46 s47=>
 Ba u46 (
 K1 (H.next s2) 0 x18 u46 false (H.next s25) 0 s47)))))))))
def AIO:XC:=(.seq (.keep q3a [] [] (.gdraw ACW ACU [(8,.bool),(11,.bool),(12,.ptr),(14,.ptr),(15,.i)]))
 (.seq (.z (.m 81 11<|
.P 82 (.un .not (.t 81))<|
.nil)
 (.cond (.tmp 82) (.z (.k 83 .bool 10 []<|
.m 84 83<|
.gA 84 true (.p 85 [8,84] (.mov (.t 8))<|
.nil) 86 84 85<|
.m 87 86<|
.gA 87 true (.p 88 [15,87] (.mov (.t 15))<|
.p 89 [88,87] (.bin .eql .none (.t 88) (.i 4))<|
.nil) 90 87 89<|
.m 91 90<|
.gA 91 true (.op (some 92) y1 [14,91] (.load (some 6) (.t 14))<|
.op (some 93) y1 [91] (.build [y0,y0,V.nils,V.nils,y0,V.nils] [])<|
.op (some 94) .bool [92,93,91] (.call 11 [(.t 92),(.t 93)])<|
.nil) 95 91 94<|
.m 6 95<|
.nil)
 .ret)
 .skip))
 (.z (.k 96 .bool 10 []<|
.m 97 96<|
.gA 97 true (.p 98 [8,97] (.mov (.t 8))<|
.nil) 99 97 98<|
.m 100 99<|
.gA 100 true (.p 101 [15,100] (.mov (.t 15))<|
.p 102 [101,100] (.bin .eql .none (.t 101) (.i 0))<|
.nil) 103 100 102<|
.m 104 103<|
.gA 104 true (.op (some 105) y1 [14,104] (.load (some 6) (.t 14))<|
.op (some 106) y1 [12,104] (.load (some 6) (.t 12))<|
.op (some 107) .bool [105,106,104] (.call 11 [(.t 105),(.t 106)])<|
.nil) 108 104 107<|
.m 6 108<|
.nil)
 .ret)))
def AFm (a b:Nat) (c:Bool) (d:V) (e:Bool) (f g:Nat) (Z:H):AH:=
 Ci (W ACW ACU [(7,.ptr a b),(8,.bool c),(10,d),(11,.bool e),(12,.ptr f g)] Z) fun e1 s2=>
 BR e1 8 fun u3=>
 AZ u3 fun x4=>
 BR e1 11 fun u5=>
 AZ u5 fun x6=>
 BR e1 12 fun u7=>
 B8 u7 fun b8 o9=>
 BR e1 14 fun u10=>
 B8 u10 fun b11 o12=>
 BR e1 15 fun u13=>
 Am .i64 u13 fun x14=>
 AK (not x6) (
 AV (D 10 [] s2) fun u15 s16=>
 AZ u15 fun x17=>
 Aa (fun c18 s19=>
 Aa (fun c21 s22=>
 Aa (fun c24 s25=>
 some ((V.bool c24),s25)) fun k26=>
 AK c21 (
 BH E s22 b11 o12 6 fun l27=>
 Ah .i64 l27 fun x30 l29=>
 Ah .i64 l29 fun x33 l32=>
 AE l32 fun x34 l35=>
 AE l35 fun x36 l37=>
 Ah .i64 l37 fun x40 l39=>
 AE l39 fun x41 l42=>
 AP l42 (
 AV (D 11 [.agg [.int .i64 x30,.int .i64 x33,x34,x36,.int .i64 x40,x41],.agg [.int .i64 (AA 0),.int .i64 (AA 0),V.nils,V.nils,.int .i64 (AA 0),V.nils]] s22) fun u43 s44=>
 AZ u43 fun x45=>
 k26 x45 s44)) (
 k26 false s22)) fun k23=>
 AK c18 (
 k23 (B4 x14 (AA 4)) s19) (
 k23 false s19)) fun k20=>
 AK x17 (
 k20 x4 s16) (
 k20 false s16)) (
 AV (D 10 [] s2) fun u46 s47=>
 AZ u46 fun x48=>
 Aa (fun c49 s50=>
 Aa (fun c52 s53=>
 Aa (fun c55 s56=>
 some ((V.bool c55),s56)) fun k57=>
 AK c52 (
 BH E s53 b11 o12 6 fun l58=>
 Ah .i64 l58 fun x61 l60=>
 Ah .i64 l60 fun x64 l63=>
 AE l63 fun x65 l66=>
 AE l66 fun x67 l68=>
 Ah .i64 l68 fun x71 l70=>
 AE l70 fun x72 l73=>
 AP l73 (
 BH E s53 b8 o9 6 fun l74=>
 Ah .i64 l74 fun x77 l76=>
 Ah .i64 l76 fun x80 l79=>
 AE l79 fun x81 l82=>
 AE l82 fun x83 l84=>
 Ah .i64 l84 fun x87 l86=>
 AE l86 fun x88 l89=>
 AP l89 (
 AV (D 11 [.agg [.int .i64 x61,.int .i64 x64,x65,x67,.int .i64 x71,x72],.agg [.int .i64 x77,.int .i64 x80,x81,x83,.int .i64 x87,x88]] s53) fun u90 s91=>
 AZ u90 fun x92=>
 k57 x92 s91))) (
 k57 false s53)) fun k54=>
 AK c49 (
 k54 (B4 x14 (AA 0)) s50) (
 k54 false s50)) fun k51=>
 AK x48 (
 k51 x4 s47) (
 k51 false s47))
def AIN:XC:=(.ops (.op (some 67) y4 [] (.build [y0,y0] [(0,1,(.i 2)),(1,1,(.i 1))])<|
.m 68 13<|
.p 69 [68] (.buildSlice 5 1 [y5] [(0,1,(.t 68))])<|
.m 70 9<|
.O 71 .one (.append 5 1 1 (.t 69) (.t 70))<|
.k 72 .one 8 [(.t 67),Ln,(.t 71)]<|
.m 10 72<|
.nil))
def AFl (E:EB) (D:Ak) (W:AI) (K1:Nat->Nat->Bool->V->Bool->Nat->Nat->H->AH) (a b:Nat) (c:Bool) (d:V) (e:Bool) (f g:Nat) (h:Int) (Z:H):AH:=
 let s1:=Br Z (.cells [.int .u8 h]);
 DD E 1 1 (V.sl (H.next Z) 0 1 (.ex 1)) d s1 fun u2 s3=>
 Ba u2 (
 AV (D 8 [.agg [.int .i64 (AA 2),.int .i64 (AA 1)],.bool false,u2] s3) fun u4 s5=>
 Ba u4 (
 K1 a b c u4 e f g s5))
def ACQ (E:EB) (D:Ak) (W:AI) (N:Nat):=AFm E D W
def AGr:=AFl E D W (ACQ E D W N )
def F3 (args:List V) (Z:H):AH:=
 Ah .i64 args fun x3 l2=>
 Ah .u8 l2 fun x6 l5=>
 Ah .i64 l5 fun x9 l8=>
 AP l8 (
 AFo E D W (ACQ E D W N ) (AGr E D W N ) x3 x6 x9 Z)
def A3:DR:=⟨109,[.i,(.int .u8),.i],[(.tmp 6)],(AIP AIO AIN)⟩
theorem FE3 (args:List V) (Z:H):Bq E D W N A3 args Z=F3 E D W N args Z:=by kernel_rfl
def il:List (Nat × C6):=[(0,.any),(1,.bool),(6,.i),(7,.ptr),(8,.bool),(9,.any),(10,.any),(11,.ptr),(12,.bool),(13,.i)]
def q4b:List (Nat × C6):=[(6,.i),(7,.ptr),(8,.bool),(10,.any),(11,.ptr),(12,.bool)]
def ACV:List BM:=[⟨(some 96),.load (some 4) (.tmp 7),none⟩,⟨(some 97),.mov (.tmp 6),none⟩,⟨(some 98),.build [(V.int .i64 (AA 0)),(V.int .i64 (AA 0))] [(1,1,(.tmp 97))],none⟩,⟨(some 99),.mov (.tmp 10),none⟩,⟨(some 100),.call 8 [(.tmp 98),(.con (V.bool true)),(.tmp 99)],none⟩,⟨(some 101),.call 9 [(.tmp 96),(.con (V.int .i64 (AA 0))),(.tmp 100)],none⟩,⟨(some 95),.mov (.tmp 101),none⟩,⟨(some 102),.extract 0 (.tmp 95),none⟩,⟨(some 103),.extract 1 (.tmp 95),none⟩,⟨(some 16),.alloc 34 [(V.int .i64 (AA 0)),(V.int .i64 (AA 0)),V.nils,V.nils,(V.int .i64 (AA 0)),V.nils],none⟩,⟨none,.store 6 (.tmp 16) (.tmp 102),none⟩,⟨(some 17),.mov (.tmp 103),none⟩]
def ACT:List DP:=[⟨0,[7]⟩,⟨0,[6]⟩,⟨2,[97]⟩,⟨0,[10]⟩,⟨14,[98,99]⟩,⟨31,[96,100]⟩,⟨63,[101]⟩,⟨127,[95]⟩,⟨127,[95]⟩,⟨0,[]⟩,⟨767,[16,102]⟩,⟨2047,[103]⟩]
def Fj (E:EB):St->AH:=fun s=>DF E s [(.tmp 4)] fun l=>some (Da l,s.Z)
def r8 (c0:XC):Nat->St->AH:=BY 0 (dX E D W N (.keep q4b [] [] c0) (Fj E) nX (Fj E)) nX
def wI (cc1:XC):XC:=(.z (.c 4 y3<|
.nil)
 (.seq (.z (.m 18 0<|
.u 19 18<|
.b 20 .gtr .none (.t 19) (.i 8)<|
.nil)
 (.cond (.tmp 20) (.z (.k 21 .bool 10 []<|
.m 4 21<|
.nil)
 .ret)
 .skip))
 (.z (.c 5 (V.str ⟨8,4990918871747741011⟩)<|
.q 6 16<|
.nil)
 (.seq (.z (.m 22 1<|
.nil)
 (.cond (.tmp 22) (.ops (.c 5 (V.str ⟨3,5522771⟩)<|
.q 6 17<|
.nil))
 .skip))
 (.keep [(0,.any),(1,.bool),(5,.str),(6,.i)] [] [] cc1)))))
def zx (E:EB) (D:Ak) (W:AI) (K1:V->Bool->BS->Int->H->AH) (a:V) (b:Bool) (Z:H):AH:=
 A2 a fun n1=>
 AK (C8 (AA 8) (AA n1)) (
 AV (D 10 [] Z) fun u2 s3=>
 AZ u2 fun x4=>
 some ((V.bool x4),s3)) (
 AK b (
 K1 a b (BS.mk 3 5522771) (AA 17) Z) (
 K1 a b (BS.mk 8 4990918871747741011) (AA 16) Z))
def gh (cc2:XC):XC:=(.z (.m 24 5<|
.b 25 .add .none (.con (V.str ⟨44,1155320174116467081354871280520271169385037154877160308527937316829095560925391585709334377032552200544333⟩)) (.t 24)<|
.b 26 .add .none (.t 25) (.con (V.str ⟨91,376750722060844764761047080813703211005890847229666167588776160204479610214849528601957395999892368467174249122725897177763287309276704095147666812449212167016852892595614218623795691234562836319994691495043923760413472⟩))<|
.k 27 (.tup [y6,.bool]) 6 [(.t 26)]<|
.m 23 27<|
.P 28 (.extract 0 (.t 23))<|
.P 29 (.extract 1 (.t 23))<|
.p 7 [] y29<|
.op none y6 [7,28] (.store 4 (.t 7) (.t 28))<|
.m 8 29<|
.nil)
 (.z (.p 30 [] (.buildSlice 3 4 [y0,y0,y0,y0] [(0,1,(.i 1)),(1,1,(.i 3)),(2,1,(.i 0)),(3,1,(.i 2))])<|
.m 9 30<|
.nil)
 (.z (.c 10 V.nils<|
.nil)
 (.z (.P 31 (.mkslice 34 6 96 [y0,y0,V.nils,V.nils,y0,V.nils] (.i 4) (.i 4))<|
.op (some 32) y1 [31] (.build [y0,y0,V.nils,V.nils,y0,V.nils] [(0,1,(.i 7)),(3,1,(.t 31))])<|
.p 11 [] ZJ<|
.op none y1 [11,32] (.store 6 (.t 11) (.t 32))<|
.nil)
 (.seq (.z (.m 33 1<|
.nil)
 (.cond (.tmp 33) (.ops (.f 34 0 11<|
.op none .any [34] (.store 1 (.t 34) (.i 8))<|
.nil))
 .skip))
 (.keep [(0,.any),(1,.bool),(6,.i),(7,.ptr),(8,.bool),(9,.any),(10,.any),(11,.ptr)] [] [] cc2))))))
def zw (E:EB) (D:Ak) (W:AI) (K2:V->Bool->Int->Nat->Nat->Bool->V->V->Nat->Nat->H->AH) (a:V) (b:Bool) (c:BS) (d:Int) (Z:H):AH:=
 P2 (BS.mk 44 1155320174116467081354871280520271169385037154877160308527937316829095560925391585709334377032552200544333) c fun t1=>
 P2 t1 (BS.mk 91 376750722060844764761047080813703211005890847229666167588776160204479610214849528601957395999892368467174249122725897177763287309276704095147666812449212167016852892595614218623795691234562836319994691495043923760413472) fun t2=>
 AV (D 6 [.str t2] Z) fun u3 s4=>
 DH u3 fun l5=>
 AE l5 fun x6 l7=>
 Bm x6 fun l8=>
 IZ l8 fun x11 l10=>
 AE l10 fun x12 l13=>
 AE l13 fun x14 l15=>
 AE l15 fun x16 l17=>
 AP l17 (
 DQ l7 fun x20 l19=>
 AP l19 (
 let s21:=Br s4 (.cells [.str ⟨0,0⟩,V.nils,V.nils,V.nils]);
 FW 4 (H.next s4) 0 (V.agg [.str x11,x12,x14,x16]) s21 fun s22=>
 let s23:=Br s22 (.cells [.int .i64 (AA 1),.int .i64 (AA 3),.int .i64 (AA 0),.int .i64 (AA 2)]);
 N8 (AA 4) fun n24=>
 N8 (AA 4) fun n25=>
 GW (Ag n24 n25&&Ag (n25*96) 281474976710656&&Ag n25 1000000000000) (
 let s26:=Br s23 (.cells (AY n25 [.int .i64 (AA 0),.int .i64 (AA 0),V.nils,V.nils,.int .i64 (AA 0),V.nils]).flatten);
 let s27:=Br s26 (.cells [.int .i64 (AA 0),.int .i64 (AA 0),V.nils,V.nils,.int .i64 (AA 0),V.nils]);
 FW 6 (H.next s26) 0 (V.agg [.int .i64 (AA 7),.int .i64 (AA 0),V.nils,.sl (H.next s23) 0 n24 (.ex n25),.int .i64 (AA 0),V.nils]) s27 fun s28=>
 AK b (
 FW 1 (H.next s26) 0 (V.int .i64 (AA 8)) s28 fun s29=>
 K2 a b d (H.next s4) 0 x20 (V.sl (H.next s22) 0 4 (.ex 4)) V.nils (H.next s26) 0 s29) (
 K2 a b d (H.next s4) 0 x20 (V.sl (H.next s22) 0 4 (.ex 4)) V.nils (H.next s26) 0 s28))))
def Vn (cc3:XC) (cc4:XC):XC:=(.z (.c 12 iE<|
.nil)
 (.seq (.z (.q 13 0<|
.nil)
 (.block 0 (.loop il [] [] cc4)))
 (.keep q4b [] [] cc3)))
def zu (E:EB) (D:Ak) (W:AI) (K4:V->Bool->Int->Nat->Nat->Bool->V->V->Nat->Nat->Bool->Int->H->AH) (a:V) (b:Bool) (c:Int) (d e:Nat) (f:Bool) (g h:V) (i j:Nat) (Z:H):AH:=
 K4 a b c d e f g h i j true (AA 0) Z
def NH:XC:=(.seq (.keep q4b [] [] (.gdraw ACV ACT [(8,.bool),(11,.ptr),(12,.bool),(16,.ptr),(17,.i)]))
 (.seq (.z (.m 104 12<|
.P 105 (.un .not (.t 104))<|
.nil)
 (.cond (.tmp 105) (.z (.k 106 .bool 10 []<|
.m 107 106<|
.gA 107 true (.p 108 [8,107] (.mov (.t 8))<|
.nil) 109 107 108<|
.m 110 109<|
.gA 110 true (.p 111 [17,110] (.mov (.t 17))<|
.p 112 [111,110] (.bin .eql .none (.t 111) (.i 4))<|
.nil) 113 110 112<|
.m 114 113<|
.gA 114 true (.op (some 115) y1 [16,114] (.load (some 6) (.t 16))<|
.op (some 116) y1 [114] (.build [y0,y0,V.nils,V.nils,y0,V.nils] [])<|
.op (some 117) .bool [115,116,114] (.call 11 [(.t 115),(.t 116)])<|
.nil) 118 114 117<|
.m 4 118<|
.nil)
 .ret)
 .skip))
 (.z (.k 119 .bool 10 []<|
.m 120 119<|
.gA 120 true (.p 121 [8,120] (.mov (.t 8))<|
.nil) 122 120 121<|
.m 123 122<|
.gA 123 true (.p 124 [17,123] (.mov (.t 17))<|
.p 125 [124,123] (.bin .eql .none (.t 124) (.i 0))<|
.nil) 126 123 125<|
.m 127 126<|
.gA 127 true (.op (some 128) y1 [16,127] (.load (some 6) (.t 16))<|
.op (some 129) y1 [11,127] (.load (some 6) (.t 11))<|
.op (some 130) .bool [128,129,127] (.call 11 [(.t 128),(.t 129)])<|
.nil) 131 127 130<|
.m 4 131<|
.nil)
 .ret)))
def AFk (a:Int) (b c:Nat) (d:Bool) (e:V) (f g:Nat) (h:Bool) (Z:H):AH:=
 Ci (W ACV ACT [(6,.int .i64 a),(7,.ptr b c),(8,.bool d),(10,e),(11,.ptr f g),(12,.bool h)] Z) fun e1 s2=>
 BR e1 8 fun u3=>
 AZ u3 fun x4=>
 BR e1 11 fun u5=>
 B8 u5 fun b6 o7=>
 BR e1 12 fun u8=>
 AZ u8 fun x9=>
 BR e1 16 fun u10=>
 B8 u10 fun b11 o12=>
 BR e1 17 fun u13=>
 Am .i64 u13 fun x14=>
 AK (not x9) (
 AV (D 10 [] s2) fun u15 s16=>
 AZ u15 fun x17=>
 Aa (fun c18 s19=>
 Aa (fun c21 s22=>
 Aa (fun c24 s25=>
 some ((V.bool c24),s25)) fun k26=>
 AK c21 (
 BH E s22 b11 o12 6 fun l27=>
 Ah .i64 l27 fun x30 l29=>
 Ah .i64 l29 fun x33 l32=>
 AE l32 fun x34 l35=>
 AE l35 fun x36 l37=>
 Ah .i64 l37 fun x40 l39=>
 AE l39 fun x41 l42=>
 AP l42 (
 AV (D 11 [.agg [.int .i64 x30,.int .i64 x33,x34,x36,.int .i64 x40,x41],.agg [.int .i64 (AA 0),.int .i64 (AA 0),V.nils,V.nils,.int .i64 (AA 0),V.nils]] s22) fun u43 s44=>
 AZ u43 fun x45=>
 k26 x45 s44)) (
 k26 false s22)) fun k23=>
 AK c18 (
 k23 (B4 x14 (AA 4)) s19) (
 k23 false s19)) fun k20=>
 AK x17 (
 k20 x4 s16) (
 k20 false s16)) (
 AV (D 10 [] s2) fun u46 s47=>
 AZ u46 fun x48=>
 Aa (fun c49 s50=>
 Aa (fun c52 s53=>
 Aa (fun c55 s56=>
 some ((V.bool c55),s56)) fun k57=>
 AK c52 (
 BH E s53 b11 o12 6 fun l58=>
 Ah .i64 l58 fun x61 l60=>
 Ah .i64 l60 fun x64 l63=>
 AE l63 fun x65 l66=>
 AE l66 fun x67 l68=>
 Ah .i64 l68 fun x71 l70=>
 AE l70 fun x72 l73=>
 AP l73 (
 BH E s53 b6 o7 6 fun l74=>
 Ah .i64 l74 fun x77 l76=>
 Ah .i64 l76 fun x80 l79=>
 AE l79 fun x81 l82=>
 AE l82 fun x83 l84=>
 Ah .i64 l84 fun x87 l86=>
 AE l86 fun x88 l89=>
 AP l89 (
 AV (D 11 [.agg [.int .i64 x61,.int .i64 x64,x65,x67,.int .i64 x71,x72],.agg [.int .i64 x77,.int .i64 x80,x81,x83,.int .i64 x87,x88]] s53) fun u90 s91=>
 AZ u90 fun x92=>
 k57 x92 s91))) (
 k57 false s53)) fun k54=>
 AK c49 (
 k54 (B4 x14 (AA 0)) s50) (
 k54 false s50)) fun k51=>
 AK x48 (
 k51 x4 s47) (
 k51 false s47))
def P6 (cc5:XC):XC:=(.seq (.z (.m 35 13<|
.m 36 0<|
.u 37 36<|
.b 38 .lss .none (.t 35) (.t 37)<|
.nil)
 (.cond (.tmp 38) .skip
 Me))
 (.seq (.block 1 (.z (.m 41 0<|
.m 42 13<|
.s 43 1 41 42<|
.l 44 .i 43<|
.P 45 (.conv (.toInt .u64) (.t 44))<|
.b 46 .rem .none (.t 45) (.con (V.int .u64 (AA 4)))<|
.P 47 (.conv (.toInt .i64) (.t 46))<|
.m 14 47<|
.nil)
 (.z (.m 48 10<|
.m 49 14<|
.op (some 50) y4 [49] (.build [y0,y0] [(0,1,(.i 2)),(1,1,(.t 49))])<|
.k 51 .one 8 [(.t 50),Ln,(.con V.nils)]<|
.O 52 .one (.append 5 1 1 (.t 48) (.t 51))<|
.m 10 52<|
.nil)
 (.seq (.draw (.f 53 3 11<|
.l 54 .any 53<|
.m 55 9<|
.m 56 14<|
.s 57 1 55 56<|
.l 58 .i 57<|
.op (some 59) y1 [] (.build [y0,y0,V.nils,V.nils,y0,V.nils] [(0,1,(.i 4))])<|
.s 60 6 54 58<|
.op none y1 [60,59] (.store 6 (.t 60) (.t 59))<|
.nil) [0,1,0,0,12,28,0,127,255])
 (.z (.m 61 13<|
.b 62 .gtr .none (.t 61) (.i 0)<|
.nil)
 (.cond (.tmp 62) (.z (.m 63 0<|
.m 64 13<|
.b 65 .sub .none (.t 64) (.i 1)<|
.s 66 1 63 65<|
.l 67 .i 66<|
.P 68 (.conv (.toInt .u64) (.t 67))<|
.b 69 .rem .none (.t 68) (.con (V.int .u64 (AA 4)))<|
.P 70 (.conv (.toInt .i64) (.t 69))<|
.m 15 70<|
.nil)
 (.draw (.m 71 12<|
.m 72 71<|
.gA 72 true (.p 73 [1,72] Jd<|
.p 74 [73,72] (.mov (.t 73))<|
.grp 74 true (.p 75 [14,74] (.mov (.t 14))<|
.p 76 [15,74] (.mov (.t 15))<|
.p 77 [75,76,74] (.bin .gtr .none (.t 75) (.t 76))<|
.nil) 78 [74,77,72] (.t 74) (.t 77) Ln<|
.p 79 [78,72] (.mov (.t 78))<|
.grp 79 false (.p 80 [1,79] Jd<|
.p 81 [80,79] (.un .not (.t 80))<|
.p 82 [81,79] (.mov (.t 81))<|
.grp 82 true (.p 83 [9,82] (.mov (.t 9))<|
.p 84 [14,82] (.mov (.t 14))<|
.p 85 [83,84,82] (.iaddrS 1 (.t 83) (.t 84))<|
.op (some 86) .i [85,82] (.load none (.t 85))<|
.p 87 [9,82] (.mov (.t 9))<|
.p 88 [15,82] (.mov (.t 15))<|
.p 89 [87,88,82] (.iaddrS 1 (.t 87) (.t 88))<|
.op (some 90) .i [89,82] (.load none (.t 89))<|
.p 91 [86,90,82] (.bin .gtr .none (.t 86) (.t 90))<|
.nil) 92 [82,91,79] (.t 82) (.t 91) Ln<|
.nil) 93 [79,92,72] (.t 79) Pw (.t 92)<|
.nil) 94 72 93<|
.m 12 94<|
.nil) [0,1,3,7,15,15,63,127,255,511,1023,2047,4095,4095,16383,32767,4095,4095,200703,462847,1048575,2097151,4194303,8388607,16777215]))
 .skip))))))
 (.keep il [] [] cc5)))
def zt (E:EB) (D:Ak) (W:AI) (K3:Int->Nat->Nat->Bool->V->Nat->Nat->Bool->H->AH) (K5:V->Bool->Int->Nat->Nat->Bool->V->V->Nat->Nat->Bool->Int->H->AH) (a:V) (b:Bool) (c:Int) (d e:Nat) (f:Bool) (g h:V) (i j:Nat) (k:Bool) (l:Int) (Z:H):AH:=
 A2 a fun n1=>
 AK (C8 l (AA n1)) (
 AU 1 a l fun b2 o3=>
 Bc E Z b2 o3 fun u4=>
 Am .i64 u4 fun x5=>
 AV (D 8 [.agg [.int .i64 (AA 2),.int .i64 (An .i64 (E3 (An .u64 x5) (AA 4)))],.bool false,V.nils] Z) fun u6 s7=>
 Ba u6 (
 DD E 1 1 h u6 s7 fun u8 s9=>
 Ba u8 (
 Bc E s9 i (Ap j 3) fun u10=>
 AU 1 g (An .i64 (E3 (An .u64 x5) (AA 4))) fun b11 o12=>
 Bc E s9 b11 o12 fun u13=>
 Am .i64 u13 fun x14=>
 AU 6 u10 x14 fun b15 o16=>
 FW 6 b15 o16 (V.agg [.int .i64 (AA 4),.int .i64 (AA 0),V.nils,V.nils,.int .i64 (AA 0),V.nils]) s9 fun s17=>
 AK (C8 (AA 0) l) (
 AU 1 a (D6 .i64 l (AA 1)) fun b18 o19=>
 Bc E s17 b18 o19 fun u20=>
 Am .i64 u20 fun x21=>
 Aa (fun c22 s23=>
 K5 a b c d e f g u8 i j c22 l s23) fun k24=>
 AK k (
 Aa (fun c25 s26=>
 Aa (fun c28 s29=>
 k24 c28 s29) fun k30=>
 AK c25 (
 k30 true s26) (
 Aa (fun c31 s32=>
 k30 c31 s32) fun k33=>
 AK (not b) (
 AU 1 g (An .i64 (E3 (An .u64 x5) (AA 4))) fun b34 o35=>
 Bc E s26 b34 o35 fun u36=>
 Am .i64 u36 fun x37=>
 AU 1 g (An .i64 (E3 (An .u64 x21) (AA 4))) fun b38 o39=>
 Bc E s26 b38 o39 fun u40=>
 Am .i64 u40 fun x41=>
 k33 (C8 x41 x37) s26) (
 k33 false s26))) fun k27=>
 AK b (
 k27 (C8 (An .i64 (E3 (An .u64 x21) (AA 4))) (An .i64 (E3 (An .u64 x5) (AA 4)))) s17) (
 k27 false s17)) (
 k24 false s17)) (
 K5 a b c d e f g u8 i j k l s17)))) (
 K3 c d e f h i j k Z)
def Nz:XC:=(.ops (.m 39 13<|
.b 40 .add .none (.t 39) (.i 1)<|
.m 13 40<|
.nil))
def zr (E:EB) (D:Ak) (W:AI) (R4:V->Bool->Int->Nat->Nat->Bool->V->V->Nat->Nat->Bool->Int->H->AH) (a:V) (b:Bool) (c:Int) (d e:Nat) (f:Bool) (g h:V) (i j:Nat) (k:Bool) (l:Int) (Z:H):AH:=
 R4 a b c d e f g h i j k (CR .i64 l (AA 1)) Z
def AAu (a:V) (b:Bool) (Z:H):St:=⟨[(0,a),(1,.bool b)],[],[],Z⟩
def sd (a:V) (b:Bool) (c:BS) (d:Int) (Z:H):St:=⟨[(0,a),(1,.bool b),(5,.str c),(6,.int .i64 d)],[],[],Z⟩
def sc (a:V) (b:Bool) (c:Int) (d e:Nat) (f:Bool) (g h:V) (i j:Nat) (Z:H):St:=⟨[(0,a),(1,.bool b),(6,.int .i64 c),(7,.ptr d e),(8,.bool f),(9,g),(10,h),(11,.ptr i j)],[],[],Z⟩
def AAt (a:Int) (b c:Nat) (d:Bool) (e:V) (f g:Nat) (h:Bool) (Z:H):St:=⟨[(6,.int .i64 a),(7,.ptr b c),(8,.bool d),(10,e),(11,.ptr f g),(12,.bool h)],[],[],Z⟩
def UG (a:V) (b:Bool) (c:Int) (d e:Nat) (f:Bool) (g h:V) (i j:Nat) (k:Bool) (l:Int) (Z:H):St:=⟨[(0,a),(1,.bool b),(6,.int .i64 c),(7,.ptr d e),(8,.bool f),(9,g),(10,h),(11,.ptr i j),(12,.bool k),(13,.int .i64 l)],[],[],Z⟩
theorem AGq (cc1:XC) (a:V) (b:Bool) (Z:H) :
 AN E D W N (wI cc1) (AAu a b Z) (Fj E) nX (Fj E) =
 zx E D W (fun a b c d Z=>AN E D W N cc1 (sd a b c d Z) (Fj E) nX (Fj E)) a b Z:=by kernel_rfl
theorem AGp (cc2:XC) (a:V) (b:Bool) (c:BS) (d:Int) (Z:H) :
 AN E D W N (gh cc2) (sd a b c d Z) (Fj E) nX (Fj E) =
 zw E D W (fun a b d e f g h i j k Z=>AN E D W N cc2 (sc a b d e f g h i j k Z) (Fj E) nX (Fj E)) a b c d Z:=by kernel_rfl
theorem AGo (cc3:XC) (cc4:XC) (a:V) (b:Bool) (c:Int) (d e:Nat) (f:Bool) (g h:V) (i j:Nat) (Z:H) :
 AN E D W N (Vn cc3 cc4) (sc a b c d e f g h i j Z) (Fj E) nX (Fj E) =
 zu E D W (fun a b c d e f g h i j k l Z=>Ad (fun rec s'=>AN E D W N cc4 s' (kX il [] [] rec) (r8 E D W N cc3) (Fj E)) N (UG a b c d e f g h i j k l Z)) a b c d e f g h i j Z:=by kernel_rfl
theorem AGn (cc3:XC) (cc5:XC) (li4:St->AH) (a:V) (b:Bool) (c:Int) (d e:Nat) (f:Bool) (g h:V) (i j:Nat) (k:Bool) (l:Int) (Z:H) :
 AN E D W N (P6 cc5) (UG a b c d e f g h i j k l Z) (kX il [] [] li4) (r8 E D W N cc3) (Fj E) =
 zt E D W (fun c d e f h i j k Z=>AN E D W N cc3 (AAt c d e f h i j k Z) (Fj E) nX (Fj E)) (fun a b c d e f g h i j k l Z=>AN E D W N cc5 (UG a b c d e f g h i j k l Z) (kX il [] [] li4) (r8 E D W N cc3) (Fj E)) a b c d e f g h i j k l Z:=by kernel_rfl
theorem AGm (cc3:XC) (li4:St->AH) (a:V) (b:Bool) (c:Int) (d e:Nat) (f:Bool) (g h:V) (i j:Nat) (k:Bool) (l:Int) (Z:H) :
 AN E D W N (Nz ) (UG a b c d e f g h i j k l Z) (kX il [] [] li4) (r8 E D W N cc3) (Fj E) =
 zr E D W (fun a b c d e f g h i j k l Z=>li4 (UG a b c d e f g h i j k l Z)) a b c d e f g h i j k l Z:=by kernel_rfl
def ACJ (E:EB) (D:Ak) (W:AI) (N:Nat):=AFk E D W
theorem AB9 (a:Int) (b c:Nat) (d:Bool) (e:V) (f g:Nat) (h:Bool) (Z:H) :
 AN E D W N NH (AAt a b c d e f g h Z) (Fj E) nX (Fj E)=ACJ E D W N a b c d e f g h Z:=by kernel_rfl
def ACI (E:EB) (D:Ak) (W:AI) (N:Nat) (R4:V->Bool->Int->Nat->Nat->Bool->V->V->Nat->Nat->Bool->Int->H->AH):=zr E D W R4
theorem AB8 (li4:St->AH) (a:V) (b:Bool) (c:Int) (d e:Nat) (f:Bool) (g h:V) (i j:Nat) (k:Bool) (l:Int) (Z:H) :
 AN E D W N Nz (UG a b c d e f g h i j k l Z) (kX il [] [] li4) (r8 E D W N NH) (Fj E)=ACI E D W N (fun a b c d e f g h i j k l Z=>li4 (UG a b c d e f g h i j k l Z)) a b c d e f g h i j k l Z:=by
 refine(AGm E D W N NH li4 a b c d e f g h i j k l Z).trans ?_
 kernel_rfl
def AB1 (n:Nat):V->Bool->Int->Nat->Nat->Bool->V->V->Nat->Nat->Bool->Int->H->AH:=
 Nat.rec (fun _ _ _ _ _ _ _ _ _ _ _ _ _=>none) (fun _ ih=>zt E D W (ACJ E D W N ) (ACI E D W N ih)) n
theorem ABz (n:Nat):∀(a:V) (b:Bool) (c:Int) (d e:Nat) (f:Bool) (g h:V) (i j:Nat) (k:Bool) (l:Int) (Z:H),
 Ad (fun rec s'=>AN E D W N (P6 Nz) s' (kX il [] [] rec) (r8 E D W N NH) (Fj E)) n (UG a b c d e f g h i j k l Z)=AB1 E D W N n a b c d e f g h i j k l Z:=by
 induction n with
 | zero=>intro a b c d e f g h i j k l Z;rfl
 | succ n ihn=>
  intro a b c d e f g h i j k l Z
  rw[Aq]
  refine(AGn E D W N NH Nz (Ad (fun rec s'=>AN E D W N (P6 Nz) s' (kX il [] [] rec) (r8 E D W N NH) (Fj E)) n) a b c d e f g h i j k l Z).trans ?_
  simp only[ihn,AB9,AB8]
  kernel_rfl
def ACK:=zu E D W (AB1 E D W N N)
theorem ACA (a:V) (b:Bool) (c:Int) (d e:Nat) (f:Bool) (g h:V) (i j:Nat) (Z:H) :
 AN E D W N (Vn NH (P6 Nz)) (sc a b c d e f g h i j Z) (Fj E) nX (Fj E)=ACK E D W N a b c d e f g h i j Z:=by
 refine(AGo E D W N NH (P6 Nz)  a b c d e f g h i j Z).trans ?_
 simp only[ABz]
 kernel_rfl
def ACL:=zw E D W (ACK E D W N )
theorem ACB (a:V) (b:Bool) (c:BS) (d:Int) (Z:H) :
 AN E D W N (gh (Vn NH (P6 Nz))) (sd a b c d Z) (Fj E) nX (Fj E)=ACL E D W N a b c d Z:=by
 refine(AGp E D W N (Vn NH (P6 Nz))  a b c d Z).trans ?_
 simp only[ACA]
 kernel_rfl
def ACN:=zx E D W (ACL E D W N )
theorem ACC (a:V) (b:Bool) (Z:H) :
 AN E D W N (wI (gh (Vn NH (P6 Nz)))) (AAu a b Z) (Fj E) nX (Fj E)=ACN E D W N a b Z:=by
 refine(AGq E D W N (gh (Vn NH (P6 Nz)))  a b Z).trans ?_
 simp only[ACB]
 kernel_rfl
def F4 (args:List V) (Z:H):AH:=
 AE args fun x1 l2=>
 DQ l2 fun x5 l4=>
 AP l4 (
 ACN E D W N x1 x5 Z)
def A4:DR:=⟨132,[.any,.bool],[(.tmp 4)],(wI (gh (Vn NH (P6 Nz))))⟩
theorem FE4 (args:List V) (Z:H):Bq E D W N A4 args Z=F4 E D W N args Z:=by
 unfold F4
 simp only[<-ACC]
 kernel_rfl
def yb:List (Nat × C6):=[(0,.any),(1,.any),(2,.bool),(8,.ptr),(9,.bool),(10,.any),(11,.ptr),(12,.i)]
def q5b:List (Nat × C6):=[(0,.any),(2,.bool),(8,.ptr),(9,.bool),(10,.any),(11,.ptr)]
def Y0:List BM:=[⟨(some 80),.load (some 4) (.tmp 8),none⟩,⟨(some 81),.build [(V.int .i64 (AA 0)),(V.int .i64 (AA 0))] [(1,1,(.con (V.int .i64 (AA 16))))],none⟩,⟨(some 82),.mov (.tmp 10),none⟩,⟨(some 83),.call 8 [(.tmp 81),(.con (V.bool true)),(.tmp 82)],none⟩,⟨(some 84),.call 9 [(.tmp 80),(.con (V.int .i64 (AA 0))),(.tmp 83)],none⟩,⟨(some 79),.mov (.tmp 84),none⟩,⟨(some 85),.extract 0 (.tmp 79),none⟩,⟨(some 86),.extract 1 (.tmp 79),none⟩,⟨(some 14),.alloc 34 [(V.int .i64 (AA 0)),(V.int .i64 (AA 0)),V.nils,V.nils,(V.int .i64 (AA 0)),V.nils],none⟩,⟨none,.store 6 (.tmp 14) (.tmp 85),none⟩,⟨(some 15),.mov (.tmp 86),none⟩]
def ft:List DP:=[⟨0,[8]⟩,⟨0,[]⟩,⟨0,[10]⟩,⟨6,[81,82]⟩,⟨15,[80,83]⟩,⟨31,[84]⟩,⟨63,[79]⟩,⟨63,[79]⟩,⟨0,[]⟩,⟨383,[14,85]⟩,⟨1023,[86]⟩]
def Gl (E:EB):St->AH:=fun s=>DF E s [(.tmp 6)] fun l=>some (Da l,s.Z)
def b5a (c0:XC):Nat->St->AH:=BY 0 (dX E D W N (.keep q5b [] [] c0) (Gl E) nX (Gl E)) nX
def wH (cc1:XC):XC:=(.z (.c 6 y3<|
.nil)
 (.seq (.z (.m 16 0<|
.u 17 16<|
.b 18 .gtr .none (.t 17) (.i 6)<|
.m 19 18<|
.gO 19 false (.p 20 [1,19] Jd<|
.p 21 [20,19] (.len false (.t 20))<|
.p 22 [21,19] (.bin .gtr .none (.t 21) (.i 200))<|
.nil) 23 19 22<|
.nil)
 (.cond (.tmp 23) (.z (.k 24 .bool 10 []<|
.m 6 24<|
.nil)
 .ret)
 .skip))
 (.z (.c 7 y8<|
.nil)
 (.seq (.z (.m 25 2<|
.nil)
 (.cond (.tmp 25) (.ops (.c 7 (V.str ⟨17,25962924143496044348805328506428802867244⟩)<|
.nil))
 .skip))
 (.keep [(0,.any),(1,.any),(2,.bool),(7,.str)] [] [] cc1)))))
def VK (E:EB) (D:Ak) (W:AI) (K1:V->V->Bool->BS->H->AH) (a b:V) (c:Bool) (Z:H):AH:=
 A2 a fun n1=>
 Aa (fun c2 s3=>
 AK c2 (
 AV (D 10 [] s3) fun u5 s6=>
 AZ u5 fun x7=>
 some ((V.bool x7),s6)) (
 AK c (
 K1 a b c (BS.mk 17 25962924143496044348805328506428802867244) s3) (
 K1 a b c (BS.mk 0 0) s3))) fun k4=>
 AK (C8 (AA 6) (AA n1)) (
 k4 true Z) (
 A2 b fun n8=>
 k4 (C8 (AA 200) (AA n8)) Z)
def gb (cc2:XC):XC:=(.z (.m 27 7<|
.b 28 .add .none (.con (V.str ⟨65,1022991297978550918763531518100076596597439128229847856144595860105991981592474693566084643732619912364361758549582870352320423856401045820393126642766323789⟩)) (.t 27)<|
.b 29 .add .none (.t 28) (.con (V.str ⟨6,75102957894944⟩))<|
.k 30 (.tup [y6,.bool]) 6 [(.t 29)]<|
.m 26 30<|
.P 31 (.extract 0 (.t 26))<|
.P 32 (.extract 1 (.t 26))<|
.p 8 [] y29<|
.op none y6 [8,31] (.store 4 (.t 8) (.t 31))<|
.m 9 32<|
.nil)
 (.z (.op (some 33) y4 [] (.build [y0,y0] [(0,1,(.i 2))])<|
.k 34 .one 8 [(.t 33),Ln,(.con V.nils)]<|
.m 10 34<|
.nil)
 (.z (.op (some 35) y1 [] (.build [y0,y0,V.nils,V.nils,y0,V.nils] [(0,1,(.i 4))])<|
.p 36 [35] (.buildSlice 34 1 [y0,y0,V.nils,V.nils,y0,V.nils] [(0,6,(.t 35))])<|
.op (some 37) y1 [36] (.build [y0,y0,V.nils,V.nils,y0,V.nils] [(0,1,(.i 7)),(3,1,(.t 36))])<|
.p 11 [] ZJ<|
.op none y1 [11,37] (.store 6 (.t 11) (.t 37))<|
.nil)
 (.seq (.z (.m 38 2<|
.nil)
 (.cond (.tmp 38) (.ops (.f 39 3 11<|
.l 40 .any 39<|
.op (some 41) y1 [] (.build [y0,y0,V.nils,V.nils,y0,V.nils] [])<|
.p 42 [41] (.buildSlice 34 1 [y0,y0,V.nils,V.nils,y0,V.nils] [(0,6,(.t 41))])<|
.O 43 .one (.append 34 6 96 (.t 40) (.t 42))<|
.f 44 3 11<|
.w 1 44 43<|
.nil))
 .skip))
 (.keep [(0,.any),(1,.any),(2,.bool),(8,.ptr),(9,.bool),(10,.any),(11,.ptr)] [] [] cc2)))))
def cK (E:EB) (D:Ak) (W:AI) (K2:V->V->Bool->Nat->Nat->Bool->V->Nat->Nat->H->AH) (a b:V) (c:Bool) (d:BS) (Z:H):AH:=
 P2 (BS.mk 65 1022991297978550918763531518100076596597439128229847856144595860105991981592474693566084643732619912364361758549582870352320423856401045820393126642766323789) d fun t1=>
 P2 t1 (BS.mk 6 75102957894944) fun t2=>
 AV (D 6 [.str t2] Z) fun u3 s4=>
 DH u3 fun l5=>
 AE l5 fun x6 l7=>
 Bm x6 fun l8=>
 IZ l8 fun x11 l10=>
 AE l10 fun x12 l13=>
 AE l13 fun x14 l15=>
 AE l15 fun x16 l17=>
 AP l17 (
 DQ l7 fun x20 l19=>
 AP l19 (
 let s21:=Br s4 (.cells [.str ⟨0,0⟩,V.nils,V.nils,V.nils]);
 FW 4 (H.next s4) 0 (V.agg [.str x11,x12,x14,x16]) s21 fun s22=>
 AV (D 8 [.agg [.int .i64 (AA 2),.int .i64 (AA 0)],.bool false,V.nils] s22) fun u23 s24=>
 Ba u23 (
 let s25:=Br s24 (.cells [.int .i64 (AA 4),.int .i64 (AA 0),V.nils,V.nils,.int .i64 (AA 0),V.nils]);
 let s26:=Br s25 (.cells [.int .i64 (AA 0),.int .i64 (AA 0),V.nils,V.nils,.int .i64 (AA 0),V.nils]);
 FW 6 (H.next s25) 0 (V.agg [.int .i64 (AA 7),.int .i64 (AA 0),V.nils,.sl (H.next s24) 0 1 (.ex 1),.int .i64 (AA 0),V.nils]) s26 fun s27=>
 AK c (
 Bc E s27 (H.next s25) 3 fun u28=>
 let s29:=Br s27 (.cells [.int .i64 (AA 0),.int .i64 (AA 0),V.nils,V.nils,.int .i64 (AA 0),V.nils]);
 DD E 6 96 u28 (V.sl (H.next s27) 0 1 (.ex 1)) s29 fun u30 s31=>
 Ba u30 (
 FW 1 (H.next s25) 3 u30 s31 fun s32=>
 K2 a b c (H.next s4) 0 x20 u23 (H.next s25) 0 s32)) (
 K2 a b c (H.next s4) 0 x20 u23 (H.next s25) 0 s27))))
def Vm (cc3:XC) (cc4:XC):XC:=(.seq (.z (.q 12 0<|
.nil)
 (.block 0 (.loop yb [] [] cc4)))
 (.keep q5b [] [] cc3))
def zq (E:EB) (D:Ak) (W:AI) (K4:V->V->Bool->Nat->Nat->Bool->V->Nat->Nat->Int->H->AH) (a b:V) (c:Bool) (d e:Nat) (f:Bool) (g:V) (h i:Nat) (Z:H):AH:=
 K4 a b c d e f g h i (AA 0) Z
def PZ:XC:=(.seq (.keep q5b [] [] (.gdraw Y0 ft [(0,.any),(2,.bool),(9,.bool),(11,.ptr),(14,.ptr),(15,.i)]))
 (.seq (.z (.m 87 2<|
.P 88 (.un .not (.t 87))<|
.m 89 88<|
.gA 89 true (.p 90 [0,89] y9<|
.p 91 [90,89] (.len false (.t 90))<|
.p 92 [91,89] (.bin .gtr .none (.t 91) (.i 0))<|
.nil) 93 89 92<|
.nil)
 (.cond (.tmp 93) (.z (.k 94 .bool 10 []<|
.m 95 94<|
.gA 95 true (.p 96 [9,95] (.mov (.t 9))<|
.nil) 97 95 96<|
.m 98 97<|
.gA 98 true (.p 99 [15,98] (.mov (.t 15))<|
.p 100 [99,98] (.bin .eql .none (.t 99) (.i 4))<|
.nil) 101 98 100<|
.m 102 101<|
.gA 102 true (.op (some 103) y1 [14,102] (.load (some 6) (.t 14))<|
.op (some 104) y1 [102] (.build [y0,y0,V.nils,V.nils,y0,V.nils] [])<|
.op (some 105) .bool [103,104,102] (.call 11 [(.t 103),(.t 104)])<|
.nil) 106 102 105<|
.m 6 106<|
.nil)
 .ret)
 .skip))
 (.z (.k 107 .bool 10 []<|
.m 108 107<|
.gA 108 true (.p 109 [9,108] (.mov (.t 9))<|
.nil) 110 108 109<|
.m 111 110<|
.gA 111 true (.p 112 [15,111] (.mov (.t 15))<|
.p 113 [112,111] (.bin .eql .none (.t 112) (.i 0))<|
.nil) 114 111 113<|
.m 115 114<|
.gA 115 true (.op (some 116) y1 [14,115] (.load (some 6) (.t 14))<|
.op (some 117) y1 [11,115] (.load (some 6) (.t 11))<|
.op (some 118) .bool [116,117,115] (.call 11 [(.t 116),(.t 117)])<|
.nil) 119 115 118<|
.m 6 119<|
.nil)
 .ret)))
def j5 (a:V) (b:Bool) (c d:Nat) (e:Bool) (f:V) (g h:Nat) (Z:H):AH:=
 Ci (W Y0 ft [(0,a),(2,.bool b),(8,.ptr c d),(9,.bool e),(10,f),(11,.ptr g h)] Z) fun e1 s2=>
 BR e1 0 fun u3=>
 BR e1 2 fun u4=>
 AZ u4 fun x5=>
 BR e1 9 fun u6=>
 AZ u6 fun x7=>
 BR e1 11 fun u8=>
 B8 u8 fun b9 o10=>
 BR e1 14 fun u11=>
 B8 u11 fun b12 o13=>
 BR e1 15 fun u14=>
 Am .i64 u14 fun x15=>
 Aa (fun c16 s17=>
 AK c16 (
 AV (D 10 [] s17) fun u19 s20=>
 AZ u19 fun x21=>
 Aa (fun c22 s23=>
 Aa (fun c25 s26=>
 Aa (fun c28 s29=>
 some ((V.bool c28),s29)) fun k30=>
 AK c25 (
 BH E s26 b12 o13 6 fun l31=>
 Ah .i64 l31 fun x34 l33=>
 Ah .i64 l33 fun x37 l36=>
 AE l36 fun x38 l39=>
 AE l39 fun x40 l41=>
 Ah .i64 l41 fun x44 l43=>
 AE l43 fun x45 l46=>
 AP l46 (
 AV (D 11 [.agg [.int .i64 x34,.int .i64 x37,x38,x40,.int .i64 x44,x45],.agg [.int .i64 (AA 0),.int .i64 (AA 0),V.nils,V.nils,.int .i64 (AA 0),V.nils]] s26) fun u47 s48=>
 AZ u47 fun x49=>
 k30 x49 s48)) (
 k30 false s26)) fun k27=>
 AK c22 (
 k27 (B4 x15 (AA 4)) s23) (
 k27 false s23)) fun k24=>
 AK x21 (
 k24 x7 s20) (
 k24 false s20)) (
 AV (D 10 [] s17) fun u50 s51=>
 AZ u50 fun x52=>
 Aa (fun c53 s54=>
 Aa (fun c56 s57=>
 Aa (fun c59 s60=>
 some ((V.bool c59),s60)) fun k61=>
 AK c56 (
 BH E s57 b12 o13 6 fun l62=>
 Ah .i64 l62 fun x65 l64=>
 Ah .i64 l64 fun x68 l67=>
 AE l67 fun x69 l70=>
 AE l70 fun x71 l72=>
 Ah .i64 l72 fun x75 l74=>
 AE l74 fun x76 l77=>
 AP l77 (
 BH E s57 b9 o10 6 fun l78=>
 Ah .i64 l78 fun x81 l80=>
 Ah .i64 l80 fun x84 l83=>
 AE l83 fun x85 l86=>
 AE l86 fun x87 l88=>
 Ah .i64 l88 fun x91 l90=>
 AE l90 fun x92 l93=>
 AP l93 (
 AV (D 11 [.agg [.int .i64 x65,.int .i64 x68,x69,x71,.int .i64 x75,x76],.agg [.int .i64 x81,.int .i64 x84,x85,x87,.int .i64 x91,x92]] s57) fun u94 s95=>
 AZ u94 fun x96=>
 k61 x96 s95))) (
 k61 false s57)) fun k58=>
 AK c53 (
 k58 (B4 x15 (AA 0)) s54) (
 k58 false s54)) fun k55=>
 AK x52 (
 k55 x7 s51) (
 k55 false s51))) fun k18=>
 AK (not x5) (
 A2 u3 fun n97=>
 k18 (C8 (AA 0) (AA n97)) s2) (
 k18 false s2)
def P5:XC:=(.seq (.z (.m 45 12<|
.m 46 0<|
.u 47 46<|
.b 48 .lss .none (.t 45) (.t 47)<|
.nil)
 (.cond (.tmp 48) .skip
 Me))
 (.seq (.block 1 (.seq (.draw (.m 51 0<|
.m 52 12<|
.s 53 1 51 52<|
.l 54 .i 53<|
.P 55 (.conv (.toInt .u64) (.t 54))<|
.b 56 .rem .none (.t 55) (.con (V.int .u64 (AA 5000)))<|
.P 57 (.conv (.toInt .i64) (.t 56))<|
.b 58 .add .none (.i 2) (.t 57)<|
.op (some 59) y4 [58] (.build [y0,y0] [(0,1,(.i 2)),(1,1,(.t 58))])<|
.m 60 0<|
.m 61 12<|
.s 62 1 60 61<|
.l 63 .i 62<|
.b 64 .and .none (.t 63) (.i 1)<|
.b 65 .eql .none (.t 64) (.i 0)<|
.m 66 1<|
.k 67 .one 8 [(.t 59),(.t 65),(.t 66)]<|
.m 13 67<|
.nil) [0,0,3,7,15,31,63,127,255,0,0,1536,3584,7680,15872,0,65535,131071])
 (.z (.m 68 10<|
.m 69 13<|
.O 70 .one (.append 5 1 1 (.t 68) (.t 69))<|
.m 10 70<|
.nil)
 (.z (.f 71 4 11<|
.op none .any [71] (.store 1 (.t 71) (.i 1))<|
.nil)
 (.ops (.f 72 5 11<|
.l 73 .any 72<|
.m 74 13<|
.op (some 75) Ue [74] (.build [y0,V.nils] [(1,1,(.t 74))])<|
.p 76 [75] (.buildSlice 47 1 [y0,V.nils] [(0,2,(.t 75))])<|
.O 77 .one (.append 47 2 32 (.t 73) (.t 76))<|
.f 78 5 11<|
.w 1 78 77<|
.nil))))))
 (.ops (.m 49 12<|
.b 50 .add .none (.t 49) (.i 1)<|
.m 12 50<|
.nil))))
def Yv (E:EB) (D:Ak) (W:AI) (K3:V->Bool->Nat->Nat->Bool->V->Nat->Nat->H->AH) (R4:V->V->Bool->Nat->Nat->Bool->V->Nat->Nat->Int->H->AH) (a b:V) (c:Bool) (d e:Nat) (f:Bool) (g:V) (h i:Nat) (j:Int) (Z:H):AH:=
 A2 a fun n1=>
 AK (C8 j (AA n1)) (
 AU 1 a j fun b2 o3=>
 Bc E Z b2 o3 fun u4=>
 Am .i64 u4 fun x5=>
 AU 1 a j fun b6 o7=>
 Bc E Z b6 o7 fun u8=>
 Am .i64 u8 fun x9=>
 AV (D 8 [.agg [.int .i64 (AA 2),.int .i64 (CR .i64 (AA 2) (An .i64 (E3 (An .u64 x5) (AA 5000))))],.bool (B4 (Eo .i64 x9 (AA 1)) (AA 0)),b] Z) fun u10 s11=>
 Ba u10 (
 DD E 1 1 g u10 s11 fun u12 s13=>
 Ba u12 (
 FW 1 h (Ap i 4) (V.int .i64 (AA 1)) s13 fun s14=>
 Bc E s14 h (Ap i 5) fun u15=>
 D8 [(1,1,u10)] [.int .i64 (AA 0),V.nils] fun l16=>
 Ah .i64 l16 fun x19 l18=>
 AE l18 fun x20 l21=>
 AP l21 (
 GW (allOne [.int .i64 x19,x20]) (
 let s22:=Br s14 (.cells [.int .i64 x19,x20]);
 DD E 2 32 u15 (V.sl (H.next s14) 0 1 (.ex 1)) s22 fun u23 s24=>
 Ba u23 (
 FW 1 h (Ap i 5) u23 s24 fun s25=>
 R4 a b c d e f u12 h i (CR .i64 j (AA 1)) s25)))))) (
 K3 a c d e f g h i Z)
def AAs (a b:V) (c:Bool) (Z:H):St:=⟨[(0,a),(1,b),(2,.bool c)],[],[],Z⟩
def sa (a b:V) (c:Bool) (d:BS) (Z:H):St:=⟨[(0,a),(1,b),(2,.bool c),(7,.str d)],[],[],Z⟩
def sZ (a b:V) (c:Bool) (d e:Nat) (f:Bool) (g:V) (h i:Nat) (Z:H):St:=⟨[(0,a),(1,b),(2,.bool c),(8,.ptr d e),(9,.bool f),(10,g),(11,.ptr h i)],[],[],Z⟩
def AAr (a:V) (b:Bool) (c d:Nat) (e:Bool) (f:V) (g h:Nat) (Z:H):St:=⟨[(0,a),(2,.bool b),(8,.ptr c d),(9,.bool e),(10,f),(11,.ptr g h)],[],[],Z⟩
def kD (a b:V) (c:Bool) (d e:Nat) (f:Bool) (g:V) (h i:Nat) (j:Int) (Z:H):St:=⟨[(0,a),(1,b),(2,.bool c),(8,.ptr d e),(9,.bool f),(10,g),(11,.ptr h i),(12,.int .i64 j)],[],[],Z⟩
theorem AGl (cc1:XC) (a b:V) (c:Bool) (Z:H) :
 AN E D W N (wH cc1) (AAs a b c Z) (Gl E) nX (Gl E) =
 VK E D W (fun a b c d Z=>AN E D W N cc1 (sa a b c d Z) (Gl E) nX (Gl E)) a b c Z:=by kernel_rfl
theorem AGk (cc2:XC) (a b:V) (c:Bool) (d:BS) (Z:H) :
 AN E D W N (gb cc2) (sa a b c d Z) (Gl E) nX (Gl E) =
 cK E D W (fun a b c e f g h i j Z=>AN E D W N cc2 (sZ a b c e f g h i j Z) (Gl E) nX (Gl E)) a b c d Z:=by kernel_rfl
theorem AGj (cc3:XC) (cc4:XC) (a b:V) (c:Bool) (d e:Nat) (f:Bool) (g:V) (h i:Nat) (Z:H) :
 AN E D W N (Vm cc3 cc4) (sZ a b c d e f g h i Z) (Gl E) nX (Gl E) =
 zq E D W (fun a b c d e f g h i j Z=>Ad (fun rec s'=>AN E D W N cc4 s' (kX yb [] [] rec) (b5a E D W N cc3) (Gl E)) N (kD a b c d e f g h i j Z)) a b c d e f g h i Z:=by kernel_rfl
theorem AGi (cc3:XC) (li4:St->AH) (a b:V) (c:Bool) (d e:Nat) (f:Bool) (g:V) (h i:Nat) (j:Int) (Z:H) :
 AN E D W N (P5 ) (kD a b c d e f g h i j Z) (kX yb [] [] li4) (b5a E D W N cc3) (Gl E) =
 Yv E D W (fun a c d e f g h i Z=>AN E D W N cc3 (AAr a c d e f g h i Z) (Gl E) nX (Gl E)) (fun a b c d e f g h i j Z=>li4 (kD a b c d e f g h i j Z)) a b c d e f g h i j Z:=by kernel_rfl
def ACG (E:EB) (D:Ak) (W:AI) (N:Nat):=j5 E D W
theorem AB4 (a:V) (b:Bool) (c d:Nat) (e:Bool) (f:V) (g h:Nat) (Z:H) :
 AN E D W N PZ (AAr a b c d e f g h Z) (Gl E) nX (Gl E)=ACG E D W N a b c d e f g h Z:=by kernel_rfl
def uO (n:Nat):V->V->Bool->Nat->Nat->Bool->V->Nat->Nat->Int->H->AH:=
 Nat.rec (fun _ _ _ _ _ _ _ _ _ _ _=>none) (fun _ ih=>Yv E D W (ACG E D W N ) ih) n
theorem ABy (n:Nat):∀(a b:V) (c:Bool) (d e:Nat) (f:Bool) (g:V) (h i:Nat) (j:Int) (Z:H),
 Ad (fun rec s'=>AN E D W N P5 s' (kX yb [] [] rec) (b5a E D W N PZ) (Gl E)) n (kD a b c d e f g h i j Z)=uO E D W N n a b c d e f g h i j Z:=by
 induction n with
 | zero=>intro a b c d e f g h i j Z;rfl
 | succ n ihn=>
  intro a b c d e f g h i j Z
  rw[Aq]
  refine(AGi E D W N PZ (Ad (fun rec s'=>AN E D W N P5 s' (kX yb [] [] rec) (b5a E D W N PZ) (Gl E)) n) a b c d e f g h i j Z).trans ?_
  simp only[ihn,AB4]
  kernel_rfl
def vi:=zq E D W (uO E D W N N)
theorem AB5 (a b:V) (c:Bool) (d e:Nat) (f:Bool) (g:V) (h i:Nat) (Z:H) :
 AN E D W N (Vm PZ P5) (sZ a b c d e f g h i Z) (Gl E) nX (Gl E)=vi E D W N a b c d e f g h i Z:=by
 refine(AGj E D W N PZ P5  a b c d e f g h i Z).trans ?_
 simp only[ABy]
 kernel_rfl
def Yz:=cK E D W (vi E D W N )
theorem AB6 (a b:V) (c:Bool) (d:BS) (Z:H) :
 AN E D W N (gb (Vm PZ P5)) (sa a b c d Z) (Gl E) nX (Gl E)=Yz E D W N a b c d Z:=by
 refine(AGk E D W N (Vm PZ P5)  a b c d Z).trans ?_
 simp only[AB5]
 kernel_rfl
def ACH:=VK E D W (Yz E D W N )
theorem AB7 (a b:V) (c:Bool) (Z:H) :
 AN E D W N (wH (gb (Vm PZ P5))) (AAs a b c Z) (Gl E) nX (Gl E)=ACH E D W N a b c Z:=by
 refine(AGl E D W N (gb (Vm PZ P5))  a b c Z).trans ?_
 simp only[AB6]
 kernel_rfl
def F5 (args:List V) (Z:H):AH:=
 AE args fun x1 l2=>
 AE l2 fun x3 l4=>
 DQ l4 fun x7 l6=>
 AP l6 (
 ACH E D W N x1 x3 x7 Z)
def A5:DR:=⟨120,[.any,.any,.bool],[(.tmp 6)],(wH (gb (Vm PZ P5)))⟩
theorem FE5 (args:List V) (Z:H):Bq E D W N A5 args Z=F5 E D W N args Z:=by
 unfold F5
 simp only[<-AB7]
 kernel_rfl
def MU (E:EB):St->AH:=fun s=>DF E s [(.tmp 2)] fun l=>some (Da l,s.Z)
def b7a (c0:XC):Nat->St->AH:=BY 0 (dX E D W N (.keep [(3,.any)] [] [] c0) (MU E) nX (MU E)) nX
def wG (cc1:XC) (cc2:XC):XC:=(.z (.c 2 V.nils<|
.nil)
 (.z (.m 4 0<|
.P 5 (.conv (.toInt .u8) (.t 4))<|
.p 6 [5] (.buildSlice 5 1 [y5] [(0,1,(.t 5))])<|
.m 3 6<|
.nil)
 (.seq (.block 0 (.loop [(0,.i),(3,.any)] [] [] cc2))
 (.keep [(3,.any)] [] [] cc1))))
def zg (E:EB) (D:Ak) (W:AI) (K2:Int->V->H->AH) (a:Int) (Z:H):AH:=
 let s1:=Br Z (.cells [.int .u8 (An .u8 a)]);
 K2 a (V.sl (H.next Z) 0 1 (.ex 1)) s1
def Vl:XC:=(.z (.m 20 3<|
.m 2 20<|
.nil)
 .ret)
def AFj (E:EB) (D:Ak) (W:AI) (a:V) (Z:H):AH:=
 some (a,Z)
def Y9:XC:=(.seq (.z (.m 7 0<|
.b 8 .lss .none (.t 7) (.con (V.int .i64 (BQ 127)))<|
.m 9 8<|
.gO 9 false (.p 10 [0,9] y9<|
.p 11 [10,9] (.bin .gtr .none (.t 10) (.i 127))<|
.nil) 12 9 11<|
.nil)
 (.cond (.tmp 12) .skip
 Me))
 (.block 1 (.z (.m 13 0<|
.b 14 .shr .none (.t 13) (.con (V.int .u64 (AA 8)))<|
.m 0 14<|
.nil)
 (.ops (.m 15 0<|
.P 16 (.conv (.toInt .u8) (.t 15))<|
.p 17 [16] (.buildSlice 5 1 [y5] [(0,1,(.t 16))])<|
.m 18 3<|
.O 19 .one (.append 5 1 1 (.t 17) (.t 18))<|
.m 3 19<|
.nil)))))
def zf (E:EB) (D:Ak) (W:AI) (K1:V->H->AH) (R2:Int->V->H->AH) (a:Int) (b:V) (Z:H):AH:=
 Aa (fun c1 s2=>
 AK c1 (
 let s4:=Br s2 (.cells [.int .u8 (An .u8 (GB .i64 a 8))]);
 DD E 1 1 (V.sl (H.next s2) 0 1 (.ex 1)) b s4 fun u5 s6=>
 Ba u5 (
 R2 (GB .i64 a 8) u5 s6)) (
 K1 b s2)) fun k3=>
 AK (C8 a (BQ 127)) (
 k3 true Z) (
 k3 (C8 (AA 127) a) Z)
def AAq (a:Int) (Z:H):St:=⟨[(0,.int .i64 a)],[],[],Z⟩
def AAp (a:V) (Z:H):St:=⟨[(3,a)],[],[],Z⟩
def kC (a:Int) (b:V) (Z:H):St:=⟨[(0,.int .i64 a),(3,b)],[],[],Z⟩
theorem AGh (cc1:XC) (cc2:XC) (a:Int) (Z:H) :
 AN E D W N (wG cc1 cc2) (AAq a Z) (MU E) nX (MU E) =
 zg E D W (fun a b Z=>Ad (fun rec s'=>AN E D W N cc2 s' (kX [(0,.i),(3,.any)] [] [] rec) (b7a E D W N cc1) (MU E)) N (kC a b Z)) a Z:=by kernel_rfl
theorem AGg (cc1:XC) (li2:St->AH) (a:Int) (b:V) (Z:H) :
 AN E D W N (Y9 ) (kC a b Z) (kX [(0,.i),(3,.any)] [] [] li2) (b7a E D W N cc1) (MU E) =
 zf E D W (fun b Z=>AN E D W N cc1 (AAp b Z) (MU E) nX (MU E)) (fun a b Z=>li2 (kC a b Z)) a b Z:=by kernel_rfl
def ACD (E:EB) (D:Ak) (W:AI) (N:Nat):=AFj E D W
theorem AB2 (a:V) (Z:H) :
 AN E D W N Vl (AAp a Z) (MU E) nX (MU E)=ACD E D W N a Z:=by kernel_rfl
def AB0 (n:Nat):Int->V->H->AH:=
 Nat.rec (fun _ _ _=>none) (fun _ ih=>zf E D W (ACD E D W N ) ih) n
theorem ABx (n:Nat):∀(a:Int) (b:V) (Z:H),
 Ad (fun rec s'=>AN E D W N Y9 s' (kX [(0,.i),(3,.any)] [] [] rec) (b7a E D W N Vl) (MU E)) n (kC a b Z)=AB0 E D W N n a b Z:=by
 induction n with
 | zero=>intro a b Z;rfl
 | succ n ihn=>
  intro a b Z
  rw[Aq]
  refine(AGg E D W N Vl (Ad (fun rec s'=>AN E D W N Y9 s' (kX [(0,.i),(3,.any)] [] [] rec) (b7a E D W N Vl) (MU E)) n) a b Z).trans ?_
  simp only[ihn,AB2]
  kernel_rfl
def ACE:=zg E D W (AB0 E D W N N)
theorem AB3 (a:Int) (Z:H) :
 AN E D W N (wG Vl Y9) (AAq a Z) (MU E) nX (MU E)=ACE E D W N a Z:=by
 refine(AGh E D W N Vl Y9  a Z).trans ?_
 simp only[ABx]
 kernel_rfl
def F7 (args:List V) (Z:H):AH:=
 Ah .i64 args fun x3 l2=>
 AP l2 (
 ACE E D W N x3 Z)
def A7:DR:=⟨21,[.i],[(.tmp 2)],(wG Vl Y9)⟩
theorem FE7 (args:List V) (Z:H):Bq E D W N A7 args Z=F7 E D W N args Z:=by
 unfold F7
 simp only[<-AB3]
 kernel_rfl
def AIM:XC:=(.z (.P 3 (.box 38 (.t 0))<|
.c 6 V.nils<|
.nil)
 (.z (.O 7 y4 (.load (some 2) (.t 3))<|
.m 8 1<|
.m 9 2<|
.u 10 9<|
.k 11 .one 14 [(.t 7),(.t 8),(.t 10)]<|
.m 12 2<|
.O 13 .one (.append 5 1 1 (.t 11) (.t 12))<|
.m 6 13<|
.nil)
 .ret))
def sB (E:EB) (D:Ak) (W:AI) (a b:Int) (c:Bool) (d:V) (Z:H):AH:=
 Gn [.int .i64 a,.int .i64 b] Z fun s1=>
 BH E s1 (H.next Z) 0 2 fun l2=>
 Ah .i64 l2 fun x5 l4=>
 Ah .i64 l4 fun x8 l7=>
 AP l7 (
 A2 d fun n9=>
 AV (D 14 [.agg [.int .i64 x5,.int .i64 x8],.bool c,.int .i64 (AA n9)] s1) fun u10 s11=>
 Ba u10 (
 DD E 1 1 u10 d s11 fun u12 s13=>
 Ba u12 (
 some (u12,s13))))
def F8 (N:Nat) (args:List V) (Z:H):AH:=
 AE args fun x1 l2=>
 Bm x1 fun l3=>
 Ah .i64 l3 fun x6 l5=>
 Ah .i64 l5 fun x9 l8=>
 AP l8 (
 DQ l2 fun x12 l11=>
 AE l11 fun x13 l14=>
 AP l14 (
 sB E D W x6 x9 x12 x13 Z))
def A8:DR:=⟨14,[y4,.bool,.any],[(.tmp 6)],AIM⟩
theorem FE8 (args:List V) (Z:H):Bq E D W N A8 args Z=F8 E D W N args Z:=by kernel_rfl
def AIL:XC:=(.z (.P 3 (.box 26 (.t 0))<|
.pal 6 [] 34 [y0,y0,V.nils,V.nils,y0,V.nils]<|
.q 7 0<|
.nil)
 (.seq (.block 0 (.z (.m 13 1<|
.b 14 .lss .none (.t 13) (.i 0)<|
.m 15 14<|
.gO 15 false (.p 16 [1,15] Jd<|
.p 17 [3,15] (.faddr 3 (.t 3))<|
.p 18 [17,15] (.load none (.t 17))<|
.p 19 [18,15] (.len false (.t 18))<|
.p 20 [16,19,15] (.bin .geq .none (.t 16) (.t 19))<|
.nil) 21 15 20<|
.m 12 21<|
.nil)
 (.cond (.tmp 12) (.z (.op (some 22) y1 [] (.build [y0,y0,V.nils,V.nils,y0,V.nils] [])<|
.op none y1 [6,22] (.store 6 (.t 6) (.t 22))<|
.q 7 9<|
.nil)
 .ret)
 (.z (.m 24 2<|
.u 25 24<|
.b 26 .gtr .none (.t 25) (.i 70000)<|
.m 23 26<|
.nil)
 (.cond (.tmp 23) (.z (.op (some 27) y1 [] (.build [y0,y0,V.nils,V.nils,y0,V.nils] [])<|
.op none y1 [6,27] (.store 6 (.t 6) (.t 27))<|
.q 7 5<|
.nil)
 .ret)
 .skip)))))
 (.z (.O 28 y6 (.load (some 4) (.t 3))<|
.op (some 29) (.agg [.bool,.str,.any,.any,.any]) [28] (.build [y3,y8,V.nils,V.nils,V.nils] [(1,4,(.t 28))])<|
.P 30 (.box 61 (.t 29))<|
.m 8 30<|
.nil)
 (.z (.m 31 8<|
.m 32 1<|
.m 33 2<|
.k 34 y1 15 [(.t 31),(.t 32),(.t 33),(.i 1)]<|
.pal 9 [] 34 [y0,y0,V.nils,V.nils,y0,V.nils]<|
.op none y1 [9,34] (.store 6 (.t 9) (.t 34))<|
.nil)
 (.seq (.z (.m 35 8<|
.n 36 35<|
.f 37 0 36<|
.f 38 0 37<|
.l 39 .bool 38<|
.nil)
 (.cond (.tmp 39) (.z (.op (some 40) y1 [] (.build [y0,y0,V.nils,V.nils,y0,V.nils] [])<|
.op none y1 [6,40] (.store 6 (.t 6) (.t 40))<|
.q 7 4<|
.nil)
 .ret)
 .skip))
 (.seq (.z (.O 42 y6 (.load (some 4) (.t 3))<|
.m 43 1<|
.O 44 y1 (.load (some 6) (.t 9))<|
.k 45 (.tup [.any,.i]) 16 [(.t 42),(.t 43),(.t 44)]<|
.m 41 45<|
.P 46 (.extract 0 (.t 41))<|
.P 47 (.extract 1 (.t 41))<|
.m 10 46<|
.m 11 47<|
.nil)
 (.z (.m 48 11<|
.b 49 .neq .none (.t 48) (.i 0)<|
.m 50 49<|
.gO 50 false (.p 51 [10,50] (.mov (.t 10))<|
.p 52 [2,50] (.mov (.t 2))<|
.op (some 53) .bool [51,52,50] (.call 17 [(.t 51),(.t 52)])<|
.p 54 [53,50] (.un .not (.t 53))<|
.nil) 55 50 54<|
.nil)
 (.cond (.tmp 55) (.z (.op (some 56) y1 [] (.build [y0,y0,V.nils,V.nils,y0,V.nils] [])<|
.op none y1 [6,56] (.store 6 (.t 6) (.t 56))<|
.q 7 4<|
.nil)
 .ret)
 .skip)))
 (.z (.O 57 y1 (.load (some 6) (.t 9))<|
.op none y1 [6,57] (.store 6 (.t 6) (.t 57))<|
.q 7 0<|
.nil)
 .ret)))))))
def bz (E:EB) (D:Ak) (W:AI) (a:BS) (b c d:V) (e:Int) (f:V) (Z:H):AH:=
 Gn [.str a,b,c,d] Z fun s1=>
 Aa (fun c2 s3=>
 AK c2 (
 some ((V.tup [.agg [.int .i64 (AA 0),.int .i64 (AA 0),V.nils,V.nils,.int .i64 (AA 0),V.nils],.int .i64 (AA 9)]),s3)) (
 A2 f fun n5=>
 AK (C8 (AA 70000) (AA n5)) (
 some ((V.tup [.agg [.int .i64 (AA 0),.int .i64 (AA 0),V.nils,V.nils,.int .i64 (AA 0),V.nils],.int .i64 (AA 5)]),s3)) (
 BH E s3 (H.next Z) 0 4 fun l6=>
 IZ l6 fun x9 l8=>
 AE l8 fun x10 l11=>
 AE l11 fun x12 l13=>
 AE l13 fun x14 l15=>
 AP l15 (
 Gn [.bool false,.str x9,x10,x12,x14] s3 fun s16=>
 AV (D 15 [.ptr (H.next s3) 0,.int .i64 e,f,.int .i64 (AA 1)] s16) fun u17 s18=>
 Bm u17 fun l19=>
 Ah .i64 l19 fun x22 l21=>
 Ah .i64 l21 fun x25 l24=>
 AE l24 fun x26 l27=>
 AE l27 fun x28 l29=>
 Ah .i64 l29 fun x32 l31=>
 AE l31 fun x33 l34=>
 AP l34 (
 GW (allOne [.int .i64 x22,.int .i64 x25,x26,x28,.int .i64 x32,x33]) (
 Bc E s18 (H.next s3) 0 fun u35=>
 AZ u35 fun x36=>
 AK x36 (
 some ((V.tup [.agg [.int .i64 (AA 0),.int .i64 (AA 0),V.nils,V.nils,.int .i64 (AA 0),V.nils],.int .i64 (AA 4)]),s18)) (
 BH E s18 (H.next Z) 0 4 fun l37=>
 IZ l37 fun x40 l39=>
 AE l39 fun x41 l42=>
 AE l42 fun x43 l44=>
 AE l44 fun x45 l46=>
 AP l46 (
 AV (D 16 [.agg [.str x40,x41,x43,x45],.int .i64 e,.agg [.int .i64 x22,.int .i64 x25,x26,x28,.int .i64 x32,x33]] s18) fun u47 s48=>
 DH u47 fun l49=>
 AE l49 fun x50 l51=>
 Ah .i64 l51 fun x54 l53=>
 AP l53 (
 Aa (fun c55 s56=>
 AK c55 (
 some ((V.tup [.agg [.int .i64 (AA 0),.int .i64 (AA 0),V.nils,V.nils,.int .i64 (AA 0),V.nils],.int .i64 (AA 4)]),s56)) (
 GW (allOne [.int .i64 x22,.int .i64 x25,x26,x28,.int .i64 x32,x33]) (
 some ((V.tup [.agg [.int .i64 x22,.int .i64 x25,x26,x28,.int .i64 x32,x33],.int .i64 (AA 0)]),s56)))) fun k57=>
 AK (not (B4 x54 (AA 0))) (
 k57 true s48) (
 AV (D 17 [x50,f] s48) fun u58 s59=>
 AZ u58 fun x60=>
 k57 (not x60) s59)))))))))) fun k4=>
 AK (C8 e (AA 0)) (
 k4 true s1) (
 Bc E s1 (H.next Z) 3 fun u61=>
 A2 u61 fun n62=>
 k4 (Hp (AA n62) e) s1)
def F9 (N:Nat) (args:List V) (Z:H):AH:=
 AE args fun x1 l2=>
 Bm x1 fun l3=>
 IZ l3 fun x6 l5=>
 AE l5 fun x7 l8=>
 AE l8 fun x9 l10=>
 AE l10 fun x11 l12=>
 AP l12 (
 Ah .i64 l2 fun x15 l14=>
 AE l14 fun x16 l17=>
 AP l17 (
 bz E D W x6 x7 x9 x11 x15 x16 Z))
def A9:DR:=⟨58,[y6,.i,.any],[(.cell 6 (some 6)),(.tmp 7)],AIL⟩
theorem FE9 (args:List V) (Z:H):Bq E D W N A9 args Z=F9 E D W N args Z:=by kernel_rfl
def AEL:XC:=(.z (.P 2 (.box 34 (.t 0))<|
.P 3 (.box 34 (.t 1))<|
.c 4 y3<|
.nil)
 (.z (.f 5 0 2<|
.l 6 .i 5<|
.f 7 0 3<|
.l 8 .i 7<|
.b 9 .eql .none (.t 6) (.t 8)<|
.m 10 9<|
.gA 10 true (.p 11 [2,10] (.faddr 1 (.t 2))<|
.op (some 12) .i [11,10] (.load none (.t 11))<|
.p 13 [3,10] (.faddr 1 (.t 3))<|
.op (some 14) .i [13,10] (.load none (.t 13))<|
.p 15 [12,14,10] (.bin .eql .none (.t 12) (.t 14))<|
.nil) 16 10 15<|
.m 17 16<|
.gA 17 true (.p 18 [2,17] (.faddr 2 (.t 2))<|
.p 19 [18,17] (.load none (.t 18))<|
.p 20 [3,17] (.faddr 2 (.t 3))<|
.p 21 [20,17] (.load none (.t 20))<|
.op (some 22) .bool [19,21,17] (.call 18 [(.t 19),(.t 21)])<|
.nil) 23 17 22<|
.m 24 23<|
.gA 24 true (.p 25 [2,24] (.faddr 3 (.t 2))<|
.p 26 [25,24] (.load none (.t 25))<|
.p 27 [3,24] (.faddr 3 (.t 3))<|
.p 28 [27,24] (.load none (.t 27))<|
.op (some 29) .bool [26,28,24] (.call 19 [(.t 26),(.t 28),(.con (V.fn 11 [] []))])<|
.nil) 30 24 29<|
.m 31 30<|
.gA 31 true (.p 32 [2,31] (.faddr 4 (.t 2))<|
.op (some 33) .i [32,31] (.load none (.t 32))<|
.p 34 [3,31] (.faddr 4 (.t 3))<|
.op (some 35) .i [34,31] (.load none (.t 34))<|
.p 36 [33,35,31] (.bin .eql .none (.t 33) (.t 35))<|
.nil) 37 31 36<|
.m 38 37<|
.gA 38 true (.p 39 [2,38] (.faddr 5 (.t 2))<|
.p 40 [39,38] (.load none (.t 39))<|
.p 41 [3,38] (.faddr 5 (.t 3))<|
.p 42 [41,38] (.load none (.t 41))<|
.op (some 43) .bool [40,42,38] (.call 20 [(.t 40),(.t 42),(.con (V.fn 21 [] []))])<|
.nil) 44 38 43<|
.m 4 44<|
.nil)
 .ret))
def UB (E:EB) (D:Ak) (W:AI) (a b:Int) (c d:V) (e:Int) (f:V) (g h:Int) (i j:V) (k:Int) (l:V) (Z:H):AH:=
 Gn [.int .i64 a,.int .i64 b,c,d,.int .i64 e,f] Z fun s1=>
 Gn [.int .i64 g,.int .i64 h,i,j,.int .i64 k,l] s1 fun s2=>
 Bc E s2 (H.next Z) 0 fun u3=>
 Am .i64 u3 fun x4=>
 Bc E s2 (H.next s1) 0 fun u5=>
 Am .i64 u5 fun x6=>
 Aa (fun c7 s8=>
 Aa (fun c10 s11=>
 Aa (fun c13 s14=>
 Aa (fun c16 s17=>
 Aa (fun c19 s20=>
 some ((V.bool c19),s20)) fun k21=>
 AK c16 (
 Bc E s17 (H.next Z) 5 fun u22=>
 Bc E s17 (H.next s1) 5 fun u23=>
 AV (D 20 [u22,u23,.fn 21 [] []] s17) fun u24 s25=>
 AZ u24 fun x26=>
 k21 x26 s25) (
 k21 false s17)) fun k18=>
 AK c13 (
 Bc E s14 (H.next Z) 4 fun u27=>
 Am .i64 u27 fun x28=>
 Bc E s14 (H.next s1) 4 fun u29=>
 Am .i64 u29 fun x30=>
 k18 (B4 x28 x30) s14) (
 k18 false s14)) fun k15=>
 AK c10 (
 Bc E s11 (H.next Z) 3 fun u31=>
 Bc E s11 (H.next s1) 3 fun u32=>
 AV (D 19 [u31,u32,.fn 11 [] []] s11) fun u33 s34=>
 AZ u33 fun x35=>
 k15 x35 s34) (
 k15 false s11)) fun k12=>
 AK c7 (
 Bc E s8 (H.next Z) 2 fun u36=>
 Bc E s8 (H.next s1) 2 fun u37=>
 AV (D 18 [u36,u37] s8) fun u38 s39=>
 AZ u38 fun x40=>
 k12 x40 s39) (
 k12 false s8)) fun k9=>
 AK (B4 x4 x6) (
 Bc E s2 (H.next Z) 1 fun u41=>
 Am .i64 u41 fun x42=>
 Bc E s2 (H.next s1) 1 fun u43=>
 Am .i64 u43 fun x44=>
 k9 (B4 x42 x44) s2) (
 k9 false s2)
def wB (N:Nat) (args:List V) (Z:H):AH:=
 AE args fun x1 l2=>
 Bm x1 fun l3=>
 Ah .i64 l3 fun x6 l5=>
 Ah .i64 l5 fun x9 l8=>
 AE l8 fun x10 l11=>
 AE l11 fun x12 l13=>
 Ah .i64 l13 fun x16 l15=>
 AE l15 fun x17 l18=>
 AP l18 (
 AE l2 fun x19 l20=>
 Bm x19 fun l21=>
 Ah .i64 l21 fun x24 l23=>
 Ah .i64 l23 fun x27 l26=>
 AE l26 fun x28 l29=>
 AE l29 fun x30 l31=>
 Ah .i64 l31 fun x34 l33=>
 AE l33 fun x35 l36=>
 AP l36 (
 AP l20 (
 UB E D W x6 x9 x10 x12 x16 x17 x24 x27 x28 x30 x34 x35 Z)))
def A11:DR:=⟨45,[y1,y1],[(.tmp 4)],AEL⟩
theorem AHi (args:List V) (Z:H):Bq E D W N A11 args Z=wB E D W N args Z:=by kernel_rfl
def AEK (cc1:XC):XC:=(.z (.P 3 (.box 38 (.t 0))<|
.c 6 V.nils<|
.nil)
 (.z (.f 12 0 3<|
.l 13 .i 12<|
.b 14 .and .none (.t 13) (.i 3)<|
.P 15 (.conv (.toInt .u8) (.t 14))<|
.b 16 .shl .none (.t 15) (.con (V.int .u64 (AA 6)))<|
.m 7 16<|
.nil)
 (.seq (.z (.m 17 1<|
.nil)
 (.cond (.tmp 17) (.ops (.m 18 7<|
.b 19 .or .none (.t 18) (.con (V.int .u8 (AA 32)))<|
.m 7 19<|
.nil))
 .skip))
 (.keep [(2,.i),(3,.ptr),(7,(.int .u8))] [] [] cc1))))
def ch (E:EB) (D:Ak) (W:AI) (K1:Int->Nat->Nat->Int->H->AH) (a b:Int) (c:Bool) (d:Int) (Z:H):AH:=
 Gn [.int .i64 a,.int .i64 b] Z fun s1=>
 Bc E s1 (H.next Z) 0 fun u2=>
 Am .i64 u2 fun x3=>
 AK c (
 K1 d (H.next Z) 0 (Gq .u8 (JV .u8 (An .u8 (Eo .i64 x3 (AA 3))) 6) (AA 32)) s1) (
 K1 d (H.next Z) 0 (JV .u8 (An .u8 (Eo .i64 x3 (AA 3))) 6) s1)
def AEJ (cc2:XC):XC:=(.z (.f 20 1 3<|
.l 21 .i 20<|
.p 22 [21] (.max (.i 0) [(.t 21)])<|
.m 8 22<|
.nil)
 (.z (.c 9 V.nils<|
.nil)
 (.seq (.z (.m 23 8<|
.b 24 .lss .none (.t 23) (.i 31)<|
.nil)
 (.cond (.tmp 24) (.ops (.m 25 7<|
.m 26 8<|
.P 27 (.conv (.toInt .u8) (.t 26))<|
.b 28 .or .none (.t 25) (.t 27)<|
.p 29 [28] (.buildSlice 5 1 [y5] [(0,1,(.t 28))])<|
.m 9 29<|
.nil))
 (.ops (.m 30 7<|
.b 31 .or .none (.t 30) (.con (V.int .u8 (AA 31)))<|
.p 32 [31] (.buildSlice 5 1 [y5] [(0,1,(.t 31))])<|
.m 33 8<|
.P 34 (.conv (.toInt .u64) (.t 33))<|
.k 35 .one 31 [(.t 34)]<|
.O 36 .one (.append 5 1 1 (.t 32) (.t 35))<|
.m 9 36<|
.nil))))
 (.keep [(2,.i),(9,.any)] [] [] cc2))))
def Ql (E:EB) (D:Ak) (W:AI) (K2:Int->V->H->AH) (a:Int) (b c:Nat) (d:Int) (Z:H):AH:=
 Bc E Z b (Ap c 1) fun u1=>
 Am .i64 u1 fun x2=>
 AK (C8 (Ke (AA 0) x2) (AA 31)) (
 let s3:=Br Z (.cells [.int .u8 (Gq .u8 d (An .u8 (Ke (AA 0) x2)))]);
 K2 a (V.sl (H.next Z) 0 1 (.ex 1)) s3) (
 let s4:=Br Z (.cells [.int .u8 (Gq .u8 d (AA 31))]);
 AV (D 31 [.int .u64 (An .u64 (Ke (AA 0) x2))] s4) fun u5 s6=>
 Ba u5 (
 DD E 1 1 (V.sl (H.next Z) 0 1 (.ex 1)) u5 s6 fun u7 s8=>
 Ba u7 (
 K2 a u7 s8)))
def AEI:XC:=(.z (.m 37 2<|
.p 38 [37] (.max (.i 0) [(.t 37)])<|
.m 10 38<|
.nil)
 (.seq (.z (.m 39 10<|
.b 40 .lss .none (.t 39) (.i 128)<|
.nil)
 (.cond (.tmp 40) (.z (.m 41 9<|
.m 42 10<|
.P 43 (.conv (.toInt .u8) (.t 42))<|
.p 44 [43] (.buildSlice 5 1 [y5] [(0,1,(.t 43))])<|
.O 45 .one (.append 5 1 1 (.t 41) (.t 44))<|
.m 6 45<|
.nil)
 .ret)
 .skip))
 (.z (.m 46 10<|
.P 47 (.conv (.toInt .u64) (.t 46))<|
.k 48 .one 32 [(.t 47)]<|
.m 11 48<|
.nil)
 (.z (.m 49 9<|
.m 50 11<|
.u 51 50<|
.P 52 (.conv (.toInt .u8) (.t 51))<|
.b 53 .or .none lj (.t 52)<|
.p 54 [53] (.buildSlice 5 1 [y5] [(0,1,(.t 53))])<|
.O 55 .one (.append 5 1 1 (.t 49) (.t 54))<|
.m 9 55<|
.nil)
 (.z (.m 56 9<|
.m 57 11<|
.O 58 .one (.append 5 1 1 (.t 56) (.t 57))<|
.m 6 58<|
.nil)
 .ret)))))
def Qk (E:EB) (D:Ak) (W:AI) (a:Int) (b:V) (Z:H):AH:=
 AK (C8 (Ke (AA 0) a) (AA 128)) (
 let s1:=Br Z (.cells [.int .u8 (An .u8 (Ke (AA 0) a))]);
 DD E 1 1 b (V.sl (H.next Z) 0 1 (.ex 1)) s1 fun u2 s3=>
 Ba u2 (
 some (u2,s3))) (
 AV (D 32 [.int .u64 (An .u64 (Ke (AA 0) a))] Z) fun u4 s5=>
 Ba u4 (
 A2 u4 fun n6=>
 let s7:=Br s5 (.cells [.int .u8 (Gq .u8 (AA 128) (An .u8 (AA n6)))]);
 DD E 1 1 b (V.sl (H.next s5) 0 1 (.ex 1)) s7 fun u8 s9=>
 Ba u8 (
 DD E 1 1 u8 u4 s9 fun u10 s11=>
 Ba u10 (
 some (u10,s11)))))
def ACR (E:EB) (D:Ak) (W:AI) (N:Nat):=Qk E D W
def ACS:=Ql E D W (ACR E D W N )
def vz (args:List V) (Z:H):AH:=
 AE args fun x1 l2=>
 Bm x1 fun l3=>
 Ah .i64 l3 fun x6 l5=>
 Ah .i64 l5 fun x9 l8=>
 AP l8 (
 DQ l2 fun x12 l11=>
 Ah .i64 l11 fun x15 l14=>
 AP l14 (
 ch E D W (ACS E D W N ) x6 x9 x12 x15 Z))
def A14:DR:=⟨59,[y4,.bool,.i],[(.tmp 6)],(AEK (AEJ AEI))⟩
theorem AHh (args:List V) (Z:H):Bq E D W N A14 args Z=vz E D W N args Z:=by kernel_rfl
def YA:List (Nat × C6):=[(0,.ptr),(3,.i),(8,.ptr),(9,.ptr),(11,.ptr),(130,.any),(131,.i),(132,.i)]
def ye:List (Nat × C6):=[(8,.ptr),(11,.ptr)]
def qL:List BM:=[⟨(some 141),.faddr 3 (.tmp 11),none⟩,⟨(some 142),.load none (.tmp 141),none⟩,⟨(some 143),.mov (.tmp 0),none⟩,⟨(some 144),.faddr 12 (.tmp 9),none⟩,⟨(some 145),.load none (.tmp 144),none⟩,⟨(some 146),.mov (.tmp 14),none⟩,⟨(some 147),.mov (.tmp 3),none⟩,⟨(some 148),.bin .add .none (.tmp 147) (.con (V.int .i64 (AA 1))),none⟩,⟨(some 149),.call 15 [(.tmp 143),(.tmp 145),(.tmp 146),(.tmp 148)],none⟩,⟨(some 150),.buildSlice 34 1 [(V.int .i64 (AA 0)),(V.int .i64 (AA 0)),V.nils,V.nils,(V.int .i64 (AA 0)),V.nils] [(0,6,(.tmp 149))],none⟩,⟨(some 151),.append 34 6 96 (.tmp 142) (.tmp 150),none⟩,⟨(some 152),.faddr 3 (.tmp 11),none⟩,⟨none,.store 1 (.tmp 152) (.tmp 151),none⟩]
def qJ:List DP:=[⟨0,[11]⟩,⟨1,[141]⟩,⟨0,[0]⟩,⟨0,[9]⟩,⟨8,[144]⟩,⟨0,[14]⟩,⟨0,[3]⟩,⟨64,[147]⟩,⟨252,[143,145,146,148]⟩,⟨508,[149]⟩,⟨1023,[142,150]⟩,⟨2047,[11]⟩,⟨4095,[152,151]⟩]
def Q8:List BM:=[⟨(some 157),.mov (.tmp 0),none⟩,⟨(some 158),.load (some 13) (.tmp 9),none⟩,⟨(some 159),.mov (.tmp 0),none⟩,⟨(some 160),.nilck (.tmp 159),none⟩,⟨(some 161),.faddr 0 (.tmp 160),none⟩,⟨(some 162),.mov (.tmp 10),none⟩,⟨(some 163),.call 38 [(.tmp 161),(.tmp 162)],none⟩,⟨(some 164),.mov (.tmp 3),none⟩,⟨(some 165),.call 39 [(.tmp 157),(.tmp 158),(.tmp 163),(.tmp 164)],none⟩,⟨none,.store 6 (.tmp 8) (.tmp 165),none⟩]
def UU:List DP:=[⟨0,[0]⟩,⟨0,[9]⟩,⟨0,[0]⟩,⟨4,[159]⟩,⟨12,[160]⟩,⟨0,[10]⟩,⟨60,[161,162]⟩,⟨0,[3]⟩,⟨255,[157,158,163,164]⟩,⟨511,[8,165]⟩]
def DY (E:EB):St->AH:=fun s=>DF E s [(.cell 8 (some 6))] fun l=>some (Da l,s.Z)
def Ir (c0:XC):St->AH:=dX E D W N (.keep ye [] [] c0) (DY E) nX (DY E)
def iA (cc1:XC):XC:=(.z (.p 8 [] ZJ<|
.nil)
 (.seq (.z (.m 15 1<|
.b 16 .lss .none (.t 15) (.i 0)<|
.m 17 16<|
.gO 17 false (.p 18 [1,17] Jd<|
.p 19 [0,17] y9<|
.p 20 [19,17] (.nilck (.t 19))<|
.p 21 [20,17] (.faddr 1 (.t 20))<|
.p 22 [21,17] (.faddr 3 (.t 21))<|
.p 23 [22,17] (.load none (.t 22))<|
.p 24 [23,17] (.len false (.t 23))<|
.p 25 [18,24,17] (.bin .geq .none (.t 18) (.t 24))<|
.nil) 26 17 25<|
.m 27 26<|
.gO 27 false (.p 28 [3,27] (.mov (.t 3))<|
.p 29 [28,27] (.bin .gtr .none (.t 28) (.i 17))<|
.nil) 30 27 29<|
.nil)
 (.cond (.tmp 30) (.ops (.m 31 0<|
.n 32 31<|
.f 33 0 32<|
.f 34 0 33<|
.op none .any [34] (.store 1 (.t 34) Pw)<|
.nil))
 .skip))
 (.keep [(0,.ptr),(1,.i),(2,.any),(3,.i),(8,.ptr)] [] [] cc1)))
def Nk (E:EB) (D:Ak) (W:AI) (K1:Nat->Nat->Int->V->Int->Nat->Nat->H->AH) (a b:Nat) (c:Int) (d:V) (e:Int) (Z:H):AH:=
 let s1:=Br Z (.cells [.int .i64 (AA 0),.int .i64 (AA 0),V.nils,V.nils,.int .i64 (AA 0),V.nils]);
 Aa (fun c2 s3=>
 Aa (fun c5 s6=>
 AK c5 (
 FW 1 a b (V.bool true) s6 fun s8=>
 K1 a b c d e (H.next Z) 0 s8) (
 K1 a b c d e (H.next Z) 0 s6)) fun k7=>
 AK c2 (
 k7 true s3) (
 k7 (C8 (AA 17) e) s3)) fun k4=>
 AK (C8 c (AA 0)) (
 k4 true s1) (
 Bc E s1 a (Ap (Ap b 1) 3) fun u9=>
 A2 u9 fun n10=>
 k4 (Hp (AA n10) c) s1)
def Ua (cc2:XC) (cc3:XC):XC:=(.seq (.z (.m 35 0<|
.n 36 35<|
.f 37 0 36<|
.f 38 0 37<|
.l 39 .bool 38<|
.nil)
 (.cond (.tmp 39) (.z (.op (some 40) y1 [] (.build [y0,y0,V.nils,V.nils,y0,V.nils] [])<|
.op none y1 [8,40] (.store 6 (.t 8) (.t 40))<|
.nil)
 .ret)
 .skip))
 (.z (.m 41 0<|
.n 42 41<|
.f 43 1 42<|
.f 44 3 43<|
.l 45 .any 44<|
.m 46 1<|
.s 47 13 45 46<|
.O 48 y2 (.load (some 13) (.t 47))<|
.p 9 [] (.alloc 97 [y0,V.nils,y3,y3,y3,y3,y0,y0,V.nils,V.nils,y0,y3,y0])<|
.op none y2 [9,48] (.store 13 (.t 9) (.t 48))<|
.nil)
 (.seq (.draw (.m 49 0<|
.n 50 49<|
.f 51 0 50<|
.f 52 1 9<|
.l 53 .any 52<|
.m 54 2<|
.k 55 .one 33 [(.t 51),(.t 53),(.t 54)]<|
.m 10 55<|
.nil) [0,1,3,0,8,0,63,127])
 (.z (.f 56 0 9<|
.l 57 .i 56<|
.op (some 58) y1 [57] (.build [y0,y0,V.nils,V.nils,y0,V.nils] [(0,1,(.t 57))])<|
.p 11 [] ZJ<|
.op none y1 [11,58] (.store 6 (.t 11) (.t 58))<|
.nil)
 (.seq (.z (.f 59 0 9<|
.l 60 .i 59<|
.nil)
 (.block 0 (.z (.b 62 .eql .none (.t 60) (.i 1)<|
.m 61 62<|
.nil)
 (.cond (.tmp 61) (.z (.m 63 10<|
.u 64 63<|
.b 65 .gtr .none (.t 64) (.i 0)<|
.m 66 65<|
.gA 66 true (.p 67 [10,66] (.mov (.t 10))<|
.p 68 [67,66] (.iaddrS 1 (.t 67) (.i 0))<|
.op (some 69) (.int .u8) [68,66] (.load none (.t 68))<|
.p 70 [69,66] (.bin .neq .none (.t 69) (.con y5))<|
.nil) 71 66 70<|
.nil)
 (.cond (.tmp 71) (.ops (.f 72 1 11<|
.op none .any [72] (.store 1 (.t 72) (.i 1))<|
.nil))
 .skip))
 (.z (.b 74 .eql .none (.t 60) (.i 2)<|
.m 73 74<|
.nil)
 (.cond (.tmp 73) (.ops (.m 76 10<|
.k 77 (.tup [.i,.i]) 34 [(.t 76)]<|
.m 75 77<|
.P 78 (.extract 0 (.t 75))<|
.P 79 (.extract 1 (.t 75))<|
.f 80 1 11<|
.w 1 80 78<|
.nil))
 (.z (.b 82 .eql .none (.t 60) (.i 3)<|
.m 81 82<|
.nil)
 (.cond (.tmp 81) (.z (.m 84 10<|
.k 85 (.tup [.i,.i]) 34 [(.t 84)]<|
.m 83 85<|
.P 86 (.extract 0 (.t 83))<|
.P 87 (.extract 1 (.t 83))<|
.f 88 1 11<|
.w 1 88 86<|
.nil)
 (.z (.O 89 y2 (.load (some 13) (.t 9))<|
.f 90 1 11<|
.l 91 .i 90<|
.k 92 .i 35 [(.t 89),(.t 91)]<|
.b 93 .lss .none (.t 92) (.i 0)<|
.nil)
 (.cond (.tmp 93) (.ops (.f 94 0 11<|
.op none .any [94] (.store 1 (.t 94) (.i 12))<|
.f 95 4 11<|
.op none .any [95] (.store 1 (.t 95) (.i 1))<|
.nil))
 .skip)))
 (.seq (.z (.b 97 .eql .none (.t 60) (.i 5)<|
.m 96 97<|
.nil)
 (.cond (.tmp 96) .skip
 (.ops (.b 98 .eql .none (.t 60) (.i 6)<|
.m 96 98<|
.nil))))
 (.keep [(0,.ptr),(3,.i),(8,.ptr),(9,.ptr),(10,.any),(11,.ptr),(60,.i),(96,.bool)] [] [] cc3))))))))))
 (.keep ye [] [] cc2))))))
def Jz (E:EB) (D:Ak) (W:AI) (K2:Nat->Nat->Nat->Nat->H->AH) (K3:Nat->Nat->Int->Nat->Nat->Nat->Nat->V->Nat->Nat->Int->Bool->H->AH) (a b:Nat) (c:Int) (d:V) (e:Int) (f g:Nat) (Z:H):AH:=
 Bc E Z a b fun u1=>
 AZ u1 fun x2=>
 AK x2 (
 FW 6 f g (V.agg [.int .i64 (AA 0),.int .i64 (AA 0),V.nils,V.nils,.int .i64 (AA 0),V.nils]) Z fun s3=>
 BH E s3 f g 6 fun u4=>
 some ((V.agg u4),s3)) (
 Bc E Z a (Ap (Ap b 1) 3) fun u5=>
 AU 13 u5 c fun b6 o7=>
 BH E Z b6 o7 13 fun l8=>
 Ah .i64 l8 fun x11 l10=>
 AE l10 fun x12 l13=>
 DQ l13 fun x16 l15=>
 DQ l15 fun x19 l18=>
 DQ l18 fun x22 l21=>
 DQ l21 fun x25 l24=>
 Ah .i64 l24 fun x28 l27=>
 Ah .i64 l27 fun x31 l30=>
 AE l30 fun x32 l33=>
 AE l33 fun x34 l35=>
 Ah .i64 l35 fun x38 l37=>
 DQ l37 fun x41 l40=>
 Ah .i64 l40 fun x44 l43=>
 AP l43 (
 let s45:=Br Z (.cells [.int .i64 (AA 0),V.nils,.bool false,.bool false,.bool false,.bool false,.int .i64 (AA 0),.int .i64 (AA 0),V.nils,V.nils,.int .i64 (AA 0),.bool false,.int .i64 (AA 0)]);
 FW 13 (H.next Z) 0 (V.agg [.int .i64 x11,x12,.bool x16,.bool x19,.bool x22,.bool x25,.int .i64 x28,.int .i64 x31,x32,x34,.int .i64 x38,.bool x41,.int .i64 x44]) s45 fun s46=>
 Bc E s46 (H.next Z) 1 fun u47=>
 AV (D 33 [.ptr a b,u47,d] s46) fun u48 s49=>
 Ba u48 (
 Bc E s49 (H.next Z) 0 fun u50=>
 Am .i64 u50 fun x51=>
 let s52:=Br s49 (.cells [.int .i64 (AA 0),.int .i64 (AA 0),V.nils,V.nils,.int .i64 (AA 0),V.nils]);
 FW 6 (H.next s49) 0 (V.agg [.int .i64 x51,.int .i64 (AA 0),V.nils,V.nils,.int .i64 (AA 0),V.nils]) s52 fun s53=>
 Bc E s53 (H.next Z) 0 fun u54=>
 Am .i64 u54 fun x55=>
 AK (B4 x55 (AA 1)) (
 A2 u48 fun n56=>
 Aa (fun c57 s58=>
 AK c57 (
 FW 1 (H.next s49) 1 (V.int .i64 (AA 1)) s58 fun s60=>
 K2 f g (H.next s49) 0 s60) (
 K2 f g (H.next s49) 0 s58)) fun k59=>
 AK (C8 (AA 0) (AA n56)) (
 AU 1 u48 (AA 0) fun b61 o62=>
 Bc E s53 b61 o62 fun u63=>
 Am .u8 u63 fun x64=>
 k59 (not (B4 x64 (AA 0))) s53) (
 k59 false s53)) (
 AK (B4 x55 (AA 2)) (
 AV (D 34 [u48] s53) fun u65 s66=>
 DH u65 fun l67=>
 Ah .i64 l67 fun x70 l69=>
 Ah .i64 l69 fun x73 l72=>
 AP l72 (
 FW 1 (H.next s49) 1 (V.int .i64 x70) s66 fun s74=>
 K2 f g (H.next s49) 0 s74)) (
 AK (B4 x55 (AA 3)) (
 AV (D 34 [u48] s53) fun u75 s76=>
 DH u75 fun l77=>
 Ah .i64 l77 fun x80 l79=>
 Ah .i64 l79 fun x83 l82=>
 AP l82 (
 FW 1 (H.next s49) 1 (V.int .i64 x80) s76 fun s84=>
 BH E s84 (H.next Z) 0 13 fun l85=>
 Ah .i64 l85 fun x88 l87=>
 AE l87 fun x89 l90=>
 DQ l90 fun x93 l92=>
 DQ l92 fun x96 l95=>
 DQ l95 fun x99 l98=>
 DQ l98 fun x102 l101=>
 Ah .i64 l101 fun x105 l104=>
 Ah .i64 l104 fun x108 l107=>
 AE l107 fun x109 l110=>
 AE l110 fun x111 l112=>
 Ah .i64 l112 fun x115 l114=>
 DQ l114 fun x118 l117=>
 Ah .i64 l117 fun x121 l120=>
 AP l120 (
 Bc E s84 (H.next s49) 1 fun u122=>
 Am .i64 u122 fun x123=>
 AV (D 35 [.agg [.int .i64 x88,x89,.bool x93,.bool x96,.bool x99,.bool x102,.int .i64 x105,.int .i64 x108,x109,x111,.int .i64 x115,.bool x118,.int .i64 x121],.int .i64 x123] s84) fun u124 s125=>
 Am .i64 u124 fun x126=>
 AK (C8 x126 (AA 0)) (
 FW 1 (H.next s49) 0 (V.int .i64 (AA 12)) s125 fun s127=>
 FW 1 (H.next s49) 4 (V.int .i64 (AA 1)) s127 fun s128=>
 K2 f g (H.next s49) 0 s128) (
 K2 f g (H.next s49) 0 s125)))) (
 AK (B4 x55 (AA 5)) (
 K3 a b e f g (H.next Z) 0 u48 (H.next s49) 0 x55 (B4 x55 (AA 5)) s53) (
 K3 a b e f g (H.next Z) 0 u48 (H.next s49) 0 x55 (B4 x55 (AA 6)) s53)))))))
def Gm:XC:=(.z (.O 166 y1 (.load (some 6) (.t 11))<|
.op none y1 [8,166] (.store 6 (.t 8) (.t 166))<|
.nil)
 .ret)
def Nj (E:EB) (D:Ak) (W:AI) (a b c d:Nat) (Z:H):AH:=
 BH E Z c d 6 fun l1=>
 Ah .i64 l1 fun x4 l3=>
 Ah .i64 l3 fun x7 l6=>
 AE l6 fun x8 l9=>
 AE l9 fun x10 l11=>
 Ah .i64 l11 fun x14 l13=>
 AE l13 fun x15 l16=>
 AP l16 (
 FW 6 a b (V.agg [.int .i64 x4,.int .i64 x7,x8,x10,.int .i64 x14,x15]) Z fun s17=>
 BH E s17 a b 6 fun u18=>
 some ((V.agg u18),s17))
def Pm (cc4:XC) (cc5:XC):XC:=(.cond (.tmp 96) (.ops (.m 99 10<|
.k 100 .one 36 [(.t 99)]<|
.f 101 2 11<|
.w 1 101 100<|
.nil))
 (.z (.b 103 .eql .none (.t 60) (.i 9)<|
.m 102 103<|
.nil)
 (.cond (.tmp 102) (.z (.m 104 0<|
.O 105 y2 (.load (some 13) (.t 9))<|
.m 106 10<|
.m 107 3<|
.k 108 y1 37 [(.t 104),(.t 105),(.t 106),(.t 107)]<|
.op none y1 [8,108] (.store 6 (.t 8) (.t 108))<|
.nil)
 .ret)
 (.z (.b 110 .eql .none (.t 60) (.i 10)<|
.m 109 110<|
.nil)
 (.cond (.tmp 109) (.z (.m 111 0<|
.n 112 111<|
.f 113 0 112<|
.m 114 10<|
.k 115 .one 38 [(.t 113),(.t 114)]<|
.m 12 115<|
.nil)
 (.z (.m 116 0<|
.m 117 0<|
.n 118 117<|
.f 119 0 118<|
.f 120 0 119<|
.l 121 .bool 120<|
.m 122 121<|
.gO 122 false (.p 123 [12,122] (.mov (.t 12))<|
.p 124 [123,122] (.len false (.t 123))<|
.p 125 [124,122] (.bin .gtr .none (.t 124) (.i 5000))<|
.nil) 126 122 125<|
.n 127 116<|
.f 128 0 127<|
.f 129 0 128<|
.w 1 129 126<|
.nil)
 (.z (.m 130 12<|
.u 131 130<|
.q 132 0<|
.nil)
 (.block 1 (.loop YA [] [] cc4)))))
 (.seq (.z (.b 155 .eql .none (.t 60) (.i 7)<|
.m 154 155<|
.nil)
 (.cond (.tmp 154) .skip
 (.ops (.b 156 .eql .none (.t 60) (.i 8)<|
.m 154 156<|
.nil))))
 (.keep [(0,.ptr),(3,.i),(8,.ptr),(9,.ptr),(10,.any),(11,.ptr),(154,.bool)] [] [] cc5)))))))
def XK (E:EB) (D:Ak) (W:AI) (K2:Nat->Nat->Nat->Nat->H->AH) (K4:Nat->Nat->Int->Nat->Nat->Nat->Nat->Nat->Nat->V->Int->Int->H->AH) (K5:Nat->Nat->Int->Nat->Nat->Nat->Nat->V->Nat->Nat->Bool->H->AH) (a b:Nat) (c:Int) (d e f g:Nat) (h:V) (i j:Nat) (k:Int) (l:Bool) (Z:H):AH:=
 AK l (
 AV (D 36 [h] Z) fun u1 s2=>
 Ba u1 (
 FW 1 i (Ap j 2) u1 s2 fun s3=>
 K2 d e i j s3)) (
 AK (B4 k (AA 9)) (
 BH E Z f g 13 fun l4=>
 Ah .i64 l4 fun x7 l6=>
 AE l6 fun x8 l9=>
 DQ l9 fun x12 l11=>
 DQ l11 fun x15 l14=>
 DQ l14 fun x18 l17=>
 DQ l17 fun x21 l20=>
 Ah .i64 l20 fun x24 l23=>
 Ah .i64 l23 fun x27 l26=>
 AE l26 fun x28 l29=>
 AE l29 fun x30 l31=>
 Ah .i64 l31 fun x34 l33=>
 DQ l33 fun x37 l36=>
 Ah .i64 l36 fun x40 l39=>
 AP l39 (
 AV (D 37 [.ptr a b,.agg [.int .i64 x7,x8,.bool x12,.bool x15,.bool x18,.bool x21,.int .i64 x24,.int .i64 x27,x28,x30,.int .i64 x34,.bool x37,.int .i64 x40],h,.int .i64 c] Z) fun u41 s42=>
 Bm u41 fun l43=>
 Ah .i64 l43 fun x46 l45=>
 Ah .i64 l45 fun x49 l48=>
 AE l48 fun x50 l51=>
 AE l51 fun x52 l53=>
 Ah .i64 l53 fun x56 l55=>
 AE l55 fun x57 l58=>
 AP l58 (
 FW 6 d e (V.agg [.int .i64 x46,.int .i64 x49,x50,x52,.int .i64 x56,x57]) s42 fun s59=>
 BH E s59 d e 6 fun u60=>
 some ((V.agg u60),s59)))) (
 AK (B4 k (AA 10)) (
 AV (D 38 [.ptr a b,h] Z) fun u61 s62=>
 Ba u61 (
 Bc E s62 a b fun u63=>
 AZ u63 fun x64=>
 Aa (fun c65 s66=>
 FW 1 a b (V.bool c65) s66 fun s68=>
 A2 u61 fun n69=>
 K4 a b c d e f g i j u61 (AA n69) (AA 0) s68) fun k67=>
 AK x64 (
 k67 true s62) (
 A2 u61 fun n70=>
 k67 (C8 (AA 5000) (AA n70)) s62))) (
 AK (B4 k (AA 7)) (
 K5 a b c d e f g h i j (B4 k (AA 7)) Z) (
 K5 a b c d e f g h i j (B4 k (AA 8)) Z))))
def Kt:XC:=(.z (.b 133 .lss .none (.t 132) (.t 131)<|
.nil)
 (.seq (.cond (.tmp 133) .skip
 (.exit 1))
 (.seq (.block 2 (.z (.s 134 1 130 132<|
.l 135 .any 134<|
.m 14 135<|
.nil)
 (.seq (.z (.m 136 0<|
.n 137 136<|
.f 138 0 137<|
.f 139 0 138<|
.l 140 .bool 139<|
.nil)
 (.cond (.tmp 140) (.exit 1)
 .skip))
 (.keep [(0,.ptr),(3,.i),(8,.ptr),(9,.ptr),(11,.ptr),(14,.any),(130,.any),(131,.i),(132,.i)] [] [] (.gdraw qL qJ YA)))))
 (.ops (.b 153 .add .none (.t 132) (.i 1)<|
.m 132 153<|
.nil)))))
def m9 (E:EB) (D:Ak) (W:AI) (K2:Nat->Nat->Nat->Nat->H->AH) (R4:Nat->Nat->Int->Nat->Nat->Nat->Nat->Nat->Nat->V->Int->Int->H->AH) (a b:Nat) (c:Int) (d e f g h i:Nat) (j:V) (k l:Int) (Z:H):AH:=
 AK (C8 l k) (
 AU 1 j l fun b1 o2=>
 Bc E Z b1 o2 fun u3=>
 Bc E Z a b fun u4=>
 AZ u4 fun x5=>
 AK x5 (
 K2 d e h i Z) (
 Ci (W qL qJ [(0,.ptr a b),(3,.int .i64 c),(8,.ptr d e),(9,.ptr f g),(11,.ptr h i),(14,u3),(130,j),(131,.int .i64 k),(132,.int .i64 l)] Z) fun e6 s7=>
 BR e6 0 fun u8=>
 B8 u8 fun b9 o10=>
 BR e6 3 fun u11=>
 Am .i64 u11 fun x12=>
 BR e6 8 fun u13=>
 B8 u13 fun b14 o15=>
 BR e6 9 fun u16=>
 B8 u16 fun b17 o18=>
 BR e6 11 fun u19=>
 B8 u19 fun b20 o21=>
 BR e6 130 fun u22=>
 BR e6 131 fun u23=>
 Am .i64 u23 fun x24=>
 BR e6 132 fun u25=>
 Am .i64 u25 fun x26=>
 R4 b9 o10 x12 b14 o15 b17 o18 b20 o21 u22 x24 (CR .i64 x26 (AA 1)) s7)) (
 K2 d e h i Z)
def MX:XC:=(.cond (.tmp 154) (.seq (.keep [(0,.ptr),(3,.i),(8,.ptr),(9,.ptr),(10,.any)] [] [] (.gdraw Q8 UU [(8,.ptr)]))
 .ret)
 .skip)
def XJ (E:EB) (D:Ak) (W:AI) (K2:Nat->Nat->Nat->Nat->H->AH) (a b:Nat) (c:Int) (d e f g:Nat) (h:V) (i j:Nat) (k:Bool) (Z:H):AH:=
 AK k (
 Ci (W Q8 UU [(0,.ptr a b),(3,.int .i64 c),(8,.ptr d e),(9,.ptr f g),(10,h)] Z) fun e1 s2=>
 BR e1 8 fun u3=>
 B8 u3 fun b4 o5=>
 BH E s2 b4 o5 6 fun u6=>
 some ((V.agg u6),s2)) (
 K2 d e i j Z)
def oO (a b:Nat) (c:Int) (d:V) (e:Int) (Z:H):St:=⟨[(0,.ptr a b),(1,.int .i64 c),(2,d),(3,.int .i64 e)],[],[],Z⟩
def de (a b:Nat) (c:Int) (d:V) (e:Int) (f g:Nat) (Z:H):St:=⟨[(0,.ptr a b),(1,.int .i64 c),(2,d),(3,.int .i64 e),(8,.ptr f g)],[],[],Z⟩
def UH (a b c d:Nat) (Z:H):St:=⟨[(8,.ptr a b),(11,.ptr c d)],[],[],Z⟩
def dc (a b:Nat) (c:Int) (d e f g:Nat) (h:V) (i j:Nat) (k:Int) (l:Bool) (Z:H):St:=⟨[(0,.ptr a b),(3,.int .i64 c),(8,.ptr d e),(9,.ptr f g),(10,h),(11,.ptr i j),(60,.int .i64 k),(96,.bool l)],[],[],Z⟩
def Xn (a b:Nat) (c:Int) (d e f g h i:Nat) (j:V) (k l:Int) (Z:H):St:=⟨[(0,.ptr a b),(3,.int .i64 c),(8,.ptr d e),(9,.ptr f g),(11,.ptr h i),(130,j),(131,.int .i64 k),(132,.int .i64 l)],[],[],Z⟩
def db (a b:Nat) (c:Int) (d e f g:Nat) (h:V) (i j:Nat) (k:Bool) (Z:H):St:=⟨[(0,.ptr a b),(3,.int .i64 c),(8,.ptr d e),(9,.ptr f g),(10,h),(11,.ptr i j),(154,.bool k)],[],[],Z⟩
theorem ABw (cc1:XC) (a b:Nat) (c:Int) (d:V) (e:Int) (Z:H) :
 AN E D W N (iA cc1) (oO a b c d e Z) (DY E) nX (DY E) =
 Nk E D W (fun a b c d e f g Z=>AN E D W N cc1 (de a b c d e f g Z) (DY E) nX (DY E)) a b c d e Z:=by kernel_rfl
theorem ABv (cc2:XC) (cc3:XC) (a b:Nat) (c:Int) (d:V) (e:Int) (f g:Nat) (Z:H) :
 AN E D W N (Ua cc2 cc3) (de a b c d e f g Z) (DY E) nX (DY E) =
 Jz E D W (fun f g h i Z=>AN E D W N cc2 (UH f g h i Z) (DY E) nX (DY E)) (fun a b e f g j k l h i m o Z=>AN E D W N cc3 (dc a b e f g j k l h i m o Z) (Ir E D W N cc2) (BY 0 (Ir E D W N cc2) nX) (DY E)) a b c d e f g Z:=by kernel_rfl
theorem ABu (cc2:XC) (cc4:XC) (cc5:XC) (a b:Nat) (c:Int) (d e f g:Nat) (h:V) (i j:Nat) (k:Int) (l:Bool) (Z:H) :
 AN E D W N (Pm cc4 cc5) (dc a b c d e f g h i j k l Z) (Ir E D W N cc2) (BY 0 (Ir E D W N cc2) nX) (DY E) =
 XK E D W (fun d e i j Z=>AN E D W N cc2 (UH d e i j Z) (DY E) nX (DY E)) (fun a b c d e f g i j m o p Z=>Ad (fun rec s'=>AN E D W N cc4 s' (kX YA [] [] rec) (BY 1 (Ir E D W N cc2) (BY 0 (Ir E D W N cc2) nX)) (DY E)) N (Xn a b c d e f g i j m o p Z)) (fun a b c d e f g h i j q Z=>AN E D W N cc5 (db a b c d e f g h i j q Z) (Ir E D W N cc2) (BY 0 (Ir E D W N cc2) nX) (DY E)) a b c d e f g h i j k l Z:=by kernel_rfl
theorem ABt (cc2:XC) (li4:St->AH) (a b:Nat) (c:Int) (d e f g h i:Nat) (j:V) (k l:Int) (Z:H) :
 AN E D W N (Kt ) (Xn a b c d e f g h i j k l Z) (kX YA [] [] li4) (BY 1 (Ir E D W N cc2) (BY 0 (Ir E D W N cc2) nX)) (DY E) =
 m9 E D W (fun d e h i Z=>AN E D W N cc2 (UH d e h i Z) (DY E) nX (DY E)) (fun a b c d e f g h i j k l Z=>li4 (Xn a b c d e f g h i j k l Z)) a b c d e f g h i j k l Z:=by kernel_rfl
theorem ABs (cc2:XC) (a b:Nat) (c:Int) (d e f g:Nat) (h:V) (i j:Nat) (k:Bool) (Z:H) :
 AN E D W N (MX ) (db a b c d e f g h i j k Z) (Ir E D W N cc2) (BY 0 (Ir E D W N cc2) nX) (DY E) =
 XJ E D W (fun d e i j Z=>AN E D W N cc2 (UH d e i j Z) (DY E) nX (DY E)) a b c d e f g h i j k Z:=by kernel_rfl
def Qx (E:EB) (D:Ak) (W:AI) (N:Nat):=Nj E D W
theorem Ss (a b c d:Nat) (Z:H) :
 AN E D W N Gm (UH a b c d Z) (DY E) nX (DY E)=Qx E D W N a b c d Z:=by kernel_rfl
def oh (n:Nat):Nat->Nat->Int->Nat->Nat->Nat->Nat->Nat->Nat->V->Int->Int->H->AH:=
 Nat.rec (fun _ _ _ _ _ _ _ _ _ _ _ _ _=>none) (fun _ ih=>m9 E D W (Qx E D W N ) ih) n
theorem uN (n:Nat):∀(a b:Nat) (c:Int) (d e f g h i:Nat) (j:V) (k l:Int) (Z:H),
 Ad (fun rec s'=>AN E D W N Kt s' (kX YA [] [] rec) (BY 1 (Ir E D W N Gm) (BY 0 (Ir E D W N Gm) nX)) (DY E)) n (Xn a b c d e f g h i j k l Z)=oh E D W N n a b c d e f g h i j k l Z:=by
 induction n with
 | zero=>intro a b c d e f g h i j k l Z;rfl
 | succ n ihn=>
  intro a b c d e f g h i j k l Z
  rw[Aq]
  refine(ABt E D W N Gm (Ad (fun rec s'=>AN E D W N Kt s' (kX YA [] [] rec) (BY 1 (Ir E D W N Gm) (BY 0 (Ir E D W N Gm) nX)) (DY E)) n) a b c d e f g h i j k l Z).trans ?_
  simp only[ihn,Ss]
  kernel_rfl
def qF:=XJ E D W (Qx E D W N )
theorem ve (a b:Nat) (c:Int) (d e f g:Nat) (h:V) (i j:Nat) (k:Bool) (Z:H) :
 AN E D W N MX (db a b c d e f g h i j k Z) (Ir E D W N Gm) (BY 0 (Ir E D W N Gm) nX) (DY E)=qF E D W N a b c d e f g h i j k Z:=by
 refine(ABs E D W N Gm  a b c d e f g h i j k Z).trans ?_
 simp only[Ss]
 kernel_rfl
def UN:=XK E D W (Qx E D W N ) (oh E D W N N) (qF E D W N )
theorem vf (a b:Nat) (c:Int) (d e f g:Nat) (h:V) (i j:Nat) (k:Int) (l:Bool) (Z:H) :
 AN E D W N (Pm Kt MX) (dc a b c d e f g h i j k l Z) (Ir E D W N Gm) (BY 0 (Ir E D W N Gm) nX) (DY E)=UN E D W N a b c d e f g h i j k l Z:=by
 refine(ABu E D W N Gm Kt MX  a b c d e f g h i j k l Z).trans ?_
 simp only[Ss,uN,ve]
 kernel_rfl
def Xw:=Jz E D W (Qx E D W N ) (UN E D W N )
theorem vg (a b:Nat) (c:Int) (d:V) (e:Int) (f g:Nat) (Z:H) :
 AN E D W N (Ua Gm (Pm Kt MX)) (de a b c d e f g Z) (DY E) nX (DY E)=Xw E D W N a b c d e f g Z:=by
 refine(ABv E D W N Gm (Pm Kt MX)  a b c d e f g Z).trans ?_
 simp only[Ss,vf]
 kernel_rfl
def qG:=Nk E D W (Xw E D W N )
theorem vh (a b:Nat) (c:Int) (d:V) (e:Int) (Z:H) :
 AN E D W N (iA (Ua Gm (Pm Kt MX))) (oO a b c d e Z) (DY E) nX (DY E)=qG E D W N a b c d e Z:=by
 refine(ABw E D W N (Ua Gm (Pm Kt MX))  a b c d e Z).trans ?_
 simp only[vg]
 kernel_rfl
def vy (args:List V) (Z:H):AH:=
 AE args fun x1 l2=>
 B8 x1 fun b3 o4=>
 Ah .i64 l2 fun x7 l6=>
 AE l6 fun x8 l9=>
 Ah .i64 l9 fun x12 l11=>
 AP l11 (
 qG E D W N b3 o4 x7 x8 x12 Z)
def A15:DR:=⟨167,[.ptr,.i,.any,.i],[(.cell 8 (some 6))],(iA (Ua Gm (Pm Kt MX)))⟩
theorem AHg (args:List V) (Z:H):Bq E D W N A15 args Z=vy E D W N args Z:=by
 unfold vy
 simp only[<-vh]
 kernel_rfl
def AEH:XC:=(.z (.P 3 (.box 26 (.t 0))<|
.P 5 (.box 34 (.t 2))<|
.c 6 V.nils<|
.q 7 0<|
.nil)
 (.seq (.block 0 (.z (.O 11 y6 (.load (some 4) (.t 3))<|
.m 12 1<|
.O 13 y1 (.load (some 6) (.t 5))<|
.k 14 .bool 40 [(.t 11),(.t 12),(.t 13)]<|
.P 15 (.un .not (.t 14))<|
.m 10 15<|
.nil)
 (.cond (.tmp 10) (.z (.c 6 V.nils<|
.q 7 13<|
.nil)
 .ret)
 (.z (.O 17 y1 (.load (some 6) (.t 5))<|
.k 18 .bool 41 [(.t 17),(.i 1)]<|
.P 19 (.un .not (.t 18))<|
.m 16 19<|
.nil)
 (.cond (.tmp 16) (.z (.c 6 V.nils<|
.q 7 16<|
.nil)
 .ret)
 .skip)))))
 (.z (.O 20 y6 (.load (some 4) (.t 3))<|
.op (some 21) y6 [20] (.build [y8,V.nils,V.nils,V.nils] [(0,4,(.t 20))])<|
.P 22 (.box 111 (.t 21))<|
.m 8 22<|
.nil)
 (.z (.m 23 8<|
.m 24 1<|
.O 25 y1 (.load (some 6) (.t 5))<|
.k 26 .one 42 [(.t 23),(.t 24),(.t 25)]<|
.m 9 26<|
.nil)
 (.seq (.z (.m 27 9<|
.u 28 27<|
.b 29 .gtr .none (.t 28) (.i 70000)<|
.nil)
 (.cond (.tmp 29) (.z (.c 6 V.nils<|
.q 7 5<|
.nil)
 .ret)
 .skip))
 (.z (.m 30 9<|
.m 6 30<|
.q 7 0<|
.nil)
 .ret))))))
def XI (E:EB) (D:Ak) (W:AI) (a:BS) (b c d:V) (e f g:Int) (h i:V) (j:Int) (k:V) (Z:H):AH:=
 Gn [.str a,b,c,d] Z fun s1=>
 Gn [.int .i64 f,.int .i64 g,h,i,.int .i64 j,k] s1 fun s2=>
 BH E s2 (H.next Z) 0 4 fun l3=>
 IZ l3 fun x6 l5=>
 AE l5 fun x7 l8=>
 AE l8 fun x9 l10=>
 AE l10 fun x11 l12=>
 AP l12 (
 BH E s2 (H.next s1) 0 6 fun l13=>
 Ah .i64 l13 fun x16 l15=>
 Ah .i64 l15 fun x19 l18=>
 AE l18 fun x20 l21=>
 AE l21 fun x22 l23=>
 Ah .i64 l23 fun x26 l25=>
 AE l25 fun x27 l28=>
 AP l28 (
 AV (D 40 [.agg [.str x6,x7,x9,x11],.int .i64 e,.agg [.int .i64 x16,.int .i64 x19,x20,x22,.int .i64 x26,x27]] s2) fun u29 s30=>
 AZ u29 fun x31=>
 AK (not x31) (
 some ((V.tup [V.nils,.int .i64 (AA 13)]),s30)) (
 BH E s30 (H.next s1) 0 6 fun l32=>
 Ah .i64 l32 fun x35 l34=>
 Ah .i64 l34 fun x38 l37=>
 AE l37 fun x39 l40=>
 AE l40 fun x41 l42=>
 Ah .i64 l42 fun x45 l44=>
 AE l44 fun x46 l47=>
 AP l47 (
 AV (D 41 [.agg [.int .i64 x35,.int .i64 x38,x39,x41,.int .i64 x45,x46],.int .i64 (AA 1)] s30) fun u48 s49=>
 AZ u48 fun x50=>
 AK (not x50) (
 some ((V.tup [V.nils,.int .i64 (AA 16)]),s49)) (
 BH E s49 (H.next Z) 0 4 fun l51=>
 IZ l51 fun x54 l53=>
 AE l53 fun x55 l56=>
 AE l56 fun x57 l58=>
 AE l58 fun x59 l60=>
 AP l60 (
 Gn [.str x54,x55,x57,x59] s49 fun s61=>
 BH E s61 (H.next s1) 0 6 fun l62=>
 Ah .i64 l62 fun x65 l64=>
 Ah .i64 l64 fun x68 l67=>
 AE l67 fun x69 l70=>
 AE l70 fun x71 l72=>
 Ah .i64 l72 fun x75 l74=>
 AE l74 fun x76 l77=>
 AP l77 (
 AV (D 42 [.ptr (H.next s49) 0,.int .i64 e,.agg [.int .i64 x65,.int .i64 x68,x69,x71,.int .i64 x75,x76]] s61) fun u78 s79=>
 Ba u78 (
 A2 u78 fun n80=>
 AK (C8 (AA 70000) (AA n80)) (
 some ((V.tup [V.nils,.int .i64 (AA 5)]),s79)) (
 some ((V.tup [u78,.int .i64 (AA 0)]),s79))))))))))
def vx (N:Nat) (args:List V) (Z:H):AH:=
 AE args fun x1 l2=>
 Bm x1 fun l3=>
 IZ l3 fun x6 l5=>
 AE l5 fun x7 l8=>
 AE l8 fun x9 l10=>
 AE l10 fun x11 l12=>
 AP l12 (
 Ah .i64 l2 fun x15 l14=>
 AE l14 fun x16 l17=>
 Bm x16 fun l18=>
 Ah .i64 l18 fun x21 l20=>
 Ah .i64 l20 fun x24 l23=>
 AE l23 fun x25 l26=>
 AE l26 fun x27 l28=>
 Ah .i64 l28 fun x31 l30=>
 AE l30 fun x32 l33=>
 AP l33 (
 AP l17 (
 XI E D W x6 x7 x9 x11 x15 x21 x24 x25 x27 x31 x32 Z)))
def A16:DR:=⟨31,[y6,.i,y1],[(.tmp 6),(.tmp 7)],AEH⟩
theorem AHf (args:List V) (Z:H):Bq E D W N A16 args Z=vx E D W N args Z:=by kernel_rfl
def AEG:XC:=(.z (.c 4 y3<|
.nil)
 (.z (.m 5 0<|
.P 6 (.conv .toStr (.t 5))<|
.m 7 1<|
.P 8 (.conv .toStr (.t 7))<|
.b 9 .eql .none (.t 6) (.t 8)<|
.m 4 9<|
.nil)
 .ret))
def cY (E:EB) (D:Ak) (W:AI) (a b:V) (Z:H):AH:=
 IM E Z a fun t1=>
 IM E Z b fun t2=>
 some ((V.bool (BS.beq t1 t2)),Z)
def lT (N:Nat) (args:List V) (Z:H):AH:=
 AE args fun x1 l2=>
 AE l2 fun x3 l4=>
 AP l4 (
 cY E D W x1 x3 Z)
def A17:DR:=⟨10,[.any,.any],[(.tmp 4)],AEG⟩
theorem AHe (args:List V) (Z:H):Bq E D W N A17 args Z=lT E D W N args Z:=by kernel_rfl
def AEF:XC:=(.z (.c 4 y3<|
.nil)
 (.z (.m 5 0<|
.P 6 (.conv .toStr (.t 5))<|
.m 7 1<|
.P 8 (.conv .toStr (.t 7))<|
.b 9 .eql .none (.t 6) (.t 8)<|
.m 4 9<|
.nil)
 .ret))
def cX (E:EB) (D:Ak) (W:AI) (a b:V) (Z:H):AH:=
 IM E Z a fun t1=>
 IM E Z b fun t2=>
 some ((V.bool (BS.beq t1 t2)),Z)
def qP (N:Nat) (args:List V) (Z:H):AH:=
 AE args fun x1 l2=>
 AE l2 fun x3 l4=>
 AP l4 (
 cX E D W x1 x3 Z)
def A18:DR:=⟨10,[.any,.any],[(.tmp 4)],AEF⟩
theorem AHd (args:List V) (Z:H):Bq E D W N A18 args Z=qP E D W N args Z:=by kernel_rfl
def Zy:List (Nat × C6):=[(0,.any),(1,.any),(2,.any),(7,.i)]
def IJ (E:EB):St->AH:=fun s=>DF E s [(.tmp 6)] fun l=>some (Da l,s.Z)
def j3 (c0:XC):Nat->St->AH:=BY 0 (dX E D W N (.keep [] [] [] c0) (IJ E) nX (IJ E)) nX
def gy (cc1:XC) (cc2:XC):XC:=(.z (.c 6 y3<|
.nil)
 (.seq (.z (.m 8 0<|
.u 9 8<|
.m 10 1<|
.u 11 10<|
.b 12 .neq .none (.t 9) (.t 11)<|
.nil)
 (.cond (.tmp 12) (.z (.c 6 y3<|
.nil)
 .ret)
 .skip))
 (.seq (.z (.q 7 0<|
.nil)
 (.block 0 (.loop Zy [] [] cc2)))
 (.keep [] [] [] cc1))))
def XH (E:EB) (D:Ak) (W:AI) (K2:V->V->V->Int->H->AH) (a b c:V) (Z:H):AH:=
 A2 a fun n1=>
 A2 b fun n2=>
 AK (not (B4 (AA n1) (AA n2))) (
 some ((V.bool false),Z)) (
 K2 a b c (AA 0) Z)
def Pk:XC:=(.z (.c 6 iE<|
.nil)
 .ret)
def cW (E:EB) (D:Ak) (W:AI) (Z:H):AH:=
 some ((V.bool true),Z)
def RS:XC:=(.seq (.z (.m 13 7<|
.m 14 0<|
.u 15 14<|
.b 16 .lss .none (.t 13) (.t 15)<|
.nil)
 y31)
 (.seq (.block 1 (.seq (.draw (.m 19 2<|
.m 20 0<|
.m 21 7<|
.s 22 6 20 21<|
.O 23 y1 (.load (some 6) (.t 22))<|
.m 24 1<|
.m 25 7<|
.s 26 6 24 25<|
.O 27 y1 (.load (some 6) (.t 26))<|
.O 28 .bool (.callv (.t 19) [(.t 23),(.t 27)])<|
.P 29 (.un .not (.t 28))<|
.nil) [0,0,0,6,14,0,0,96,224,511,1023])
 (.cond (.tmp 29) (.z (.c 6 y3<|
.nil)
 .ret)
 .skip)))
 xR))
def Qj (E:EB) (D:Ak) (W:AI) (K1:H->AH) (R2:V->V->V->Int->H->AH) (a b c:V) (d:Int) (Z:H):AH:=
 A2 a fun n1=>
 AK (C8 d (AA n1)) (
 AU 6 a d fun b2 o3=>
 BH E Z b2 o3 6 fun l4=>
 Ah .i64 l4 fun x7 l6=>
 Ah .i64 l6 fun x10 l9=>
 AE l9 fun x11 l12=>
 AE l12 fun x13 l14=>
 Ah .i64 l14 fun x17 l16=>
 AE l16 fun x18 l19=>
 AP l19 (
 AU 6 b d fun b20 o21=>
 BH E Z b20 o21 6 fun l22=>
 Ah .i64 l22 fun x25 l24=>
 Ah .i64 l24 fun x28 l27=>
 AE l27 fun x29 l30=>
 AE l30 fun x31 l32=>
 Ah .i64 l32 fun x35 l34=>
 AE l34 fun x36 l37=>
 AP l37 (
 FL D c [.agg [.int .i64 x7,.int .i64 x10,x11,x13,.int .i64 x17,x18],.agg [.int .i64 x25,.int .i64 x28,x29,x31,.int .i64 x35,x36]] Z fun u38 s39=>
 AZ u38 fun x40=>
 AK (not x40) (
 some ((V.bool false),s39)) (
 R2 a b c (CR .i64 d (AA 1)) s39)))) (
 K1 Z)
def oN (a b c:V) (Z:H):St:=⟨[(0,a),(1,b),(2,c)],[],[],Z⟩
def oM (Z:H):St:=⟨[],[],[],Z⟩
def Xm (a b c:V) (d:Int) (Z:H):St:=⟨[(0,a),(1,b),(2,c),(7,.int .i64 d)],[],[],Z⟩
theorem ABr (cc1:XC) (cc2:XC) (a b c:V) (Z:H) :
 AN E D W N (gy cc1 cc2) (oN a b c Z) (IJ E) nX (IJ E) =
 XH E D W (fun a b c d Z=>Ad (fun rec s'=>AN E D W N cc2 s' (kX Zy [] [] rec) (j3 E D W N cc1) (IJ E)) N (Xm a b c d Z)) a b c Z:=by kernel_rfl
theorem ABq (cc1:XC) (li2:St->AH) (a b c:V) (d:Int) (Z:H) :
 AN E D W N (RS ) (Xm a b c d Z) (kX Zy [] [] li2) (j3 E D W N cc1) (IJ E) =
 Qj E D W (fun  Z=>AN E D W N cc1 (oM Z) (IJ E) nX (IJ E)) (fun a b c d Z=>li2 (Xm a b c d Z)) a b c d Z:=by kernel_rfl
def qD (E:EB) (D:Ak) (W:AI) (N:Nat):=cW E D W
theorem va (Z:H) :
 AN E D W N Pk (oM Z) (IJ E) nX (IJ E)=qD E D W N  Z:=by kernel_rfl
def Xs (n:Nat):V->V->V->Int->H->AH:=
 Nat.rec (fun _ _ _ _ _=>none) (fun _ ih=>Qj E D W (qD E D W N ) ih) n
theorem uM (n:Nat):∀(a b c:V) (d:Int) (Z:H),
 Ad (fun rec s'=>AN E D W N RS s' (kX Zy [] [] rec) (j3 E D W N Pk) (IJ E)) n (Xm a b c d Z)=Xs E D W N n a b c d Z:=by
 induction n with
 | zero=>intro a b c d Z;rfl
 | succ n ihn=>
  intro a b c d Z
  rw[Aq]
  refine(ABq E D W N Pk (Ad (fun rec s'=>AN E D W N RS s' (kX Zy [] [] rec) (j3 E D W N Pk) (IJ E)) n) a b c d Z).trans ?_
  simp only[ihn,va]
  kernel_rfl
def qE:=XH E D W (Xs E D W N N)
theorem vd (a b c:V) (Z:H) :
 AN E D W N (gy Pk RS) (oN a b c Z) (IJ E) nX (IJ E)=qE E D W N a b c Z:=by
 refine(ABr E D W N Pk RS  a b c Z).trans ?_
 simp only[uM]
 kernel_rfl
def vw (args:List V) (Z:H):AH:=
 AE args fun x1 l2=>
 AE l2 fun x3 l4=>
 AE l4 fun x5 l6=>
 AP l6 (
 qE E D W N x1 x3 x5 Z)
def A19:DR:=⟨30,[.any,.any,.any],[(.tmp 6)],(gy Pk RS)⟩
theorem AHc (args:List V) (Z:H):Bq E D W N A19 args Z=vw E D W N args Z:=by
 unfold vw
 simp only[<-vd]
 kernel_rfl
def Zx:List (Nat × C6):=[(0,.any),(1,.any),(2,.any),(7,.i)]
def II (E:EB):St->AH:=fun s=>DF E s [(.tmp 6)] fun l=>some (Da l,s.Z)
def j1 (c0:XC):Nat->St->AH:=BY 0 (dX E D W N (.keep [] [] [] c0) (II E) nX (II E)) nX
def gx (cc1:XC) (cc2:XC):XC:=(.z (.c 6 y3<|
.nil)
 (.seq (.z (.m 8 0<|
.u 9 8<|
.m 10 1<|
.u 11 10<|
.b 12 .neq .none (.t 9) (.t 11)<|
.nil)
 (.cond (.tmp 12) (.z (.c 6 y3<|
.nil)
 .ret)
 .skip))
 (.seq (.z (.q 7 0<|
.nil)
 (.block 0 (.loop Zx [] [] cc2)))
 (.keep [] [] [] cc1))))
def XG (E:EB) (D:Ak) (W:AI) (K2:V->V->V->Int->H->AH) (a b c:V) (Z:H):AH:=
 A2 a fun n1=>
 A2 b fun n2=>
 AK (not (B4 (AA n1) (AA n2))) (
 some ((V.bool false),Z)) (
 K2 a b c (AA 0) Z)
def Pj:XC:=(.z (.c 6 iE<|
.nil)
 .ret)
def cV (E:EB) (D:Ak) (W:AI) (Z:H):AH:=
 some ((V.bool true),Z)
def RR:XC:=(.seq (.z (.m 13 7<|
.m 14 0<|
.u 15 14<|
.b 16 .lss .none (.t 13) (.t 15)<|
.nil)
 y31)
 (.seq (.block 1 (.seq (.draw (.m 19 2<|
.m 20 0<|
.m 21 7<|
.s 22 2 20 21<|
.O 23 Ue (.load (some 2) (.t 22))<|
.m 24 1<|
.m 25 7<|
.s 26 2 24 25<|
.O 27 Ue (.load (some 2) (.t 26))<|
.O 28 .bool (.callv (.t 19) [(.t 23),(.t 27)])<|
.P 29 (.un .not (.t 28))<|
.nil) [0,0,0,6,14,0,0,96,224,511,1023])
 (.cond (.tmp 29) (.z (.c 6 y3<|
.nil)
 .ret)
 .skip)))
 xR))
def Qi (E:EB) (D:Ak) (W:AI) (K1:H->AH) (R2:V->V->V->Int->H->AH) (a b c:V) (d:Int) (Z:H):AH:=
 A2 a fun n1=>
 AK (C8 d (AA n1)) (
 AU 2 a d fun b2 o3=>
 BH E Z b2 o3 2 fun l4=>
 Ah .i64 l4 fun x7 l6=>
 AE l6 fun x8 l9=>
 AP l9 (
 AU 2 b d fun b10 o11=>
 BH E Z b10 o11 2 fun l12=>
 Ah .i64 l12 fun x15 l14=>
 AE l14 fun x16 l17=>
 AP l17 (
 FL D c [.agg [.int .i64 x7,x8],.agg [.int .i64 x15,x16]] Z fun u18 s19=>
 AZ u18 fun x20=>
 AK (not x20) (
 some ((V.bool false),s19)) (
 R2 a b c (CR .i64 d (AA 1)) s19)))) (
 K1 Z)
def oL (a b c:V) (Z:H):St:=⟨[(0,a),(1,b),(2,c)],[],[],Z⟩
def oK (Z:H):St:=⟨[],[],[],Z⟩
def Xl (a b c:V) (d:Int) (Z:H):St:=⟨[(0,a),(1,b),(2,c),(7,.int .i64 d)],[],[],Z⟩
theorem ABp (cc1:XC) (cc2:XC) (a b c:V) (Z:H) :
 AN E D W N (gx cc1 cc2) (oL a b c Z) (II E) nX (II E) =
 XG E D W (fun a b c d Z=>Ad (fun rec s'=>AN E D W N cc2 s' (kX Zx [] [] rec) (j1 E D W N cc1) (II E)) N (Xl a b c d Z)) a b c Z:=by kernel_rfl
theorem ABo (cc1:XC) (li2:St->AH) (a b c:V) (d:Int) (Z:H) :
 AN E D W N (RR ) (Xl a b c d Z) (kX Zx [] [] li2) (j1 E D W N cc1) (II E) =
 Qi E D W (fun  Z=>AN E D W N cc1 (oK Z) (II E) nX (II E)) (fun a b c d Z=>li2 (Xl a b c d Z)) a b c d Z:=by kernel_rfl
def qB (E:EB) (D:Ak) (W:AI) (N:Nat):=cV E D W
theorem vY (Z:H) :
 AN E D W N Pj (oK Z) (II E) nX (II E)=qB E D W N  Z:=by kernel_rfl
def Xr (n:Nat):V->V->V->Int->H->AH:=
 Nat.rec (fun _ _ _ _ _=>none) (fun _ ih=>Qi E D W (qB E D W N ) ih) n
theorem uL (n:Nat):∀(a b c:V) (d:Int) (Z:H),
 Ad (fun rec s'=>AN E D W N RR s' (kX Zx [] [] rec) (j1 E D W N Pj) (II E)) n (Xl a b c d Z)=Xr E D W N n a b c d Z:=by
 induction n with
 | zero=>intro a b c d Z;rfl
 | succ n ihn=>
  intro a b c d Z
  rw[Aq]
  refine(ABo E D W N Pj (Ad (fun rec s'=>AN E D W N RR s' (kX Zx [] [] rec) (j1 E D W N Pj) (II E)) n) a b c d Z).trans ?_
  simp only[ihn,vY]
  kernel_rfl
def qC:=XG E D W (Xr E D W N N)
theorem vZ (a b c:V) (Z:H) :
 AN E D W N (gx Pj RR) (oL a b c Z) (II E) nX (II E)=qC E D W N a b c Z:=by
 refine(ABp E D W N Pj RR  a b c Z).trans ?_
 simp only[uL]
 kernel_rfl
def vv (args:List V) (Z:H):AH:=
 AE args fun x1 l2=>
 AE l2 fun x3 l4=>
 AE l4 fun x5 l6=>
 AP l6 (
 qC E D W N x1 x3 x5 Z)
def A20:DR:=⟨30,[.any,.any,.any],[(.tmp 6)],(gx Pj RR)⟩
theorem AHb (args:List V) (Z:H):Bq E D W N A20 args Z=vv E D W N args Z:=by
 unfold vv
 simp only[<-vZ]
 kernel_rfl
def AEE:XC:=(.z (.P 2 (.box 47 (.t 0))<|
.P 3 (.box 47 (.t 1))<|
.c 4 y3<|
.nil)
 (.z (.f 5 0 2<|
.l 6 .i 5<|
.f 7 0 3<|
.l 8 .i 7<|
.b 9 .eql .none (.t 6) (.t 8)<|
.m 10 9<|
.gA 10 true (.p 11 [2,10] (.faddr 1 (.t 2))<|
.p 12 [11,10] (.load none (.t 11))<|
.p 13 [3,10] (.faddr 1 (.t 3))<|
.p 14 [13,10] (.load none (.t 13))<|
.op (some 15) .bool [12,14,10] (.call 18 [(.t 12),(.t 14)])<|
.nil) 16 10 15<|
.m 4 16<|
.nil)
 .ret))
def cU (E:EB) (D:Ak) (W:AI) (a:Int) (b:V) (c:Int) (d:V) (Z:H):AH:=
 Gn [.int .i64 a,b] Z fun s1=>
 Gn [.int .i64 c,d] s1 fun s2=>
 Bc E s2 (H.next Z) 0 fun u3=>
 Am .i64 u3 fun x4=>
 Bc E s2 (H.next s1) 0 fun u5=>
 Am .i64 u5 fun x6=>
 Aa (fun c7 s8=>
 some ((V.bool c7),s8)) fun k9=>
 AK (B4 x4 x6) (
 Bc E s2 (H.next Z) 1 fun u10=>
 Bc E s2 (H.next s1) 1 fun u11=>
 AV (D 18 [u10,u11] s2) fun u12 s13=>
 AZ u12 fun x14=>
 k9 x14 s13) (
 k9 false s2)
def F21 (N:Nat) (args:List V) (Z:H):AH:=
 AE args fun x1 l2=>
 Bm x1 fun l3=>
 Ah .i64 l3 fun x6 l5=>
 AE l5 fun x7 l8=>
 AP l8 (
 AE l2 fun x9 l10=>
 Bm x9 fun l11=>
 Ah .i64 l11 fun x14 l13=>
 AE l13 fun x15 l16=>
 AP l16 (
 AP l10 (
 cU E D W x6 x7 x14 x15 Z)))
def A21:DR:=⟨17,[Ue,Ue],[(.tmp 4)],AEE⟩
theorem AHa (args:List V) (Z:H):Bq E D W N A21 args Z=F21 E D W N args Z:=by kernel_rfl
def Zw:List (Nat × C6):=[(0,.str),(5,.any),(6,.i)]
def JU (E:EB):St->AH:=fun s=>DF E s [(.tmp 2),(.tmp 3),(.tmp 4)] fun l=>some (Da l,s.Z)
def gu (cc1:XC):XC:=(.z (.c 2 V.nils<|
.q 3 0<|
.q 4 0<|
.nil)
 (.seq (.z (.m 9 0<|
.P 10 (.len true (.t 9))<|
.b 11 .gtr .none (.t 10) (.i 8000)<|
.nil)
 (.cond (.tmp 11) (.z (.c 2 V.nils<|
.q 3 0<|
.q 4 5<|
.nil)
 .ret)
 .skip))
 (.z (.c 5 V.nils<|
.nil)
 (.z (.q 6 0<|
.nil)
 (.block 0 (.loop Zw [] [] cc1))))))
def m8 (E:EB) (D:Ak) (W:AI) (K1:BS->V->Int->H->AH) (a:BS) (Z:H):AH:=
 AK (C8 (AA 8000) (AA (BS.len a))) (
 some ((V.tup [V.nils,.int .i64 (AA 0),.int .i64 (AA 5)]),Z)) (
 K1 a V.nils (AA 0) Z)
def RQ:XC:=(.block 1 (.z (.m 12 0<|
.m 13 6<|
.k 14 .i 43 [(.t 12),(.t 13)]<|
.m 6 14<|
.nil)
 (.seq (.z (.m 15 6<|
.m 16 0<|
.P 17 (.len true (.t 16))<|
.b 18 .geq .none (.t 15) (.t 17)<|
.nil)
 (.cond (.tmp 18) (.z (.m 19 5<|
.m 20 0<|
.P 21 (.len true (.t 20))<|
.op (some 22) y7 [21] (.build [y0,y8,y0] [(2,1,(.t 21))])<|
.p 23 [22] (.buildSlice 79 1 [y0,y8,y0] [(0,3,(.t 22))])<|
.O 24 .one (.append 79 3 32 (.t 19) (.t 23))<|
.m 2 24<|
.q 3 0<|
.q 4 0<|
.nil)
 .ret)
 .skip))
 (.z (.m 26 0<|
.m 27 6<|
.k 28 (.tup [y7,.i]) 44 [(.t 26),(.t 27)]<|
.m 25 28<|
.P 29 (.extract 0 (.t 25))<|
.P 30 (.extract 1 (.t 25))<|
.pal 7 [] 79 [y0,y8,y0]<|
.op none y7 [7,29] (.store 3 (.t 7) (.t 29))<|
.m 8 30<|
.nil)
 (.seq (.z (.m 31 8<|
.b 32 .lss .none (.t 31) (.i 0)<|
.nil)
 (.cond (.tmp 32) (.z (.m 33 6<|
.c 2 V.nils<|
.m 3 33<|
.q 4 6<|
.nil)
 .ret)
 .skip))
 (.z (.m 34 5<|
.O 35 y7 (.load (some 3) (.t 7))<|
.p 36 [35] (.buildSlice 79 1 [y0,y8,y0] [(0,3,(.t 35))])<|
.O 37 .one (.append 79 3 32 (.t 34) (.t 36))<|
.m 5 37<|
.nil)
 (.ops (.m 38 8<|
.m 6 38<|
.nil))))))))
def m7 (E:EB) (D:Ak) (W:AI) (R1:BS->V->Int->H->AH) (a:BS) (b:V) (c:Int) (Z:H):AH:=
 AV (D 43 [.str a,.int .i64 c] Z) fun u1 s2=>
 Am .i64 u1 fun x3=>
 AK (Hp (AA (BS.len a)) x3) (
 let s4:=Br s2 (.cells [.int .i64 (AA 0),.str (BS.mk 0 0),.int .i64 (AA (BS.len a))]);
 DD E 3 32 b (V.sl (H.next s2) 0 1 (.ex 1)) s4 fun u5 s6=>
 Ba u5 (
 some ((V.tup [u5,.int .i64 (AA 0),.int .i64 (AA 0)]),s6))) (
 AV (D 44 [.str a,.int .i64 x3] s2) fun u7 s8=>
 DH u7 fun l9=>
 AE l9 fun x10 l11=>
 Bm x10 fun l12=>
 Ah .i64 l12 fun x15 l14=>
 IZ l14 fun x18 l17=>
 Ah .i64 l17 fun x21 l20=>
 AP l20 (
 Ah .i64 l11 fun x24 l23=>
 AP l23 (
 AK (C8 x24 (AA 0)) (
 some ((V.tup [V.nils,.int .i64 x3,.int .i64 (AA 6)]),s8)) (
 let s25:=Br s8 (.cells [.int .i64 x15,.str x18,.int .i64 x21]);
 DD E 3 32 b (V.sl (H.next s8) 0 1 (.ex 1)) s25 fun u26 s27=>
 Ba u26 (
 R1 a u26 x24 s27)))))
def oJ (a:BS) (Z:H):St:=⟨[(0,.str a)],[],[],Z⟩
def Xk (a:BS) (b:V) (c:Int) (Z:H):St:=⟨[(0,.str a),(5,b),(6,.int .i64 c)],[],[],Z⟩
theorem ABn (cc1:XC) (a:BS) (Z:H) :
 AN E D W N (gu cc1) (oJ a Z) (JU E) nX (JU E) =
 m8 E D W (fun a b c Z=>Ad (fun rec s'=>AN E D W N cc1 s' (kX Zw [] [] rec) (BY 0 (JU E) nX) (JU E)) N (Xk a b c Z)) a Z:=by kernel_rfl
theorem ABm (li1:St->AH) (a:BS) (b:V) (c:Int) (Z:H) :
 AN E D W N (RQ ) (Xk a b c Z) (kX Zw [] [] li1) (BY 0 (JU E) nX) (JU E) =
 m7 E D W (fun a b c Z=>li1 (Xk a b c Z)) a b c Z:=by kernel_rfl
def og (E:EB) (D:Ak) (W:AI) (N:Nat) (n:Nat):BS->V->Int->H->AH:=
 Nat.rec (fun _ _ _ _=>none) (fun _ ih=>m7 E D W ih) n
theorem uK (n:Nat):∀(a:BS) (b:V) (c:Int) (Z:H),
 Ad (fun rec s'=>AN E D W N RQ s' (kX Zw [] [] rec) (BY 0 (JU E) nX) (JU E)) n (Xk a b c Z)=og E D W N n a b c Z:=by
 induction n with
 | zero=>intro a b c Z;rfl
 | succ n ihn=>
  intro a b c Z
  rw[Aq]
  refine(ABm E D W N  (Ad (fun rec s'=>AN E D W N RQ s' (kX Zw [] [] rec) (BY 0 (JU E) nX) (JU E)) n) a b c Z).trans ?_
  simp only[ihn]
  kernel_rfl
def qA:=m8 E D W (og E D W N N)
theorem vX (a:BS) (Z:H) :
 AN E D W N (gu RQ) (oJ a Z) (JU E) nX (JU E)=qA E D W N a Z:=by
 refine(ABn E D W N RQ  a Z).trans ?_
 simp only[uK]
 kernel_rfl
def F22 (args:List V) (Z:H):AH:=
 IZ args fun x3 l2=>
 AP l2 (
 qA E D W N x3 Z)
def A22:DR:=⟨39,[.str],[(.tmp 2),(.tmp 3),(.tmp 4)],(gu RQ)⟩
theorem AHZ (args:List V) (Z:H):Bq E D W N A22 args Z=F22 E D W N args Z:=by
 unfold F22
 simp only[<-vX]
 kernel_rfl
def AED:XC:=(.z (.c 4 y8<|
.nil)
 (.z (.m 6 0<|
.k 7 y7 26 [(.t 6)]<|
.pal 5 [] 79 [y0,y8,y0]<|
.op none y7 [5,7] (.store 3 (.t 5) (.t 7))<|
.nil)
 (.seq (.z (.m 8 0<|
.n 9 8<|
.f 10 7 9<|
.l 11 .i 10<|
.b 12 .neq .none (.t 11) (.i 0)<|
.m 13 12<|
.gO 13 false (.p 14 [5,13] (.faddr 0 (.t 5))<|
.op (some 15) .i [14,13] (.load none (.t 14))<|
.p 16 [1,13] Jd<|
.p 17 [15,16,13] (.bin .neq .none (.t 15) (.t 16))<|
.nil) 18 13 17<|
.nil)
 (.cond (.tmp 18) (.z (.m 19 0<|
.O 20 y7 (.load (some 3) (.t 5))<|
.k 21 (.tup []) 27 [(.t 19),(.i 7),(.t 20)]<|
.nil)
 (.z (.c 4 y8<|
.nil)
 .ret))
 .skip))
 (.z (.m 22 0<|
.k 23 y7 45 [(.t 22)]<|
.O 24 .str (.field 1 none (.t 23))<|
.m 4 24<|
.nil)
 .ret))))
def AAI (E:EB) (D:Ak) (W:AI) (a b:Nat) (c:Int) (Z:H):AH:=
 AV (D 26 [.ptr a b] Z) fun u1 s2=>
 Bm u1 fun l3=>
 Ah .i64 l3 fun x6 l5=>
 IZ l5 fun x9 l8=>
 Ah .i64 l8 fun x12 l11=>
 AP l11 (
 Bc E s2 a (Ap b 7) fun u13=>
 Am .i64 u13 fun x14=>
 Aa (fun c15 s16=>
 AK c15 (
 AV (D 27 [.ptr a b,.int .i64 (AA 7),.agg [.int .i64 x6,.str x9,.int .i64 x12]] s16) fun u18 s19=>
 DH u18 fun l20=>
 AP l20 (
 some ((V.str (BS.mk 0 0)),s19))) (
 AV (D 45 [.ptr a b] s16) fun u21 s22=>
 Bm u21 fun l23=>
 Ah .i64 l23 fun x26 l25=>
 IZ l25 fun x29 l28=>
 Ah .i64 l28 fun x32 l31=>
 AP l31 (
 some ((V.str x29),s22)))) fun k17=>
 AK (not (B4 x14 (AA 0))) (
 k17 true s2) (
 k17 (not (B4 x6 c)) s2))
def F23 (N:Nat) (args:List V) (Z:H):AH:=
 AE args fun x1 l2=>
 B8 x1 fun b3 o4=>
 Ah .i64 l2 fun x7 l6=>
 AP l6 (
 AAI E D W b3 o4 x7 Z)
def A23:DR:=⟨25,[.ptr,.i],[(.tmp 4)],AED⟩
theorem AHY (args:List V) (Z:H):Bq E D W N A23 args Z=F23 E D W N args Z:=by kernel_rfl
def AEC:XC:=(.z (.m 4 0<|
.n 5 4<|
.f 6 7 5<|
.l 7 .i 6<|
.b 8 .eql .none (.t 7) (.i 0)<|
.m 9 8<|
.gA 9 true (.p 10 [0,9] y9<|
.p 11 [1,9] Jd<|
.op (some 12) .bool [10,11,9] (.call 25 [(.t 10),(.t 11)])<|
.p 13 [12,9] (.un .not (.t 12))<|
.nil) 14 9 13<|
.nil)
 (.cond (.tmp 14) (.ops (.m 15 0<|
.m 16 0<|
.k 17 y7 26 [(.t 16)]<|
.k 18 (.tup []) 27 [(.t 15),(.i 7),(.t 17)]<|
.nil))
 .skip))
def AAH (E:EB) (D:Ak) (W:AI) (a b:Nat) (c:BS) (Z:H):AH:=
 Bc E Z a (Ap b 7) fun u1=>
 Am .i64 u1 fun x2=>
 Aa (fun c3 s4=>
 AK c3 (
 AV (D 26 [.ptr a b] s4) fun u6 s7=>
 Bm u6 fun l8=>
 Ah .i64 l8 fun x11 l10=>
 IZ l10 fun x14 l13=>
 Ah .i64 l13 fun x17 l16=>
 AP l16 (
 AV (D 27 [.ptr a b,.int .i64 (AA 7),.agg [.int .i64 x11,.str x14,.int .i64 x17]] s7) fun u18 s19=>
 DH u18 fun l20=>
 AP l20 (
 some ((V.tup []),s19)))) (
 some ((V.tup []),s4))) fun k5=>
 AK (B4 x2 (AA 0)) (
 AV (D 25 [.ptr a b,.str c] Z) fun u21 s22=>
 AZ u21 fun x23=>
 k5 (not x23) s22) (
 k5 false Z)
def F24 (N:Nat) (args:List V) (Z:H):AH:=
 AE args fun x1 l2=>
 B8 x1 fun b3 o4=>
 IZ l2 fun x7 l6=>
 AP l6 (
 AAH E D W b3 o4 x7 Z)
def A24:DR:=⟨19,[.ptr,.str],[],AEC⟩
theorem AHX (args:List V) (Z:H):Bq E D W N A24 args Z=F24 E D W N args Z:=by kernel_rfl
def AEB:XC:=(.z (.c 4 y3<|
.nil)
 (.z (.m 6 0<|
.k 7 y7 26 [(.t 6)]<|
.pal 5 [] 79 [y0,y8,y0]<|
.op none y7 [5,7] (.store 3 (.t 5) (.t 7))<|
.nil)
 (.seq (.z (.m 8 0<|
.n 9 8<|
.f 10 7 9<|
.l 11 .i 10<|
.b 12 .eql .none (.t 11) (.i 0)<|
.m 13 12<|
.gA 13 true (.p 14 [5,13] (.faddr 0 (.t 5))<|
.op (some 15) .i [14,13] (.load none (.t 14))<|
.p 16 [15,13] (.bin .eql .none (.t 15) (.i 5))<|
.p 17 [16,13] (.mov (.t 16))<|
.grp 17 false (.p 18 [5,17] (.faddr 0 (.t 5))<|
.op (some 19) .i [18,17] (.load none (.t 18))<|
.p 20 [19,17] (.bin .eql .none (.t 19) (.i 6))<|
.nil) 21 [17,20,13] (.t 17) Pw (.t 20)<|
.nil) 22 13 21<|
.m 23 22<|
.gA 23 true (.p 24 [5,23] (.faddr 1 (.t 5))<|
.op (some 25) .str [24,23] (.load none (.t 24))<|
.p 26 [1,23] Jd<|
.p 27 [25,26,23] (.bin .eql .none (.t 25) (.t 26))<|
.nil) 28 23 27<|
.nil)
 (.cond (.tmp 28) (.z (.m 29 0<|
.k 30 y7 45 [(.t 29)]<|
.nil)
 (.z (.c 4 iE<|
.nil)
 .ret))
 .skip))
 (.z (.c 4 y3<|
.nil)
 .ret))))
def AAG (E:EB) (D:Ak) (W:AI) (a b:Nat) (c:BS) (Z:H):AH:=
 AV (D 26 [.ptr a b] Z) fun u1 s2=>
 Bm u1 fun l3=>
 Ah .i64 l3 fun x6 l5=>
 IZ l5 fun x9 l8=>
 Ah .i64 l8 fun x12 l11=>
 AP l11 (
 Bc E s2 a (Ap b 7) fun u13=>
 Am .i64 u13 fun x14=>
 Aa (fun c15 s16=>
 Aa (fun c18 s19=>
 AK c18 (
 AV (D 45 [.ptr a b] s19) fun u21 s22=>
 Bm u21 fun l23=>
 Ah .i64 l23 fun x26 l25=>
 IZ l25 fun x29 l28=>
 Ah .i64 l28 fun x32 l31=>
 AP l31 (
 some ((V.bool true),s22))) (
 some ((V.bool false),s19))) fun k20=>
 AK c15 (
 k20 (BS.beq x9 c) s16) (
 k20 false s16)) fun k17=>
 AK (B4 x14 (AA 0)) (
 Aa (fun c33 s34=>
 k17 c33 s34) fun k35=>
 AK (B4 x6 (AA 5)) (
 k35 true s2) (
 k35 (B4 x6 (AA 6)) s2)) (
 k17 false s2))
def F25 (N:Nat) (args:List V) (Z:H):AH:=
 AE args fun x1 l2=>
 B8 x1 fun b3 o4=>
 IZ l2 fun x7 l6=>
 AP l6 (
 AAG E D W b3 o4 x7 Z)
def A25:DR:=⟨31,[.ptr,.str],[(.tmp 4)],AEB⟩
theorem AHW (args:List V) (Z:H):Bq E D W N A25 args Z=F25 E D W N args Z:=by kernel_rfl
def AEA:XC:=(.z (.pal 2 [] 79 [y0,y8,y0]<|
.nil)
 (.seq (.draw (.m 3 0<|
.n 4 3<|
.f 5 0 4<|
.l 6 .any 5<|
.m 7 0<|
.n 8 7<|
.f 9 1 8<|
.l 10 .i 9<|
.s 11 3 6 10<|
.O 12 y7 (.load (some 3) (.t 11))<|
.op none y7 [2,12] (.store 3 (.t 2) (.t 12))<|
.nil) [0,1,3,7,0,16,48,112,255,511,1023])
 .ret))
def AAF (E:EB) (D:Ak) (W:AI) (a b:Nat) (Z:H):AH:=
 Bc E Z a b fun u1=>
 Bc E Z a (Ap b 1) fun u2=>
 Am .i64 u2 fun x3=>
 AU 3 u1 x3 fun b4 o5=>
 BH E Z b4 o5 3 fun l6=>
 Ah .i64 l6 fun x9 l8=>
 IZ l8 fun x12 l11=>
 Ah .i64 l11 fun x15 l14=>
 AP l14 (
 some ((V.agg [.int .i64 x9,.str x12,.int .i64 x15]),Z))
def F26 (N:Nat) (args:List V) (Z:H):AH:=
 AE args fun x1 l2=>
 B8 x1 fun b3 o4=>
 AP l2 (
 AAF E D W b3 o4 Z)
def A26:DR:=⟨13,[.ptr],[(.cell 2 (some 3))],AEA⟩
theorem AHV (args:List V) (Z:H):Bq E D W N A26 args Z=F26 E D W N args Z:=by kernel_rfl
def Zu:List (Nat × C6):=[(0,(.int .u64)),(3,.any)]
def IH (E:EB):St->AH:=fun s=>DF E s [(.tmp 2)] fun l=>some (Da l,s.Z)
def jz (c0:XC):Nat->St->AH:=BY 0 (dX E D W N (.keep [(3,.any)] [] [] c0) (IH E) nX (IH E)) nX
def gr (cc1:XC) (cc2:XC):XC:=(.z (.c 2 V.nils<|
.nil)
 (.z (.m 4 0<|
.b 5 .and .none (.t 4) (.con (V.int .u64 (AA 127)))<|
.P 6 (.conv (.toInt .u8) (.t 5))<|
.p 7 [6] (.buildSlice 5 1 [y5] [(0,1,(.t 6))])<|
.m 3 7<|
.nil)
 (.seq (.block 0 (.loop Zu [] [] cc2))
 (.keep [(3,.any)] [] [] cc1))))
def XF (E:EB) (D:Ak) (W:AI) (K2:Int->V->H->AH) (a:Int) (Z:H):AH:=
 let s1:=Br Z (.cells [.int .u8 (An .u8 (Eo .u64 a (AA 127)))]);
 K2 a (V.sl (H.next Z) 0 1 (.ex 1)) s1
def Ph:XC:=(.z (.m 19 3<|
.m 2 19<|
.nil)
 .ret)
def cT (E:EB) (D:Ak) (W:AI) (a:V) (Z:H):AH:=
 some (a,Z)
def RP:XC:=(.seq (.z (.m 8 0<|
.b 9 .gtr .none (.t 8) (.con (V.int .u64 (AA 127)))<|
.nil)
 lh)
 (.block 1 (.z (.m 10 0<|
.b 11 .shr .none (.t 10) y26<|
.m 0 11<|
.nil)
 (.ops (.m 12 0<|
.b 13 .and .none (.t 12) (.con (V.int .u64 (AA 127)))<|
.P 14 (.conv (.toInt .u8) (.t 13))<|
.b 15 .or .none (.t 14) lj<|
.p 16 [15] (.buildSlice 5 1 [y5] [(0,1,(.t 15))])<|
.m 17 3<|
.O 18 .one (.append 5 1 1 (.t 16) (.t 17))<|
.m 3 18<|
.nil)))))
def Qh (E:EB) (D:Ak) (W:AI) (K1:V->H->AH) (R2:Int->V->H->AH) (a:Int) (b:V) (Z:H):AH:=
 AK (C8 (AA 127) a) (
 let s1:=Br Z (.cells [.int .u8 (Gq .u8 (An .u8 (Eo .u64 (GB .u64 a 7) (AA 127))) (AA 128))]);
 DD E 1 1 (V.sl (H.next Z) 0 1 (.ex 1)) b s1 fun u2 s3=>
 Ba u2 (
 R2 (GB .u64 a 7) u2 s3)) (
 K1 b Z)
def oH (a:Int) (Z:H):St:=⟨[(0,.int .u64 a)],[],[],Z⟩
def oG (a:V) (Z:H):St:=⟨[(3,a)],[],[],Z⟩
def Xj (a:Int) (b:V) (Z:H):St:=⟨[(0,.int .u64 a),(3,b)],[],[],Z⟩
theorem ABl (cc1:XC) (cc2:XC) (a:Int) (Z:H) :
 AN E D W N (gr cc1 cc2) (oH a Z) (IH E) nX (IH E) =
 XF E D W (fun a b Z=>Ad (fun rec s'=>AN E D W N cc2 s' (kX Zu [] [] rec) (jz E D W N cc1) (IH E)) N (Xj a b Z)) a Z:=by kernel_rfl
theorem ABk (cc1:XC) (li2:St->AH) (a:Int) (b:V) (Z:H) :
 AN E D W N (RP ) (Xj a b Z) (kX Zu [] [] li2) (jz E D W N cc1) (IH E) =
 Qh E D W (fun b Z=>AN E D W N cc1 (oG b Z) (IH E) nX (IH E)) (fun a b Z=>li2 (Xj a b Z)) a b Z:=by kernel_rfl
def p8 (E:EB) (D:Ak) (W:AI) (N:Nat):=cT E D W
theorem vV (a:V) (Z:H) :
 AN E D W N Ph (oG a Z) (IH E) nX (IH E)=p8 E D W N a Z:=by kernel_rfl
def oe (n:Nat):Int->V->H->AH:=
 Nat.rec (fun _ _ _=>none) (fun _ ih=>Qh E D W (p8 E D W N ) ih) n
theorem uJ (n:Nat):∀(a:Int) (b:V) (Z:H),
 Ad (fun rec s'=>AN E D W N RP s' (kX Zu [] [] rec) (jz E D W N Ph) (IH E)) n (Xj a b Z)=oe E D W N n a b Z:=by
 induction n with
 | zero=>intro a b Z;rfl
 | succ n ihn=>
  intro a b Z
  rw[Aq]
  refine(ABk E D W N Ph (Ad (fun rec s'=>AN E D W N RP s' (kX Zu [] [] rec) (jz E D W N Ph) (IH E)) n) a b Z).trans ?_
  simp only[ihn,vV]
  kernel_rfl
def p9:=XF E D W (oe E D W N N)
theorem vW (a:Int) (Z:H) :
 AN E D W N (gr Ph RP) (oH a Z) (IH E) nX (IH E)=p9 E D W N a Z:=by
 refine(ABl E D W N Ph RP  a Z).trans ?_
 simp only[uJ]
 kernel_rfl
def xP (args:List V) (Z:H):AH:=
 Ah .u64 args fun x3 l2=>
 AP l2 (
 p9 E D W N x3 Z)
def A31:DR:=⟨20,[(.int .u64)],[(.tmp 2)],(gr Ph RP)⟩
theorem AHU (args:List V) (Z:H):Bq E D W N A31 args Z=xP E D W N args Z:=by
 unfold xP
 simp only[<-vW]
 kernel_rfl
def Zt:List (Nat × C6):=[(0,(.int .u64)),(3,.any)]
def IG (E:EB):St->AH:=fun s=>DF E s [(.tmp 2)] fun l=>some (Da l,s.Z)
def jy (c0:XC):Nat->St->AH:=BY 0 (dX E D W N (.keep [(3,.any)] [] [] c0) (IG E) nX (IG E)) nX
def gq (cc1:XC) (cc2:XC):XC:=(.z (.c 2 V.nils<|
.nil)
 (.z (.m 4 0<|
.P 5 (.conv (.toInt .u8) (.t 4))<|
.p 6 [5] (.buildSlice 5 1 [y5] [(0,1,(.t 5))])<|
.m 3 6<|
.nil)
 (.seq (.block 0 (.loop Zt [] [] cc2))
 (.keep [(3,.any)] [] [] cc1))))
def XE (E:EB) (D:Ak) (W:AI) (K2:Int->V->H->AH) (a:Int) (Z:H):AH:=
 let s1:=Br Z (.cells [.int .u8 (An .u8 a)]);
 K2 a (V.sl (H.next Z) 0 1 (.ex 1)) s1
def Pg:XC:=(.z (.m 16 3<|
.m 2 16<|
.nil)
 .ret)
def cS (E:EB) (D:Ak) (W:AI) (a:V) (Z:H):AH:=
 some (a,Z)
def RO:XC:=(.seq (.z (.m 7 0<|
.b 8 .gtr .none (.t 7) (.con (V.int .u64 (AA 255)))<|
.nil)
 (.cond (.tmp 8) .skip
 Me))
 (.block 1 (.z (.m 9 0<|
.b 10 .shr .none (.t 9) (.con (V.int .u64 (AA 8)))<|
.m 0 10<|
.nil)
 (.ops (.m 11 0<|
.P 12 (.conv (.toInt .u8) (.t 11))<|
.p 13 [12] (.buildSlice 5 1 [y5] [(0,1,(.t 12))])<|
.m 14 3<|
.O 15 .one (.append 5 1 1 (.t 13) (.t 14))<|
.m 3 15<|
.nil)))))
def Qg (E:EB) (D:Ak) (W:AI) (K1:V->H->AH) (R2:Int->V->H->AH) (a:Int) (b:V) (Z:H):AH:=
 AK (C8 (AA 255) a) (
 let s1:=Br Z (.cells [.int .u8 (An .u8 (GB .u64 a 8))]);
 DD E 1 1 (V.sl (H.next Z) 0 1 (.ex 1)) b s1 fun u2 s3=>
 Ba u2 (
 R2 (GB .u64 a 8) u2 s3)) (
 K1 b Z)
def oF (a:Int) (Z:H):St:=⟨[(0,.int .u64 a)],[],[],Z⟩
def oE (a:V) (Z:H):St:=⟨[(3,a)],[],[],Z⟩
def Xi (a:Int) (b:V) (Z:H):St:=⟨[(0,.int .u64 a),(3,b)],[],[],Z⟩
theorem ABj (cc1:XC) (cc2:XC) (a:Int) (Z:H) :
 AN E D W N (gq cc1 cc2) (oF a Z) (IG E) nX (IG E) =
 XE E D W (fun a b Z=>Ad (fun rec s'=>AN E D W N cc2 s' (kX Zt [] [] rec) (jy E D W N cc1) (IG E)) N (Xi a b Z)) a Z:=by kernel_rfl
theorem ABi (cc1:XC) (li2:St->AH) (a:Int) (b:V) (Z:H) :
 AN E D W N (RO ) (Xi a b Z) (kX Zt [] [] li2) (jy E D W N cc1) (IG E) =
 Qg E D W (fun b Z=>AN E D W N cc1 (oE b Z) (IG E) nX (IG E)) (fun a b Z=>li2 (Xi a b Z)) a b Z:=by kernel_rfl
def p6 (E:EB) (D:Ak) (W:AI) (N:Nat):=cS E D W
theorem vT (a:V) (Z:H) :
 AN E D W N Pg (oE a Z) (IG E) nX (IG E)=p6 E D W N a Z:=by kernel_rfl
def oZ (n:Nat):Int->V->H->AH:=
 Nat.rec (fun _ _ _=>none) (fun _ ih=>Qg E D W (p6 E D W N ) ih) n
theorem uI (n:Nat):∀(a:Int) (b:V) (Z:H),
 Ad (fun rec s'=>AN E D W N RO s' (kX Zt [] [] rec) (jy E D W N Pg) (IG E)) n (Xi a b Z)=oZ E D W N n a b Z:=by
 induction n with
 | zero=>intro a b Z;rfl
 | succ n ihn=>
  intro a b Z
  rw[Aq]
  refine(ABi E D W N Pg (Ad (fun rec s'=>AN E D W N RO s' (kX Zt [] [] rec) (jy E D W N Pg) (IG E)) n) a b Z).trans ?_
  simp only[ihn,vT]
  kernel_rfl
def p7:=XE E D W (oZ E D W N N)
theorem vU (a:Int) (Z:H) :
 AN E D W N (gq Pg RO) (oF a Z) (IG E) nX (IG E)=p7 E D W N a Z:=by
 refine(ABj E D W N Pg RO  a Z).trans ?_
 simp only[uI]
 kernel_rfl
def xO (args:List V) (Z:H):AH:=
 Ah .u64 args fun x3 l2=>
 AP l2 (
 p7 E D W N x3 Z)
def A32:DR:=⟨17,[(.int .u64)],[(.tmp 2)],(gq Pg RO)⟩
theorem AHT (args:List V) (Z:H):Bq E D W N A32 args Z=xO E D W N args Z:=by
 unfold xO
 simp only[<-vU]
 kernel_rfl
def Zr:List (Nat × C6):=[(0,.ptr),(2,.any),(14,.any),(15,.i),(16,.i)]
def IF (E:EB):St->AH:=fun s=>DF E s [(.tmp 6)] fun l=>some (Da l,s.Z)
def jx (c0:XC):Nat->St->AH:=BY 0 (dX E D W N (.keep [(2,.any)] [] [] c0) (IF E) nX (IF E)) nX
def gp (cc1:XC) (cc2:XC):XC:=(.z (.c 6 V.nils<|
.nil)
 (.seq (.z (.m 14 1<|
.u 15 14<|
.q 16 0<|
.nil)
 (.block 0 (.loop Zr [] [] cc2)))
 (.keep [(2,.any)] [] [] cc1)))
def UA (E:EB) (D:Ak) (W:AI) (K2:Nat->Nat->V->V->Int->Int->H->AH) (a b:Nat) (c d:V) (Z:H):AH:=
 A2 c fun n1=>
 K2 a b d c (AA n1) (AA 0) Z
def Pf:XC:=(.z (.m 46 2<|
.m 6 46<|
.nil)
 .ret)
def cR (E:EB) (D:Ak) (W:AI) (a:V) (Z:H):AH:=
 some (a,Z)
def RN:XC:=(.z (.b 17 .lss .none (.t 16) (.t 15)<|
.nil)
 (.seq (.cond (.tmp 17) .skip
 Me)
 (.seq (.block 1 (.z (.s 18 2 14 16<|
.O 19 y4 (.load (some 2) (.t 18))<|
.pal 8 [] 38 [y0,y0]<|
.op none y4 [8,19] (.store 2 (.t 8) (.t 19))<|
.nil)
 (.z (.m 21 2<|
.k 22 (.tup [y4,.bool,.any,.i,.i]) 57 [(.t 21)]<|
.m 20 22<|
.P 23 (.extract 0 (.t 20))<|
.P 24 (.extract 1 (.t 20))<|
.P 25 (.extract 2 (.t 20))<|
.P 26 (.extract 3 (.t 20))<|
.P 27 (.extract 4 (.t 20))<|
.pal 9 [] 38 [y0,y0]<|
.op none y4 [9,23] (.store 2 (.t 9) (.t 23))<|
.m 10 24<|
.m 11 25<|
.m 12 26<|
.m 13 27<|
.nil)
 (.seq (.z (.m 28 13<|
.b 29 .neq .none (.t 28) (.i 0)<|
.m 30 29<|
.gO 30 false (.p 31 [12,30] (.mov (.t 12))<|
.p 32 [2,30] (.mov (.t 2))<|
.p 33 [32,30] (.len false (.t 32))<|
.p 34 [31,33,30] (.bin .neq .none (.t 31) (.t 33))<|
.nil) 35 30 34<|
.m 36 35<|
.gO 36 false (.op (some 37) y4 [9,36] (.load (some 2) (.t 9))<|
.op (some 38) y4 [8,36] (.load (some 2) (.t 8))<|
.p 39 [37,38,36] (.bin .neq (.flat [(0,.int),(1,.int)]) (.t 37) (.t 38))<|
.nil) 40 36 39<|
.nil)
 (.cond (.tmp 40) (.z (.m 41 0<|
.n 42 41<|
.f 43 0 42<|
.op none .any [43] (.store 1 (.t 43) Pw)<|
.nil)
 (.z (.c 6 V.nils<|
.nil)
 .ret))
 .skip))
 (.ops (.m 44 11<|
.m 2 44<|
.nil))))))
 (.ops (.b 45 .add .none (.t 16) (.i 1)<|
.m 16 45<|
.nil)))))
def Qf (E:EB) (D:Ak) (W:AI) (K1:V->H->AH) (R2:Nat->Nat->V->V->Int->Int->H->AH) (a b:Nat) (c d:V) (e f:Int) (Z:H):AH:=
 AK (C8 f e) (
 AU 2 d f fun b1 o2=>
 BH E Z b1 o2 2 fun l3=>
 Ah .i64 l3 fun x6 l5=>
 Ah .i64 l5 fun x9 l8=>
 AP l8 (
 AV (D 57 [c] Z) fun u10 s11=>
 DH u10 fun l12=>
 AE l12 fun x13 l14=>
 Bm x13 fun l15=>
 Ah .i64 l15 fun x18 l17=>
 Ah .i64 l17 fun x21 l20=>
 AP l20 (
 DQ l14 fun x24 l23=>
 AE l23 fun x25 l26=>
 Ah .i64 l26 fun x29 l28=>
 Ah .i64 l28 fun x32 l31=>
 AP l31 (
 Aa (fun c33 s34=>
 Aa (fun c36 s37=>
 AK c36 (
 FW 1 a b (V.bool true) s37 fun s39=>
 some (V.nils,s39)) (
 R2 a b x25 d e (CR .i64 f (AA 1)) s37)) fun k38=>
 AK c33 (
 k38 true s34) (
 ZD (.flat [(0,.int),(1,.int)]) (V.agg [.int .i64 x18,.int .i64 x21]) (V.agg [.int .i64 x6,.int .i64 x9]) fun c40=>
 k38 (not c40) s34)) fun k35=>
 AK (not (B4 x32 (AA 0))) (
 k35 true s11) (
 A2 c fun n41=>
 k35 (not (B4 x29 (AA n41))) s11))))) (
 K1 c Z)
def oD (a b:Nat) (c d:V) (Z:H):St:=⟨[(0,.ptr a b),(1,c),(2,d)],[],[],Z⟩
def oB (a:V) (Z:H):St:=⟨[(2,a)],[],[],Z⟩
def Xh (a b:Nat) (c d:V) (e f:Int) (Z:H):St:=⟨[(0,.ptr a b),(2,c),(14,d),(15,.int .i64 e),(16,.int .i64 f)],[],[],Z⟩
theorem ABh (cc1:XC) (cc2:XC) (a b:Nat) (c d:V) (Z:H) :
 AN E D W N (gp cc1 cc2) (oD a b c d Z) (IF E) nX (IF E) =
 UA E D W (fun a b d e f g Z=>Ad (fun rec s'=>AN E D W N cc2 s' (kX Zr [] [] rec) (jx E D W N cc1) (IF E)) N (Xh a b d e f g Z)) a b c d Z:=by kernel_rfl
theorem ABg (cc1:XC) (li2:St->AH) (a b:Nat) (c d:V) (e f:Int) (Z:H) :
 AN E D W N (RN ) (Xh a b c d e f Z) (kX Zr [] [] li2) (jx E D W N cc1) (IF E) =
 Qf E D W (fun c Z=>AN E D W N cc1 (oB c Z) (IF E) nX (IF E)) (fun a b c d e f Z=>li2 (Xh a b c d e f Z)) a b c d e f Z:=by kernel_rfl
def pz (E:EB) (D:Ak) (W:AI) (N:Nat):=cR E D W
theorem vP (a:V) (Z:H) :
 AN E D W N Pf (oB a Z) (IF E) nX (IF E)=pz E D W N a Z:=by kernel_rfl
def eW (n:Nat):Nat->Nat->V->V->Int->Int->H->AH:=
 Nat.rec (fun _ _ _ _ _ _ _=>none) (fun _ ih=>Qf E D W (pz E D W N ) ih) n
theorem uH (n:Nat):∀(a b:Nat) (c d:V) (e f:Int) (Z:H),
 Ad (fun rec s'=>AN E D W N RN s' (kX Zr [] [] rec) (jx E D W N Pf) (IF E)) n (Xh a b c d e f Z)=eW E D W N n a b c d e f Z:=by
 induction n with
 | zero=>intro a b c d e f Z;rfl
 | succ n ihn=>
  intro a b c d e f Z
  rw[Aq]
  refine(ABg E D W N Pf (Ad (fun rec s'=>AN E D W N RN s' (kX Zr [] [] rec) (jx E D W N Pf) (IF E)) n) a b c d e f Z).trans ?_
  simp only[ihn,vP]
  kernel_rfl
def p5:=UA E D W (eW E D W N N)
theorem vR (a b:Nat) (c d:V) (Z:H) :
 AN E D W N (gp Pf RN) (oD a b c d Z) (IF E) nX (IF E)=p5 E D W N a b c d Z:=by
 refine(ABh E D W N Pf RN  a b c d Z).trans ?_
 simp only[uH]
 kernel_rfl
def xN (args:List V) (Z:H):AH:=
 AE args fun x1 l2=>
 B8 x1 fun b3 o4=>
 AE l2 fun x5 l6=>
 AE l6 fun x7 l8=>
 AP l8 (
 p5 E D W N b3 o4 x5 x7 Z)
def A33:DR:=⟨47,[.ptr,.any,.any],[(.tmp 6)],(gp Pf RN)⟩
theorem AHS (args:List V) (Z:H):Bq E D W N A33 args Z=xN E D W N args Z:=by
 unfold xN
 simp only[<-vR]
 kernel_rfl
def AD9 (cc1:XC):XC:=(.z (.q 2 0<|
.q 3 0<|
.nil)
 (.seq (.z (.m 6 0<|
.u 7 6<|
.b 8 .eql .none (.t 7) (.i 0)<|
.nil)
 (.cond (.tmp 8) (.z (.q 2 0<|
.q 3 3<|
.nil)
 .ret)
 .skip))
 (.seq (.z (.m 9 0<|
.u 10 9<|
.b 11 .gtr .none (.t 10) (.i 8)<|
.nil)
 (.cond (.tmp 11) (.z (.q 2 0<|
.q 3 4<|
.nil)
 .ret)
 .skip))
 (.z (.m 12 0<|
.k 13 (.int .u64) 58 [(.t 12)]<|
.P 14 (.conv (.toInt .i64) (.t 13))<|
.m 4 14<|
.nil)
 (.seq (.z (.m 15 0<|
.u 16 15<|
.b 17 .mul .none (.i 8) (.t 16)<|
.b 18 .sub .none (.i 64) (.t 17)<|
.m 5 18<|
.nil)
 (.z (.m 19 5<|
.b 20 .gtr .none (.t 19) (.i 0)<|
.nil)
 (.cond (.tmp 20) (.ops (.m 21 4<|
.m 22 5<|
.b 23 .shl .none (.t 21) (.t 22)<|
.m 24 5<|
.b 25 .shr .none (.t 23) (.t 24)<|
.m 4 25<|
.nil))
 .skip)))
 (.keep [(0,.any),(4,.i)] [] [] cc1))))))
def MS (E:EB) (D:Ak) (W:AI) (K1:V->Int->H->AH) (a:V) (Z:H):AH:=
 A2 a fun n1=>
 AK (B4 (AA n1) (AA 0)) (
 some ((V.tup [.int .i64 (AA 0),.int .i64 (AA 3)]),Z)) (
 A2 a fun n2=>
 AK (C8 (AA 8) (AA n2)) (
 some ((V.tup [.int .i64 (AA 0),.int .i64 (AA 4)]),Z)) (
 AV (D 58 [a] Z) fun u3 s4=>
 Am .u64 u3 fun x5=>
 A2 a fun n6=>
 AK (C8 (AA 0) (D6 .i64 (AA 64) (Hq .i64 (AA 8) (AA n6)))) (
 N8 (D6 .i64 (AA 64) (Hq .i64 (AA 8) (AA n6))) fun n7=>
 N8 (D6 .i64 (AA 64) (Hq .i64 (AA 8) (AA n6))) fun n8=>
 K1 a (GB .i64 (JV .i64 (An .i64 x5) n7) n8) s4) (
 K1 a (An .i64 x5) s4)))
def AD8:XC:=(.seq (.z (.m 26 4<|
.k 27 .one 59 [(.t 26)]<|
.m 28 0<|
.k 29 .bool 17 [(.t 27),(.t 28)]<|
.P 30 (.un .not (.t 29))<|
.nil)
 (.cond (.tmp 30) (.z (.q 2 0<|
.q 3 4<|
.nil)
 .ret)
 .skip))
 (.z (.m 31 4<|
.m 2 31<|
.q 3 0<|
.nil)
 .ret))
def T9 (E:EB) (D:Ak) (W:AI) (a:V) (b:Int) (Z:H):AH:=
 AV (D 59 [.int .i64 b] Z) fun u1 s2=>
 Ba u1 (
 AV (D 17 [u1,a] s2) fun u3 s4=>
 AZ u3 fun x5=>
 AK (not x5) (
 some ((V.tup [.int .i64 (AA 0),.int .i64 (AA 4)]),s4)) (
 some ((V.tup [.int .i64 b,.int .i64 (AA 0)]),s4)))
def fA (E:EB) (D:Ak) (W:AI) (N:Nat):=T9 E D W
def F34 (args:List V) (Z:H):AH:=
 AE args fun x1 l2=>
 AP l2 (
 MS E D W (fA E D W N ) x1 Z)
def A34:DR:=⟨32,[.any],[(.tmp 2),(.tmp 3)],(AD9 AD8)⟩
theorem AHR (args:List V) (Z:H):Bq E D W N A34 args Z=F34 E D W N args Z:=by kernel_rfl
def AD7:XC:=(.z (.c 2 V.nils<|
.nil)
 (.seq (.z (.m 3 0<|
.b 4 .eql .slice (.t 3) (.con V.nils)<|
.nil)
 (.cond (.tmp 4) (.z (.c 2 V.nils<|
.nil)
 .ret)
 .skip))
 (.z (.p 5 [] (.buildSlice 5 0 [] [])<|
.m 6 0<|
.O 7 .one (.append 5 1 1 (.t 5) (.t 6))<|
.m 2 7<|
.nil)
 .ret)))
def cQ (E:EB) (D:Ak) (W:AI) (a:V) (Z:H):AH:=
 ZD .slice a V.nils fun c1=>
 AK c1 (
 some (V.nils,Z)) (
 let s2:=Br Z (.cells []);
 DD E 1 1 (V.sl (H.next Z) 0 0 (.ex 0)) a s2 fun u3 s4=>
 Ba u3 (
 some (u3,s4)))
def F36 (N:Nat) (args:List V) (Z:H):AH:=
 AE args fun x1 l2=>
 AP l2 (
 cQ E D W x1 Z)
def A36:DR:=⟨8,[.any],[(.tmp 2)],AD7⟩
theorem AHQ (args:List V) (Z:H):Bq E D W N A36 args Z=F36 E D W N args Z:=by kernel_rfl
def X9:List (Nat × C6):=[(0,.ptr),(1,.any),(5,.any)]
def Q7:List BM:=[⟨(some 34),.mov (.tmp 5),none⟩,⟨(some 35),.mov (.tmp 1),none⟩,⟨(some 36),.mov (.tmp 9),none⟩,⟨(some 37),.sliceSl 1 (.tmp 35) none (some (.tmp 36)) none,none⟩,⟨(some 38),.buildSlice 29 1 [V.nils] [(0,1,(.tmp 37))],none⟩,⟨(some 39),.append 29 1 24 (.tmp 34) (.tmp 38),none⟩,⟨(some 40),.mov (.tmp 1),none⟩,⟨(some 41),.mov (.tmp 9),none⟩,⟨(some 42),.sliceSl 1 (.tmp 40) (some (.tmp 41)) none none,none⟩,⟨(some 5),.mov (.tmp 39),none⟩,⟨(some 1),.mov (.tmp 42),none⟩]
def UT:List DP:=[⟨0,[5]⟩,⟨0,[1]⟩,⟨0,[9]⟩,⟨6,[35,36]⟩,⟨14,[37]⟩,⟨31,[34,38]⟩,⟨0,[1]⟩,⟨0,[9]⟩,⟨192,[40,41]⟩,⟨63,[39]⟩,⟨1023,[42]⟩]
def IE (E:EB):St->AH:=fun s=>DF E s [(.tmp 4)] fun l=>some (Da l,s.Z)
def jw (c0:XC):Nat->St->AH:=BY 0 (dX E D W N (.keep [(5,.any)] [] [] c0) (IE E) nX (IE E)) nX
def gn (cc1:XC) (cc2:XC):XC:=(.z (.c 4 V.nils<|
.nil)
 (.z (.c 5 V.nils<|
.nil)
 (.seq (.block 0 (.loop X9 [] [] cc2))
 (.keep [(5,.any)] [] [] cc1))))
def m4 (E:EB) (D:Ak) (W:AI) (K2:Nat->Nat->V->V->H->AH) (a b:Nat) (c:V) (Z:H):AH:=
 K2 a b c V.nils Z
def Pe:XC:=(.z (.m 43 5<|
.m 4 43<|
.nil)
 .ret)
def XD (E:EB) (D:Ak) (W:AI) (a:V) (Z:H):AH:=
 some (a,Z)
def RM:XC:=(.seq (.z (.m 11 1<|
.u 12 11<|
.b 13 .gtr .none (.t 12) (.i 0)<|
.m 14 13<|
.gA 14 true (.p 15 [0,14] y9<|
.p 16 [15,14] (.nilck (.t 15))<|
.p 17 [16,14] (.faddr 0 (.t 16))<|
.op (some 18) .bool [17,14] (.load none (.t 17))<|
.p 19 [18,14] (.un .not (.t 18))<|
.nil) 20 14 19<|
.nil)
 (.cond (.tmp 20) .skip
 Me))
 (.block 1 (.z (.m 22 1<|
.k 23 (.tup [y4,.bool,.any,.i,.i]) 57 [(.t 22)]<|
.m 21 23<|
.P 24 (.extract 0 (.t 21))<|
.P 25 (.extract 1 (.t 21))<|
.P 26 (.extract 2 (.t 21))<|
.P 27 (.extract 3 (.t 21))<|
.P 28 (.extract 4 (.t 21))<|
.pal 6 [] 38 [y0,y0]<|
.op none y4 [6,24] (.store 2 (.t 6) (.t 24))<|
.m 7 25<|
.m 8 26<|
.m 9 27<|
.m 10 28<|
.nil)
 (.seq (.z (.m 29 10<|
.b 30 .neq .none (.t 29) (.i 0)<|
.nil)
 (.cond (.tmp 30) (.z (.m 31 0<|
.n 32 31<|
.f 33 0 32<|
.op none .any [33] (.store 1 (.t 33) Pw)<|
.nil)
 Me)
 .skip))
 (.keep [(0,.ptr),(1,.any),(5,.any),(9,.i)] [] [] (.gdraw Q7 UT X9))))))
def Qe (K1:V->H->AH) (R2:Nat->Nat->V->V->H->AH) (a b:Nat) (c d:V) (Z:H):AH:=
 A2 c fun n1=>
 Aa (fun c2 s3=>
 AK c2 (
 AV (D 57 [c] s3) fun u5 s6=>
 DH u5 fun l7=>
 AE l7 fun x8 l9=>
 Bm x8 fun l10=>
 Ah .i64 l10 fun x13 l12=>
 Ah .i64 l12 fun x16 l15=>
 AP l15 (
 DQ l9 fun x19 l18=>
 AE l18 fun x20 l21=>
 Ah .i64 l21 fun x24 l23=>
 Ah .i64 l23 fun x27 l26=>
 AP l26 (
 AK (not (B4 x27 (AA 0))) (
 FW 1 a b (V.bool true) s6 fun s28=>
 K1 d s28) (
 Ci (W Q7 UT [(0,.ptr a b),(1,c),(5,d),(9,.int .i64 x24)] s6) fun e29 s30=>
 BR e29 0 fun u31=>
 B8 u31 fun b32 o33=>
 BR e29 1 fun u34=>
 BR e29 5 fun u35=>
 R2 b32 o33 u34 u35 s30)))) (
 K1 d s3)) fun k4=>
 AK (C8 (AA 0) (AA n1)) (
 Bc E Z a b fun u36=>
 AZ u36 fun x37=>
 k4 (not x37) Z) (
 k4 false Z)
def oA (a b:Nat) (c:V) (Z:H):St:=⟨[(0,.ptr a b),(1,c)],[],[],Z⟩
def ny (a:V) (Z:H):St:=⟨[(5,a)],[],[],Z⟩
def Xg (a b:Nat) (c d:V) (Z:H):St:=⟨[(0,.ptr a b),(1,c),(5,d)],[],[],Z⟩
theorem ABf (cc1:XC) (cc2:XC) (a b:Nat) (c:V) (Z:H) :
 AN E D W N (gn cc1 cc2) (oA a b c Z) (IE E) nX (IE E) =
 m4 E D W (fun a b c d Z=>Ad (fun rec s'=>AN E D W N cc2 s' (kX X9 [] [] rec) (jw E D W N cc1) (IE E)) N (Xg a b c d Z)) a b c Z:=by kernel_rfl
theorem ABe (cc1:XC) (li2:St->AH) (a b:Nat) (c d:V) (Z:H) :
 AN E D W N (RM ) (Xg a b c d Z) (kX X9 [] [] li2) (jw E D W N cc1) (IE E) =
 Qe E D W (fun d Z=>AN E D W N cc1 (ny d Z) (IE E) nX (IE E)) (fun a b c d Z=>li2 (Xg a b c d Z)) a b c d Z:=by kernel_rfl
def px (E:EB) (D:Ak) (W:AI) (N:Nat):=XD E D W
theorem vN (a:V) (Z:H) :
 AN E D W N Pe (ny a Z) (IE E) nX (IE E)=px E D W N a Z:=by kernel_rfl
def eV (n:Nat):Nat->Nat->V->V->H->AH:=
 Nat.rec (fun _ _ _ _ _=>none) (fun _ ih=>Qe E D W (px E D W N ) ih) n
theorem uG (n:Nat):∀(a b:Nat) (c d:V) (Z:H),
 Ad (fun rec s'=>AN E D W N RM s' (kX X9 [] [] rec) (jw E D W N Pe) (IE E)) n (Xg a b c d Z)=eV E D W N n a b c d Z:=by
 induction n with
 | zero=>intro a b c d Z;rfl
 | succ n ihn=>
  intro a b c d Z
  rw[Aq]
  refine(ABe E D W N Pe (Ad (fun rec s'=>AN E D W N RM s' (kX X9 [] [] rec) (jw E D W N Pe) (IE E)) n) a b c d Z).trans ?_
  simp only[ihn,vN]
  kernel_rfl
def py:=m4 E D W (eV E D W N N)
theorem vO (a b:Nat) (c:V) (Z:H) :
 AN E D W N (gn Pe RM) (oA a b c Z) (IE E) nX (IE E)=py E D W N a b c Z:=by
 refine(ABf E D W N Pe RM  a b c Z).trans ?_
 simp only[uG]
 kernel_rfl
def xM (args:List V) (Z:H):AH:=
 AE args fun x1 l2=>
 B8 x1 fun b3 o4=>
 AE l2 fun x5 l6=>
 AP l6 (
 py E D W N b3 o4 x5 Z)
def A38:DR:=⟨44,[.ptr,.any],[(.tmp 4)],(gn Pe RM)⟩
theorem AHP (args:List V) (Z:H):Bq E D W N A38 args Z=xM E D W N args Z:=by
 unfold xM
 simp only[<-vO]
 kernel_rfl
def Rn:List (Nat × C6):=[(2,.any),(3,.i),(4,.ptr),(5,.ptr),(8,.ptr),(9,.ptr),(23,.any),(24,.i),(25,.i)]
def X8:List (Nat × C6):=[(8,.ptr),(9,.ptr),(65,.any),(66,.i),(67,.i)]
def yd:List (Nat × C6):=[(2,.any),(8,.ptr),(9,.ptr)]
def Q6:List BM:=[⟨(some 15),.faddr 0 (.tmp 5),none⟩,⟨(some 16),.load none (.tmp 15),none⟩,⟨(some 17),.faddr 9 (.tmp 5),none⟩,⟨(some 18),.load none (.tmp 17),none⟩,⟨(some 19),.len false (.tmp 18),none⟩,⟨(some 20),.mkslice 34 6 96 [(V.int .i64 (AA 0)),(V.int .i64 (AA 0)),V.nils,V.nils,(V.int .i64 (AA 0)),V.nils] (.tmp 19) (.tmp 19),none⟩,⟨(some 21),.build [(V.int .i64 (AA 0)),(V.int .i64 (AA 0)),V.nils,V.nils,(V.int .i64 (AA 0)),V.nils] [(0,1,(.tmp 16)),(3,1,(.tmp 20))],none⟩,⟨(some 9),.alloc 34 [(V.int .i64 (AA 0)),(V.int .i64 (AA 0)),V.nils,V.nils,(V.int .i64 (AA 0)),V.nils],none⟩,⟨none,.store 6 (.tmp 9) (.tmp 21),none⟩]
def US:List DP:=[⟨0,[5]⟩,⟨1,[15]⟩,⟨0,[5]⟩,⟨4,[17]⟩,⟨12,[18]⟩,⟨28,[19,19]⟩,⟨63,[16,20]⟩,⟨0,[]⟩,⟨255,[9,21]⟩]
def Q5:List BM:=[⟨(some 44),.faddr 3 (.tmp 9),none⟩,⟨(some 45),.load none (.tmp 44),none⟩,⟨(some 46),.mov (.tmp 10),none⟩,⟨(some 47),.load none (.tmp 4),none⟩,⟨(some 48),.faddr 1 (.tmp 11),none⟩,⟨(some 49),.load none (.tmp 48),none⟩,⟨(some 50),.mov (.tmp 2),none⟩,⟨(some 51),.mov (.tmp 12),none⟩,⟨(some 52),.iaddrS 1 (.tmp 50) (.tmp 51),none⟩,⟨(some 53),.load none (.tmp 52),none⟩,⟨(some 54),.mov (.tmp 3),none⟩,⟨(some 55),.bin .add .none (.tmp 54) (.con (V.int .i64 (AA 1))),none⟩,⟨(some 56),.call 15 [(.tmp 47),(.tmp 49),(.tmp 53),(.tmp 55)],none⟩,⟨(some 57),.iaddrS 6 (.tmp 45) (.tmp 46),none⟩,⟨none,.store 6 (.tmp 57) (.tmp 56),none⟩]
def UR:List DP:=[⟨0,[9]⟩,⟨1,[44]⟩,⟨0,[10]⟩,⟨0,[4]⟩,⟨0,[11]⟩,⟨16,[48]⟩,⟨0,[2]⟩,⟨0,[12]⟩,⟨192,[50,51]⟩,⟨448,[52]⟩,⟨0,[3]⟩,⟨1024,[54]⟩,⟨4088,[47,49,53,55]⟩,⟨8191,[45,46]⟩,⟨16383,[57,56]⟩]
def Q4:List BM:=[⟨(some 72),.faddr 5 (.tmp 9),none⟩,⟨(some 73),.load none (.tmp 72),none⟩,⟨(some 74),.mov (.tmp 14),none⟩,⟨(some 75),.call 36 [(.tmp 74)],none⟩,⟨(some 76),.build [(V.int .i64 (AA 0)),V.nils] [(1,1,(.tmp 75))],none⟩,⟨(some 77),.buildSlice 47 1 [(V.int .i64 (AA 0)),V.nils] [(0,2,(.tmp 76))],none⟩,⟨(some 78),.append 47 2 32 (.tmp 73) (.tmp 77),none⟩,⟨(some 79),.faddr 5 (.tmp 9),none⟩,⟨none,.store 1 (.tmp 79) (.tmp 78),none⟩]
def PR:List DP:=[⟨0,[9]⟩,⟨1,[72]⟩,⟨0,[14]⟩,⟨4,[74]⟩,⟨12,[75]⟩,⟨28,[76]⟩,⟨63,[73,77]⟩,⟨127,[9]⟩,⟨255,[79,78]⟩]
def Dr (E:EB):St->AH:=fun s=>DF E s [(.cell 8 (some 6))] fun l=>some (Da l,s.Z)
def VF (c0:XC):Nat->St->AH:=BY 0 (dX E D W N (.keep yd [] [] c0) (Dr E) nX (Dr E)) nX
def jv (c0:XC):Nat->St->AH:=BY 2 (dX E D W N (.keep [(8,.ptr),(9,.ptr)] [] [] c0) (Dr E) nX (Dr E)) nX
def gm (cc1:XC) (cc2:XC):XC:=(.z (.P 4 (.box 57 (.t 0))<|
.P 5 (.box 97 (.t 1))<|
.p 8 [] ZJ<|
.nil)
 (.seq (.keep [(2,.any),(3,.i),(4,.ptr),(5,.ptr),(8,.ptr)] [] [] (.gdraw Q6 US [(2,.any),(3,.i),(4,.ptr),(5,.ptr),(8,.ptr),(9,.ptr)]))
 (.seq (.z (.f 22 9 5<|
.l 23 .any 22<|
.u 24 23<|
.q 25 0<|
.nil)
 (.block 0 (.loop Rn [] [] cc2)))
 (.keep yd [] [] cc1))))
def T8 (E:EB) (D:Ak) (W:AI) (K2:V->Int->Nat->Nat->Nat->Nat->Nat->Nat->Nat->Nat->V->Int->Int->H->AH) (a:V) (b:Int) (c:V) (d e f g:Bool) (h i:Int) (j k:V) (l:Int) (m:Bool) (o:Int) (p:V) (q:Int) (Z:H):AH:=
 Gn (V.cells a) Z fun s1=>
 Gn [.int .i64 b,c,.bool d,.bool e,.bool f,.bool g,.int .i64 h,.int .i64 i,j,k,.int .i64 l,.bool m,.int .i64 o] s1 fun s2=>
 let s3:=Br s2 (.cells [.int .i64 (AA 0),.int .i64 (AA 0),V.nils,V.nils,.int .i64 (AA 0),V.nils]);
 Ci (W Q6 US [(2,p),(3,.int .i64 q),(4,.ptr (H.next Z) 0),(5,.ptr (H.next s1) 0),(8,.ptr (H.next s2) 0)] s3) fun e4 s5=>
 BR e4 2 fun u6=>
 BR e4 3 fun u7=>
 Am .i64 u7 fun x8=>
 BR e4 4 fun u9=>
 B8 u9 fun b10 o11=>
 BR e4 5 fun u12=>
 B8 u12 fun b13 o14=>
 BR e4 8 fun u15=>
 B8 u15 fun b16 o17=>
 BR e4 9 fun u18=>
 B8 u18 fun b19 o20=>
 Bc E s5 b13 (Ap o14 9) fun u21=>
 A2 u21 fun n22=>
 K2 u6 x8 b10 o11 b13 o14 b16 o17 b19 o20 u21 (AA n22) (AA 0) s5
def Ks (cc4:XC) (cc5:XC):XC:=(.seq (.z (.m 65 2<|
.u 66 65<|
.q 67 0<|
.nil)
 (.block 2 (.loop X8 [] [] cc5)))
 (.keep [(8,.ptr),(9,.ptr)] [] [] cc4))
def XB (E:EB) (D:Ak) (W:AI) (K5:Nat->Nat->Nat->Nat->V->Int->Int->H->AH) (a:V) (b c d e:Nat) (Z:H):AH:=
 A2 a fun n1=>
 K5 b c d e a (AA n1) (AA 0) Z
def RL (cc3:XC):XC:=(.z (.b 26 .lss .none (.t 25) (.t 24)<|
.nil)
 (.seq (.cond (.tmp 26) .skip
 Me)
 (.seq (.block 1 (.z (.m 27 25<|
.s 28 11 23 25<|
.O 29 lq (.load (some 11) (.t 28))<|
.p 11 [] (.alloc 142 [y8,y0,y3,y3,y0,y0,V.nils,V.nils,y0,V.nils,y0])<|
.m 10 27<|
.op none lq [11,29] (.store 11 (.t 11) (.t 29))<|
.nil)
 (.z (.m 30 2<|
.p 31 [4,11] (.mkfn 64 [] [(.t 4),(.t 11)])<|
.k 32 .i 63 [(.t 30),(.t 31)]<|
.m 12 32<|
.nil)
 (.seq (.z (.m 33 12<|
.b 34 .lss .none (.t 33) (.i 0)<|
.m 35 34<|
.gO 35 false (.p 36 [12,35] (.mov (.t 12))<|
.p 37 [36,35] (.bin .gtr .none (.t 36) (.i 0))<|
.p 38 [37,35] (.mov (.t 37))<|
.grp 38 true (.p 39 [5,38] (.faddr 0 (.t 5))<|
.op (some 40) .i [39,38] (.load none (.t 39))<|
.p 41 [40,38] (.bin .eql .none (.t 40) (.i 7))<|
.nil) 42 [38,41,35] (.t 38) (.t 41) Ln<|
.nil) 43 35 42<|
.nil)
 (.cond (.tmp 43) (.exit 1)
 .skip))
 (.seq (.keep [(2,.any),(3,.i),(4,.ptr),(5,.ptr),(8,.ptr),(9,.ptr),(10,.i),(11,.ptr),(12,.i),(23,.any),(24,.i),(25,.i)] [] [] (.gdraw Q5 UR [(2,.any),(3,.i),(4,.ptr),(5,.ptr),(8,.ptr),(9,.ptr),(12,.i),(23,.any),(24,.i),(25,.i)]))
 (.ops (.m 58 2<|
.k 59 .one 66 [(.t 58)]<|
.m 60 12<|
.m 61 12<|
.b 62 .add .none (.t 61) (.i 1)<|
.k 63 .one 65 [(.t 59),(.t 60),(.t 62)]<|
.m 2 63<|
.nil)))))))
 (.keep Rn [] [] cc3))))
def JR (K1:V->Nat->Nat->Nat->Nat->H->AH) (K3:V->Int->Nat->Nat->Nat->Nat->Nat->Nat->Nat->Nat->V->Int->Int->H->AH) (a:V) (b:Int) (c d e f g h i j:Nat) (k:V) (l m:Int) (Z:H):AH:=
 AK (C8 m l) (
 AU 11 k m fun b1 o2=>
 BH E Z b1 o2 11 fun l3=>
 IZ l3 fun x6 l5=>
 Ah .i64 l5 fun x9 l8=>
 DQ l8 fun x12 l11=>
 DQ l11 fun x15 l14=>
 Ah .i64 l14 fun x18 l17=>
 Ah .i64 l17 fun x21 l20=>
 AE l20 fun x22 l23=>
 AE l23 fun x24 l25=>
 Ah .i64 l25 fun x28 l27=>
 AE l27 fun x29 l30=>
 Ah .i64 l30 fun x33 l32=>
 AP l32 (
 let s34:=Br Z (.cells [.str ⟨0,0⟩,.int .i64 (AA 0),.bool false,.bool false,.int .i64 (AA 0),.int .i64 (AA 0),V.nils,V.nils,.int .i64 (AA 0),V.nils,.int .i64 (AA 0)]);
 FW 11 (H.next Z) 0 (V.agg [.str x6,.int .i64 x9,.bool x12,.bool x15,.int .i64 x18,.int .i64 x21,x22,x24,.int .i64 x28,x29,.int .i64 x33]) s34 fun s35=>
 AV (D 63 [a,.fn 64 [] [.ptr c d,.ptr (H.next Z) 0]] s35) fun u36 s37=>
 Am .i64 u36 fun x38=>
 Aa (fun c39 s40=>
 AK c39 (
 K3 a b c d e f g h i j k l m s40) (
 Ci (W Q5 UR [(2,a),(3,.int .i64 b),(4,.ptr c d),(5,.ptr e f),(8,.ptr g h),(9,.ptr i j),(10,.int .i64 m),(11,.ptr (H.next Z) 0),(12,.int .i64 x38),(23,k),(24,.int .i64 l),(25,.int .i64 m)] s40) fun e42 s43=>
 BR e42 2 fun u44=>
 BR e42 3 fun u45=>
 Am .i64 u45 fun x46=>
 BR e42 4 fun u47=>
 B8 u47 fun b48 o49=>
 BR e42 5 fun u50=>
 B8 u50 fun b51 o52=>
 BR e42 8 fun u53=>
 B8 u53 fun b54 o55=>
 BR e42 9 fun u56=>
 B8 u56 fun b57 o58=>
 BR e42 12 fun u59=>
 Am .i64 u59 fun x60=>
 BR e42 23 fun u61=>
 BR e42 24 fun u62=>
 Am .i64 u62 fun x63=>
 BR e42 25 fun u64=>
 Am .i64 u64 fun x65=>
 AV (D 66 [u44] s43) fun u66 s67=>
 Ba u66 (
 AV (D 65 [u66,.int .i64 x60,.int .i64 (CR .i64 x60 (AA 1))] s67) fun u68 s69=>
 Ba u68 (
 K3 u68 x46 b48 o49 b51 o52 b54 o55 b57 o58 u61 x63 x65 s69)))) fun k41=>
 AK (C8 x38 (AA 0)) (
 k41 true s37) (
 Aa (fun c70 s71=>
 k41 c70 s71) fun k72=>
 AK (C8 (AA 0) x38) (
 Bc E s37 e f fun u73=>
 Am .i64 u73 fun x74=>
 k72 (B4 x74 (AA 7)) s37) (
 k72 false s37)))) (
 K1 a g h i j Z)
def Nv:XC:=(.ops (.b 64 .add .none (.t 25) (.i 1)<|
.m 25 64<|
.nil))
def m3 (E:EB) (D:Ak) (W:AI) (R2:V->Int->Nat->Nat->Nat->Nat->Nat->Nat->Nat->Nat->V->Int->Int->H->AH) (a:V) (b:Int) (c d e f g h i j:Nat) (k:V) (l m:Int) (Z:H):AH:=
 R2 a b c d e f g h i j k l (CR .i64 m (AA 1)) Z
def IK:XC:=(.z (.O 81 y1 (.load (some 6) (.t 9))<|
.op none y1 [8,81] (.store 6 (.t 8) (.t 81))<|
.nil)
 .ret)
def XA (E:EB) (D:Ak) (W:AI) (a b c d:Nat) (Z:H):AH:=
 BH E Z c d 6 fun l1=>
 Ah .i64 l1 fun x4 l3=>
 Ah .i64 l3 fun x7 l6=>
 AE l6 fun x8 l9=>
 AE l9 fun x10 l11=>
 Ah .i64 l11 fun x14 l13=>
 AE l13 fun x15 l16=>
 AP l16 (
 FW 6 a b (V.agg [.int .i64 x4,.int .i64 x7,x8,x10,.int .i64 x14,x15]) Z fun s17=>
 BH E s17 a b 6 fun u18=>
 some ((V.agg u18),s17))
def Iw:XC:=(.z (.b 68 .lss .none (.t 67) (.t 66)<|
.nil)
 (.seq (.cond (.tmp 68) .skip
 (.exit 2))
 (.seq (.block 3 (.z (.s 69 1 65 67<|
.l 70 .any 69<|
.m 14 70<|
.nil)
 (.z (.f 71 4 9<|
.op none .any [71] (.store 1 (.t 71) (.i 1))<|
.nil)
 (.keep [(8,.ptr),(9,.ptr),(14,.any),(65,.any),(66,.i),(67,.i)] [] [] (.gdraw Q4 PR X8)))))
 (.ops (.b 80 .add .none (.t 67) (.i 1)<|
.m 67 80<|
.nil)))))
def Qc (E:EB) (D:Ak) (W:AI) (K4:Nat->Nat->Nat->Nat->H->AH) (R5:Nat->Nat->Nat->Nat->V->Int->Int->H->AH) (a b c d:Nat) (e:V) (f g:Int) (Z:H):AH:=
 AK (C8 g f) (
 AU 1 e g fun b1 o2=>
 Bc E Z b1 o2 fun u3=>
 FW 1 c (Ap d 4) (V.int .i64 (AA 1)) Z fun s4=>
 Ci (W Q4 PR [(8,.ptr a b),(9,.ptr c d),(14,u3),(65,e),(66,.int .i64 f),(67,.int .i64 g)] s4) fun e5 s6=>
 BR e5 8 fun u7=>
 B8 u7 fun b8 o9=>
 BR e5 9 fun u10=>
 B8 u10 fun b11 o12=>
 BR e5 65 fun u13=>
 BR e5 66 fun u14=>
 Am .i64 u14 fun x15=>
 BR e5 67 fun u16=>
 Am .i64 u16 fun x17=>
 R5 b8 o9 b11 o12 u13 x15 (CR .i64 x17 (AA 1)) s6) (
 K4 a b c d Z)
def nr (a:V) (b:Int) (c:V) (d e f g:Bool) (h i:Int) (j k:V) (l:Int) (m:Bool) (o:Int) (p:V) (q:Int) (Z:H):St:=⟨[(0,a),(1,.agg [.int .i64 b,c,.bool d,.bool e,.bool f,.bool g,.int .i64 h,.int .i64 i,j,k,.int .i64 l,.bool m,.int .i64 o]),(2,p),(3,.int .i64 q)],[],[],Z⟩
def dW (a:V) (b c d e:Nat) (Z:H):St:=⟨[(2,a),(8,.ptr b c),(9,.ptr d e)],[],[],Z⟩
def Np (a:V) (b:Int) (c d e f g h i j:Nat) (k:V) (l m:Int) (Z:H):St:=⟨[(2,a),(3,.int .i64 b),(4,.ptr c d),(5,.ptr e f),(8,.ptr g h),(9,.ptr i j),(23,k),(24,.int .i64 l),(25,.int .i64 m)],[],[],Z⟩
def nq (a b c d:Nat) (Z:H):St:=⟨[(8,.ptr a b),(9,.ptr c d)],[],[],Z⟩
def Xf (a b c d:Nat) (e:V) (f g:Int) (Z:H):St:=⟨[(8,.ptr a b),(9,.ptr c d),(65,e),(66,.int .i64 f),(67,.int .i64 g)],[],[],Z⟩
theorem ABd (cc1:XC) (cc2:XC) (a:V) (b:Int) (c:V) (d e f g:Bool) (h i:Int) (j k:V) (l:Int) (m:Bool) (o:Int) (p:V) (q:Int) (Z:H) :
 AN E D W N (gm cc1 cc2) (nr a b c d e f g h i j k l m o p q Z) (Dr E) nX (Dr E) =
 T8 E D W (fun p q r s t u v w x y z B I Z=>Ad (fun rec s'=>AN E D W N cc2 s' (kX Rn [] [] rec) (VF E D W N cc1) (Dr E)) N (Np p q r s t u v w x y z B I Z)) a b c d e f g h i j k l m o p q Z:=by kernel_rfl
theorem ABc (cc4:XC) (cc5:XC) (a:V) (b c d e:Nat) (Z:H) :
 AN E D W N (Ks cc4 cc5) (dW a b c d e Z) (Dr E) nX (Dr E) =
 XB E D W (fun b c d e f g h Z=>Ad (fun rec s'=>AN E D W N cc5 s' (kX X8 [] [] rec) (jv E D W N cc4) (Dr E)) N (Xf b c d e f g h Z)) a b c d e Z:=by kernel_rfl
theorem ABb (cc1:XC) (cc3:XC) (li2:St->AH) (a:V) (b:Int) (c d e f g h i j:Nat) (k:V) (l m:Int) (Z:H) :
 AN E D W N (RL cc3) (Np a b c d e f g h i j k l m Z) (kX Rn [] [] li2) (VF E D W N cc1) (Dr E) =
 JR E D W (fun a g h i j Z=>AN E D W N cc1 (dW a g h i j Z) (Dr E) nX (Dr E)) (fun a b c d e f g h i j k l m Z=>AN E D W N cc3 (Np a b c d e f g h i j k l m Z) (kX Rn [] [] li2) (VF E D W N cc1) (Dr E)) a b c d e f g h i j k l m Z:=by kernel_rfl
theorem ABa (cc1:XC) (li2:St->AH) (a:V) (b:Int) (c d e f g h i j:Nat) (k:V) (l m:Int) (Z:H) :
 AN E D W N (Nv ) (Np a b c d e f g h i j k l m Z) (kX Rn [] [] li2) (VF E D W N cc1) (Dr E) =
 m3 E D W (fun a b c d e f g h i j k l m Z=>li2 (Np a b c d e f g h i j k l m Z)) a b c d e f g h i j k l m Z:=by kernel_rfl
theorem ABZ (cc4:XC) (li5:St->AH) (a b c d:Nat) (e:V) (f g:Int) (Z:H) :
 AN E D W N (Iw ) (Xf a b c d e f g Z) (kX X8 [] [] li5) (jv E D W N cc4) (Dr E) =
 Qc E D W (fun a b c d Z=>AN E D W N cc4 (nq a b c d Z) (Dr E) nX (Dr E)) (fun a b c d e f g Z=>li5 (Xf a b c d e f g Z)) a b c d e f g Z:=by kernel_rfl
def po (E:EB) (D:Ak) (W:AI) (N:Nat):=XA E D W
theorem vJ (a b c d:Nat) (Z:H) :
 AN E D W N IK (nq a b c d Z) (Dr E) nX (Dr E)=po E D W N a b c d Z:=by kernel_rfl
def eU (n:Nat):Nat->Nat->Nat->Nat->V->Int->Int->H->AH:=
 Nat.rec (fun _ _ _ _ _ _ _ _=>none) (fun _ ih=>Qc E D W (po E D W N ) ih) n
theorem uE (n:Nat):∀(a b c d:Nat) (e:V) (f g:Int) (Z:H),
 Ad (fun rec s'=>AN E D W N Iw s' (kX X8 [] [] rec) (jv E D W N IK) (Dr E)) n (Xf a b c d e f g Z)=eU E D W N n a b c d e f g Z:=by
 induction n with
 | zero=>intro a b c d e f g Z;rfl
 | succ n ihn=>
  intro a b c d e f g Z
  rw[Aq]
  refine(ABZ E D W N IK (Ad (fun rec s'=>AN E D W N Iw s' (kX X8 [] [] rec) (jv E D W N IK) (Dr E)) n) a b c d e f g Z).trans ?_
  simp only[ihn,vJ]
  kernel_rfl
def e9:=XB E D W (eU E D W N N)
theorem vL (a:V) (b c d e:Nat) (Z:H) :
 AN E D W N (Ks IK Iw) (dW a b c d e Z) (Dr E) nX (Dr E)=e9 E D W N a b c d e Z:=by
 refine(ABc E D W N IK Iw  a b c d e Z).trans ?_
 simp only[uE]
 kernel_rfl
def pq (E:EB) (D:Ak) (W:AI) (N:Nat) (R2:V->Int->Nat->Nat->Nat->Nat->Nat->Nat->Nat->Nat->V->Int->Int->H->AH):=m3 E D W R2
theorem vK (li2:St->AH) (a:V) (b:Int) (c d e f g h i j:Nat) (k:V) (l m:Int) (Z:H) :
 AN E D W N Nv (Np a b c d e f g h i j k l m Z) (kX Rn [] [] li2) (VF E D W N (Ks IK Iw)) (Dr E)=pq E D W N (fun a b c d e f g h i j k l m Z=>li2 (Np a b c d e f g h i j k l m Z)) a b c d e f g h i j k l m Z:=by
 refine(ABa E D W N (Ks IK Iw) li2 a b c d e f g h i j k l m Z).trans ?_
 kernel_rfl
def UM (n:Nat):V->Int->Nat->Nat->Nat->Nat->Nat->Nat->Nat->Nat->V->Int->Int->H->AH:=
 Nat.rec (fun _ _ _ _ _ _ _ _ _ _ _ _ _ _=>none) (fun _ ih=>JR E D W (e9 E D W N ) (pq E D W N ih)) n
theorem uF (n:Nat):∀(a:V) (b:Int) (c d e f g h i j:Nat) (k:V) (l m:Int) (Z:H),
 Ad (fun rec s'=>AN E D W N (RL Nv) s' (kX Rn [] [] rec) (VF E D W N (Ks IK Iw)) (Dr E)) n (Np a b c d e f g h i j k l m Z)=UM E D W N n a b c d e f g h i j k l m Z:=by
 induction n with
 | zero=>intro a b c d e f g h i j k l m Z;rfl
 | succ n ihn=>
  intro a b c d e f g h i j k l m Z
  rw[Aq]
  refine(ABb E D W N (Ks IK Iw) Nv (Ad (fun rec s'=>AN E D W N (RL Nv) s' (kX Rn [] [] rec) (VF E D W N (Ks IK Iw)) (Dr E)) n) a b c d e f g h i j k l m Z).trans ?_
  simp only[ihn,vL,vK]
  kernel_rfl
def pr:=T8 E D W (UM E D W N N)
theorem vM (a:V) (b:Int) (c:V) (d e f g:Bool) (h i:Int) (j k:V) (l:Int) (m:Bool) (o:Int) (p:V) (q:Int) (Z:H) :
 AN E D W N (gm (Ks IK Iw) (RL Nv)) (nr a b c d e f g h i j k l m o p q Z) (Dr E) nX (Dr E)=pr E D W N a b c d e f g h i j k l m o p q Z:=by
 refine(ABd E D W N (Ks IK Iw) (RL Nv)  a b c d e f g h i j k l m o p q Z).trans ?_
 simp only[uF]
 kernel_rfl
def xL (args:List V) (Z:H):AH:=
 AE args fun x1 l2=>
 AE l2 fun x3 l4=>
 Bm x3 fun l5=>
 Ah .i64 l5 fun x8 l7=>
 AE l7 fun x9 l10=>
 DQ l10 fun x13 l12=>
 DQ l12 fun x16 l15=>
 DQ l15 fun x19 l18=>
 DQ l18 fun x22 l21=>
 Ah .i64 l21 fun x25 l24=>
 Ah .i64 l24 fun x28 l27=>
 AE l27 fun x29 l30=>
 AE l30 fun x31 l32=>
 Ah .i64 l32 fun x35 l34=>
 DQ l34 fun x38 l37=>
 Ah .i64 l37 fun x41 l40=>
 AP l40 (
 AE l4 fun x42 l43=>
 Ah .i64 l43 fun x46 l45=>
 AP l45 (
 pr E D W N x1 x8 x9 x13 x16 x19 x22 x25 x28 x29 x31 x35 x38 x41 x42 x46 Z))
def A39:DR:=⟨82,[.any,y2,.any,.i],[(.cell 8 (some 6))],(gm (Ks IK Iw) (RL Nv))⟩
theorem AHO (args:List V) (Z:H):Bq E D W N A39 args Z=xL E D W N args Z:=by
 unfold xL
 simp only[<-vM]
 kernel_rfl
def AD6:XC:=(.z (.P 3 (.box 26 (.t 0))<|
.P 5 (.box 34 (.t 2))<|
.c 6 y3<|
.nil)
 (.z (.O 8 y6 (.load (some 4) (.t 3))<|
.op (some 9) y6 [8] (.build [y8,V.nils,V.nils,V.nils] [(0,4,(.t 8))])<|
.op (some 10) (.agg [.str,.any,.any,.any,.bool]) [9] (.build [y8,V.nils,V.nils,V.nils,y3] [(0,4,(.t 9))])<|
.P 11 (.box 152 (.t 10))<|
.m 7 11<|
.nil)
 (.z (.m 12 7<|
.m 13 1<|
.O 14 y1 (.load (some 6) (.t 5))<|
.k 15 .bool 67 [(.t 12),(.t 13),(.t 14),(.i 1)]<|
.m 16 15<|
.gA 16 true (.op (some 17) y1 [5,16] (.load (some 6) (.t 5))<|
.op (some 18) .i [17,16] (.call 68 [(.t 17)])<|
.p 19 [18,16] (.bin .leq .none (.t 18) (.i 5000))<|
.nil) 20 16 19<|
.m 6 20<|
.nil)
 .ret)))
def PE (E:EB) (D:Ak) (W:AI) (a:BS) (b c d:V) (e f g:Int) (h i:V) (j:Int) (k:V) (Z:H):AH:=
 Gn [.str a,b,c,d] Z fun s1=>
 Gn [.int .i64 f,.int .i64 g,h,i,.int .i64 j,k] s1 fun s2=>
 BH E s2 (H.next Z) 0 4 fun l3=>
 IZ l3 fun x6 l5=>
 AE l5 fun x7 l8=>
 AE l8 fun x9 l10=>
 AE l10 fun x11 l12=>
 AP l12 (
 Gn [.str x6,x7,x9,x11,.bool false] s2 fun s13=>
 BH E s13 (H.next s1) 0 6 fun l14=>
 Ah .i64 l14 fun x17 l16=>
 Ah .i64 l16 fun x20 l19=>
 AE l19 fun x21 l22=>
 AE l22 fun x23 l24=>
 Ah .i64 l24 fun x27 l26=>
 AE l26 fun x28 l29=>
 AP l29 (
 AV (D 67 [.ptr (H.next s2) 0,.int .i64 e,.agg [.int .i64 x17,.int .i64 x20,x21,x23,.int .i64 x27,x28],.int .i64 (AA 1)] s13) fun u30 s31=>
 AZ u30 fun x32=>
 Aa (fun c33 s34=>
 some ((V.bool c33),s34)) fun k35=>
 AK x32 (
 BH E s31 (H.next s1) 0 6 fun l36=>
 Ah .i64 l36 fun x39 l38=>
 Ah .i64 l38 fun x42 l41=>
 AE l41 fun x43 l44=>
 AE l44 fun x45 l46=>
 Ah .i64 l46 fun x49 l48=>
 AE l48 fun x50 l51=>
 AP l51 (
 AV (D 68 [.agg [.int .i64 x39,.int .i64 x42,x43,x45,.int .i64 x49,x50]] s31) fun u52 s53=>
 Am .i64 u52 fun x54=>
 k35 (Hp x54 (AA 5000)) s53)) (
 k35 false s31)))
def qO (N:Nat) (args:List V) (Z:H):AH:=
 AE args fun x1 l2=>
 Bm x1 fun l3=>
 IZ l3 fun x6 l5=>
 AE l5 fun x7 l8=>
 AE l8 fun x9 l10=>
 AE l10 fun x11 l12=>
 AP l12 (
 Ah .i64 l2 fun x15 l14=>
 AE l14 fun x16 l17=>
 Bm x16 fun l18=>
 Ah .i64 l18 fun x21 l20=>
 Ah .i64 l20 fun x24 l23=>
 AE l23 fun x25 l26=>
 AE l26 fun x27 l28=>
 Ah .i64 l28 fun x31 l30=>
 AE l30 fun x32 l33=>
 AP l33 (
 AP l17 (
 PE E D W x6 x7 x9 x11 x15 x21 x24 x25 x27 x31 x32 Z)))
def A40:DR:=⟨21,[y6,.i,y1],[(.tmp 6)],AD6⟩
theorem AHN (args:List V) (Z:H):Bq E D W N A40 args Z=qO E D W N args Z:=by kernel_rfl
def AD5:XC:=(.z (.P 2 (.box 34 (.t 0))<|
.P 3 (.box 3 (.t 1))<|
.c 4 y3<|
.nil)
 (.z (.f 5 4 2<|
.l 6 .i 5<|
.b 7 .eql .none (.t 6) (.i 0)<|
.m 8 7<|
.gO 8 false (.p 9 [2,8] (.faddr 4 (.t 2))<|
.op (some 10) .i [9,8] (.load none (.t 9))<|
.op (some 11) .i [3,8] (.load none (.t 3))<|
.p 12 [10,11,8] (.bin .eql .none (.t 10) (.t 11))<|
.nil) 13 8 12<|
.m 14 13<|
.gA 14 true (.p 15 [2,14] (.faddr 3 (.t 2))<|
.p 16 [15,14] (.load none (.t 15))<|
.p 17 [3,14] (.mkfn 70 [] [(.t 3)])<|
.op (some 18) .bool [16,17,14] (.call 69 [(.t 16),(.t 17)])<|
.p 19 [18,14] (.un .not (.t 18))<|
.nil) 20 14 19<|
.m 4 20<|
.nil)
 .ret))
def cP (E:EB) (D:Ak) (W:AI) (a b:Int) (c d:V) (e:Int) (f:V) (g:Int) (Z:H):AH:=
 Gn [.int .i64 a,.int .i64 b,c,d,.int .i64 e,f] Z fun s1=>
 Gn (V.cells (V.int .i64 g)) s1 fun s2=>
 Bc E s2 (H.next Z) 4 fun u3=>
 Am .i64 u3 fun x4=>
 Aa (fun c5 s6=>
 Aa (fun c8 s9=>
 some ((V.bool c8),s9)) fun k10=>
 AK c5 (
 Bc E s6 (H.next Z) 3 fun u11=>
 AV (D 69 [u11,.fn 70 [] [.ptr (H.next s1) 0]] s6) fun u12 s13=>
 AZ u12 fun x14=>
 k10 (not x14) s13) (
 k10 false s6)) fun k7=>
 AK (B4 x4 (AA 0)) (
 k7 true s2) (
 Bc E s2 (H.next Z) 4 fun u15=>
 Am .i64 u15 fun x16=>
 Bc E s2 (H.next s1) 0 fun u17=>
 Am .i64 u17 fun x18=>
 k7 (B4 x16 x18) s2)
def vu (N:Nat) (args:List V) (Z:H):AH:=
 AE args fun x1 l2=>
 Bm x1 fun l3=>
 Ah .i64 l3 fun x6 l5=>
 Ah .i64 l5 fun x9 l8=>
 AE l8 fun x10 l11=>
 AE l11 fun x12 l13=>
 Ah .i64 l13 fun x16 l15=>
 AE l15 fun x17 l18=>
 AP l18 (
 Ah .i64 l2 fun x21 l20=>
 AP l20 (
 cP E D W x6 x9 x10 x12 x16 x17 x21 Z))
def A41:DR:=⟨21,[y1,.i],[(.tmp 4)],AD5⟩
theorem AHM (args:List V) (Z:H):Bq E D W N A41 args Z=vu E D W N args Z:=by kernel_rfl
end
end Go.Proofs.YtoengnbdallegaaGreatDoor
