/- What the last text leans on, part 3 of 7: merged out of smaller texts. No condition. -/
import GoSem.ClaimChange
import Derived.Below
import Derived.KernelRfl
import Derived.Test.YtgjjnbddbbhloaaGreatDoorQ1
set_option linter.unusedSimpArgs false
namespace Go.Og
variable {P:Program} {D:Den} {C:Cx}
theorem noBad_mem:∀{l:List AOper},noBad l=true→∀o∈l,o.op ≠ .bad
 | [],_,o,ho=>by simp at ho
 | a::l,h,o,ho=>by
  simp only[noBad,Bool.and_eq_true]at h
  rcases List.mem_cons.1 ho with rfl|ho
  ·intro hb;rw[hb]at h;cases h.1
  ·exact noBad_mem h.2 o ho
def Tok (R:Ren) (B:Bs) (x:Option Value):Oc→Prop
 | .val v=>∃y,x=some y∧conc R v=some y
 | .mark m off=>∃i,B m=some i∧x=some (.pointer (some ⟨i.blk,i.shift+off,none⟩))
 | .pal d _=>∃i,B d=some i∧x=some (.pointer (some ⟨i.blk,i.shift+0,none⟩))
theorem Tok.mono {R R':Ren} {B B':Bs} {x:Option Value} {c:Oc} (h:Tok R B x c) (hR:Le R R') (hB:∀m i,B m=some i→B' m=some i):Tok R' B' x c:=by
 cases c with
 | val v=>obtain⟨y,h1,h2⟩:=h;exact⟨y,h1,conc_mono hR v y h2⟩
 | mark m off=>obtain⟨i,h1,h2⟩:=h;exact⟨i,hB _ _ h1,h2⟩
 | pal d z=>obtain⟨i,h1,h2⟩:=h;exact⟨i,hB _ _ h1,h2⟩
set_option maxHeartbeats 2000000 in
theorem draw_ok (hD:∀f,SoundFn P C.E C.G f (D f)) (hmix:P.follows .mixedOrders=true) {nR:Nat} {R0:Ren} {nt:Nat} (rid:Nat) {ops:Array Oper} {l:XL} {ancs:List Nat}
    (hflat:l.flat none=ops.toList.map (compOper P C.G nt ops)) (hpl:List.zipWith DP.mk ancs l.lks=planOf ops) (hplan:planOk ops (ops.toList.map (compOper P C.G nt ops)) (planOf ops)=true)
    (hok:l.okG none none=true) (hdo:drawOk (l.flat none) ancs=true) (hanl:ancs.length=l.lks.length) (hmk:l.makes=false) (hnb:noBad (l.flat none)=true)
    {s:St} {a0:Act} {w00:World} {κ:Env→Qs→Rg→H→Ans} {res:V × H} (hpo:palsOk s.q l.pals=true)
    (h:denL C.E D true true 0 l 0 s.e s.q s.r s.σ κ=some res) (hI:InvS C nR R0 nt s a0 w00) (Q:Exit→Act→World→Prop)
    (hQ:∀s' a' w',κ s'.e s'.q s'.r s'.σ=some res→InvS C nR R0 nt s' a' w'→Q .normal a' w'):(Code.region rid ops true).wp P Q a0 w00:=by
  obtain⟨s',hrun,hκ,_⟩:=denL_run l none none none true 0 s κ res h hok (.inl ⟨rfl,rfl⟩) (fun _=>hmk)
  obtain⟨sts,oc,ex,hst0,hs',hat⟩:=run_chain hrun
  rw[zip_len]at hs'
  obtain⟨hfl1,hfl2⟩:=flat_len l none
  have hsz:l.size=ops.size:=by rw[←hfl1,hflat];simp
  generalize hnn:ops.size=n at *
  rw[hsz]at hs'
  have F:=planOk_ok (l:=ops.toList.map (compOper P C.G nt ops)) (by simp) hplan
  have hgood:∀(i:Nat) (o:Oper),ops[i]? = some o→∃g,compOper P C.G nt ops o=⟨o.dst,compOp P C.G o.op,g⟩∧compG ops o.guard=some g∧dstOk nt o.dst=true:=by
    intro i o ho
    have hmem:compOper P C.G nt ops o∈l.flat none:=by
      rw[hflat,List.mem_map]
      exact⟨o,by simpa using Array.mem_of_getElem? ho,rfl⟩
    have hb:=noBad_mem hnb _ hmem
    unfold compOper at hb ⊢
    split at hb
    · rename_i g h1 h2;exact⟨g,rfl,h1,h2⟩
    · exact(hb rfl).elim
  have hlt:∀{i:Nat} {o:Oper},ops[i]? = some o→i<n:=fun {i o} ho=>by
    rcases Nat.lt_or_ge i ops.size with h|h
    · omega
    · rw[Array.getElem?_eq_none h]at ho;cases ho
  have some3:∀(i:Nat),i<n→∃(o:Oper) (p:DP),ops[i]? = some o∧(planOf ops)[i]? = some p∧ancs.getD i 0=p.anc∧(l.flat none)[i]? = some (compOper P C.G nt ops o)∧At C.E D (sts i) (compOper P C.G nt ops o) p.looks (oc i) (ex i) (sts (i+1)):=by
    intro i hi
    have h1:i<ops.size:=by omega
    have ho:ops[i]? = some ops[i]:=Array.getElem?_eq_getElem h1
    have hf:(l.flat none)[i]? = some (compOper P C.G nt ops ops[i]):=by
      rw[hflat,List.getElem?_map,Array.getElem?_toList,ho];rfl
    have hk:l.lks[i]? = some (l.lks[i]'(by omega)):=List.getElem?_eq_getElem _
    have ha:ancs[i]? = some (ancs[i]'(by omega)):=List.getElem?_eq_getElem _
    refine⟨ops[i],⟨ancs[i]'(by omega),l.lks[i]'(by omega)⟩,ho,?_,?_,hf,?_⟩
    · rw[←hpl,List.getElem?_zipWith,ha,hk]
    · rw[List.getD_eq_getElem?_getD,ha];rfl
    · exact hat i _ _ (by rw[List.getElem?_zip_eq_some];exact⟨hf,hk⟩)
  have hdlt:∀(i:Nat) (o:Oper) (t:Nat),ops[i]? = some o→o.dst=some t→t<nt:=by
    intro i o t ho ht
    obtain⟨g,_,_,hd⟩:=hgood i o ho
    rw[ht]at hd;simpa[dstOk]using hd
  have hdu:∀(i k:Nat) (o o':Oper) (t:Nat),i≠k→ops[i]? = some o→ops[k]? = some o'→o.dst=some t→o'.dst≠some t:=by
    intro i k o o' t hne ho ho' ht
    obtain⟨o1,p1,h1,h2,_⟩:=some3 i (hlt ho)
    obtain⟨o2,p2,h3,h4,_⟩:=some3 k (hlt ho')
    exact(F.dsts i k o o' p1 p2 hne ho ho' h2 h4 t ht).1
  have hpald:∀(k m:Nat) (z:List V),k<n→oc k = .pal m z→ex k=true∧∃(o:Oper) (el:TypeId),ops[k]? = some o∧o.dst=some m∧compOp P C.G o.op = .alloc el z:=by
    intro k m z hk hc
    obtain⟨o,p,ho,_,_,_,hA⟩:=some3 k hk
    obtain⟨g,hg,_,_⟩:=hgood k o ho
    rw[hg]at hA
    rw[hc]at hA
    generalize ex k=x at hA ⊢
    cases hA with
    | pal _ d el z hd ho' hw h=>exact⟨rfl,o,el,ho,hd,ho'⟩
  have hpalu:∀(k k' m:Nat) (z z':List V),k<n→k'<n→oc k = .pal m z→oc k' = .pal m z'→k=k':=by
    intro k k' m z z' hk hk' h1 h2
    rcases Nat.decEq k k' with hne|he
    · exfalso
      obtain⟨_,o,_,ho,hd,_⟩:=hpald k m z hk h1
      obtain⟨_,o',_,ho',hd',_⟩:=hpald k' m z' hk' h2
      exact hdu k k' o o' m hne ho ho' hd hd'
    · exact he
  let W:Nat→Prop:=fun i=>ex i=true∧∃o:Oper,ops[i]? = some o∧(compOp P C.G o.op).cls = .k
  have seg:∀(p i:Nat),p≤i→i≤n→(∀k:Nat,p≤k→k<i→¬W k)→(sts i).σ=(sts p).σ∧(∀m,(∀k z,p≤k→k<i→oc k ≠ .pal m z)→look (sts i).r m=look (sts p).r m) ∧
      (∀k m z,p≤k→k<i→oc k = .pal m z→look (sts i).r m=some z):=by
    intro p i
    induction i with
    | zero=>
      intro hpi _ _
      have:p=0:=by omega
      subst this
      exact⟨rfl,fun _ _=>rfl,fun k m z h1 h2=>by omega⟩
    | succ i ih=>
      intro hpi' hin hW
      by_cases hpe:p=i+1
      · subst hpe;exact⟨rfl,fun _ _=>rfl,fun k m z h1 h2=>by omega⟩
      have hpi:p≤i:=by omega
      have ih:=ih hpi
      obtain⟨h1,h2,h3⟩:=ih (by omega) (fun k hk1 hk2=>hW k hk1 (by omega))
      obtain⟨o,p',ho,_,_,_,hA⟩:=some3 i (by omega)
      obtain⟨g,hg,_,_⟩:=hgood i o ho
      rw[hg]at hA
      have same:(sts (i+1)).σ=(sts i).σ→(sts (i+1)).r=(sts i).r→(∀m z,oc i ≠ .pal m z)→(sts (i+1)).σ=(sts p).σ∧(∀m,(∀k z,p≤k→k<i+1→oc k ≠ .pal m z)→look (sts (i+1)).r m=look (sts p).r m) ∧
          (∀k m z,p≤k→k<i+1→oc k = .pal m z→look (sts (i+1)).r m=some z):=by
        intro e1 e2 hnp
        refine⟨e1.trans h1,fun m hm=>by rw[e2];exact h2 m (fun k z hk1 hk2=>hm k z hk1 (by omega)),fun k m z hk1 hk2 hkc=>?_⟩
        rw[e2]
        by_cases hki:k=i
        · subst hki;exact(hnp _ _ hkc).elim
        · exact h3 k m z hk1 (by omega) hkc
      have hWi:=hW i hpi (by omega)
      generalize hoc:oc i=c at hA
      generalize hex:ex i=x at hA
      cases hA with
      | skip _ hw h=>exact same h.2.2.2 h.2.2.1 (fun m z hh=>by rw[hoc]at hh;cases hh)
      | val _ pw v r' σ' hw hs hl hna h=>
        obtain⟨e1,e2⟩:=step_still hs (fun hk=>hWi ⟨hex,o,ho,hk⟩) hna
        exact same (h.2.2.2.trans e2) (h.2.2.1.trans e1) (fun m z hh=>by rw[hoc]at hh;cases hh)
      | mark _ pw id nx m off hw hs h=>exact same h.2.2.2 h.2.2.1 (fun m z hh=>by rw[hoc]at hh;cases hh)
      | pal _ d el z hd ho' hw h=>
        have hr:(sts (i+1)).r=(d,z)::without [d] (sts i).r:=h.2.2.1
        have hne:∀m,m≠d→look (sts (i+1)).r m=look (sts i).r m:=fun m hm=>by
          rw[hr]
          simp only[look,Nat.beq_eq]
          rw[if_neg (Ne.symm hm),look_without,if_neg (fun hh=>hm ((memN_one d m).1 hh).symm)]
        refine⟨h.2.2.2.trans h1,fun m hm=>?_,fun k m z' hk1 hk2 hkc=>?_⟩
        · have hmd:m≠d:=fun he=>hm i z hpi (by omega) (by rw[hoc,he])
          rw[hne m hmd]
          exact h2 m (fun k z hk1 hk2=>hm k z hk1 (by omega))
        · by_cases hki:k=i
          · subst hki
            rw[hoc]at hkc;cases hkc
            rw[hr];simp[look]
          · have hmd:m≠d:=fun he=>hki (hpalu k i d z' z (by omega) (by omega) (by rw[hkc,he]) hoc)
            rw[hne m hmd]
            exact h3 k m z' hk1 (by omega) hkc
  have roots:∀(i:Nat),i≤n→∀(t m off:Nat),look (sts i).q t=some (m,off)→∀k z,k<n→oc k = .pal m z→k<i:=by
    intro i
    induction i with
    | zero=>
      intro _ t m off hl k z hk hc
      exfalso
      obtain⟨_,o,el,ho,hd,hcc⟩:=hpald k m z hk hc
      obtain⟨g,hg,_,_⟩:=hgood k o ho
      have hmem:compOper P C.G nt ops o∈l.flat none:=by
        rw[hflat,List.mem_map]
        exact⟨o,by simpa using Array.mem_of_getElem? ho,rfl⟩
      have:=pals_mem l none hmk _ hmem m (by rw[hg];simp only[hcc];rfl) (by rw[hg];exact hd)
      exact palsOk_mem hpo m this t off (hst0.2.1 t _ hl)
    | succ i ih=>
      intro hin t m off hl k z hk hc
      have ih:=ih (by omega)
      obtain⟨o,p',ho,_,_,_,hA⟩:=some3 i (by omega)
      generalize hoc:oc i=c at hA
      generalize hex:ex i=x at hA
      have old:∀t,look (sts i).q t=some (m,off)→k<i+1:=fun t ht=>Nat.lt_succ_of_lt (ih t m off ht k z hk hc)
      cases hA with
      | skip _ hw h=>
        have:=h.2.1 t _ hl
        rw[look_without1]at this
        split at this
        · cases this
        · exact old t this
      | val _ pw v r' σ' hw hs hl' hna h=>
        have:=h.2.1 t _ hl
        rw[look_without1]at this
        split at this
        · cases this
        · exact old t this
      | mark _ pw id nx m' off' hw hs h=>
        have:=h.2.1 t _ hl
        rw[look_putQ]at this
        split at this
        · simp only[Option.some.injEq,Prod.mk.injEq]at this
          obtain⟨rfl,rfl⟩:=this
          obtain⟨x,off2,hx⟩:=mark_root hs
          cases x with
          | con v=>cases hx
          | tmp u=>
            have hx:look (restrQ p'.looks (sts i).q) u=some (m',off2):=hx
            exact Nat.lt_succ_of_lt (ih u m' off2 (look_restrQ _ _ _ _ hx).1 k z hk hc)
        · rw[look_without1]at this
          split at this
          · cases this
          · exact old t this
      | pal _ d el z' hd ho' hw h=>
        have:=h.2.1 t _ hl
        simp only[look,Nat.beq_eq]at this
        split at this
        · simp only[Option.some.injEq,Prod.mk.injEq]at this
          obtain⟨rfl,rfl⟩:=this
          have:=hpalu k i d z z' hk (by omega) hc hoc
          omega
        · have h2:=(look_unmark _ _ _ _ this).2
          rw[look_without]at h2
          split at h2
          · cases h2
          · exact old t h2
  have srcE:∀(i:Nat),i≤n→∀(t:Nat) (v:V),look (sts i).e t=some v→(∃(k:Nat) (o':Oper),k<i∧ops[k]? = some o'∧o'.dst=some t∧oc k = .val v)∨(look s.e t=some v∧∀(k:Nat) (o':Oper),k<i→ops[k]? = some o'→o'.dst≠some t):=by
    intro i
    induction i with
    | zero=>intro _ t v hl;exact .inr ⟨hst0.1 t v hl,fun k o' hk=>by omega⟩
    | succ i ih=>
      intro hin t v hl
      have ih:=ih (by omega)
      obtain⟨o,p',ho,_,_,_,hA⟩:=some3 i (by omega)
      obtain⟨g,hg,_,_⟩:=hgood i o ho
      rw[hg]at hA
      generalize hoc:oc i=c at hA
      generalize hex:ex i=x at hA
      have old:o.dst≠some t→look (sts i).e t=some v→(∃(k:Nat) (o':Oper),k<i+1∧ops[k]? = some o'∧o'.dst=some t∧oc k = .val v)∨(look s.e t=some v∧∀(k:Nat) (o':Oper),k<i+1→ops[k]? = some o'→o'.dst≠some t):=by
        intro hne ht
        rcases ih t v ht with ⟨k,o',h1,h2,h3,h4⟩|⟨h1,h2⟩
        · exact .inl ⟨k,o',by omega,h2,h3,h4⟩
        · refine .inr ⟨h1,fun k o' hk ho'=>?_⟩
          by_cases hki:k=i
          · subst hki;rw[ho]at ho';cases ho';exact hne
          · exact h2 k o' (by omega) ho'
      cases hA with
      | skip _ hw h=>
        have:=h.1 t _ hl
        rw[look_putE]at this
        split at this
        · rename_i hd;cases this;exact .inl ⟨i,o,by omega,ho,hd,hoc⟩
        · rename_i hd;exact old hd this
      | val _ pw v' r' σ' hw hs hl' hna h=>
        have:=h.1 t _ hl
        rw[look_putE]at this
        split at this
        · rename_i hd;cases this;exact .inl ⟨i,o,by omega,ho,hd,hoc⟩
        · rename_i hd;exact old hd this
      | mark _ pw id nx m' off' hw hs h=>
        have:=h.1 t _ hl
        rw[look_without1]at this
        split at this
        · cases this
        · rename_i hd;exact old hd this
      | pal _ d el z' hd ho' hw h=>
        have:=h.1 t _ hl
        rw[look_without]at this
        split at this
        · cases this
        · rename_i hm
          exact old (fun hh=>hm ((memN_one d t).2 (by rw[show o.dst=some d from hd]at hh;simpa using hh))) this
  have srcQ:∀(i:Nat),i≤n→∀(t m off:Nat),look (sts i).q t=some (m,off)→(∃(k:Nat) (o':Oper),k<i∧ops[k]? = some o'∧o'.dst=some t∧(oc k = .mark m off∨∃z,oc k = .pal m z∧off=0)) ∨
      (look s.q t=some (m,off)∧∀(k:Nat) (o':Oper),k<i→ops[k]? = some o'→o'.dst≠some t):=by
    intro i
    induction i with
    | zero=>intro _ t m off hl;exact .inr ⟨hst0.2.1 t _ hl,fun k o' hk=>by omega⟩
    | succ i ih=>
      intro hin t m off hl
      have ih:=ih (by omega)
      obtain⟨o,p',ho,_,_,_,hA⟩:=some3 i (by omega)
      obtain⟨g,hg,_,_⟩:=hgood i o ho
      rw[hg]at hA
      generalize hoc:oc i=c at hA
      generalize hex:ex i=x at hA
      have old:o.dst≠some t→look (sts i).q t=some (m,off)→(∃(k:Nat) (o':Oper),k<i+1∧ops[k]? = some o'∧o'.dst=some t∧(oc k = .mark m off∨∃z,oc k = .pal m z∧off=0)) ∨
          (look s.q t=some (m,off)∧∀(k:Nat) (o':Oper),k<i+1→ops[k]? = some o'→o'.dst≠some t):=by
        intro hne ht
        rcases ih t m off ht with ⟨k,o',h1,h2,h3,h4⟩|⟨h1,h2⟩
        · exact .inl ⟨k,o',by omega,h2,h3,h4⟩
        · refine .inr ⟨h1,fun k o' hk ho'=>?_⟩
          by_cases hki:k=i
          · subst hki;rw[ho]at ho';cases ho';exact hne
          · exact h2 k o' (by omega) ho'
      cases hA with
      | skip _ hw h=>
        have:=h.2.1 t _ hl
        rw[look_without1]at this
        split at this
        · cases this
        · rename_i hd;exact old hd this
      | val _ pw v' r' σ' hw hs hl' hna h=>
        have:=h.2.1 t _ hl
        rw[look_without1]at this
        split at this
        · cases this
        · rename_i hd;exact old hd this
      | mark _ pw id nx m' off' hw hs h=>
        have:=h.2.1 t _ hl
        rw[look_putQ]at this
        split at this
        · rename_i hd
          simp only[Option.some.injEq,Prod.mk.injEq]at this
          obtain⟨rfl,rfl⟩:=this
          exact .inl ⟨i,o,by omega,ho,hd,.inl hoc⟩
        · rename_i hd
          rw[look_without1,if_neg hd]at this
          exact old hd this
      | pal _ d el z' hd ho' hw h=>
        have:=h.2.1 t _ hl
        simp only[look,Nat.beq_eq]at this
        split at this
        · rename_i hdt
          simp only[Option.some.injEq,Prod.mk.injEq]at this
          obtain⟨rfl,rfl⟩:=this
          exact .inl ⟨i,o,by omega,ho,by rw[←hdt];exact hd,.inr ⟨z',hoc,rfl⟩⟩
        · rename_i hdt
          have h2:=(look_unmark _ _ _ _ this).2
          rw[look_without]at h2
          split at h2
          · cases h2
          · exact old (fun hh=>hdt (by rw[show o.dst=some d from hd]at hh;simpa using hh)) h2
  obtain⟨Rs,Bs0,hx0,hn0,hm0,he0,hq0,hnt0,hd0⟩:=hI
  let Bi:Bs:=fun m=>if memN l.pals m=true then none else Bs0 m
  have hpalm:∀(k m:Nat) (z:List V),k<n→oc k = .pal m z→memN l.pals m=true:=by
    intro k m z hk hc
    obtain⟨_,o,el,ho,hd,hcc⟩:=hpald k m z hk hc
    obtain⟨g,hg,_,_⟩:=hgood k o ho
    have hmem:compOper P C.G nt ops o∈l.flat none:=by
      rw[hflat,List.mem_map]
      exact⟨o,by simpa using Array.mem_of_getElem? ho,rfl⟩
    exact pals_mem l none hmk _ hmem m (by rw[hg];simp only[hcc];rfl) (by rw[hg];exact hd)
  let Inv:Array Bool→Act→World→Prop:=fun listed a w=>
    listed.size=n∧(∀(i:Nat) (o:Oper),listed.getD i false=true→ops[i]? = some o→∀ed∈o.after,Region.binds .any ed=true→listed.getD ed.on false=true)∧a.defers=[] ∧
    ∃(R:Ren) (B:Bs) (p:Nat) (rL:Rg),p≤n∧(p=0∨∃j,p=j+1∧W j∧listed.getD j false=true)∧(∀j,j<n→W j→(listed.getD j false=true↔j<p))∧Ext nR R0 R∧nR≤(sts p).σ.next ∧
      MemI C R B rL (sts p).σ w∧(∀k m z,p≤k→k<n→listed.getD k false=true→oc k = .pal m z→look rL m=some z) ∧
      (∀m,(∀k z,p≤k→k<n→listed.getD k false=true→oc k ≠ .pal m z)→look rL m=look (sts p).r m) ∧
      (∀k m z,k<n→oc k = .pal m z→listed.getD k false=false→B m=none)∧nt≤a.tmps.size ∧
      (∀(i:Nat) (o:Oper) (t:Nat),listed.getD i false=true→ops[i]? = some o→o.dst=some t→Tok R B a.tmps[t]? (oc i)) ∧
      (∀t v,look s.e t=some v→(∀(i:Nat) (o:Oper),listed.getD i false=true→ops[i]? = some o→o.dst≠some t)→∃x,a.tmps[t]? = some x∧conc R v=some x) ∧
      (∀t m off,look s.q t=some (m,off)→(∀(i:Nat) (o:Oper),listed.getD i false=true→ops[i]? = some o→o.dst≠some t)→∃i,B m=some i∧a.tmps[t]? = some (.pointer (some ⟨i.blk,i.shift+off,none⟩)))
  have hanc:∀(listed:Array Bool),(∀(i:Nat) (o:Oper),listed.getD i false=true→ops[i]? = some o→∀ed∈o.after,Region.binds .any ed=true→listed.getD ed.on false=true) →
      ∀(i:Nat) (o:Oper) (p:DP),ops[i]? = some o→(planOf ops)[i]? = some p→(∀ed∈o.after,Region.binds .any ed=true→listed.getD ed.on false=true)→∀(k:Nat),k<n→p.anc.testBit k=true→listed.getD k false=true:=by
    intro listed hcl i
    induction i using Nat.strongRecOn with
    | _ i ih=>
      intro o p ho hp hed k hk hb
      obtain⟨ed,hem,hbe,hr⟩:=F.anc i o p ho hp k (by omega) hb
      have hlt':=F.edges i o ho ed hem hbe
      have hli:=hed ed hem hbe
      rcases hr with rfl|hr
      · exact hli
      · have hin:i<n:=hlt ho
        obtain⟨o2,p2,h1,h3,_⟩:=some3 ed.on (by omega)
        exact ih ed.on hlt' o2 p2 h1 h3 (fun ed2 hm2 hb2=>hcl ed.on o2 hli h1 ed2 hm2 hb2) k hk (by rw[←ancOf_eq h3];exact hr)
  have hready_nil:∀listed:Array Bool,listed.size=n→Region.ready .any ops listed=[]→∀k,k<n→listed.getD k false=true:=by
    intro listed hsz' hr k
    induction k using Nat.strongRecOn with
    | _ k ih=>
      intro hk
      cases hb:listed.getD k false with
      | true=>rfl
      | false=>
        exfalso
        obtain⟨o,p,h1,_⟩:=some3 k hk
        have:k∈Region.ready .any ops listed:=mem_ready.2 ⟨by rw[getD_true_iff hsz' hk];exact hb,o,h1,fun ed hm hbd=>ih ed.on (F.edges k o h1 ed hm hbd) (by have:=F.edges k o h1 ed hm hbd;omega)⟩
        rw[hr]at this;cases this
  have hnone:∀(listed:Array Bool),(∀(i:Nat) (o:Oper),listed.getD i false=true→ops[i]? = some o→∀ed∈o.after,Region.binds .any ed=true→listed.getD ed.on false=true) →
      ∀(j:Nat) (t:Nat),j≤n→(j<n→∃o p,ops[j]? = some o∧(planOf ops)[j]? = some p∧listed.getD j false=false∧memN p.looks t=true) →
      (∀(k:Nat) (o':Oper),k<j→ops[k]? = some o'→o'.dst≠some t)→∀(i:Nat) (o:Oper),listed.getD i false=true→ops[i]? = some o→o.dst≠some t:=by
    intro listed hcl j t hj hrd hk2 i oi hli hoi hdst
    have hin:i<n:=hlt hoi
    by_cases hij:i<j
    · exact hk2 i oi hij hoi hdst
    · have hjn:j<n:=by omega
      obtain⟨o,p,ho,hp,hnl,hlook⟩:=hrd hjn
      by_cases hie:i=j
      · subst hie;rw[hnl]at hli;cases hli
      · obtain⟨o3,p3,h1,h3,_⟩:=some3 i hin
        rw[hoi]at h1;cases h1
        have hd:=(F.dsts i j oi o p3 p hie hoi ho h3 hp t hdst).2 hlook
        rcases hd with hd|hd
        · have:=F.ancLt j p hp i (by omega) hd;omega
        · have:=hanc listed hcl i oi p3 hoi h3 (fun ed hm hb=>hcl i oi hli hoi ed hm hb) j hjn hd
          rw[hnl]at this;cases this
  have hwritten:∀(listed:Array Bool),(∀(i:Nat) (o:Oper),listed.getD i false=true→ops[i]? = some o→∀ed∈o.after,Region.binds .any ed=true→listed.getD ed.on false=true) →
      ∀(j t k:Nat) (ok:Oper),j≤n→(j=n→∀k,k<n→listed.getD k false=true)→(j<n→∃o p,ops[j]? = some o∧(planOf ops)[j]? = some p∧memN p.looks t=true∧(∀ed∈o.after,Region.binds .any ed=true→listed.getD ed.on false=true)) →
      k<j→ops[k]? = some ok→ok.dst=some t→listed.getD k false=true:=by
    intro listed hcl j t k ok hj hall hrd hk hok' hdst
    by_cases hjn:j<n
    · obtain⟨o,p,ho,hp,hlook,hed⟩:=hrd hjn
      obtain⟨o3,p3,h1,h3,_⟩:=some3 k (by omega)
      rw[hok']at h1;cases h1
      have hd:=(F.dsts k j ok o p3 p (by omega) hok' ho h3 hp t hdst).2 hlook
      rcases hd with hd|hd
      · exact hanc listed hcl j o p ho hp hed k (by omega) hd
      · have:=F.ancLt k p3 h3 j (by omega) hd;omega
    · exact hall (by omega) k (by omega)
  have hput:∀(a:Act) (d:Option Nat) (x:Value) (t:Nat),d≠some t→(a.put d x).tmps[t]? = a.tmps[t]? := by
    intro a d x t hne
    cases d with
    | none=>rfl
    | some d=>
      simp only[Act.put,Array.getElem?_setIfInBounds]
      rw[if_neg (fun h=>hne (by rw[h]))]
  have hputsz:∀(a:Act) (d:Option Nat) (x:Value),(a.put d x).tmps.size=a.tmps.size:=by
    intro a d x;cases d<;>simp[Act.put]
  have hclsk:∀(listed:Array Bool),(∀(i:Nat) (o:Oper),listed.getD i false=true→ops[i]? = some o→∀ed∈o.after,Region.binds .any ed=true→listed.getD ed.on false=true) →
      ∀(i:Nat) (o:Oper),ops[i]? = some o→listed.getD i false=false→(∀ed∈o.after,Region.binds .any ed=true→listed.getD ed.on false=true)→∀j,j<n→W j →
        ((compOp P C.G o.op).cls = .k→(j<i→listed.getD j false=true)∧(i<j→listed.getD j false=false)) ∧
        ((compOp P C.G o.op).cls = .l→(j<i→listed.getD j false=true)∧(i<j→listed.getD j false=false)) ∧
        ((compOp P C.G o.op).cls = .a→(i<j→listed.getD j false=false)):=by
    intro listed hcl i o ho hnl hed j hj hWj
    obtain⟨hexj,oj,hoj,hcj⟩:=hWj
    have hi:i<n:=hlt ho
    obtain⟨o1,p1,e1,e2,e3,e4,_⟩:=some3 i hi
    rw[ho]at e1;cases e1
    obtain⟨o2,p2,f1,f2,f3,f4,_⟩:=some3 j hj
    rw[hoj]at f1;cases f1
    obtain⟨g1,hg1,_⟩:=hgood i o ho
    obtain⟨g2,hg2,_⟩:=hgood j oj hoj
    have hup:∀k,k<n→p1.anc.testBit k=true→listed.getD k false=true:=hanc listed hcl i o p1 ho e2 hed
    have hdown:p2.anc.testBit i=true→listed.getD j false=false:=by
      intro hb
      cases hlj:listed.getD j false with
      | false=>rfl
      | true=>
        exfalso
        have:=hanc listed hcl j oj p2 hoj f2 (fun ed hm hb=>hcl j oj hlj hoj ed hm hb) i hi hb
        rw[hnl]at this;cases this
    have hl1:(ops.toList.map (compOper P C.G nt ops))[i]? = some (compOper P C.G nt ops o):=by rw[←hflat];exact e4
    have hl2:(ops.toList.map (compOper P C.G nt ops))[j]? = some (compOper P C.G nt ops oj):=by rw[←hflat];exact f4
    have hkj:(compOper P C.G nt ops oj).op.cls = .k:=by rw[hg2];exact hcj
    have hdoj:=allN_ok hdo j (by rw[hfl1];omega)
    rw[f4]at hdoj
    simp only[hkj]at hdoj
    have hdoji:=allN_ok hdoj i (by rw[hfl1];omega)
    rw[e4]at hdoji
    rw[e3,f3]at hdoji
    refine⟨fun hk=>?_,fun hk=>?_,fun hk=>?_⟩
    · have hki:(compOper P C.G nt ops o).op.cls = .k:=by rw[hg1];exact hk
      exact⟨fun hji=>hup j hj (F.kk j i _ _ p1 hji hl2 hl1 e2 hkj hki),fun hij=>hdown (F.kk i j _ _ p2 hij hl1 hl2 f2 hki hkj)⟩
    · have hki:(compOper P C.G nt ops o).op.cls = .l:=by rw[hg1];exact hk
      simp only[hki,Bool.or_eq_true]at hdoji
      rcases hdoji with hb|hb
      · have:=F.ancLt i p1 e2 j (by omega) hb
        exact⟨fun _=>hup j hj hb,fun hij=>by omega⟩
      · have:=F.ancLt j p2 f2 i (by omega) hb
        exact⟨fun hji=>by omega,fun _=>hdown hb⟩
    · have hki:(compOper P C.G nt ops o).op.cls = .a:=by rw[hg1];exact hk
      simp only[hki,Bool.or_eq_true,Bool.not_eq_true']at hdoji
      intro hij
      rcases hdoji with hb|hb
      · have:Nat.blt i j=true:=by simpa using hij
        rw[this]at hb;cases hb
      · exact hdown hb
  have hallk:∀(listed:Array Bool),(∀(i:Nat) (o:Oper),listed.getD i false=true→ops[i]? = some o→∀ed∈o.after,Region.binds .any ed=true→listed.getD ed.on false=true) →
      ∀(i:Nat) (o:Oper),ops[i]? = some o→(∀ed∈o.after,Region.binds .any ed=true→listed.getD ed.on false=true)→(compOp P C.G o.op).cls = .k→∀k m z,k<i→oc k = .pal m z→listed.getD k false=true:=by
    intro listed hcl i o ho hed hk k m z hki hc
    have hi:i<n:=hlt ho
    obtain⟨o1,p1,e1,e2,e3,e4,_⟩:=some3 i hi
    rw[ho]at e1;cases e1
    obtain⟨g1,hg1,_⟩:=hgood i o ho
    obtain⟨_,ok,el,hok',hdk,hck⟩:=hpald k m z (by omega) hc
    obtain⟨o2,p2,f1,f2,f3,f4,_⟩:=some3 k (by omega)
    rw[hok']at f1;cases f1
    obtain⟨g2,hg2,_⟩:=hgood k ok hok'
    have hkk:(compOper P C.G nt ops o).op.cls = .k:=by rw[hg1];exact hk
    have hdoj:=allN_ok hdo i (by rw[hfl1];omega)
    rw[e4]at hdoj
    simp only[hkk]at hdoj
    have hdoji:=allN_ok hdoj k (by rw[hfl1];omega)
    rw[f4]at hdoji
    have hka:(compOper P C.G nt ops ok).op.cls = .a:=by rw[hg2];simp only[hck];rfl
    rw[e3]at hdoji
    simp only[hka,Bool.or_eq_true,Bool.not_eq_true']at hdoji
    rcases hdoji with hb|hb
    · have:Nat.blt k i=true:=by simpa using hki
      rw[this]at hb;cases hb
    · exact hanc listed hcl i o p1 ho e2 hed k (by omega) hb
  have hfin:∀listed a w,Inv listed a w→(∀k,k<n→listed.getD k false=true)→Q .normal a w:=by
    intro listed a w hI hall
    obtain⟨hls,hcl,hd,R,B,p,rL,hpn,hp0,hpw,hx,hnp,hmem,hr1,hr2,hbs,htsz,hw,hu,hqq⟩:=hI
    have hnW:∀k,p≤k→k<n→¬W k:=fun k h1 h2 hW=>by have:=(hpw k h2 hW).1 (hall k h2);omega
    obtain⟨s1,s2,s3⟩:=seg p n hpn (Nat.le_refl _) hnW
    have hrr:∀m,look rL m=look (sts n).r m:=by
      intro m
      by_cases hex2:∃k z,p≤k∧k<n∧oc k = .pal m z
      · obtain⟨k,z,h1,h2,h3⟩:=hex2
        rw[hr1 k m z h1 h2 (hall k h2) h3,s3 k m z h1 h2 h3]
      · have hno:∀k z,p≤k→k<n→oc k ≠ .pal m z:=fun k z h1 h2 h3=>hex2 ⟨k,z,h1,h2,h3⟩
        rw[hr2 m (fun k z h1 h2 _=>hno k z h1 h2),s2 m hno]
    rw[hs']at hκ
    refine hQ (sts n) a w hκ ⟨R,B,hx,by rw[s1];exact hnp,⟨by rw[s1];exact hmem.rel,⟨fun m i hm=>?_,hmem.priv.inj,by rw[s1];exact hmem.priv.apart⟩⟩,⟨fun t v hv=>?_⟩,⟨fun t m off hv=>?_⟩,htsz,hd⟩
    · obtain⟨h1,l',h2,h3⟩:=hmem.priv.at_ m i hm
      exact⟨h1,l',by rw[←hrr];exact h2,h3⟩
    · rcases srcE n (Nat.le_refl _) t v hv with ⟨k,o',h1,h2,h3,h4⟩ | ⟨h1,h2⟩
      · have:=hw k o' t (hall k h1) h2 h3
        rw[h4]at this;exact this
      · exact hu t v h1 (hnone listed hcl n t (Nat.le_refl _) (fun h=>by omega) h2)
    · rcases srcQ n (Nat.le_refl _) t m off hv with ⟨k,o',h1,h2,h3,h4⟩ | ⟨h1,h2⟩
      · have:=hw k o' t (hall k h1) h2 h3
        rcases h4 with h4|⟨z,h4,rfl⟩
        · rw[h4]at this;exact this
        · rw[h4]at this;exact this
      · exact hqq t m off h1 (hnone listed hcl n t (Nat.le_refl _) (fun h=>by omega) h2)
  have hstep:∀listed a w,Inv listed a w→∀i,i∈Region.ready .any ops listed→∀K:Act→World→Prop,(∀a' w',Inv (listed.setIfInBounds i true) a' w'→K a' w')→wpOp P ops Q i K a w:=by
    intro listed a w hI i hi K hK
    obtain⟨hls,hcl,hd,R,B,p,rL,hpn,hp0,hpw,hx,hnp,hmem,hr1,hr2,hbs,htsz,hw,hu,hqq⟩:=hI
    obtain⟨hli,o,ho,hed⟩:=mem_ready.1 hi
    have hin:i<n:=hlt ho
    have hnl:listed.getD i false=false:=by rw[←getD_true_iff hls hin];exact hli
    obtain⟨o2,pi,ho2,hpi,_,_,hA⟩:=some3 i hin
    rw[ho]at ho2;cases ho2
    obtain⟨g,hg,hcg,hdok⟩:=hgood i o ho
    rw[hg]at hA
    have hsz':i<listed.size:=by omega
    have hLs:∀k,(listed.setIfInBounds i true).getD k false=(decide (k=i) || listed.getD k false):=fun k=>set_getD hsz'
    have hLi:(listed.setIfInBounds i true).getD i false=true:=by rw[hLs];simp
    have hLo:∀k,k≠i→(listed.setIfInBounds i true).getD k false=listed.getD k false:=fun k hk=>by rw[hLs];simp[hk]
    have hclk:=hclsk listed hcl i o ho hnl hed
    have hmw:=hmem.rel
    have hem:EnvL R (selE true pi.looks (sts i).e) a.tmps:=by
      refine⟨fun t v hv=>?_⟩
      obtain⟨ht,hmemt⟩:=look_restr _ _ _ _ hv
      rcases srcE i (by omega) t v ht with ⟨k,o',h1,h2,h3,h4⟩|⟨h1,h2⟩
      · have:=hw k o' t (hwritten listed hcl i t k o' (by omega) (fun h=>by omega) (fun _=>⟨o,pi,ho,hpi,hmemt,hed⟩) h1 h2 h3) h2 h3
        rw[h4]at this;exact this
      · exact hu t v h1 (hnone listed hcl i t (by omega) (fun _=>⟨o,pi,ho,hpi,hnl,hmemt⟩) h2)
    have hqm:QOk B (selQ true pi.looks (sts i).q) a.tmps:=by
      refine⟨fun t m off hv=>?_⟩
      obtain⟨ht,hmemt⟩:=look_restrQ _ _ _ _ hv
      rcases srcQ i (by omega) t m off ht with ⟨k,o',h1,h2,h3,h4⟩|⟨h1,h2⟩
      · have:=hw k o' t (hwritten listed hcl i t k o' (by omega) (fun h=>by omega) (fun _=>⟨o,pi,ho,hpi,hmemt,hed⟩) h1 h2 h3) h2 h3
        rcases h4 with h4|⟨z,h4,rfl⟩
        · rw[h4]at this;exact this
        · rw[h4]at this;exact this
      · exact hqq t m off h1 (hnone listed hcl i t (by omega) (fun _=>⟨o,pi,ho,hpi,hnl,hmemt⟩) h2)
    have mk:∀(R':Ren) (B':Bs) (p':Nat) (rL':Rg) (w':World) (x:Value),p'≤n→(p'=0∨∃j,p'=j+1∧W j∧(listed.setIfInBounds i true).getD j false=true) →
        (∀j,j<n→W j→((listed.setIfInBounds i true).getD j false=true↔j<p'))→Ext nR R0 R'→nR≤(sts p').σ.next→MemI C R' B' rL' (sts p').σ w' →
        (∀k m z,p'≤k→k<n→(listed.setIfInBounds i true).getD k false=true→oc k = .pal m z→look rL' m=some z) →
        (∀m,(∀k z,p'≤k→k<n→(listed.setIfInBounds i true).getD k false=true→oc k ≠ .pal m z)→look rL' m=look (sts p').r m) →
        (∀k m z,k<n→oc k = .pal m z→(listed.setIfInBounds i true).getD k false=false→B' m=none)→Le R R'→(∀m b,B m=some b→B' m=some b) →
        (∀t,o.dst=some t→Tok R' B' (some x) (oc i))→K (a.put o.dst x) w':=by
      intro R' B' p' rL' w' x h1 h2 h3 h4 h5 h6 h7 h8 h9 h10 h11 h12
      refine hK _ _ ⟨by rw[Array.size_setIfInBounds];exact hls,?_,by rw[defers_put];exact hd,R',B',p',rL',h1,h2,h3,h4,h5,h6,h7,h8,h9,by rw[hputsz];exact htsz,?_,?_,?_⟩
      · intro i' o' hi' ho' ed hm' hb'
        rw[hLs]at hi' ⊢
        simp only[Bool.or_eq_true,decide_eq_true_eq]at hi' ⊢
        rcases hi' with rfl|hi'
        · rw[ho]at ho';cases ho'
          exact .inr (hed ed hm' hb')
        · exact .inr (hcl i' o' hi' ho' ed hm' hb')
      · intro i' o' t hi' ho' hdt
        rw[hLs]at hi'
        simp only[Bool.or_eq_true,decide_eq_true_eq]at hi'
        by_cases he:i'=i
        · subst he
          rw[ho]at ho';cases ho'
          have:=h12 t hdt
          have htl:t<a.tmps.size:=Nat.lt_of_lt_of_le (hdlt i' o t ho hdt) htsz
          have hpt:(a.put o.dst x).tmps[t]? = some x:=by rw[hdt];simp[Act.put,Array.getElem?_setIfInBounds,htl]
          rw[hpt];exact this
        · have:=hw i' o' t (hi'.resolve_left he) ho' hdt
          rw[hput a o.dst x t (hdu i' i o' o t he ho' ho hdt)]
          exact this.mono h10 h11
      · intro t v hv hno
        rw[hput a o.dst x t (hno i o hLi ho)]
        obtain⟨y,hy1,hy2⟩:=hu t v hv (fun i' o' hi' ho'=>hno i' o' (by rw[hLs,hi'];simp) ho')
        exact⟨y,hy1,conc_mono h10 v y hy2⟩
      · intro t m off hv hno
        rw[hput a o.dst x t (hno i o hLi ho)]
        obtain⟨b,hb1,hb2⟩:=hqq t m off hv (fun i' o' hi' ho'=>hno i' o' (by rw[hLs,hi'];simp) ho')
        exact⟨b,h11 m b hb1,hb2⟩
    have mk0:∀(R':Ren) (w':World) (x:Value),¬W i→(∀m z,oc i ≠ .pal m z)→Ext nR R0 R'→MemI C R' B rL (sts p).σ w'→Le R R'→(∀t,o.dst=some t→Tok R' B (some x) (oc i))→K (a.put o.dst x) w':=by
      intro R' w' x hnW hnp' h1 h2 h3 h4
      refine mk R' B p rL w' x hpn ?_ ?_ h1 hnp h2 ?_ ?_ ?_ h3 (fun _ _ h=>h) h4
      · rcases hp0 with h | ⟨j,h5,h6,h7⟩
        · exact .inl h
        · exact .inr ⟨j,h5,h6,by rw[hLs,h7];simp⟩
      · intro j hj hWj
        by_cases hji:j=i
        · subst hji;exact(hnW hWj).elim
        · rw[hLo j hji];exact hpw j hj hWj
      · intro k m z hk1 hk2 hk3 hk4
        by_cases hki:k=i
        · subst hki;exact(hnp' m z hk4).elim
        · rw[hLo k hki]at hk3;exact hr1 k m z hk1 hk2 hk3 hk4
      · intro m hm
        refine hr2 m (fun k z hk1 hk2 hk3=>?_)
        exact hm k z hk1 hk2 (by rw[hLs,hk3];simp)
      · intro k m z hk1 hk2 hk3
        by_cases hki:k=i
        · subst hki;rw[hLi]at hk3;cases hk3
        · rw[hLo k hki]at hk3;exact hbs k m z hk1 hk2 hk3
    have hext:∀R',(∀k,k<(sts p).σ.next→k≠(sts p).σ.next→R' k=R k)→Ext nR R0 R':=fun R' hk k hkn=>by rw[hk k (by omega) (by omega)];exact hx k hkn
    have hpi':(∀j,j<n→W j→i<j→listed.getD j false=false)→p≤i:=by
      intro hno
      rcases hp0 with h|⟨j,h1,h2,h3⟩
      · omega
      · rcases Nat.lt_trichotomy j i with h4 | h4 | h4
        · omega
        · subst h4;rw[hnl]at h3;cases h3
        · have hW:=h2
          obtain⟨_,oj,hoj,_⟩:=h2
          rw[hno j (hlt hoj) hW h4]at h3;cases h3
    have hnoW:(∀j,j<n→W j→j<i→listed.getD j false=true)→∀k,p≤k→k<i→¬W k:=by
      intro hyes k hk1 hk2 hWk
      have:=(hpw k (by omega) hWk).1 (hyes k (by omega) hWk hk2)
      omega
    have hsame:p≤i→(∀k,p≤k→k<i→¬W k)→(sts i).σ=(sts p).σ∧∀x m off,markX (selQ true pi.looks (sts i).q) x=some (m,off)→look rL m=look (sts i).r m:=by
      intro hpi2 hnW
      obtain⟨s1,s2,s3⟩:=seg p i hpi2 (by omega) hnW
      refine⟨s1,fun x m off hmx=>?_⟩
      cases x with
      | con v=>cases hmx
      | tmp u=>
        have hmx:look (selQ true pi.looks (sts i).q) u=some (m,off):=hmx
        obtain⟨b,hb,_⟩:=hqm.at_ u m off hmx
        have hroot:=roots i (by omega) u m off (look_restrQ _ _ _ _ hmx).1
        by_cases hex2:∃k z,p≤k∧k<i∧oc k = .pal m z
        · obtain⟨k,z,h1,h2,h3⟩:=hex2
          have hlk:listed.getD k false=true:=by
            cases hlk:listed.getD k false with
            | true=>rfl
            | false=>have:=hbs k m z (by omega) h3 hlk;rw[hb]at this;cases this
          rw[hr1 k m z h1 (by omega) hlk h3,s3 k m z h1 h2 h3]
        · have hno:∀k z,p≤k→k<i→oc k ≠ .pal m z:=fun k z h1 h2 h3=>hex2 ⟨k,z,h1,h2,h3⟩
          rw[hr2 m (fun k z h1 h2 _ h3=>hno k z h1 (hroot k z h2 h3) h3),s2 m hno]
    have hgl:=hmw.globOk
    unfold wpOp
    rw[ho]
    simp only
    generalize hoc:oc i=c at hA
    generalize hexi:ex i=xx at hA
    cases hA with
    | skip _ hwn h=>
      rw[if_neg (by rw[wanted_ok hem.env hcg hwn];simp)]
      exact mk0 R w undef (fun hW=>by have h9:=hW.1;rw[hexi]at h9;cases h9) (fun m z hh=>by rw[hoc]at hh;cases hh) hx hmem (Le.refl _) (fun t _=>by rw[hoc];exact⟨_,rfl,rfl⟩)
    | mark _ pw id nx m off hwn hs h=>
      rw[if_pos (wanted_ok hem.env hcg hwn)]
      left
      have hs2:Step C.E D pw (sts p).σ.next ((sts p).σ.next+1) (compOp P C.G o.op) (selE true pi.looks (sts i).e) (selQ true pi.looks (sts i).q) rL (sts p).σ (.mark m off):=mark_any hs
      refine step_ok hD hmem hem hqm o (hmw.fresh _ (Nat.le_refl _)) (Nat.lt_succ_self _) (Nat.le_succ _) hs2 K Q (fun v2 r2 σ2 heq=>by cases heq) (fun m2 off2 heq b hb=>?_)
      cases heq
      refine mk0 R w _ (fun hW=>?_) (fun m z hh=>by rw[hoc]at hh;cases hh) hx hmem (Le.refl _) (fun t _=>by rw[hoc];exact⟨b,hb,rfl⟩)
      obtain⟨_,o3,ho3,hc3⟩:=hW
      rw[ho]at ho3;cases ho3
      cases hs with
      | mv x _ _ hoo _=>have hoo:compOp P C.G o.op=_∨compOp P C.G o.op=_:=hoo;rcases hoo with hoo | hoo<;>(rw[hoo]at hc3;cases hc3)
      | fa d x _ _ hoo _=>have hoo:compOp P C.G o.op=_:=hoo;rw[hoo]at hc3;cases hc3
    | pal _ d el z hdd hoo hwn h=>
      rw[if_pos (wanted_ok hem.env hcg hwn)]
      left
      have hoo:compOp P C.G o.op = .alloc el z:=hoo
      have hdd:o.dst=some d:=hdd
      have hca:(compOp P C.G o.op).cls = .a:=by rw[hoo];rfl
      have hple:=hpi' (fun j hj hW hij=>(hclk j hj hW).2.2 hca hij)
      have hBd:B d=none:=hbs i d z hin hoc hnl
      refine pal_ok hmem o (d:=d) hoo K Q (fun b w' hmem'=>?_)
      refine mk R (fun m=>if m=d then some b else B m) p ((d,z)::without [d] rL) w' _ hpn ?_ ?_ hx hnp hmem' ?_ ?_ ?_ (Le.refl _) (fun m b' hb'=>?_) (fun t _=>?_)
      · rcases hp0 with h | ⟨j,h5,h6,h7⟩
        · exact .inl h
        · exact .inr ⟨j,h5,h6,by rw[hLs,h7];simp⟩
      · intro j hj hWj
        by_cases hji:j=i
        · subst hji
          obtain⟨_,o3,ho3,hc3⟩:=hWj
          rw[ho]at ho3;cases ho3
          rw[hca]at hc3;cases hc3
        · rw[hLo j hji];exact hpw j hj hWj
      · intro k m z' hk1 hk2 hk3 hk4
        by_cases hki:k=i
        · subst hki;rw[hoc]at hk4;cases hk4;simp[look]
        · rw[hLo k hki]at hk3
          have hmd:¬d=m:=fun he=>hki (hpalu k i m z' z hk2 hin hk4 (by rw[hoc,he]))
          simp only[look,Nat.beq_eq]
          rw[if_neg hmd,look_without,if_neg (fun hh=>hmd ((memN_one d m).1 hh))]
          exact hr1 k m z' hk1 hk2 hk3 hk4
      · intro m hm
        have hmd:¬d=m:=fun he=>hm i z hple hin hLi (by rw[hoc,he])
        simp only[look,Nat.beq_eq]
        rw[if_neg hmd,look_without,if_neg (fun hh=>hmd ((memN_one d m).1 hh))]
        exact hr2 m (fun k z' hk1 hk2 hk3=>hm k z' hk1 hk2 (by rw[hLs,hk3];simp))
      · intro k m z' hk1 hk2 hk3
        by_cases hki:k=i
        · subst hki;rw[hLi]at hk3;cases hk3
        · rw[hLo k hki]at hk3
          have hmd:¬m=d:=fun he=>hki (hpalu k i m z' z hk1 hin hk2 (by rw[hoc,he]))
          rw[if_neg hmd];exact hbs k m z' hk1 hk2 hk3
      · by_cases hmd:m=d
        · subst hmd;rw[hBd]at hb';cases hb'
        · rw[if_neg hmd];exact hb'
      · rw[hoc];exact⟨b,by simp,rfl⟩
    | val _ pw v r' σ' hwn hs hl' hna h=>
      rw[if_pos (wanted_ok hem.env hcg hwn)]
      left
      have hs:Step C.E D pw (sts i).σ.next ((sts i).σ.next+1) (compOp P C.G o.op) (selE true pi.looks (sts i).e) (selQ true pi.looks (sts i).q) (sts i).r (sts i).σ (.val v r' σ'):=hs
      have hl':o.dst=none∨v.live=true∨(compOp P C.G o.op).cls ≠ .k:=hl'
      have hna:(compOp P C.G o.op).cls ≠ .a:=hna
      have htok:∀(R':Ren) (x:Value),((v = .dead∧(compOp P C.G o.op).cls = .k)∨conc R' v=some x)→∀t,o.dst=some t→Tok R' B (some x) (oc i):=by
        intro R' x hv t ht
        rw[hoc]
        refine⟨x,rfl,?_⟩
        rcases hv with ⟨rfl,hc⟩|hv
        · rcases hl' with h | h | h
          · rw[ht]at h;cases h
          · cases h
          · exact(h hc).elim
        · exact hv
      by_cases hck:(compOp P C.G o.op).cls = .k
      ·
        have hWi:W i:=⟨hexi,o,ho,hck⟩
        have hple:=hpi' (fun j hj hW hij=>((hclk j hj hW).1 hck).2 hij)
        have hnW:=hnoW (fun j hj hW hji=>((hclk j hj hW).1 hck).1 hji)
        obtain⟨hσ,hrm⟩:=hsame hple hnW
        obtain⟨s1,s2,s3⟩:=seg p i hple (by omega) hnW
        rw[hσ]at hs
        obtain⟨rL',hs2,hrel⟩:=step_move (rL:=rL) hs hrm
        refine step_ok hD hmem hem hqm o (hmw.fresh _ (Nat.le_refl _)) (Nat.lt_succ_self _) (Nat.le_succ _) hs2 K Q (fun v2 r2 σ2 heq R' w' x hle hk hn' hmem' hv=>?_) (fun m off heq=>by cases heq)
        cases heq
        have hσ':(sts (i+1)).σ=σ':=h.2.2.2
        have hr':(sts (i+1)).r=r':=h.2.2.1
        have hall:=hallk listed hcl i o ho hed hck
        have hold:∀m,(∀k z,i≤k→k<n→(listed.setIfInBounds i true).getD k false=true→oc k ≠ .pal m z)→look rL m=look (sts i).r m:=by
          intro m hm
          by_cases hex2:∃k z,p≤k∧k<i∧oc k = .pal m z
          · obtain⟨k,z,h1,h2,h3⟩:=hex2
            rw[hr1 k m z h1 (by omega) (hall k m z h2 h3) h3,s3 k m z h1 h2 h3]
          · have hno:∀k z,p≤k→k<i→oc k ≠ .pal m z:=fun k z h1 h2 h3=>hex2 ⟨k,z,h1,h2,h3⟩
            rw[hr2 m (fun k z h1 h2 h3 h4=>?_),s2 m hno]
            rcases Nat.lt_or_ge k i with h5|h5
            · exact hno k z h1 h5 h4
            · exact hm k z h5 h2 (by rw[hLs,h3];simp) h4
        have hmroot:∀x m off,markX (selQ true pi.looks (sts i).q) x=some (m,off)→∀k z,k<n→oc k = .pal m z→k<i:=by
          intro x m off hmx
          cases x with
          | con v=>cases hmx
          | tmp u=>
            have hmx:look (selQ true pi.looks (sts i).q) u=some (m,off):=hmx
            exact roots i (by omega) u m off (look_restrQ _ _ _ _ hmx).1
        refine mk R' B (i+1) rL' w' x (by omega) (.inr ⟨i,rfl,hWi,hLi⟩) ?_ (hext R' hk) (by rw[hσ'];omega) (by rw[hσ'];exact hmem') ?_ ?_ ?_ hle (fun _ _ h=>h) (htok R' x hv)
        · intro j hj hWj
          by_cases hji:j=i
          · subst hji;rw[hLi];simp
          · rw[hLo j hji]
            rcases Nat.lt_trichotomy j i with h4|h4|h4
            · rw[((hclk j hj hWj).1 hck).1 h4];simp;omega
            · exact(hji h4).elim
            · rw[((hclk j hj hWj).1 hck).2 h4];simp;omega
        · intro k m z hk1 hk2 hk3 hk4
          have hk3':listed.getD k false=true:=by rw[hLo k (by omega)]at hk3;exact hk3
          have hb:=hr1 k m z (by omega) hk2 hk3' hk4
          rcases hrel with ⟨_,h6⟩|⟨x',m',off',c',l',h6,h7,_,h8⟩
          · rw[h6];exact hb
          · rw[h8]
            have hne:¬m'=m:=fun he=>by have:=hmroot x' m' off' h6 k z hk2 (by rw[he];exact hk4);omega
            rw[look_repl' (by rw[hrm x' m' off' h6];exact h7),if_neg hne];exact hb
        · intro m hm
          have hb:=hold m (fun k z hk1 hk2 hk3 hk4=>by
            rcases Nat.eq_or_lt_of_le hk1 with h5|h5
            · subst h5;rw[hoc]at hk4;cases hk4
            · exact hm k z (by omega) hk2 hk3 hk4)
          rw[hr']
          rcases hrel with ⟨h5,h6⟩|⟨x',m',off',c',l',h6,h7,h8,h9⟩
          · rw[h5,h6];exact hb
          · rw[h8,h9,look_repl' (by rw[hrm x' m' off' h6];exact h7),look_repl' h7,hb]
        · intro k m z hk1 hk2 hk3
          by_cases hki:k=i
          · subst hki;rw[hLi]at hk3;cases hk3
          · rw[hLo k hki]at hk3;exact hbs k m z hk1 hk2 hk3
      ·
        have hnWi:¬W i:=fun hW=>by
          obtain⟨_,o3,ho3,hc3⟩:=hW
          rw[ho]at ho3;cases ho3
          exact hck hc3
        have go:Step C.E D pw (sts p).σ.next ((sts p).σ.next+1) (compOp P C.G o.op) (selE true pi.looks (sts i).e) (selQ true pi.looks (sts i).q) rL (sts p).σ (.val v rL (sts p).σ)→o.wp P a w K Q:=by
          intro hs2
          refine step_ok hD hmem hem hqm o (hmw.fresh _ (Nat.le_refl _)) (Nat.lt_succ_self _) (Nat.le_succ _) hs2 K Q (fun v2 r2 σ2 heq R' w' x hle hk hn' hmem' hv=>?_) (fun m off heq=>by cases heq)
          cases heq
          exact mk0 R' w' x hnWi (fun m z hh=>by rw[hoc]at hh;cases hh) (hext R' hk) hmem' hle (htok R' x hv)
        cases hcls:(compOp P C.G o.op).cls with
        | k=>exact(hck hcls).elim
        | a=>exact(hna hcls).elim
        | p=>
          refine go ?_
          cases hs with
          | p _ hc h9=>exact .p v hc h9
          | l _ hc h9=>rw[hcls]at hc;cases hc
          | a _ b hc h9=>rw[hcls]at hc;cases hc
          | k _ σ1 _ hc h hs=>rw[hcls]at hc;cases hc
          | ld x m off l _ hoo hm hl h=>rw[hoo]at hcls;cases hcls
          | ldn n x m off l hoo hm hl h=>rw[hoo]at hcls;cases hcls
          | st n x y m off l cs u hw hoo hm hl hn hu hlu hcs h1 hlen h=>rw[hoo]at hcls;cases hcls
        | l=>
          have hple:=hpi' (fun j hj hW hij=>((hclk j hj hW).2.1 hcls).2 hij)
          have hnW:=hnoW (fun j hj hW hji=>((hclk j hj hW).2.1 hcls).1 hji)
          obtain⟨hσ,hrm⟩:=hsame hple hnW
          rw[hσ]at hs
          obtain⟨rL',hs2,_⟩:=step_move (rL:=rL) hs hrm
          obtain⟨e1,e2⟩:=step_still hs2 hck hna
          rw[e1,e2]at hs2
          exact go hs2
  have hany:∀fuel listed a w,Inv listed a w→(List.range n).countP (fun k=>!listed.getD k false)≤fuel→wpAny P .any ops Q fuel listed a w:=by
    intro fuel
    induction fuel with
    | zero=>
      intro listed a w hI hcnt
      have hall:∀k,k<n→listed.getD k false=true:=by
        intro k hk
        have h0:(List.range n).countP (fun k=>!listed.getD k false)=0:=by omega
        have:=List.countP_eq_zero.1 h0 k (List.mem_range.2 hk)
        simpa using this
      refine⟨?_,hfin listed a w hI hall⟩
      apply List.eq_nil_iff_forall_not_mem.2
      intro j hj
      obtain⟨h1,o,h2,_⟩:=mem_ready.1 hj
      have hjn:j<n:=hlt h2
      rw[getD_true_iff hI.1 hjn,hall j hjn]at h1
      cases h1
    | succ fuel ih=>
      intro listed a w hI hcnt
      refine⟨fun hr=>hfin listed a w hI (hready_nil listed hI.1 hr),fun i hi=>?_⟩
      have hin:i<n:=by
        obtain⟨_,o,h2,_⟩:=mem_ready.1 hi
        exact hlt h2
      have hnl:listed.getD i false=false:=by rw[←getD_true_iff hI.1 hin];exact(mem_ready.1 hi).1
      refine hstep listed a w hI i hi _ (fun a' w' hI'=>ih _ a' w' hI' ?_)
      have hsz':i<listed.size:=by rw[hI.1];exact hin
      have:=cnt_lt (p:=fun k=>!(listed.setIfInBounds i true).getD k false) (q:=fun k=>!listed.getD k false) (fun k hk=>by
        simp only[Bool.not_eq_true']at hk ⊢
        rw[set_getD hsz']at hk
        simp only[Bool.or_eq_false_iff]at hk
        exact hk.2) (i:=i) (by simp only[hnl];rfl) (by simp only[set_getD hsz'];simp) (List.range n) (List.mem_range.2 hin)
      omega
  refine wp_region_any hmix ?_
  rw[hnn]
  have hrepl:∀k,(Array.replicate n false).getD k false=false:=fun k=>by
    simp only[Array.getD_eq_getD_getElem?,Array.getElem?_replicate]
    split<;>rfl
  refine hany n _ a0 _ ⟨by simp,?_,hd0,Rs,Bi,0,s.r,Nat.zero_le _,.inl rfl,?_,hx0,by rw[hst0.2.2.2];exact hn0,?_,?_,?_,?_,hnt0,?_,?_,?_⟩ ?_
  · intro i o hi;rw[hrepl]at hi;cases hi
  · intro j hj hW;rw[hrepl];simp
  · rw[hst0.2.2.2]
    refine⟨hm0.rel.drawn _,⟨fun m i hm=>?_,fun m m' i i' hm hm' hb=>?_,fun m i hm=>?_⟩⟩
    · simp only[Bi]at hm
      split at hm
      · cases hm
      · exact hm0.priv.at_ m i hm
    · simp only[Bi]at hm hm'
      split at hm
      · cases hm
      · split at hm'
        · cases hm'
        · exact hm0.priv.inj m m' i i' hm hm' hb
    · simp only[Bi]at hm
      split at hm
      · cases hm
      · exact hm0.priv.apart m i hm
  · intro k m z h1 h2 h3;rw[hrepl]at h3;cases h3
  · intro m _;rw[hst0.2.2.1]
  · intro k m z h1 h2 _
    simp only[Bi]
    rw[if_pos (hpalm k m z h1 h2)]
  · intro i o t hi;rw[hrepl]at hi;cases hi
  · intro t v hv _;exact he0.at_ t v hv
  · intro t m off hv _
    obtain⟨i,h1,h2⟩:=hq0.at_ t m off hv
    refine⟨i,?_,h2⟩
    simp only[Bi]
    rw[if_neg (fun hh=>palsOk_mem hpo m hh t off hv)]
    exact h1
  · refine Nat.le_trans (List.countP_le_length) (by simp)
end Go.Og
namespace Go.Og
variable {P:Program} {D:Den} {C:Cx}
theorem look_mem {α:Type}:∀{l:List (Nat × α)} {k:Nat} {a:α},look l k=some a→(k,a)∈l
 | [],k,a,h=>by simp[look]at h
 | (m,b)::l,k,a,h=>by
  simp only[look,Nat.beq_eq]at h
  split at h
  ·rename_i he;subst he;cases h;exact List.mem_cons_self
  ·exact List.mem_cons_of_mem _ (look_mem h)
theorem keepE_some {e:Env}:∀(ts:List (Nat × XTy)) (κ:Env→Ans) (res:V × H),keepE e ts κ=some res→∃e',(∀t v,look e' t=some v→look e t=some v)∧κ e'=some res
 | [],κ,res,h=>⟨[],fun t v hv=>by simp[look]at hv,h⟩
 | (t,ty)::l,κ,res,h=>by
  simp only[keepE]at h
  unfold getK at h
  simp only at h
  cases hl:look e t with
  | none=>rw[hl]at h;cases h
  | some v=>
   rw[hl]at h
   have h2:=rt_some _ _ _ _ h
   obtain⟨e',h3,h4⟩:=keepE_some l _ res h2
   refine⟨_,fun u w hu=>?_,h4⟩
   simp only[look,Nat.beq_eq]at hu
   split at hu
   ·rename_i he;subst he;cases hu;exact hl
   ·exact h3 u w hu
theorem keepL_some {e:Env}:∀(ts:List (Nat × XTy)) (κ:Env→Ans) (res:V × H),keepL e ts κ=some res→∃e',(∀t v,look e' t=some v→look e t=some v∧v.live=true)∧κ e'=some res
 | [],κ,res,h=>⟨[],fun t v hv=>by simp[look]at hv,h⟩
 | (t,ty)::l,κ,res,h=>by
  simp only[keepL,getL]at h
  cases hl:look e t with
  | none=>rw[hl]at h;cases h
  | some v=>
   rw[hl]at h
   obtain⟨hlv,h⟩:=chk_some h
   have h2:=rt_some _ _ _ _ h
   obtain⟨e',h3,h4⟩:=keepL_some l _ res h2
   refine⟨_,fun u w hu=>?_,h4⟩
   simp only[look,Nat.beq_eq]at hu
   split at hu
   ·rename_i he;subst he;cases hu;exact⟨hl,hlv⟩
   ·exact h3 u w hu
theorem keepR_some {r:Rg}:∀(rs:List (Nat × List XTy)) (κ:Rg→Ans) (res:V × H),keepR r rs κ=some res→∃r',(∀m l,look r' m=some l→look r m=some l)∧(∀m,memN (rs.map Prod.fst) m=true→∃l,look r' m=some l)∧κ r'=some res
 | [],κ,res,h=>⟨[],fun t v hv=>by simp[look]at hv,fun m hm=>by simp[memN]at hm,h⟩
 | (m,tys)::l,κ,res,h=>by
  simp only[keepR]at h
  cases hl:look r m with
  | none=>rw[hl]at h;cases h
  | some cs=>
   rw[hl]at h
   have h2:=rts_some _ _ _ _ h
   obtain⟨r',h3,h4,h5⟩:=keepR_some l _ res h2
   refine⟨_,fun u w hu=>?_,fun u hu=>?_,h5⟩
   ·simp only[look,Nat.beq_eq]at hu
    split at hu
    ·rename_i he;subst he;cases hu;exact hl
    ·exact h3 u w hu
   ·simp only[look,Nat.beq_eq]
    by_cases he:m=u
    ·exact⟨cs,by rw[if_pos he]⟩
    ·rw[if_neg he]
     simp only[List.map_cons]at hu
     exact h4 u (((memN_cons m _ u).1 hu).resolve_left he)
theorem look_keepQ:∀(ms rs:List Nat) (q:Qs) (t:Nat) (p:Nat × Nat),look (keepQ ms rs q) t=some p→look q t=some p∧memN rs p.1=true
 | [],rs,q,t,p,h=>by simp[keepQ,look]at h
 | a::l,rs,q,t,p,h=>by
  simp only[keepQ]at h
  split at h
  ·rename_i p' hp
   split at h
   ·rename_i hm
    simp only[look,Nat.beq_eq]at h
    split at h
    ·rename_i he;subst he;cases h;exact⟨hp,hm⟩
    ·exact look_keepQ l rs q t p h
   ·exact look_keepQ l rs q t p h
  ·exact look_keepQ l rs q t p h
theorem keepS_ok {nR:Nat} {R0:Ren} {nt:Nat} {ts:List (Nat × XTy)} {ms:List Nat} {rs:List (Nat × List XTy)} {s:St} {κ:St→Ans} {res:V × H} (h:keepS ts ms rs s κ=some res) {a:Act} {w:World} (hI:InvS C nR R0 nt s a w) :
  ∃s0,κ s0=some res∧InvS C nR R0 nt s0 a w:=by
 unfold keepS at h
 obtain⟨e',he',h⟩:=keepE_some _ _ _ h
 obtain⟨r',hr1,hr2,h⟩:=keepR_some _ _ _ h
 obtain⟨R,B,h1,h2,h3,h4,h5,h6,h7⟩:=hI
 refine⟨_,h,R,fun m=>if memN (rs.map Prod.fst) m=true then B m else none,h1,h2,⟨h3.rel,⟨fun m i hm=>?_,fun m m' i i' hm hm'=>?_,fun m i hm=>?_⟩⟩,h4.sub he',⟨fun t m off hq=>?_⟩,h6,h7⟩
 ·split at hm
  ·rename_i hmem
   obtain⟨hO,l,hl,hok'⟩:=h3.priv.at_ m i hm
   obtain⟨l',hl'⟩:=hr2 m hmem
   have:=hr1 m l' hl'
   rw[hl]at this;cases this
   exact⟨hO,l,hl',hok'⟩
  ·cases hm
 ·split at hm
  ·split at hm'
   ·exact h3.priv.inj m m' i i' hm hm'
   ·cases hm'
  ·cases hm
 ·split at hm
  ·exact h3.priv.apart m i hm
  ·cases hm
 ·obtain⟨hq1,hq2⟩:=look_keepQ _ _ _ _ _ hq
  obtain⟨i,hi1,hi2⟩:=h5.at_ t m off hq1
  refine⟨i,?_,hi2⟩
  rw[if_pos hq2];exact hi1
theorem denC_ok (hD:∀f,SoundFn P C.E C.G f (D f)) {W:DrawFn} (hW:SoundW P C.E C.G W) (hmix:P.follows .mixedOrders=true) (N nt:Nat) {nR:Nat} {R0:Ren} {res:V × H} :
  ∀(xc:XC) (c:Code),xc.strip=compC P C.G nt c→xc.ok=true→∀(s:St) (kn:St→Ans) (kx:Nat→St→Ans) (kr:St→Ans),denC C.E D W N xc s kn kx kr=some res →
   ∀(a:Act) (w:World) (Q:Exit→Act→World→Prop),InvS C nR R0 nt s a w→(∀s' a' w',kn s'=some res→InvS C nR R0 nt s' a' w'→Q .normal a' w') →
    (∀id s' a' w',kx id s'=some res→InvS C nR R0 nt s' a' w'→Q (.exit id) a' w')→(∀s' a' w',kr s'=some res→InvS C nR R0 nt s' a' w'→Q .ret a' w')→c.wp P Q a w:=by
 intro xc
 induction xc with
 | bad=>intro c _ _ s kn kx kr h;cases h
 | keep ts ms rs xc ih=>
  intro c hs hok s kn kx kr h a w Q hI hn hx hr
  rw[denC_keep]at h
  obtain⟨s0,h,hI⟩:=keepS_ok h hI
  exact ih c hs hok s0 kn kx kr h a w Q hI hn hx hr
 | skip=>
  intro c hs hok s kn kx kr h a w Q hI hn hx hr
  cases c<;>simp only[XC.strip,compC]at hs<;>(try (cases hs;done))
  ·exact wp_skip (hn s a w h hI)
  ·rename_i i o d;cases d<;>(first | (cases hs;done) | (simp only[compC]at hs;split at hs<;>cases hs))
 | exit id=>
  intro c hs hok s kn kx kr h a w Q hI hn hx hr
  cases c<;>simp only[XC.strip,compC]at hs<;>(try (cases hs;done))
  ·rename_i i o d;cases d<;>(first | (cases hs;done) | (simp only[compC]at hs;split at hs<;>cases hs))
  ·cases hs;exact wp_exit (hx id s a w h hI)
 | ret=>
  intro c hs hok s kn kx kr h a w Q hI hn hx hr
  cases c<;>simp only[XC.strip,compC]at hs<;>(try (cases hs;done))
  ·rename_i i o d;cases d<;>(first | (cases hs;done) | (simp only[compC]at hs;split at hs<;>cases hs))
  ·exact wp_ret (hr s a w h hI)
 | ops l=>
  intro c hs hok s kn kx kr h a w Q hI hn hx hr
  cases c<;>simp only[XC.strip,compC]at hs<;>(try (cases hs;done))
  rename_i i o d
  cases d
  case true=>simp only[compC]at hs;split at hs<;>cases hs
  simp only[compC,AC.region.injEq]at hs
  rw[denC_ops]at h
  obtain⟨s',hrun,hκ,_⟩:=denL_run l none none none true 0 s _ res h hok (.inl ⟨rfl,rfl⟩) (fun h=>by cases h)
  refine wp_region_list (run_seq hD hrun o.toList a w ?_ hI (fun a' w' hI'=>hn _ a' w' hκ hI'))
  obtain⟨h1,h2⟩:=flat_len l none
  rw[List.map_fst_zip (by omega),hs]
 | draw l ancs=>
  intro c hs hok s kn kx kr h a w Q hI hn hx hr
  cases c<;>simp only[XC.strip,compC]at hs<;>(try (cases hs;done))
  rename_i i o d
  cases d<;>simp only[compC]at hs<;>(try (cases hs;done))
  split at hs
  case isFalse=>cases hs
  rename_i hplan
  simp only[AC.draw.injEq]at hs
  rw[denC_draw]at h
  unfold drawK at h
  split at h
  ·rename_i hpo
   simp only[XC.ok,Bool.and_eq_true,Nat.beq_eq,Bool.not_eq_true']at hok
   obtain⟨⟨⟨⟨k1,k2⟩,k3⟩,k4⟩,k5⟩:=hok
   exact draw_ok hD hmix i hs.1 hs.2 hplan k1 k2 k3 k4 k5 hpo h hI Q (fun s' a' w' hκ hI'=>hn s' a' w' hκ hI')
  ·cases h
 | gdraw ops pl ts=>
  intro c hs hok s kn kx kr h a w Q hI hn hx hr
  cases c<;>simp only[XC.strip,compC]at hs<;>(try (cases hs;done))
  rename_i i o d
  cases d<;>simp only[compC]at hs<;>(try (cases hs;done))
  split at hs
  case isFalse=>cases hs
  rename_i hplan
  simp only[AC.draw.injEq]at hs
  obtain⟨rfl,rfl⟩:=hs
  rw[denC_gdraw]at h
  cases h1:W (o.toList.map (compOper P C.G nt o)) (planOf o) s.e s.σ with
  | none=>rw[h1]at h;cases h
  | some q=>
   obtain⟨e1,σ1⟩:=q
   rw[h1]at h
   obtain⟨e',he',h⟩:=keepL_some _ _ _ h
   obtain⟨R,B,g1,g2,g3,g4,g5,g6,g7⟩:=hI
   refine hW C rfl rfl nt i o s.e s.σ e1 σ1 hplan h1 R a w Q g3.rel g4.env g6 g7 (fun R' a' w' hx' hn' hrel' he1 hsz hd=>?_)
   refine hn _ a' w' h ⟨R',fun _=>none,g1.trans hx' g2,Nat.le_trans g2 hn',⟨hrel',⟨fun m i hm=>(by cases hm),fun m m' i i' hm=>(by cases hm),fun m i hm=>(by cases hm)⟩⟩,⟨fun t v hv=>?_⟩,⟨fun t m off hq=>(by simp[look]at hq)⟩,hsz,hd⟩
   obtain⟨h2,h3⟩:=he' t v hv
   rcases he1.at_ t v h2 with rfl|h4
   ·cases h3
   ·exact h4
 | seq p q ihp ihq=>
  intro c hs hok s kn kx kr h a w Q hI hn hx hr
  cases c<;>simp only[XC.strip,compC]at hs<;>(try (cases hs;done))
  ·rename_i i o d;cases d<;>(first | (cases hs;done) | (simp only[compC]at hs;split at hs<;>cases hs))
  rename_i c1 c2
  simp only[AC.seq.injEq]at hs
  simp only[XC.ok,Bool.and_eq_true]at hok
  rw[denC_seq]at h
  refine wp_seq (ihp c1 hs.1 hok.1 s _ kx kr h a w _ hI (fun s' a' w' h' hI'=>?_) (fun id s' a' w' h' hI'=>hx id s' a' w' h' hI') (fun s' a' w' h' hI'=>hr s' a' w' h' hI'))
  exact ihq c2 hs.2 hok.2 s' kn kx kr h' a' w' Q hI' hn hx hr
 | cond o p q ihp ihq=>
  intro c hs hok s kn kx kr h a w Q hI hn hx hr
  cases c<;>simp only[XC.strip,compC]at hs<;>(try (cases hs;done))
  ·rename_i i o d;cases d<;>(first | (cases hs;done) | (simp only[compC]at hs;split at hs<;>cases hs))
  rename_i co c1 c2
  simp only[AC.cond.injEq]at hs
  obtain⟨rfl,h1,h2⟩:=hs
  simp only[XC.ok,Bool.and_eq_true]at hok
  rw[denC_cond]at h
  obtain⟨v,hv,_,h⟩:=getK_some h
  obtain⟨cb,rfl,h9⟩:=rtBool_some h
  have hI2:=hI
  obtain⟨R,B,g1,g2,g3,g4,g5,g6,g7⟩:=hI2
  have hev:=ev_bool (a:=a) g4.env g3.rel.globOk hv
  cases cb with
  | true=>exact wp_cond_true hev (ihp c1 h1 hok.1 s kn kx kr h9 a w Q hI hn hx hr)
  | false=>exact wp_cond_false hev (ihq c2 h2 hok.2 s kn kx kr h9 a w Q hI hn hx hr)
 | block id p ih=>
  intro c hs hok s kn kx kr h a w Q hI hn hx hr
  cases c<;>simp only[XC.strip,compC]at hs<;>(try (cases hs;done))
  ·rename_i i o d;cases d<;>(first | (cases hs;done) | (simp only[compC]at hs;split at hs<;>cases hs))
  rename_i i c1
  simp only[AC.block.injEq]at hs
  obtain⟨rfl,hs⟩:=hs
  rw[denC_block]at h
  refine wp_block (ih c1 hs hok s kn _ kr h a w _ hI (fun s' a' w' h' hI'=>hn s' a' w' h' hI') (fun j s' a' w' h' hI'=>?_) (fun s' a' w' h' hI'=>hr s' a' w' h' hI'))
  show Exit.inBlock id Q (.exit j) a' w'
  simp only[Exit.inBlock]
  unfold blkK at h'
  split at h'
  ·rename_i hj
   rw[Nat.beq_eq]at hj
   rw[if_pos hj];exact hn s' a' w' h' hI'
  ·rename_i hj
   rw[if_neg (fun hh=>by rw[←Nat.beq_eq,hj]at hh;cases hh)];exact hx j s' a' w' h' hI'
 | loop ts ms rs p ih=>
  intro c hs hok s kn kx kr h a w Q hI hn hx hr
  cases c<;>simp only[XC.strip,compC]at hs<;>(try (cases hs;done))
  ·rename_i i o d;cases d<;>(first | (cases hs;done) | (simp only[compC]at hs;split at hs<;>cases hs))
  rename_i c1
  simp only[AC.loop.injEq]at hs
  rw[denC_loop]at h
  obtain⟨s0,h,hI⟩:=keepS_ok h hI
  have key:∀(n:Nat) (s:St) (a:Act) (w:World),iterK (fun rec s'=>denC C.E D W N p s' (fun s''=>keepS ts ms rs s'' rec) kx kr) n s=some res→InvS C nR R0 nt s a w→Code.rounds P c1 Q n a w:=by
   intro n
   induction n with
   | zero=>intro s a w h;cases h
   | succ n ihn=>
    intro s a w h hI
    have h:denC C.E D W N p s (fun s''=>keepS ts ms rs s'' (iterK (fun rec s'=>denC C.E D W N p s' (fun s''=>keepS ts ms rs s'' rec) kx kr) n)) kx kr=some res:=h
    rw[rounds_succ]
    refine ih c1 hs hok s _ kx kr h a w _ hI (fun s' a' w' h' hI'=>?_) (fun id s' a' w' h' hI'=>hx id s' a' w' h' hI') (fun s' a' w' h' hI'=>hr s' a' w' h' hI')
    obtain⟨s2,h2,hI2⟩:=keepS_ok h' hI'
    exact ihn s2 a' w' h2 hI2
  exact wp_loop_rounds N (key N s0 a w h hI)
theorem andThen_inv {α β:Type} {x:Result α} {g:α→World→Result β} {z:β} {w:World} (h:Result.andThen x g = .ok z w):∃y w2,x = .ok y w2∧g y w2 = .ok z w:=by
 cases x with
 | ok y w2=>exact⟨y,w2,rfl,h⟩
 | _=>cases h
theorem resK_ok {R:Ren} {B:Bs} {s:St} {w:World} {a:Act} (hm:MemI C R B s.r s.σ w) (he:EnvL R s.e a.tmps) (hq:QOk B s.q a.tmps):∀(rs:List ResultVar) (as:List AR) (κ:List V→Ans) (res:V × H),compRs P rs=some as→resK C.E s as κ=some res →
  ∃l xs,κ l=some res∧concs R l=some xs∧(rs.mapM (m:=Sem) fun
   | .tmp t=>pure (a.tmps.getD t undef)
   | .cell b t=>do loadVar t (←asAddr (a.tmps.getD b undef))).run P w = .ok xs w
 | [],as,κ,res,hc,h=>by
  simp only[compRs,Option.some.injEq]at hc;subst hc
  exact⟨[],[],h,rfl,rfl⟩
 | r::rs,as,κ,res,hc,h=>by
  simp only[compRs]at hc
  cases hr:compR P r with
  | none=>rw[hr]at hc;cases hc
  | some ar=>
   cases hrs:compRs P rs with
   | none=>rw[hr,hrs]at hc;cases hc
   | some as'=>
    rw[hr,hrs]at hc
    simp only[Option.some.injEq]at hc
    subst hc
    have one:∀(C2:Cx) (R2:Ren) (σ2:H) (e2:Env) (v:V),Rel C2 R2 σ2 w→EnvOk R2 e2 a.tmps→resV C2.E e2 σ2 [ar]=some [v]→Le R R2→(∃x,conc R v=some x)→resK C.E s as' (fun l=>κ (v::l))=some res →
      ∃l xs,κ l=some res∧concs R l=some xs∧((r::rs).mapM (m:=Sem) fun
       | .tmp t=>pure (a.tmps.getD t undef)
       | .cell b t=>do loadVar t (←asAddr (a.tmps.getD b undef))).run P w = .ok xs w:=by
     intro C2 R2 σ2 e2 v h1 h2 h3 hle ⟨x,hx⟩ h4
     obtain⟨xs,h5,h6⟩:=resV_ok (P:=P) h1 h2 [r] [ar] [v] (by simp only[compRs,hr]) h3
     obtain⟨y,ys,h7,h8,rfl⟩:=concs_cons.1 h5
     simp only[concs,Option.some.injEq]at h8;subst h8
     have:=conc_mono hle v x hx
     rw[h7]at this;cases this
     obtain⟨l,xs,g1,g2,g3⟩:=resK_ok hm he hq rs as' _ res hrs h4
     refine⟨v::l,_,g1,concs_cons.2 ⟨_,_,hx,g2,rfl⟩,?_⟩
     rw[List.mapM_cons]at h6 ⊢
     rw[Sem.run_bind]at h6 ⊢
     obtain⟨y2,w2,e1,e2⟩:=andThen_inv h6
     simp only[Sem.run_bind,List.mapM_nil,Sem.run_pure,Result.andThen_ok,Result.ok.injEq,List.cons.injEq,and_true]at e2
     obtain⟨rfl,rfl⟩:=e2
     refine(congrArg (fun r=>Result.andThen r _) e1).trans ?_
     simp only[Result.andThen_ok,Sem.run_bind,g3,Sem.run_pure]
    cases r with
    | tmp t=>
     simp only[compR,Option.some.injEq]at hr
     subst hr
     simp only[resK]at h
     unfold getK at h
     simp only at h
     cases hl:look s.e t with
     | none=>rw[hl]at h;cases h
     | some v=>
      rw[hl]at h
      obtain⟨x,hx1,hx2⟩:=he.at_ t v hl
      have hge:getE s.e t=v:=by simp only[getE,hl]
      refine one C R s.σ s.e v hm.rel he.env ?_ (Le.refl _) ⟨x,hx2⟩ h
      simp only[resV,hge,live_of_conc hx2]
    | cell t ty=>
     simp only[compR]at hr
     cases hs:shapeOf P ty with
     | none=>rw[hs]at hr;cases hr
     | some n=>
      rw[hs]at hr
      simp only[Option.some.injEq]at hr
      subst hr
      simp only[resK]at h
      split at h
      ·rename_i m off hqt
       obtain⟨i,hi1,hi2⟩:=hq.at_ t m off hqt
       split at h
       ·rename_i cs hcs
        have hr2:=hm.priv.one hm.rel hi1 hcs
        have he2:EnvOk (upd R s.σ.next i) [(t,.ptr s.σ.next off)] a.tmps:=EnvOk.cons ⟨fun k v hk=>by simp[look]at hk⟩ hi2 (conc_ptr_mk (upd_same _ _ _))
        have hle:Le R (upd R s.σ.next i):=(upd_ext R s.σ.next i).le hm.rel.fresh
        obtain⟨_,l',hl',hok⟩:=hm.priv.at_ m i hi1
        rw[hcs]at hl';cases hl'
        obtain⟨arr,el,lo,hi,_,hh,_⟩:=hok
        have hgp:getE [(t,V.ptr s.σ.next off)] t = .ptr s.σ.next off:=by simp[getE,look]
        have hrd:rd C.E ⟨s.σ.next+1,[(s.σ.next,.cells cs)]⟩ s.σ.next=some cs:=by simp[rd,look]
        split at h
        ·obtain⟨v,hv,h⟩:=nthK_some h
         obtain⟨x,hx,_⟩:=hh off v hv
         refine one _ _ _ _ v hr2 he2 ?_ hle ⟨x,hx⟩ h
         simp only[resV,hgp,hrd,hv]
        ·rename_i n
         obtain⟨hb,h⟩:=subK_some h
         obtain⟨xs,hxs,_⟩:=hh.cells (by simpa using hb)
         refine one _ _ _ _ _ hr2 he2 ?_ hle ⟨_,conc_agg_mk hxs⟩ h
         simp only[resV,hgp,rdN,hrd,hb,if_true]
       ·cases h
      ·obtain⟨p,hp,_,h⟩:=getK_some h
       obtain⟨b,o,rfl,h9⟩:=rtPtr_some h
       have hgp:getE s.e t = .ptr b o:=hp
       cases n with
       | none=>
        simp only at h9
        obtain⟨l,hl,h9⟩:=rdK_some h9
        obtain⟨v,hv,h9⟩:=nthK_some h9
        obtain⟨i,arr,el,fr,_,_,hold⟩:=hm.rel.read hl
        obtain⟨x,hx,_⟩:=hold o v hv
        refine one C R s.σ s.e v hm.rel he.env ?_ (Le.refl _) ⟨x,hx⟩ h9
        simp only[resV,hgp,hl,hv]
       | some n=>
        simp only at h9
        obtain⟨l,hl,h9⟩:=rdK_some h9
        obtain⟨hb,h9⟩:=subK_some h9
        obtain⟨i,arr,el,fr,_,_,hold⟩:=hm.rel.read hl
        obtain⟨xs,hxs,_⟩:=hold.cells (by simpa using hb)
        refine one C R s.σ s.e _ hm.rel he.env ?_ (Le.refl _) ⟨_,conc_agg_mk hxs⟩ h9
        simp only[resV,hgp,rdN,hl,hb,if_true]
theorem runX_ok {E:List (Nat × Blk)} {G:Nat→Bool} (hD:∀f,SoundFn P E G f (D f)) {W:DrawFn} (hW:SoundW P E G W) (hmix:P.follows .mixedOrders=true) (N:Nat) {f:FuncId} {fn:Func} (hf:P.funcs[f]? = some fn)
  {xf:XFn} {af':AFn} (hc:compF P G fn=some af') (hs:xf.strip=af') (hxok:xf.body.ok=true) (hok:callOk P f=true):SoundFn P E G f (runX E D W N xf):=by
 intro C hE hG R σ w args xs v σ' h hrel hxs
 subst hE hG
 refine⟨hok,?_⟩
 unfold compF at hc
 cases hb:fn.body with
 | none=>rw[hb]at hc;cases hc
 | some c=>
  cases hr:compRs P fn.results.toList with
  | none=>rw[hb,hr]at hc;cases hc
  | some rs=>
   rw[hb,hr]at hc
   simp only[Option.some.injEq]at hc
   rw[←hs]at hc
   obtain⟨nt,params,resl,body⟩:=xf
   simp only[XFn.strip,AFn.mk.injEq]at hc
   obtain⟨rfl,rfl,_,hbody⟩:=hc
   unfold runX at h
   simp only at h
   have h:=rts_some _ _ _ _ h
   have hlen:=concs_length hxs
   refine calls_of_wp hf hb ?_
   have hsz:fn.ntmps≤(xs.toArray++Array.replicate (fn.ntmps-xs.toArray.size) undef).size:=by simp;omega
   have harg:∀(l:List V) (ys:List Value) (k:Nat),concs R l=some ys→∀(t:Nat) (v:V),look (argE k l) t=some v→∃y,k≤t∧ys[t-k]? = some y∧conc R v=some y:=by
    intro l
    induction l with
    | nil=>intro ys k _ t v h;simp[argE,look]at h
    | cons u l ih=>
     intro ys k hc t v h
     obtain⟨y,zs,hy,hz,rfl⟩:=concs_cons.1 hc
     simp only[argE,look]at h
     by_cases hk:k=t
     ·subst hk
      rw[if_pos (by simp)]at h
      cases h
      exact⟨y,Nat.le_refl _,by simp,hy⟩
     ·rw[if_neg (by simpa using hk)]at h
      obtain⟨q,h1,h2,h3⟩:=ih zs (k+1) hz t v h
      exact⟨q,by omega,by rw[show t-k=(t-(k+1))+1 by omega,List.getElem?_cons_succ];exact h2,h3⟩
   have he0:EnvL R (argE 0 args) (xs.toArray++Array.replicate (fn.ntmps-xs.toArray.size) undef):=by
    refine⟨fun k u hk=>?_⟩
    obtain⟨y,_,h2,h3⟩:=harg args xs 0 hxs k u hk
    refine⟨y,?_,h3⟩
    rw[Nat.sub_zero]at h2
    have hlt:k<xs.length:=by
     rcases Nat.lt_or_ge k xs.length with h|h
     ·exact h
     ·rw[List.getElem?_eq_none h]at h2;cases h2
    rw[Array.getElem?_append_left (by simpa using hlt)]
    simpa using h2
   have fin:∀(s':St) (a':Act) (w':World),(resK C.E s' rs fun l=>some (oneV l,s'.σ))=some (v,σ')→InvS C σ.next R fn.ntmps s' a' w' →
     a'.defers=[]∧∃x,(results fn a'.tmps).run P w' = .ok x w'∧∃R' x',Ext σ.next R R'∧σ.next≤σ'.next∧Rel C R' σ' w'∧conc R' v=some x'∧Ending.returned x = .returned x':=by
    intro s' a' w' h' ⟨R1,B1,k1,k2,k3,k4,k5,k6,k7⟩
    obtain⟨l,ys,g1,g2,g3⟩:=resK_ok (P:=P) k3 k4 k5 fn.results.toList rs _ _ hr h'
    simp only[Option.some.injEq,Prod.mk.injEq]at g1
    obtain⟨rfl,rfl⟩:=g1
    have hres:(results fn a'.tmps).run P w' = .ok (if h:ys.toArray.size=1 then ys.toArray[0] else .tuple ys.toArray) w':=by
     unfold results
     refine(Sem.run_bind P w' _ _).trans ?_
     rw[Array.mapM_eq_mapM_toList,Sem.run_map]
     refine(congrArg (fun r=>Result.andThen (Result.andThen r _) _) g3).trans rfl
    exact⟨k7,_,hres,R1,_,k1,k2,k3.rel,oneV_ok g2,rfl⟩
   refine denC_ok (C:=C) hD hW hmix N fn.ntmps body c hbody.symm hxok _ _ _ _ h _ w _ ⟨R,fun _=>none,Ext.refl _ _,Nat.le_refl _,⟨hrel,⟨fun m i hm=>(by cases hm),fun m m' i i' hm=>(by cases hm),fun m i hm=>(by cases hm)⟩⟩,he0,⟨fun t m off hq=>(by simp[look]at hq)⟩,hsz,rfl⟩ ?_ ?_ ?_
   ·intro s' a' w' h' hI'
    obtain⟨h1,x,h2,h3⟩:=fin s' a' w' h' hI'
    exact⟨h1,x,h2,h3⟩
   ·intro id s' a' w' h' _;cases h'
   ·intro s' a' w' h' hI'
    obtain⟨h1,x,h2,h3⟩:=fin s' a' w' h' hI'
    exact⟨h1,x,h2,h3⟩
end Go.Og
namespace Go.Og
def okB (a:Ans):Bool:=match a with
 | some (.bool true,_)=>true
 | _=>false
theorem okB_some {a:Ans} (h:okB a=true):∃σ,a=some (.bool true,σ):=by
 unfold okB at h
 split at h
 ·exact⟨_,rfl⟩
 ·cases h
def argR (ng:Nat) (l:List (Nat × BI)):Ren:=fun id=>if id<ng then some ⟨id,0,0⟩else look l id
theorem ExtOk.lt {R:Ren} {i:BI} {b:Blk} {w:World} (h:ExtOk R i b w):i.blk<w.heap.size:=by
 cases b with
 | cells l=>
  obtain⟨arr,el,fr,h1,_⟩:=h
  exact(Array.getElem?_eq_some_iff.1 h1).1
 | _=>exact h.elim
theorem start_relE {G:Nat→Bool} {ng n0:Nat} (hG:∀g,G g=true→g<ng) (hn:ng≤n0) (l:List (Nat × BI)) (E:List (Nat × Blk)) (w:World) (hl:∀id i,look l id=some i→id<n0)
  (hE:∀id b,look E id=some b→∃i,argR ng l id=some i∧ExtOk (argR ng l) i b w) :
  Rel ⟨fun blk=>w.heap.size≤blk,w,E,G⟩ (argR ng l) ⟨n0,[]⟩ w where
 fresh id hid:=by
  have hid':n0≤id:=hid
  unfold argR;rw[if_neg (by omega)]
  cases hk:look l id with
  | none=>rfl
  | some i=>have:=hl id i hk;omega
 own id b hb:=by simp[look]at hb
 inj id id' b b' i i' hb:=by simp[look]at hb
 ext id b hb:=by
  obtain⟨i,h1,h2⟩:=hE id b hb
  exact⟨i,h1,Nat.not_le.2 h2.lt,h2⟩
 glob g hg:=⟨⟨g,0,0⟩,by unfold argR;rw[if_pos (hG g hg)],rfl,rfl⟩
 fr _ _:=rfl
 size:=Nat.le_refl _
 new _ h:=h
 os:=rfl
 tape:=rfl
 output:=rfl
theorem Rel.grow {C:Cx} {R:Ren} {σ:H} {w w':World} (h:Rel C R σ w) (hold:∀k,k<w.heap.size→w'.heap[k]? = w.heap[k]?) (hsz:w.heap.size≤w'.heap.size)
  (hos:w'.os=w.os) (htape:w'.tape=w.tape) (hout:w'.output=w.output):Rel C R σ w' where
 fresh:=h.fresh
 own id b hb:=by
  obtain⟨i,hi,hO,hok⟩:=h.own id b hb
  exact⟨i,hi,hO,hok.mono (Le.refl _) (hold _ hok.lt)⟩
 inj:=h.inj
 ext id b hb:=by
  obtain⟨i,hi,hO,hok⟩:=h.ext id b hb
  exact⟨i,hi,hO,hok.mono (Le.refl _) (hold _ hok.lt)⟩
 glob:=h.glob
 fr blk hn:=by
  rcases Nat.lt_or_ge blk w.heap.size with hl|hl
  ·rw[hold blk hl];exact h.fr blk hn
  ·exact absurd (h.new blk (Nat.le_trans h.size hl)) hn
 size:=Nat.le_trans h.size hsz
 new:=h.new
 os:=hos.trans h.os
 tape:=htape.trans h.tape
 output:=hout.trans h.output
def known (D:Den) (f:Nat) (F:List V→H→Ans):Den:=fun g=>match Nat.beq g f with
 | true=>F
 | false=>D g
set_option linter.unusedVariables false
noncomputable section
mutual
def V.closed:V→Bool
 | .dead=>false
 | .ptr _ _=>false
 | .sl _ _ _ _=>false
 | .sle _ _ _ _=>false
 | .mp _=>false
 | .fn _ a c=>closeds a&&closeds c
 | .ifc _ v=>V.closed v
 | .agg l=>closeds l
 | .tup l=>closeds l
 | _=>true
def closeds:List V→Bool
 | []=>true
 | v::l=>V.closed v&&closeds l
end
mutual
def V.clean (n0:Nat):V→Bool
 | .dead=>false
 | .ptr b _=>Nat.ble n0 b
 | .sl b _ _ _=>Nat.ble n0 b
 | .sle b _ _ _=>Nat.ble n0 b
 | .mp b=>Nat.ble n0 b
 | .fn _ a c=>cleans n0 a&&cleans n0 c
 | .ifc _ v=>V.clean n0 v
 | .agg l=>cleans n0 l
 | .tup l=>cleans n0 l
 | _=>true
def cleans (n0:Nat):List V→Bool
 | []=>true
 | v::l=>V.clean n0 v&&cleans n0 l
end
mutual
def V.sh (n0 d:Nat):V→V
 | .ptr b o => .ptr (Nat.add (Nat.sub b n0) d) o
 | .sl b o n c => .sl (Nat.add (Nat.sub b n0) d) o n c
 | .sle b o k e => .sle (Nat.add (Nat.sub b n0) d) o k e
 | .mp b => .mp (Nat.add (Nat.sub b n0) d)
 | .fn f a c => .fn f (shs n0 d a) (shs n0 d c)
 | .ifc t v => .ifc t (V.sh n0 d v)
 | .agg l => .agg (shs n0 d l)
 | .tup l => .tup (shs n0 d l)
 | v=>v
def shs (n0 d:Nat):List V→List V
 | []=>[]
 | v::l=>V.sh n0 d v::shs n0 d l
end
section
variable {R S:Ren} {n0 d:Nat}
mutual
theorem conc_sh (h:∀b,n0≤b→S (Nat.add (Nat.sub b n0) d)=R b):∀v:V,V.clean n0 v=true→conc S (V.sh n0 d v)=conc R v
 | .dead,hc=>by simp[V.clean]at hc
 | .ptr b o,hc=>by
  simp only[V.clean,Nat.ble_eq]at hc
  simp only[V.sh,conc,h b hc]
 | .sl b o n (.ex c),hc=>by
  simp only[V.clean,Nat.ble_eq]at hc
  simp only[V.sh,conc,h b hc]
 | .sl b o n (.op c),hc=>by
  simp only[V.clean,Nat.ble_eq]at hc
  simp only[V.sh,conc,h b hc]
 | .sle b o k e,hc=>by
  simp only[V.clean,Nat.ble_eq]at hc
  simp only[V.sh,conc,h b hc]
 | .mp b,hc=>by
  simp only[V.clean,Nat.ble_eq]at hc
  simp only[V.sh,conc,h b hc]
 | .bool _,_=>rfl
 | .int _ _,_=>rfl
 | .str _,_=>rfl
 | .nilp,_=>rfl
 | .nils,_=>rfl
 | .nilm,_=>rfl
 | .nilf,_=>rfl
 | .nili,_=>rfl
 | .fn f a c,hc=>by
  simp only[V.clean,Bool.and_eq_true]at hc
  simp only[V.sh,conc,concs_sh h a hc.1,concs_sh h c hc.2]
 | .ifc t v,hc=>by
  simp only[V.clean]at hc
  simp only[V.sh,conc,conc_sh h v hc]
 | .agg l,hc=>by
  simp only[V.clean]at hc
  simp only[V.sh,conc,concs_sh h l hc]
 | .tup l,hc=>by
  simp only[V.clean]at hc
  simp only[V.sh,conc,concs_sh h l hc]
theorem concs_sh (h:∀b,n0≤b→S (Nat.add (Nat.sub b n0) d)=R b):∀l:List V,cleans n0 l=true→concs S (shs n0 d l)=concs R l
 | [],_=>rfl
 | v::l,hc=>by
  simp only[cleans,Bool.and_eq_true]at hc
  simp only[shs,concs,conc_sh h v hc.1,concs_sh h l hc.2]
end
theorem shs_get:∀(l:List V) (k:Nat),(shs n0 d l)[k]? = (l[k]?).map (V.sh n0 d)
 | [],k=>by simp[shs]
 | v::l,0=>by simp[shs]
 | v::l,k+1=>by simpa[shs]using shs_get l k
theorem shs_length:∀(l:List V),(shs n0 d l).length=l.length
 | []=>rfl
 | v::l=>by simp[shs,shs_length l]
theorem cleans_get:∀{l:List V} {k:Nat} {v:V},cleans n0 l=true→l[k]? = some v→V.clean n0 v=true
 | [],k,v,_,h=>by simp at h
 | u::l,0,v,hc,h=>by
  simp only[cleans,Bool.and_eq_true]at hc
  simp at h;subst h;exact hc.1
 | u::l,k+1,v,hc,h=>by
  simp only[cleans,Bool.and_eq_true]at hc
  exact cleans_get hc.2 (by simpa using h)
def shp (n0 d:Nat):List (V × V)→List (V × V)
 | []=>[]
 | p::l=>(V.sh n0 d p.1,V.sh n0 d p.2)::shp n0 d l
def cleanp (n0:Nat):List (V × V)→Bool
 | []=>true
 | p::l=>V.clean n0 p.1&&V.clean n0 p.2&&cleanp n0 l
def Blk.sh (n0 d:Nat):Blk→Blk
 | .cells l => .cells (shs n0 d l)
 | .map l => .map (shp n0 d l)
 | .siter s p => .siter s p
 | .unit t => .unit t
def Blk.clean (n0:Nat):Blk→Bool
 | .cells l=>cleans n0 l
 | .map l=>cleanp n0 l
 | .siter _ _=>true
 | .unit _=>true
theorem MapHolds.sh (h:∀b,n0≤b→S (Nat.add (Nat.sub b n0) d)=R b):∀{l:List (V × V)} {es:List MapEntry},cleanp n0 l=true→MapHolds R l es→MapHolds S (shp n0 d l) es
 | [],[],_,_=>trivial
 | (a,b)::l,e::es,hc,⟨h1,h2,h3⟩=>by
  simp only[cleanp,Bool.and_eq_true]at hc
  exact⟨(conc_sh h a hc.1.1).trans h1,(conc_sh h b hc.1.2).trans h2,MapHolds.sh h hc.2 h3⟩
 | [],_::_,_,h=>h.elim
 | _::_,[],_,h=>h.elim
theorem OwnOk.sh (h:∀b,n0≤b→S (Nat.add (Nat.sub b n0) d)=R b) {i:BI} {b:Blk} {w:World} (hc:b.clean n0=true) (hb:OwnOk R i b w):OwnOk S i (b.sh n0 d) w:=by
 cases b with
 | cells l=>
  obtain⟨arr,el,lo,hi,h1,h2,h3,h4,h5⟩:=hb
  refine⟨arr,el,lo,hi,h1,fun k v hk=>?_,h3,by rw[shs_length];exact h4,h5⟩
  rw[shs_get,Option.map_eq_some_iff]at hk
  obtain⟨u,hu,rfl⟩:=hk
  obtain⟨a,ha,h6,h7⟩:=h2 k u hu
  exact⟨a,(conc_sh h u (cleans_get hc hu)).trans ha,h6,h7⟩
 | map l=>
  obtain⟨es,clock,h1,h2⟩:=hb
  exact⟨es,clock,h1,h2.sh h hc⟩
 | siter s p=>exact hb
 | unit t=>exact hb
def shBl (n0 d:Nat):List (Nat × Blk)→List (Nat × Blk)
 | []=>[]
 | p::l=>(Nat.add (Nat.sub p.1 n0) d,p.2.sh n0 d)::shBl n0 d l
def cleanBl (n0:Nat):List (Nat × Blk)→Bool
 | []=>true
 | p::l=>Nat.ble n0 p.1&&p.2.clean n0&&cleanBl n0 l
theorem look_app {α:Type}:∀(l m:List (Nat × α)) (id:Nat),look (l++m) id=match look l id with | some b=>some b | none=>look m id
 | [],m,id=>rfl
 | (k,b)::l,m,id=>by
  simp only[List.cons_append,look]
  cases Nat.beq k id with
  | true=>rfl
  | false=>simpa using look_app l m id
end
def prsEq:List (V × V)→List (V × V)→Bool
 | [],[]=>true
 | p::l,q::m=>V.beq p.1 q.1&&V.beq p.2 q.2&&prsEq l m
 | _,_=>false
theorem prsEq_ok:∀{l m:List (V × V)},prsEq l m=true→l=m
 | [],[],_=>rfl
 | (a,b)::l,(c,d)::m,h=>by
  simp only[prsEq,Bool.and_eq_true]at h
  rw[beq_ok _ _ h.1.1,beq_ok _ _ h.1.2,prsEq_ok h.2]
 | [],_::_,h=>by cases h
 | _::_,[],h=>by cases h
def blkEq:Blk→Blk→Bool
 | .cells a,.cells b=>beqs a b
 | .map a,.map b=>prsEq a b
 | _,_=>false
theorem blkEq_ok {a b:Blk} (h:blkEq a b=true):a=b:=by
 cases a<;>cases b<;>simp only[blkEq,Bool.false_eq_true]at h
 ·rw[beqs_ok _ _ h]
 ·rw[prsEq_ok h]
def inBl:List (Nat × Blk)→List (Nat × Blk)→Bool
 | [],_=>true
 | p::l,m=>(match lookF m p.1 with
  | some b=>blkEq b p.2
  | none=>false)&&inBl l m
theorem inBl_ok:∀{l m:List (Nat × Blk)},inBl l m=true→∀p∈l,look m p.1=some p.2
 | [],_,_,p,hp=>by cases hp
 | q::l,m,h,p,hp=>by
  simp only[inBl,Bool.and_eq_true,lookF_eq]at h
  rcases List.mem_cons.1 hp with rfl|hp
  ·have h1:=h.1
   cases hb:look m p.1 with
   | none=>rw[hb]at h1;cases h1
   | some b=>rw[hb]at h1;rw[blkEq_ok h1]
  ·exact inBl_ok h.2 p hp
structure Con where
 args:List V
 v:V
 bl:List (Nat × Blk)
 m:Nat
def Con.right (F:List V→H→Ans) (e:Con):Bool:=match F e.args ⟨100,[]⟩with
 | some (v,σ)=>V.beq v e.v&&(inBl e.bl σ.bl&&(Nat.ble σ.next (100+e.m)&&(cleanBl 100 e.bl&&(V.clean 100 e.v&&closeds e.args))))
 | none=>false
def Con.ans (e:Con) (σ:H):V × H:=(V.sh 100 σ.next e.v,⟨Nat.add σ.next e.m,shBl 100 σ.next e.bl++σ.bl⟩)
theorem law_below {P:Program} {G:Nat→Bool} {f:FuncId} {F:List V→H→Ans} (hS:SoundFn P [] G f F) {ng n0:Nat} (hG:∀g,G g=true→g<ng) (hn:ng≤n0) (l:List (Nat × BI)) (args:List V) (xs:List Value) (w:World)
  (hl:∀id i,look l id=some i→id<n0) (hx:concs (argR ng l) args=some xs) (h:okB (F args ⟨n0,[]⟩)=true) :
  Calls P f xs.toArray w fun e w'=>e = .returned (.bool true)∧RowKit.Below w.heap.size w w':=by
 obtain⟨σ,hσ⟩:=okB_some h
 obtain⟨_,hc⟩:=hS ⟨fun blk=>w.heap.size≤blk,w,[],G⟩ rfl rfl (argR ng l) ⟨n0,[]⟩ w args xs _ σ hσ (start_relE hG hn l [] w hl (fun id b hb=>by simp[look]at hb)) hx
 refine hc.mono ?_
 rintro en w' ⟨R',x,_,_,h3,h4,rfl⟩
 cases h4
 exact⟨rfl,h3.os,h3.tape,h3.output,h3.size,fun k hk=>h3.fr k (Nat.not_le.2 hk)⟩
theorem cell_int {P:Program} {w:World} {r:Reach} {base:Nat} {t:TypeId} {k:IntKind} {v:Value} (ht:P.underlying t=some (.int k)) (h:Cell.okWide P w r base t v):∃n,v = .int k n:=by
 unfold Cell.okWide at h
 rw[ht]at h
 unfold Cell.ok at h
 rw[ht]at h
 cases v<;>simp at h
 obtain⟨rfl,_⟩:=h
 exact⟨_,rfl⟩
end
end Go.Og
set_option linter.all false
set_option maxRecDepth 100000
set_option maxHeartbeats 0
namespace Go.Proofs.YtgjjnbddbbhloaaGreatDoor
open Go Go.Og
noncomputable section
variable (E:List (Nat × Blk)) (D:Den) (W:DrawFn) (N:Nat)
def y0:V:=(V.int .i64 (Int.ofNat 0))
def y1:XTy:=(.agg [.i,.i,.any,.any,.i,.any])
def y2:V:=(V.bool false)
def y3:XTy:=(.agg [.bool,.bool,.bool,.bool,.i,.i])
def y4:XTy:=(.agg [.i,.str,.bool,.i,.i,.bool,.bool,.bool,.bool,.i,.i,.any,.any,.i,.bool,.i])
def y5:XTy:=(.agg [.i,.any,.bool,.bool,.bool,.bool,.i,.i,.any,.any,.i,.bool,.i])
def y6:XTy:=(.agg [.str,.any,.any,.any])
def y7:V:=(V.str ⟨0,0⟩)
def y8:XTy:=(.agg [.i,.str,.i])
def y23:V:=(V.bool true)
def y9:AO:=(.con y23)
def y10:XTy:=(.agg [.str,.i,.any,.any,.any])
def y11:XTy:=(.tup [])
def y12:V:=(V.int .u64 (Int.ofNat 0))
def y13:AO:=(.con (V.int .u8 (Int.ofNat 45)))
def y14:AOp:=(.mov (.t 0))
def y15:AOp:=(.mov (.t 1))
def y16:V:=(V.int .u8 (Int.ofNat 0))
def y17:XTy:=(.agg [.i,.i])
def y18:AO:=(.con y2)
def y19:AO:=(.con (V.int .u64 (Int.ofNat 1)))
def y20:V:=(V.int .i64 (Int.negSucc 0))
def y36:XC:=(.exit 0)
def y21:XC:=(.cond (.tmp 9) .skip
 y36)
def y22:AO:=(.con (V.int .u8 (Int.ofNat 48)))
def y24:AOp:=(.alloc 38 [y0,y0,V.nils,V.nils,y0,V.nils])
def y25:V:=(V.int .u32 (Int.ofNat 0))
def y26:AO:=(.con (V.str ⟨10,488440487847103610377301⟩))
def y27:AO:=(.con (V.str ⟨10,322399817400452109389381⟩))
def y28:AOp:=(.mov (.t 8))
def y29:AOp:=(.buildSlice 5 1 [y16] [(0,1,(.con y16))])
def y30:List XTy:=[.any,.i,.i]
def y31:AO:=(.con (V.str ⟨4,1397178708⟩))
def y32:AOp:=(.faddr 1 (.t 6))
def y33:AOp:=(.faddr 2 (.t 9))
def y34:AO:=(.con (V.str ⟨1,123⟩))
def y35:AOp:=(.alloc 30 [y7,V.nils,V.nils,V.nils])
def y37:AO:=(.con (V.str ⟨8,6073459554577832005⟩))
def y38:AO:=(.con (V.str ⟨8,6073459554577829193⟩))
def y39:AO:=(.con (V.str ⟨8,4990918871747741011⟩))
def nX:Nat→St→Ans:=fun _ _=>none
def kX (ts:List (Nat × XTy)) (ms:List Nat) (rs:List (Nat × List XTy)) (κ:St→Ans):St→Ans:=fun s=>keepS ts ms rs s κ
def dX (E:List (Nat × Blk)) (D:Den) (W:DrawFn) (N:Nat) (c:XC) (k:St→Ans) (x:Nat→St→Ans) (r:St→Ans):St→Ans:=fun s=>denC E D W N c s k x r
def q7a:List (Nat × XTy):=[(3,.i),(12,.any),(14,.i),(15,.i)]
def q7b:List (Nat × List XTy):=[(9,[.str,.any,.any,.any])]
def q7c:List (Nat × XTy):=[(3,.i),(12,.any),(14,.i)]
def Fin7 (E:List (Nat × Blk)):St→Ans:=fun s=>resK E s [(.tmp 8)] fun l=>some (oneV l,s.σ)
def b7a (c0:XC):Nat→St→Ans:=blkK 0 (dX E D W N (.keep q7c [9] q7b c0) (Fin7 E) nX (Fin7 E)) nX
def C7_0 (cc1:XC) (cc2:XC):XC:=(.z (.c 8 y2<|
.nil)
 (.z (.m 19 0<|
.P 20 (.conv (.toInt .u64) (.t 19))<|
.b 21 .rem .none (.t 20) (.con (V.int .u64 (Int.ofNat 2000)))<|
.P 22 (.conv (.toInt .i64) (.t 21))<|
.b 23 .sub .none (.t 22) (.i 1000)<|
.m 24 1<|
.P 25 (.conv (.toInt .u64) (.t 24))<|
.b 26 .rem .none (.t 25) (.con (V.int .u64 (Int.ofNat 5000)))<|
.P 27 (.conv (.toInt .i64) (.t 26))<|
.b 28 .add .none (.i 1) (.t 27)<|
.m 0 23<|
.m 1 28<|
.nil)
 (.z (.m 30 0<|
.k 31 .str 14 [(.t 30)]<|
.b 32 .add .none (.con (V.str ⟨39,1307818011897121422451922733390706347676985071784222021968392631138651534820383999223994261581⟩)) (.t 31)<|
.b 33 .add .none (.t 32) (.con (V.str ⟨2,11822⟩))<|
.m 34 0<|
.m 35 1<|
.b 36 .add .none (.t 34) (.t 35)<|
.k 37 .str 14 [(.t 36)]<|
.b 38 .add .none (.t 33) (.t 37)<|
.b 39 .add .none (.t 38) (.con (V.str ⟨5,293370929193⟩))<|
.k 40 (.tup [y6,.bool]) 13 [(.t 39)]<|
.m 29 40<|
.P 41 (.extract 0 (.t 29))<|
.P 42 (.extract 1 (.t 29))<|
.pal 9 [] 30 [y7,V.nils,V.nils,V.nils]<|
.op none y6 [9,41] (.store 4 (.t 9) (.t 41))<|
.m 10 42<|
.nil)
 (.z (.m 43 0<|
.m 44 2<|
.P 45 (.conv (.toInt .u64) (.t 44))<|
.m 46 1<|
.b 47 .add .none (.t 46) (.i 1)<|
.P 48 (.conv (.toInt .u64) (.t 47))<|
.b 49 .rem .none (.t 45) (.t 48)<|
.P 50 (.conv (.toInt .i64) (.t 49))<|
.b 51 .add .none (.t 43) (.t 50)<|
.op (some 52) y1 [51] (.build [y0,y0,V.nils,V.nils,y0,V.nils] [(0,1,(.i 2)),(1,1,(.t 51))])<|
.pal 11 [] 38 [y0,y0,V.nils,V.nils,y0,V.nils]<|
.op none y1 [11,52] (.store 6 (.t 11) (.t 52))<|
.nil)
 (.z (.O 54 y6 (.load (some 4) (.t 9))<|
.O 55 y1 (.load (some 6) (.t 11))<|
.k 56 (.tup [.any,.i]) 30 [(.t 54),(.i 0),(.t 55)]<|
.m 53 56<|
.P 57 (.extract 0 (.t 53))<|
.P 58 (.extract 1 (.t 53))<|
.m 12 57<|
.m 13 58<|
.nil)
 (.seq (.z (.k 59 .bool 31 []<|
.P 60 (.un .not (.t 59))<|
.m 61 60<|
.gO 61 false (.p 62 [10,61] (.mov (.t 10))<|
.p 63 [62,61] (.un .not (.t 62))<|
.nil) 64 61 63<|
.m 65 64<|
.gO 65 false (.p 66 [13,65] (.mov (.t 13))<|
.p 67 [66,65] (.bin .neq .none (.t 66) (.i 0))<|
.nil) 68 65 67<|
.nil)
 (.cond (.tmp 68) (.z (.c 8 y2<|
.nil)
 .ret)
 .skip))
 (.z (.q 14 0<|
.nil)
 (.seq (.z (.m 69 1<|
.m 15 69<|
.nil)
 (.block 0 (.loop q7a [9] q7b cc2)))
 (.keep q7c [9] q7b cc1)))))))))
def T7_0 (E:List (Nat × Blk)) (D:Den) (W:DrawFn) (K2:Int→V→Int→Int→BS→V→V→V→H→Ans) (a b c d:Int) (σ:H):Ans:=
 callK (D 14 [(V.int .i64 (subF .i64 (wrapF .i64 (Int.tmod (wrapF .u64 a) (Int.ofNat 2000))) (Int.ofNat 1000)))] σ) fun u1 s2=>
 rtStr u1 fun x3=>
 catK (BS.mk 39 1307818011897121422451922733390706347676985071784222021968392631138651534820383999223994261581) x3 fun t4=>
 catK t4 (BS.mk 2 11822) fun t5=>
 callK (D 14 [(V.int .i64 (addF .i64 (subF .i64 (wrapF .i64 (Int.tmod (wrapF .u64 a) (Int.ofNat 2000))) (Int.ofNat 1000)) (addF .i64 (Int.ofNat 1) (wrapF .i64 (Int.tmod (wrapF .u64 b) (Int.ofNat 5000))))))] s2) fun u6 s7=>
 rtStr u6 fun x8=>
 catK t5 x8 fun t9=>
 catK t9 (BS.mk 5 293370929193) fun t10=>
 callK (D 13 [(V.str t10)] s7) fun u11 s12=>
 rtTup u11 fun l13=>
 rtCons l13 fun x14 l15=>
 rtAgg x14 fun l16=>
 xcS l16 fun x19 l18=>
 rtCons l18 fun x20 l21=>
 rtCons l21 fun x22 l23=>
 rtCons l23 fun x24 l25=>
 rtNil l25 (
 xcB l15 fun x28 l27=>
 rtNil l27 (
 chk (allOne [(V.str x19),x20,x22,x24]) (
 nzK (wrapF .u64 (addF .i64 (addF .i64 (Int.ofNat 1) (wrapF .i64 (Int.tmod (wrapF .u64 b) (Int.ofNat 5000)))) (Int.ofNat 1))) (
 callK (D 30 [(V.agg [(V.str x19),x20,x22,x24]),(V.int .i64 (Int.ofNat 0)),(V.agg [(V.int .i64 (Int.ofNat 2)),(V.int .i64 (addF .i64 (subF .i64 (wrapF .i64 (Int.tmod (wrapF .u64 a) (Int.ofNat 2000))) (Int.ofNat 1000)) (wrapF .i64 (Int.tmod (wrapF .u64 c) (wrapF .u64 (addF .i64 (addF .i64 (Int.ofNat 1) (wrapF .i64 (Int.tmod (wrapF .u64 b) (Int.ofNat 5000)))) (Int.ofNat 1))))))),V.nils,V.nils,(V.int .i64 (Int.ofNat 0)),V.nils])] s12) fun u29 s30=>
 rtTup u29 fun l31=>
 rtCons l31 fun x32 l33=>
 xcI .i64 l33 fun x36 l35=>
 rtNil l35 (
 callK (D 31 [] s30) fun u37 s38=>
 rtBool u37 fun x39=>
 joinB (fun c40 s41=>
 joinB (fun c43 s44=>
 condK c43 (
 some ((V.bool false),s44)) (
 K2 d x32 (Int.ofNat 0) (addF .i64 (Int.ofNat 1) (wrapF .i64 (Int.tmod (wrapF .u64 b) (Int.ofNat 5000)))) x19 x20 x22 x24 s44)) fun k45=>
 condK c40 (
 k45 true s41) (
 k45 (not (eqF x36 (Int.ofNat 0))) s41)) fun k42=>
 condK (not x39) (
 k42 true s38) (
 k42 (not x28) s38))))))
def C7_1:XC:=(.seq (.z (.m 76 14<|
.b 77 .rem .none (.t 76) (.i 8)<|
.b 78 .eql .none (.t 77) (.i 0)<|
.nil)
 (.cond (.tmp 78) (.z (.c 8 y23<|
.nil)
 .ret)
 .skip))
 (.z (.m 79 14<|
.m 80 3<|
.P 81 (.conv (.toInt .u64) (.t 80))<|
.m 82 14<|
.b 83 .rem .none (.t 82) (.i 8)<|
.b 84 .sub .none (.i 8) (.t 83)<|
.P 85 (.conv (.toInt .u64) (.t 84))<|
.b 86 .rem .none (.t 81) (.t 85)<|
.P 87 (.conv (.toInt .i64) (.t 86))<|
.b 88 .add .none (.t 79) (.t 87)<|
.m 16 88<|
.nil)
 (.z (.m 89 12<|
.m 90 16<|
.b 91 .quo .none (.t 90) (.i 8)<|
.m 92 12<|
.m 93 16<|
.b 94 .quo .none (.t 93) (.i 8)<|
.s 95 1 92 94<|
.l 96 (.int .u8) 95<|
.m 97 16<|
.b 98 .rem .none (.t 97) (.i 8)<|
.b 99 .sub .none (.i 7) (.t 98)<|
.P 100 (.conv (.toInt .u64) (.t 99))<|
.b 101 .shl .none (.con (V.int .u8 (Int.ofNat 1))) (.t 100)<|
.b 102 .xor .none (.t 96) (.t 101)<|
.s 103 1 89 91<|
.w 1 103 102<|
.nil)
 (.z (.O 105 y6 (.load (some 4) (.t 9))<|
.m 106 12<|
.k 107 (.tup [y1,.i]) 32 [(.t 105),(.i 0),(.t 106)]<|
.m 104 107<|
.P 108 (.extract 0 (.t 104))<|
.P 109 (.extract 1 (.t 104))<|
.pal 17 [] 38 [y0,y0,V.nils,V.nils,y0,V.nils]<|
.op none y1 [17,108] (.store 6 (.t 17) (.t 108))<|
.m 18 109<|
.nil)
 (.z (.m 110 18<|
.b 111 .eql .none (.t 110) (.i 4)<|
.m 112 111<|
.gA 112 true (.op (some 113) y1 [17,112] (.load (some 6) (.t 17))<|
.op (some 114) y1 [112] (.build [y0,y0,V.nils,V.nils,y0,V.nils] [])<|
.op (some 115) .bool [113,114,112] (.call 33 [(.t 113),(.t 114)])<|
.nil) 116 112 115<|
.m 8 116<|
.nil)
 .ret)))))
def T7_1 (E:List (Nat × Blk)) (D:Den) (W:DrawFn) (a:Int) (b:V) (c:Int) (d:BS) (e f g:V) (σ:H):Ans:=
 condK (eqF (Int.tmod c (Int.ofNat 8)) (Int.ofNat 0)) (
 some ((V.bool true),σ)) (
 nzK (wrapF .u64 (subF .i64 (Int.ofNat 8) (Int.tmod c (Int.ofNat 8)))) (
 iaddrSK 1 b (quoF .i64 (addF .i64 c (wrapF .i64 (Int.tmod (wrapF .u64 a) (wrapF .u64 (subF .i64 (Int.ofNat 8) (Int.tmod c (Int.ofNat 8))))))) (Int.ofNat 8)) fun b1 o2=>
 ldK E σ b1 o2 fun u3=>
 rtInt .u8 u3 fun x4=>
 nnK (wrapF .u64 (subF .i64 (Int.ofNat 7) (Int.tmod (addF .i64 c (wrapF .i64 (Int.tmod (wrapF .u64 a) (wrapF .u64 (subF .i64 (Int.ofNat 8) (Int.tmod c (Int.ofNat 8))))))) (Int.ofNat 8)))) fun n5=>
 iaddrSK 1 b (quoF .i64 (addF .i64 c (wrapF .i64 (Int.tmod (wrapF .u64 a) (wrapF .u64 (subF .i64 (Int.ofNat 8) (Int.tmod c (Int.ofNat 8))))))) (Int.ofNat 8)) fun b6 o7=>
 stK 1 b6 o7 (V.int .u8 (xorF .u8 x4 (shlF .u8 (Int.ofNat 1) n5))) σ fun s8=>
 callK (D 32 [(V.agg [(V.str d),e,f,g]),(V.int .i64 (Int.ofNat 0)),b] s8) fun u9 s10=>
 rtTup u9 fun l11=>
 rtCons l11 fun x12 l13=>
 rtAgg x12 fun l14=>
 xcI .i64 l14 fun x17 l16=>
 xcI .i64 l16 fun x20 l19=>
 rtCons l19 fun x21 l22=>
 rtCons l22 fun x23 l24=>
 xcI .i64 l24 fun x27 l26=>
 rtCons l26 fun x28 l29=>
 rtNil l29 (
 xcI .i64 l13 fun x32 l31=>
 rtNil l31 (
 chk (allOne [(V.int .i64 x17),(V.int .i64 x20),x21,x23,(V.int .i64 x27),x28]) (
 joinB (fun c33 s34=>
 some ((V.bool c33),s34)) fun k35=>
 condK (eqF x32 (Int.ofNat 4)) (
 callK (D 33 [(V.agg [(V.int .i64 x17),(V.int .i64 x20),x21,x23,(V.int .i64 x27),x28]),(V.agg [(V.int .i64 (Int.ofNat 0)),(V.int .i64 (Int.ofNat 0)),V.nils,V.nils,(V.int .i64 (Int.ofNat 0)),V.nils])] s10) fun u36 s37=>
 rtBool u36 fun x38=>
 k35 x38 s37) (
 k35 false s10))))))
def C7_2:XC:=(.seq (.z (.m 70 15<|
.b 71 .gtr .none (.t 70) (.i 0)<|
.nil)
 (.cond (.tmp 71) .skip
 y36))
 (.seq (.block 1 (.ops (.m 74 14<|
.b 75 .add .none (.t 74) (.i 1)<|
.m 14 75<|
.nil)))
 (.ops (.m 72 15<|
.b 73 .shr .none (.t 72) y19<|
.m 15 73<|
.nil))))
def T7_2 (E:List (Nat × Blk)) (D:Den) (W:DrawFn) (K1:Int→V→Int→BS→V→V→V→H→Ans) (R2:Int→V→Int→Int→BS→V→V→V→H→Ans) (a:Int) (b:V) (c d:Int) (e:BS) (f g h:V) (σ:H):Ans:=
 condK (ltF (Int.ofNat 0) d) (
 R2 a b (addF .i64 c (Int.ofNat 1)) (shrF .i64 d 1) e f g h σ) (
 K1 a b c e f g h σ)
def S7_0 (a b c d:Int) (σ:H):St:=⟨[(0,(V.int .i64 a)),(1,(V.int .i64 b)),(2,(V.int .i64 c)),(3,(V.int .i64 d))],[],[],σ⟩
def S7_1 (a:Int) (b:V) (c:Int) (d:BS) (e f g:V) (σ:H):St:=⟨[(3,(V.int .i64 a)),(12,b),(14,(V.int .i64 c))],[(9,(9,0))],[(9,[(V.str d),e,f,g])],σ⟩
def S7_2 (a:Int) (b:V) (c d:Int) (e:BS) (f g h:V) (σ:H):St:=⟨[(3,(V.int .i64 a)),(12,b),(14,(V.int .i64 c)),(15,(V.int .i64 d))],[(9,(9,0))],[(9,[(V.str e),f,g,h])],σ⟩
theorem P7_0 (cc1:XC) (cc2:XC) (a b c d:Int) (σ:H) :
 denC E D W N (C7_0 cc1 cc2) (S7_0 a b c d σ) (Fin7 E) nX (Fin7 E) =
 T7_0 E D W (fun d e f g h i j k σ=>iterK (fun rec s'=>denC E D W N cc2 s' (kX q7a [9] q7b rec) (b7a E D W N cc1) (Fin7 E)) N (S7_2 d e f g h i j k σ)) a b c d σ:=by kernel_rfl
theorem P7_2 (cc1:XC) (li2:St→Ans) (a:Int) (b:V) (c d:Int) (e:BS) (f g h:V) (σ:H) :
 denC E D W N (C7_2 ) (S7_2 a b c d e f g h σ) (kX q7a [9] q7b li2) (b7a E D W N cc1) (Fin7 E) =
 T7_2 E D W (fun a b c e f g h σ=>denC E D W N cc1 (S7_1 a b c e f g h σ) (Fin7 E) nX (Fin7 E)) (fun a b c d e f g h σ=>li2 (S7_2 a b c d e f g h σ)) a b c d e f g h σ:=by kernel_rfl
def J7_1 (E:List (Nat × Blk)) (D:Den) (W:DrawFn) (N:Nat):=T7_1 E D W
theorem JE7_1 (a:Int) (b:V) (c:Int) (d:BS) (e f g:V) (σ:H) :
 denC E D W N C7_1 (S7_1 a b c d e f g σ) (Fin7 E) nX (Fin7 E)=J7_1 E D W N a b c d e f g σ:=by kernel_rfl
def L7_2 (n:Nat):Int→V→Int→Int→BS→V→V→V→H→Ans:=
 Nat.rec (fun _ _ _ _ _ _ _ _ _=>none) (fun _ ih=>T7_2 E D W (J7_1 E D W N ) ih) n
theorem LE7_2 (n:Nat):∀(a:Int) (b:V) (c d:Int) (e:BS) (f g h:V) (σ:H),
 iterK (fun rec s'=>denC E D W N C7_2 s' (kX q7a [9] q7b rec) (b7a E D W N C7_1) (Fin7 E)) n (S7_2 a b c d e f g h σ)=L7_2 E D W N n a b c d e f g h σ:=by
 induction n with
 | zero=>intro a b c d e f g h σ;rfl
 | succ n ihn=>
  intro a b c d e f g h σ
  rw[iterK_succ]
  refine(P7_2 E D W N C7_1 (iterK (fun rec s'=>denC E D W N C7_2 s' (kX q7a [9] q7b rec) (b7a E D W N C7_1) (Fin7 E)) n) a b c d e f g h σ).trans ?_
  simp only[ihn,JE7_1]
  kernel_rfl
def J7_0:=T7_0 E D W (L7_2 E D W N N)
theorem JE7_0 (a b c d:Int) (σ:H) :
 denC E D W N (C7_0 C7_1 C7_2) (S7_0 a b c d σ) (Fin7 E) nX (Fin7 E)=J7_0 E D W N a b c d σ:=by
 refine(P7_0 E D W N C7_1 C7_2  a b c d σ).trans ?_
 simp only[LE7_2]
 kernel_rfl
def F7 (args:List V) (σ:H):Ans:=
 xcI .i64 args fun x3 l2=>
 xcI .i64 l2 fun x6 l5=>
 xcI .i64 l5 fun x9 l8=>
 xcI .i64 l8 fun x12 l11=>
 rtNil l11 (
 J7_0 E D W N x3 x6 x9 x12 σ)
def A7:XFn:=⟨117,[.i,.i,.i,.i],[(.tmp 8)],(C7_0 C7_1 C7_2)⟩
theorem FE7 (args:List V) (σ:H):runX E D W N A7 args σ=F7 E D W N args σ:=by
 unfold F7
 simp only[←JE7_0]
 kernel_rfl
def G12_0:List AOper:=[⟨(some 10),.mov (.tmp 0),none⟩,⟨(some 11),.bin .quo .none (.tmp 10) (.con (V.int .u64 (Int.ofNat 10))),none⟩,⟨(some 12),.call 12 [(.tmp 11)],none⟩,⟨(some 13),.mov (.tmp 0),none⟩,⟨(some 14),.bin .rem .none (.tmp 13) (.con (V.int .u64 (Int.ofNat 10))),none⟩,⟨(some 15),.bin .add .none (.con (V.int .u64 (Int.ofNat 48))) (.tmp 14),none⟩,⟨(some 16),.conv (.toInt .u8) (.tmp 15),none⟩,⟨(some 17),.buildSlice 5 1 [(V.int .u8 (Int.ofNat 0))] [(0,1,(.tmp 16))],none⟩,⟨(some 18),.conv .toStr (.tmp 17),none⟩,⟨(some 19),.bin .add .none (.tmp 12) (.tmp 18),none⟩,⟨(some 2),.mov (.tmp 19),none⟩]
def H12_0:List DP:=[⟨0,[0]⟩,⟨1,[10]⟩,⟨3,[11]⟩,⟨0,[0]⟩,⟨8,[13]⟩,⟨24,[14]⟩,⟨56,[15]⟩,⟨120,[16]⟩,⟨248,[17]⟩,⟨511,[12,18]⟩,⟨1023,[19]⟩]
def Fin12 (E:List (Nat × Blk)):St→Ans:=fun s=>resK E s [(.tmp 2)] fun l=>some (oneV l,s.σ)
def C12_0:XC:=(.z (.c 2 y7<|
.nil)
 (.seq (.z (.m 3 0<|
.b 4 .lss .none (.t 3) (.con (V.int .u64 (Int.ofNat 10)))<|
.nil)
 (.cond (.tmp 4) (.z (.m 5 0<|
.b 6 .add .none (.con (V.int .u64 (Int.ofNat 48))) (.t 5)<|
.P 7 (.conv (.toInt .u8) (.t 6))<|
.p 8 [7] (.buildSlice 5 1 [y16] [(0,1,(.t 7))])<|
.P 9 (.conv .toStr (.t 8))<|
.m 2 9<|
.nil)
 .ret)
 .skip))
 (.seq (.keep [(0,(.int .u64))] [] [] (.gdraw G12_0 H12_0 [(2,.str)]))
 .ret)))
def T12_0 (E:List (Nat × Blk)) (D:Den) (W:DrawFn) (a:Int) (σ:H):Ans:=
 condK (ltF a (Int.ofNat 10)) (
 let s1:=newB σ (.cells [(V.int .u8 (wrapF .u8 (addF .u64 (Int.ofNat 48) a)))]);
 toStrK E s1 (V.sl (H.next σ) 0 1 (.ex 1)) fun t2=>
 some ((V.str t2),s1)) (
 gdrawK (W G12_0 H12_0 [(0,(V.int .u64 a))] σ) fun e3 s4=>
 getL e3 2 fun u5=>
 rtStr u5 fun x6=>
 some ((V.str x6),s4))
def S12_0 (a:Int) (σ:H):St:=⟨[(0,(V.int .u64 a))],[],[],σ⟩
def J12_0 (E:List (Nat × Blk)) (D:Den) (W:DrawFn) (N:Nat):=T12_0 E D W
theorem JE12_0 (a:Int) (σ:H) :
 denC E D W N C12_0 (S12_0 a σ) (Fin12 E) nX (Fin12 E)=J12_0 E D W N a σ:=by kernel_rfl
def F12 (args:List V) (σ:H):Ans:=
 xcI .u64 args fun x3 l2=>
 rtNil l2 (
 J12_0 E D W N x3 σ)
def A12:XFn:=⟨20,[(.int .u64)],[(.tmp 2)],C12_0⟩
theorem FE12 (args:List V) (σ:H):runX E D W N A12 args σ=F12 E D W N args σ:=by
 unfold F12
 simp only[←JE12_0]
 kernel_rfl
def G13_0:List AOper:=[⟨(some 29),.load (some 4) (.tmp 7),none⟩,⟨(some 30),.mov (.tmp 9),none⟩,⟨(some 31),.bin .eql .none (.tmp 30) (.con (V.int .i64 (Int.ofNat 0))),none⟩,⟨(some 32),.mov (.tmp 31),none⟩,⟨(some 33),.faddr 3 (.tmp 7),(some (32,true))⟩,⟨(some 34),.load none (.tmp 33),(some (32,true))⟩,⟨(some 35),.len false (.tmp 34),(some (32,true))⟩,⟨(some 36),.bin .leq .none (.tmp 35) (.con (V.int .i64 (Int.ofNat 120))),(some (32,true))⟩,⟨(some 37),.pick (.tmp 32) (.tmp 36) (.con (V.bool false)),none⟩,⟨none,.store 4 (.tmp 2) (.tmp 29),none⟩,⟨(some 3),.mov (.tmp 37),none⟩]
def H13_0:List DP:=[⟨0,[7]⟩,⟨0,[9]⟩,⟨2,[30]⟩,⟨6,[31]⟩,⟨14,[7,32]⟩,⟨30,[33,32]⟩,⟨62,[34,32]⟩,⟨126,[35,32]⟩,⟨254,[32,36]⟩,⟨15,[2,29]⟩,⟨1023,[37]⟩]
def Fin13 (E:List (Nat × Blk)):St→Ans:=fun s=>resK E s [(.cell 2 (some 4)),(.tmp 3)] fun l=>some (oneV l,s.σ)
def C13_0:XC:=(.z (.p 2 [] y35<|
.c 3 y2<|
.nil)
 (.seq (.z (.m 10 0<|
.P 11 (.len true (.t 10))<|
.b 12 .gtr .none (.t 11) (.i 3000)<|
.nil)
 (.cond (.tmp 12) (.z (.op (some 13) y6 [] (.build [y7,V.nils,V.nils,V.nils] [])<|
.op none y6 [2,13] (.store 4 (.t 2) (.t 13))<|
.c 3 y2<|
.nil)
 .ret)
 .skip))
 (.z (.m 15 0<|
.k 16 (.tup [y10,.i,.i]) 34 [(.t 15)]<|
.m 14 16<|
.P 17 (.extract 0 (.t 14))<|
.P 18 (.extract 1 (.t 14))<|
.P 19 (.extract 2 (.t 14))<|
.pal 4 [] 76 [y7,y0,V.nils,V.nils,V.nils]<|
.op none y10 [4,17] (.store 5 (.t 4) (.t 17))<|
.m 5 18<|
.m 6 19<|
.nil)
 (.seq (.z (.m 20 6<|
.b 21 .neq .none (.t 20) (.i 0)<|
.nil)
 (.cond (.tmp 21) (.z (.op (some 22) y6 [] (.build [y7,V.nils,V.nils,V.nils] [])<|
.op none y6 [2,22] (.store 4 (.t 2) (.t 22))<|
.c 3 y2<|
.nil)
 .ret)
 .skip))
 (.z (.O 24 y10 (.load (some 5) (.t 4))<|
.k 25 (.tup [y6,.i,.i]) 35 [(.t 24)]<|
.m 23 25<|
.P 26 (.extract 0 (.t 23))<|
.P 27 (.extract 1 (.t 23))<|
.P 28 (.extract 2 (.t 23))<|
.p 7 [] y35<|
.op none y6 [7,26] (.store 4 (.t 7) (.t 26))<|
.m 8 27<|
.m 9 28<|
.nil)
 (.seq (.keep [(2,.ptr),(7,.ptr),(9,.i)] [] [] (.gdraw G13_0 H13_0 [(2,.ptr),(3,.bool)]))
 .ret))))))
def T13_0 (a:BS) (σ:H):Ans:=
 let s1:=newB σ (.cells [(V.str ⟨0,0⟩),V.nils,V.nils,V.nils]);
 condK (ltF (Int.ofNat 3000) (Int.ofNat (BS.len a))) (
 stK 4 (H.next σ) 0 (V.agg [(V.str (BS.mk 0 0)),V.nils,V.nils,V.nils]) s1 fun s2=>
 ldnK E s2 (H.next σ) 0 4 fun u3=>
 some ((V.tup [(V.agg u3),(V.bool false)]),s2)) (
 callK (D 34 [(V.str a)] s1) fun u4 s5=>
 rtTup u4 fun l6=>
 rtCons l6 fun x7 l8=>
 rtAgg x7 fun l9=>
 xcS l9 fun x12 l11=>
 xcI .i64 l11 fun x15 l14=>
 rtCons l14 fun x16 l17=>
 rtCons l17 fun x18 l19=>
 rtCons l19 fun x20 l21=>
 rtNil l21 (
 xcI .i64 l8 fun x24 l23=>
 xcI .i64 l23 fun x27 l26=>
 rtNil l26 (
 chk (allOne [(V.str x12),(V.int .i64 x15),x16,x18,x20]) (
 condK (not (eqF x27 (Int.ofNat 0))) (
 stK 4 (H.next σ) 0 (V.agg [(V.str (BS.mk 0 0)),V.nils,V.nils,V.nils]) s5 fun s28=>
 ldnK E s28 (H.next σ) 0 4 fun u29=>
 some ((V.tup [(V.agg u29),(V.bool false)]),s28)) (
 callK (D 35 [(V.agg [(V.str x12),(V.int .i64 x15),x16,x18,x20])] s5) fun u30 s31=>
 rtTup u30 fun l32=>
 rtCons l32 fun x33 l34=>
 rtAgg x33 fun l35=>
 xcS l35 fun x38 l37=>
 rtCons l37 fun x39 l40=>
 rtCons l40 fun x41 l42=>
 rtCons l42 fun x43 l44=>
 rtNil l44 (
 xcI .i64 l34 fun x47 l46=>
 xcI .i64 l46 fun x50 l49=>
 rtNil l49 (
 let s51:=newB s31 (.cells [(V.str ⟨0,0⟩),V.nils,V.nils,V.nils]);
 stK 4 (H.next s31) 0 (V.agg [(V.str x38),x39,x41,x43]) s51 fun s52=>
 gdrawK (W G13_0 H13_0 [(2,(V.ptr (H.next σ) 0)),(7,(V.ptr (H.next s31) 0)),(9,(V.int .i64 x50))] s52) fun e53 s54=>
 getL e53 2 fun u55=>
 rtPtr u55 fun b56 o57=>
 getL e53 3 fun u58=>
 rtBool u58 fun x59=>
 ldnK E s54 b56 o57 4 fun u60=>
 some ((V.tup [(V.agg u60),(V.bool x59)]),s54))))))))
def S13_0 (a:BS) (σ:H):St:=⟨[(0,(V.str a))],[],[],σ⟩
def J13_0 (E:List (Nat × Blk)) (D:Den) (W:DrawFn) (N:Nat):=T13_0 E D W
theorem JE13_0 (a:BS) (σ:H) :
 denC E D W N C13_0 (S13_0 a σ) (Fin13 E) nX (Fin13 E)=J13_0 E D W N a σ:=by kernel_rfl
def F13 (args:List V) (σ:H):Ans:=
 xcS args fun x3 l2=>
 rtNil l2 (
 J13_0 E D W N x3 σ)
def A13:XFn:=⟨38,[.str],[(.cell 2 (some 4)),(.tmp 3)],C13_0⟩
theorem FE13 (args:List V) (σ:H):runX E D W N A13 args σ=F13 E D W N args σ:=by
 unfold F13
 simp only[←JE13_0]
 kernel_rfl
def Fin14 (E:List (Nat × Blk)):St→Ans:=fun s=>resK E s [(.tmp 2)] fun l=>some (oneV l,s.σ)
def C14_0:XC:=(.z (.c 2 y7<|
.nil)
 (.seq (.z (.m 3 0<|
.b 4 .lss .none (.t 3) (.i 0)<|
.nil)
 (.cond (.tmp 4) (.z (.m 5 0<|
.b 6 .add .none (.t 5) (.i 1)<|
.P 7 (.un .neg (.t 6))<|
.P 8 (.conv (.toInt .u64) (.t 7))<|
.b 9 .add .none (.t 8) y19<|
.k 10 .str 12 [(.t 9)]<|
.b 11 .add .none (.con (V.str ⟨1,45⟩)) (.t 10)<|
.m 2 11<|
.nil)
 .ret)
 .skip))
 (.z (.m 12 0<|
.P 13 (.conv (.toInt .u64) (.t 12))<|
.k 14 .str 12 [(.t 13)]<|
.m 2 14<|
.nil)
 .ret)))
def T14_0 (E:List (Nat × Blk)) (D:Den) (W:DrawFn) (a:Int) (σ:H):Ans:=
 condK (ltF a (Int.ofNat 0)) (
 callK (D 12 [(V.int .u64 (addF .u64 (wrapF .u64 (negF .i64 (addF .i64 a (Int.ofNat 1)))) (Int.ofNat 1)))] σ) fun u1 s2=>
 rtStr u1 fun x3=>
 catK (BS.mk 1 45) x3 fun t4=>
 some ((V.str t4),s2)) (
 callK (D 12 [(V.int .u64 (wrapF .u64 a))] σ) fun u5 s6=>
 rtStr u5 fun x7=>
 some ((V.str x7),s6))
def S14_0 (a:Int) (σ:H):St:=⟨[(0,(V.int .i64 a))],[],[],σ⟩
def J14_0 (E:List (Nat × Blk)) (D:Den) (W:DrawFn) (N:Nat):=T14_0 E D W
theorem JE14_0 (a:Int) (σ:H) :
 denC E D W N C14_0 (S14_0 a σ) (Fin14 E) nX (Fin14 E)=J14_0 E D W N a σ:=by kernel_rfl
def F14 (args:List V) (σ:H):Ans:=
 xcI .i64 args fun x3 l2=>
 rtNil l2 (
 J14_0 E D W N x3 σ)
def A14:XFn:=⟨15,[.i],[(.tmp 2)],C14_0⟩
theorem FE14 (args:List V) (σ:H):runX E D W N A14 args σ=F14 E D W N args σ:=by
 unfold F14
 simp only[←JE14_0]
 kernel_rfl
def q16a:List (Nat × XTy):=[(0,(.int .u64)),(3,.i)]
def Fin16 (E:List (Nat × Blk)):St→Ans:=fun s=>resK E s [(.tmp 2)] fun l=>some (oneV l,s.σ)
def b16a (c0:XC):Nat→St→Ans:=blkK 0 (dX E D W N (.keep [(3,.i)] [] [] c0) (Fin16 E) nX (Fin16 E)) nX
def C16_0 (cc1:XC) (cc2:XC):XC:=(.z (.q 2 0<|
.nil)
 (.z (.q 3 0<|
.nil)
 (.seq (.block 0 (.loop q16a [] [] cc2))
 (.keep [(3,.i)] [] [] cc1))))
def T16_0 (E:List (Nat × Blk)) (D:Den) (W:DrawFn) (K2:Int→Int→H→Ans) (a:Int) (σ:H):Ans:=
 K2 a (Int.ofNat 0) σ
def C16_1:XC:=(.z (.m 10 3<|
.m 2 10<|
.nil)
 .ret)
def T16_1 (E:List (Nat × Blk)) (D:Den) (W:DrawFn) (a:Int) (σ:H):Ans:=
 some ((V.int .i64 a),σ)
def C16_2:XC:=(.seq (.z (.m 4 0<|
.b 5 .gtr .none (.t 4) (.con y12)<|
.nil)
 (.cond (.tmp 5) .skip
 y36))
 (.block 1 (.ops (.m 6 3<|
.b 7 .add .none (.t 6) (.i 1)<|
.m 8 0<|
.b 9 .shr .none (.t 8) y19<|
.m 3 7<|
.m 0 9<|
.nil))))
def T16_2 (E:List (Nat × Blk)) (D:Den) (W:DrawFn) (K1:Int→H→Ans) (R2:Int→Int→H→Ans) (a b:Int) (σ:H):Ans:=
 condK (ltF (Int.ofNat 0) a) (
 R2 (shrF .u64 a 1) (addF .i64 b (Int.ofNat 1)) σ) (
 K1 b σ)
def S16_0 (a:Int) (σ:H):St:=⟨[(0,(V.int .u64 a))],[],[],σ⟩
def S16_1 (a:Int) (σ:H):St:=⟨[(3,(V.int .i64 a))],[],[],σ⟩
def S16_2 (a b:Int) (σ:H):St:=⟨[(0,(V.int .u64 a)),(3,(V.int .i64 b))],[],[],σ⟩
theorem P16_0 (cc1:XC) (cc2:XC) (a:Int) (σ:H) :
 denC E D W N (C16_0 cc1 cc2) (S16_0 a σ) (Fin16 E) nX (Fin16 E) =
 T16_0 E D W (fun a b σ=>iterK (fun rec s'=>denC E D W N cc2 s' (kX q16a [] [] rec) (b16a E D W N cc1) (Fin16 E)) N (S16_2 a b σ)) a σ:=by kernel_rfl
theorem P16_2 (cc1:XC) (li2:St→Ans) (a b:Int) (σ:H) :
 denC E D W N (C16_2 ) (S16_2 a b σ) (kX q16a [] [] li2) (b16a E D W N cc1) (Fin16 E) =
 T16_2 E D W (fun b σ=>denC E D W N cc1 (S16_1 b σ) (Fin16 E) nX (Fin16 E)) (fun a b σ=>li2 (S16_2 a b σ)) a b σ:=by kernel_rfl
def J16_1 (E:List (Nat × Blk)) (D:Den) (W:DrawFn) (N:Nat):=T16_1 E D W
theorem JE16_1 (a:Int) (σ:H) :
 denC E D W N C16_1 (S16_1 a σ) (Fin16 E) nX (Fin16 E)=J16_1 E D W N a σ:=by kernel_rfl
def L16_2 (n:Nat):Int→Int→H→Ans:=
 Nat.rec (fun _ _ _=>none) (fun _ ih=>T16_2 E D W (J16_1 E D W N ) ih) n
theorem LE16_2 (n:Nat):∀(a b:Int) (σ:H),
 iterK (fun rec s'=>denC E D W N C16_2 s' (kX q16a [] [] rec) (b16a E D W N C16_1) (Fin16 E)) n (S16_2 a b σ)=L16_2 E D W N n a b σ:=by
 induction n with
 | zero=>intro a b σ;rfl
 | succ n ihn=>
  intro a b σ
  rw[iterK_succ]
  refine(P16_2 E D W N C16_1 (iterK (fun rec s'=>denC E D W N C16_2 s' (kX q16a [] [] rec) (b16a E D W N C16_1) (Fin16 E)) n) a b σ).trans ?_
  simp only[ihn,JE16_1]
  kernel_rfl
def J16_0:=T16_0 E D W (L16_2 E D W N N)
theorem JE16_0 (a:Int) (σ:H) :
 denC E D W N (C16_0 C16_1 C16_2) (S16_0 a σ) (Fin16 E) nX (Fin16 E)=J16_0 E D W N a σ:=by
 refine(P16_0 E D W N C16_1 C16_2  a σ).trans ?_
 simp only[LE16_2]
 kernel_rfl
def F16 (args:List V) (σ:H):Ans:=
 xcI .u64 args fun x3 l2=>
 rtNil l2 (
 J16_0 E D W N x3 σ)
def A16:XFn:=⟨11,[(.int .u64)],[(.tmp 2)],(C16_0 C16_1 C16_2)⟩
theorem FE16 (args:List V) (σ:H):runX E D W N A16 args σ=F16 E D W N args σ:=by
 unfold F16
 simp only[←JE16_0]
 kernel_rfl
def q20a:List (Nat × XTy):=[(0,.ptr),(1,(.int .u64)),(6,.i)]
def Fin20 (E:List (Nat × Blk)):St→Ans:=fun s=>resK E s [] fun l=>some (oneV l,s.σ)
def C20_0 (cc1:XC):XC:=(.z (.m 7 2<|
.p 8 [7] (.min (.t 7) [(.i 64)])<|
.p 9 [8] (.max (.i 0) [(.t 8)])<|
.m 2 9<|
.nil)
 (.z (.m 10 2<|
.b 11 .sub .none (.t 10) (.i 1)<|
.m 6 11<|
.nil)
 (.block 0 (.loop q20a [] [] cc1))))
def T20_0 (E:List (Nat × Blk)) (D:Den) (W:DrawFn) (K1:Nat→Nat→Int→Int→H→Ans) (a b:Nat) (c d:Int) (σ:H):Ans:=
 K1 a b c (subF .i64 (maxF (Int.ofNat 0) (minF d (Int.ofNat 64))) (Int.ofNat 1)) σ
def C20_1:XC:=(.seq (.z (.m 12 6<|
.b 13 .geq .none (.t 12) (.i 0)<|
.nil)
 (.cond (.tmp 13) .skip
 y36))
 (.seq (.block 1 (.ops (.m 16 0<|
.n 17 16<|
.f 18 0 17<|
.m 19 1<|
.m 20 6<|
.P 21 (.conv (.toInt .u64) (.t 20))<|
.b 22 .shr .none (.t 19) (.t 21)<|
.b 23 .and .none (.t 22) y19<|
.P 24 (.conv (.toInt .i64) (.t 23))<|
.k 25 y11 41 [(.t 18),(.t 24)]<|
.nil)))
 (.ops (.m 14 6<|
.b 15 .sub .none (.t 14) (.i 1)<|
.m 6 15<|
.nil))))
def T20_1 (E:List (Nat × Blk)) (D:Den) (W:DrawFn) (R1:Nat→Nat→Int→Int→H→Ans) (a b:Nat) (c d:Int) (σ:H):Ans:=
 condK (leF (Int.ofNat 0) d) (
 nnK (wrapF .u64 d) fun n1=>
 callK (D 41 [(V.ptr a b),(V.int .i64 (wrapF .i64 (andF .u64 (shrF .u64 c n1) (Int.ofNat 1))))] σ) fun u2 s3=>
 rtTup u2 fun l4=>
 rtNil l4 (
 R1 a b c (subF .i64 d (Int.ofNat 1)) s3)) (
 some ((V.tup []),σ))
def S20_0 (a b:Nat) (c d:Int) (σ:H):St:=⟨[(0,(V.ptr a b)),(1,(V.int .u64 c)),(2,(V.int .i64 d))],[],[],σ⟩
def S20_1 (a b:Nat) (c d:Int) (σ:H):St:=⟨[(0,(V.ptr a b)),(1,(V.int .u64 c)),(6,(V.int .i64 d))],[],[],σ⟩
theorem P20_0 (cc1:XC) (a b:Nat) (c d:Int) (σ:H) :
 denC E D W N (C20_0 cc1) (S20_0 a b c d σ) (Fin20 E) nX (Fin20 E) =
 T20_0 E D W (fun a b c e σ=>iterK (fun rec s'=>denC E D W N cc1 s' (kX q20a [] [] rec) (blkK 0 (Fin20 E) nX) (Fin20 E)) N (S20_1 a b c e σ)) a b c d σ:=by kernel_rfl
theorem P20_1 (li1:St→Ans) (a b:Nat) (c d:Int) (σ:H) :
 denC E D W N (C20_1 ) (S20_1 a b c d σ) (kX q20a [] [] li1) (blkK 0 (Fin20 E) nX) (Fin20 E) =
 T20_1 E D W (fun a b c d σ=>li1 (S20_1 a b c d σ)) a b c d σ:=by kernel_rfl
def L20_1 (E:List (Nat × Blk)) (D:Den) (W:DrawFn) (N:Nat) (n:Nat):Nat→Nat→Int→Int→H→Ans:=
 Nat.rec (fun _ _ _ _ _=>none) (fun _ ih=>T20_1 E D W ih) n
theorem LE20_1 (n:Nat):∀(a b:Nat) (c d:Int) (σ:H),
 iterK (fun rec s'=>denC E D W N C20_1 s' (kX q20a [] [] rec) (blkK 0 (Fin20 E) nX) (Fin20 E)) n (S20_1 a b c d σ)=L20_1 E D W N n a b c d σ:=by
 induction n with
 | zero=>intro a b c d σ;rfl
 | succ n ihn=>
  intro a b c d σ
  rw[iterK_succ]
  refine(P20_1 E D W N  (iterK (fun rec s'=>denC E D W N C20_1 s' (kX q20a [] [] rec) (blkK 0 (Fin20 E) nX) (Fin20 E)) n) a b c d σ).trans ?_
  simp only[ihn]
  kernel_rfl
def J20_0:=T20_0 E D W (L20_1 E D W N N)
theorem JE20_0 (a b:Nat) (c d:Int) (σ:H) :
 denC E D W N (C20_0 C20_1) (S20_0 a b c d σ) (Fin20 E) nX (Fin20 E)=J20_0 E D W N a b c d σ:=by
 refine(P20_0 E D W N C20_1  a b c d σ).trans ?_
 simp only[LE20_1]
 kernel_rfl
def F20 (args:List V) (σ:H):Ans:=
 rtCons args fun x1 l2=>
 rtPtr x1 fun b3 o4=>
 xcI .u64 l2 fun x7 l6=>
 xcI .i64 l6 fun x10 l9=>
 rtNil l9 (
 J20_0 E D W N b3 o4 x7 x10 σ)
def A20:XFn:=⟨26,[.ptr,(.int .u64),.i],[],(C20_0 C20_1)⟩
theorem FE20 (args:List V) (σ:H):runX E D W N A20 args σ=F20 E D W N args σ:=by
 unfold F20
 simp only[←JE20_0]
 kernel_rfl
def Fin23 (E:List (Nat × Blk)):St→Ans:=fun s=>resK E s [(.tmp 2)] fun l=>some (oneV l,s.σ)
def C23_0:XC:=(.z (.c 2 V.nils<|
.nil)
 (.z (.m 4 0<|
.n 5 4<|
.f 6 0 5<|
.k 7 .one 45 [(.t 6)]<|
.m 3 7<|
.nil)
 (.seq (.z (.m 8 3<|
.u 9 8<|
.b 10 .eql .none (.t 9) (.i 0)<|
.nil)
 (.cond (.tmp 10) (.z (.p 11 [] y29<|
.m 2 11<|
.nil)
 .ret)
 .skip))
 (.z (.m 12 3<|
.m 2 12<|
.nil)
 .ret))))
def T23_0 (E:List (Nat × Blk)) (D:Den) (W:DrawFn) (a b:Nat) (σ:H):Ans:=
 callK (D 45 [(V.ptr a b)] σ) fun u1 s2=>
 rtOne u1 (
 slenK u1 fun n3=>
 condK (eqF (Int.ofNat n3) (Int.ofNat 0)) (
 let s4:=newB s2 (.cells [(V.int .u8 (Int.ofNat 0))]);
 some ((V.sl (H.next s2) 0 1 (.ex 1)),s4)) (
 some (u1,s2)))
def S23_0 (a b:Nat) (σ:H):St:=⟨[(0,(V.ptr a b))],[],[],σ⟩
def J23_0 (E:List (Nat × Blk)) (D:Den) (W:DrawFn) (N:Nat):=T23_0 E D W
theorem JE23_0 (a b:Nat) (σ:H) :
 denC E D W N C23_0 (S23_0 a b σ) (Fin23 E) nX (Fin23 E)=J23_0 E D W N a b σ:=by kernel_rfl
def F23 (args:List V) (σ:H):Ans:=
 rtCons args fun x1 l2=>
 rtPtr x1 fun b3 o4=>
 rtNil l2 (
 J23_0 E D W N b3 o4 σ)
def A23:XFn:=⟨13,[.ptr],[(.tmp 2)],C23_0⟩
theorem FE23 (args:List V) (σ:H):runX E D W N A23 args σ=F23 E D W N args σ:=by
 unfold F23
 simp only[←JE23_0]
 kernel_rfl
def Fin27 (E:List (Nat × Blk)):St→Ans:=fun s=>resK E s [] fun l=>some (oneV l,s.σ)
def C27_0:XC:=(.ops (.m 6 0<|
.m 7 1<|
.m 8 2<|
.p 9 [7,8] (.min (.t 7) [(.t 8)])<|
.m 10 2<|
.k 11 .i 16 [(.t 10)]<|
.k 12 y11 20 [(.t 6),(.t 9),(.t 11)]<|
.nil))
def T27_0 (E:List (Nat × Blk)) (D:Den) (W:DrawFn) (a:V) (b c:Int) (σ:H):Ans:=
 callK (D 16 [(V.int .u64 c)] σ) fun u1 s2=>
 rtInt .i64 u1 fun x3=>
 callK (D 20 [a,(V.int .u64 (minF b c)),(V.int .i64 x3)] s2) fun u4 s5=>
 rtTup u4 fun l6=>
 rtNil l6 (
 some ((V.tup []),s5))
def S27_0 (a:V) (b c:Int) (σ:H):St:=⟨[(0,a),(1,(V.int .u64 b)),(2,(V.int .u64 c))],[],[],σ⟩
def J27_0 (E:List (Nat × Blk)) (D:Den) (W:DrawFn) (N:Nat):=T27_0 E D W
theorem JE27_0 (a:V) (b c:Int) (σ:H) :
 denC E D W N C27_0 (S27_0 a b c σ) (Fin27 E) nX (Fin27 E)=J27_0 E D W N a b c σ:=by kernel_rfl
def F27 (args:List V) (σ:H):Ans:=
 rtCons args fun x1 l2=>
 xcI .u64 l2 fun x5 l4=>
 xcI .u64 l4 fun x8 l7=>
 rtNil l7 (
 J27_0 E D W N x1 x5 x8 σ)
def A27:XFn:=⟨13,[.any,(.int .u64),(.int .u64)],[],C27_0⟩
theorem FE27 (args:List V) (σ:H):runX E D W N A27 args σ=F27 E D W N args σ:=by
 unfold F27
 simp only[←JE27_0]
 kernel_rfl
def q29a:List (Nat × XTy):=[(0,.any),(1,.i),(5,.i)]
def Fin29 (E:List (Nat × Blk)):St→Ans:=fun s=>resK E s [(.tmp 4)] fun l=>some (oneV l,s.σ)
def b29a (c0:XC):Nat→St→Ans:=blkK 0 (dX E D W N (.keep [] [] [] c0) (Fin29 E) nX (Fin29 E)) nX
def C29_0 (cc1:XC) (cc2:XC):XC:=(.z (.c 4 y2<|
.nil)
 (.seq (.z (.q 5 0<|
.nil)
 (.block 0 (.loop q29a [] [] cc2)))
 (.keep [] [] [] cc1)))
def T29_0 (E:List (Nat × Blk)) (D:Den) (W:DrawFn) (K2:V→Int→Int→H→Ans) (a:V) (b:Int) (σ:H):Ans:=
 K2 a b (Int.ofNat 0) σ
def C29_1:XC:=(.z (.c 4 y2<|
.nil)
 .ret)
def T29_1 (E:List (Nat × Blk)) (D:Den) (W:DrawFn) (σ:H):Ans:=
 some ((V.bool false),σ)
def C29_2:XC:=(.seq (.z (.m 6 5<|
.m 7 0<|
.u 8 7<|
.b 9 .lss .none (.t 6) (.t 8)<|
.nil)
 y21)
 (.seq (.block 1 (.z (.m 12 0<|
.m 13 5<|
.s 14 1 12 13<|
.l 15 .i 14<|
.m 16 1<|
.b 17 .eql .none (.t 15) (.t 16)<|
.nil)
 (.cond (.tmp 17) (.z (.c 4 y23<|
.nil)
 .ret)
 .skip)))
 (.ops (.m 10 5<|
.b 11 .add .none (.t 10) (.i 1)<|
.m 5 11<|
.nil))))
def T29_2 (E:List (Nat × Blk)) (D:Den) (W:DrawFn) (K1:H→Ans) (R2:V→Int→Int→H→Ans) (a:V) (b c:Int) (σ:H):Ans:=
 slenK a fun n1=>
 condK (ltF c (Int.ofNat n1)) (
 iaddrSK 1 a c fun b2 o3=>
 ldK E σ b2 o3 fun u4=>
 rtInt .i64 u4 fun x5=>
 condK (eqF x5 b) (
 some ((V.bool true),σ)) (
 R2 a b (addF .i64 c (Int.ofNat 1)) σ)) (
 K1 σ)
def S29_0 (a:V) (b:Int) (σ:H):St:=⟨[(0,a),(1,(V.int .i64 b))],[],[],σ⟩
def S29_1 (σ:H):St:=⟨[],[],[],σ⟩
def S29_2 (a:V) (b c:Int) (σ:H):St:=⟨[(0,a),(1,(V.int .i64 b)),(5,(V.int .i64 c))],[],[],σ⟩
theorem P29_0 (cc1:XC) (cc2:XC) (a:V) (b:Int) (σ:H) :
 denC E D W N (C29_0 cc1 cc2) (S29_0 a b σ) (Fin29 E) nX (Fin29 E) =
 T29_0 E D W (fun a b c σ=>iterK (fun rec s'=>denC E D W N cc2 s' (kX q29a [] [] rec) (b29a E D W N cc1) (Fin29 E)) N (S29_2 a b c σ)) a b σ:=by kernel_rfl
theorem P29_2 (cc1:XC) (li2:St→Ans) (a:V) (b c:Int) (σ:H) :
 denC E D W N (C29_2 ) (S29_2 a b c σ) (kX q29a [] [] li2) (b29a E D W N cc1) (Fin29 E) =
 T29_2 E D W (fun  σ=>denC E D W N cc1 (S29_1 σ) (Fin29 E) nX (Fin29 E)) (fun a b c σ=>li2 (S29_2 a b c σ)) a b c σ:=by kernel_rfl
def J29_1 (E:List (Nat × Blk)) (D:Den) (W:DrawFn) (N:Nat):=T29_1 E D W
theorem JE29_1 (σ:H) :
 denC E D W N C29_1 (S29_1 σ) (Fin29 E) nX (Fin29 E)=J29_1 E D W N  σ:=by kernel_rfl
def L29_2 (n:Nat):V→Int→Int→H→Ans:=
 Nat.rec (fun _ _ _ _=>none) (fun _ ih=>T29_2 E D W (J29_1 E D W N ) ih) n
theorem LE29_2 (n:Nat):∀(a:V) (b c:Int) (σ:H),
 iterK (fun rec s'=>denC E D W N C29_2 s' (kX q29a [] [] rec) (b29a E D W N C29_1) (Fin29 E)) n (S29_2 a b c σ)=L29_2 E D W N n a b c σ:=by
 induction n with
 | zero=>intro a b c σ;rfl
 | succ n ihn=>
  intro a b c σ
  rw[iterK_succ]
  refine(P29_2 E D W N C29_1 (iterK (fun rec s'=>denC E D W N C29_2 s' (kX q29a [] [] rec) (b29a E D W N C29_1) (Fin29 E)) n) a b c σ).trans ?_
  simp only[ihn,JE29_1]
  kernel_rfl
def J29_0:=T29_0 E D W (L29_2 E D W N N)
theorem JE29_0 (a:V) (b:Int) (σ:H) :
 denC E D W N (C29_0 C29_1 C29_2) (S29_0 a b σ) (Fin29 E) nX (Fin29 E)=J29_0 E D W N a b σ:=by
 refine(P29_0 E D W N C29_1 C29_2  a b σ).trans ?_
 simp only[LE29_2]
 kernel_rfl
def F29 (args:List V) (σ:H):Ans:=
 rtCons args fun x1 l2=>
 xcI .i64 l2 fun x5 l4=>
 rtNil l4 (
 J29_0 E D W N x1 x5 σ)
def A29:XFn:=⟨18,[.any,.i],[(.tmp 4)],(C29_0 C29_1 C29_2)⟩
theorem FE29 (args:List V) (σ:H):runX E D W N A29 args σ=F29 E D W N args σ:=by
 unfold F29
 simp only[←JE29_0]
 kernel_rfl
def Fin30 (E:List (Nat × Blk)):St→Ans:=fun s=>resK E s [(.tmp 6),(.tmp 7)] fun l=>some (oneV l,s.σ)
def C30_0:XC:=(.z (.P 3 (.box 30 (.t 0))<|
.P 5 (.box 38 (.t 2))<|
.c 6 V.nils<|
.q 7 0<|
.nil)
 (.seq (.z (.O 10 y6 (.load (some 4) (.t 3))<|
.m 11 1<|
.O 12 y1 (.load (some 6) (.t 5))<|
.k 13 .bool 46 [(.t 10),(.t 11),(.t 12)]<|
.P 14 (.un .not (.t 13))<|
.nil)
 (.cond (.tmp 14) (.z (.c 6 V.nils<|
.q 7 13<|
.nil)
 .ret)
 .skip))
 (.seq (.z (.O 15 y1 (.load (some 6) (.t 5))<|
.k 16 .bool 47 [(.t 15),(.i 2)]<|
.P 17 (.un .not (.t 16))<|
.nil)
 (.cond (.tmp 17) (.z (.c 6 V.nils<|
.q 7 16<|
.nil)
 .ret)
 .skip))
 (.z (.op (some 18) (.agg [.any]) [] (.build [V.nils] [])<|
.P 19 (.box 52 (.t 18))<|
.m 8 19<|
.nil)
 (.z (.m 20 8<|
.O 21 y6 (.load (some 4) (.t 3))<|
.m 22 1<|
.O 23 y1 (.load (some 6) (.t 5))<|
.k 24 y11 48 [(.t 20),(.t 21),(.t 22),(.t 23)]<|
.nil)
 (.z (.m 25 8<|
.k 26 .one 23 [(.t 25)]<|
.m 9 26<|
.nil)
 (.seq (.z (.m 27 9<|
.u 28 27<|
.b 29 .gtr .none (.t 28) (.i 70000)<|
.nil)
 (.cond (.tmp 29) (.z (.c 6 V.nils<|
.q 7 5<|
.nil)
 .ret)
 .skip))
 (.z (.m 30 9<|
.m 6 30<|
.q 7 0<|
.nil)
 .ret))))))))
def T30_0 (E:List (Nat × Blk)) (D:Den) (W:DrawFn) (a:BS) (b c d:V) (e f g:Int) (h i:V) (j:Int) (k:V) (σ:H):Ans:=
 nbK [(V.str a),b,c,d] σ fun s1=>
 nbK [(V.int .i64 f),(V.int .i64 g),h,i,(V.int .i64 j),k] s1 fun s2=>
 ldnK E s2 (H.next σ) 0 4 fun l3=>
 xcS l3 fun x6 l5=>
 rtCons l5 fun x7 l8=>
 rtCons l8 fun x9 l10=>
 rtCons l10 fun x11 l12=>
 rtNil l12 (
 ldnK E s2 (H.next s1) 0 6 fun l13=>
 xcI .i64 l13 fun x16 l15=>
 xcI .i64 l15 fun x19 l18=>
 rtCons l18 fun x20 l21=>
 rtCons l21 fun x22 l23=>
 xcI .i64 l23 fun x26 l25=>
 rtCons l25 fun x27 l28=>
 rtNil l28 (
 callK (D 46 [(V.agg [(V.str x6),x7,x9,x11]),(V.int .i64 e),(V.agg [(V.int .i64 x16),(V.int .i64 x19),x20,x22,(V.int .i64 x26),x27])] s2) fun u29 s30=>
 rtBool u29 fun x31=>
 condK (not x31) (
 some ((V.tup [V.nils,(V.int .i64 (Int.ofNat 13))]),s30)) (
 ldnK E s30 (H.next s1) 0 6 fun l32=>
 xcI .i64 l32 fun x35 l34=>
 xcI .i64 l34 fun x38 l37=>
 rtCons l37 fun x39 l40=>
 rtCons l40 fun x41 l42=>
 xcI .i64 l42 fun x45 l44=>
 rtCons l44 fun x46 l47=>
 rtNil l47 (
 callK (D 47 [(V.agg [(V.int .i64 x35),(V.int .i64 x38),x39,x41,(V.int .i64 x45),x46]),(V.int .i64 (Int.ofNat 2))] s30) fun u48 s49=>
 rtBool u48 fun x50=>
 condK (not x50) (
 some ((V.tup [V.nils,(V.int .i64 (Int.ofNat 16))]),s49)) (
 nbK [V.nils] s49 fun s51=>
 ldnK E s51 (H.next σ) 0 4 fun l52=>
 xcS l52 fun x55 l54=>
 rtCons l54 fun x56 l57=>
 rtCons l57 fun x58 l59=>
 rtCons l59 fun x60 l61=>
 rtNil l61 (
 ldnK E s51 (H.next s1) 0 6 fun l62=>
 xcI .i64 l62 fun x65 l64=>
 xcI .i64 l64 fun x68 l67=>
 rtCons l67 fun x69 l70=>
 rtCons l70 fun x71 l72=>
 xcI .i64 l72 fun x75 l74=>
 rtCons l74 fun x76 l77=>
 rtNil l77 (
 callK (D 48 [(V.ptr (H.next s49) 0),(V.agg [(V.str x55),x56,x58,x60]),(V.int .i64 e),(V.agg [(V.int .i64 x65),(V.int .i64 x68),x69,x71,(V.int .i64 x75),x76])] s51) fun u78 s79=>
 rtTup u78 fun l80=>
 rtNil l80 (
 callK (D 23 [(V.ptr (H.next s49) 0)] s79) fun u81 s82=>
 rtOne u81 (
 slenK u81 fun n83=>
 condK (ltF (Int.ofNat 70000) (Int.ofNat n83)) (
 some ((V.tup [V.nils,(V.int .i64 (Int.ofNat 5))]),s82)) (
 some ((V.tup [u81,(V.int .i64 (Int.ofNat 0))]),s82)))))))))))
def S30_0 (a:BS) (b c d:V) (e f g:Int) (h i:V) (j:Int) (k:V) (σ:H):St:=⟨[(0,(V.agg [(V.str a),b,c,d])),(1,(V.int .i64 e)),(2,(V.agg [(V.int .i64 f),(V.int .i64 g),h,i,(V.int .i64 j),k]))],[],[],σ⟩
def J30_0 (E:List (Nat × Blk)) (D:Den) (W:DrawFn) (N:Nat):=T30_0 E D W
theorem JE30_0 (a:BS) (b c d:V) (e f g:Int) (h i:V) (j:Int) (k:V) (σ:H) :
 denC E D W N C30_0 (S30_0 a b c d e f g h i j k σ) (Fin30 E) nX (Fin30 E)=J30_0 E D W N a b c d e f g h i j k σ:=by kernel_rfl
def F30 (args:List V) (σ:H):Ans:=
 rtCons args fun x1 l2=>
 rtAgg x1 fun l3=>
 xcS l3 fun x6 l5=>
 rtCons l5 fun x7 l8=>
 rtCons l8 fun x9 l10=>
 rtCons l10 fun x11 l12=>
 rtNil l12 (
 xcI .i64 l2 fun x15 l14=>
 rtCons l14 fun x16 l17=>
 rtAgg x16 fun l18=>
 xcI .i64 l18 fun x21 l20=>
 xcI .i64 l20 fun x24 l23=>
 rtCons l23 fun x25 l26=>
 rtCons l26 fun x27 l28=>
 xcI .i64 l28 fun x31 l30=>
 rtCons l30 fun x32 l33=>
 rtNil l33 (
 rtNil l17 (
 J30_0 E D W N x6 x7 x9 x11 x15 x21 x24 x25 x27 x31 x32 σ)))
def A30:XFn:=⟨31,[y6,.i,y1],[(.tmp 6),(.tmp 7)],C30_0⟩
theorem FE30 (args:List V) (σ:H):runX E D W N A30 args σ=F30 E D W N args σ:=by
 unfold F30
 simp only[←JE30_0]
 kernel_rfl
def G32_0:List AOper:=[⟨(some 38),.mov (.tmp 2),none⟩,⟨(some 39),.call 50 [(.tmp 38)],none⟩,⟨(some 40),.load (some 4) (.tmp 3),none⟩,⟨(some 41),.build [(V.int .i64 (Int.ofNat 0))] [],none⟩,⟨(some 42),.box 103 (.tmp 41),none⟩,⟨(some 43),.build [V.nilp,(V.str ⟨0,0⟩),V.nils,V.nils,V.nils,V.nilp] [(0,1,(.tmp 39)),(1,4,(.tmp 40)),(5,1,(.tmp 42))],none⟩,⟨(some 44),.box 105 (.tmp 43),none⟩,⟨(some 8),.mov (.tmp 44),none⟩]
def H32_0:List DP:=[⟨0,[2]⟩,⟨1,[38]⟩,⟨0,[3]⟩,⟨0,[]⟩,⟨8,[41]⟩,⟨31,[39,40,42]⟩,⟨63,[43]⟩,⟨127,[44]⟩]
def Fin32 (E:List (Nat × Blk)):St→Ans:=fun s=>resK E s [(.cell 6 (some 6)),(.tmp 7)] fun l=>some (oneV l,s.σ)
def C32_0:XC:=(.z (.P 3 (.box 30 (.t 0))<|
.p 6 [] y24<|
.q 7 0<|
.nil)
 (.seq (.block 0 (.z (.m 13 1<|
.b 14 .lss .none (.t 13) (.i 0)<|
.m 15 14<|
.gO 15 false (.p 16 [1,15] y15<|
.p 17 [3,15] (.faddr 3 (.t 3))<|
.p 18 [17,15] (.load none (.t 17))<|
.p 19 [18,15] (.len false (.t 18))<|
.p 20 [16,19,15] (.bin .geq .none (.t 16) (.t 19))<|
.nil) 21 15 20<|
.m 12 21<|
.nil)
 (.cond (.tmp 12) (.z (.op (some 22) y1 [] (.build [y0,y0,V.nils,V.nils,y0,V.nils] [])<|
.op none y1 [6,22] (.store 6 (.t 6) (.t 22))<|
.q 7 9<|
.nil)
 .ret)
 (.z (.m 24 2<|
.u 25 24<|
.b 26 .gtr .none (.t 25) (.i 70000)<|
.m 23 26<|
.nil)
 (.cond (.tmp 23) (.z (.op (some 27) y1 [] (.build [y0,y0,V.nils,V.nils,y0,V.nils] [])<|
.op none y1 [6,27] (.store 6 (.t 6) (.t 27))<|
.q 7 5<|
.nil)
 .ret)
 (.z (.m 29 2<|
.u 30 29<|
.b 31 .eql .none (.t 30) (.i 0)<|
.m 32 31<|
.gO 32 false (.op (some 33) y6 [3,32] (.load (some 4) (.t 3))<|
.op (some 34) .bool [33,32] (.call 49 [(.t 33)])<|
.p 35 [34,32] (.un .not (.t 34))<|
.nil) 36 32 35<|
.m 28 36<|
.nil)
 (.cond (.tmp 28) (.z (.op (some 37) y1 [] (.build [y0,y0,V.nils,V.nils,y0,V.nils] [])<|
.op none y1 [6,37] (.store 6 (.t 6) (.t 37))<|
.q 7 4<|
.nil)
 .ret)
 .skip)))))))
 (.seq (.keep [(1,.i),(2,.any),(3,.ptr),(6,.ptr)] [] [] (.gdraw G32_0 H32_0 [(1,.i),(3,.ptr),(6,.ptr),(8,.ptr)]))
 (.z (.m 45 8<|
.m 46 1<|
.k 47 y1 51 [(.t 45),(.t 46),(.i 1)]<|
.pal 9 [] 38 [y0,y0,V.nils,V.nils,y0,V.nils]<|
.op none y1 [9,47] (.store 6 (.t 9) (.t 47))<|
.nil)
 (.seq (.z (.m 48 8<|
.n 49 48<|
.f 50 0 49<|
.l 51 .any 50<|
.k 52 .i 52 [(.t 51)]<|
.b 53 .neq .none (.t 52) (.i 0)<|
.m 54 53<|
.gO 54 false (.op (some 55) y6 [3,54] (.load (some 4) (.t 3))<|
.p 56 [1,54] y15<|
.op (some 57) y1 [9,54] (.load (some 6) (.t 9))<|
.op (some 58) .bool [55,56,57,54] (.call 36 [(.t 55),(.t 56),(.t 57)])<|
.p 59 [58,54] (.un .not (.t 58))<|
.nil) 60 54 59<|
.nil)
 (.cond (.tmp 60) (.z (.op (some 61) y1 [] (.build [y0,y0,V.nils,V.nils,y0,V.nils] [])<|
.op none y1 [6,61] (.store 6 (.t 6) (.t 61))<|
.q 7 4<|
.nil)
 .ret)
 .skip))
 (.seq (.z (.O 63 y6 (.load (some 4) (.t 3))<|
.m 64 1<|
.O 65 y1 (.load (some 6) (.t 9))<|
.k 66 (.tup [.any,.i]) 15 [(.t 63),(.t 64),(.t 65)]<|
.m 62 66<|
.P 67 (.extract 0 (.t 62))<|
.P 68 (.extract 1 (.t 62))<|
.m 10 67<|
.m 11 68<|
.nil)
 (.z (.m 69 11<|
.b 70 .neq .none (.t 69) (.i 0)<|
.nil)
 (.cond (.tmp 70) (.z (.op (some 71) y1 [] (.build [y0,y0,V.nils,V.nils,y0,V.nils] [])<|
.op none y1 [6,71] (.store 6 (.t 6) (.t 71))<|
.q 7 4<|
.nil)
 .ret)
 .skip)))
 (.z (.O 72 y1 (.load (some 6) (.t 9))<|
.op none y1 [6,72] (.store 6 (.t 6) (.t 72))<|
.q 7 0<|
.nil)
 .ret)))))))
def T32_0 (a:BS) (b c d:V) (e:Int) (f:V) (σ:H):Ans:=
 nbK [(V.str a),b,c,d] σ fun s1=>
 let s2:=newB s1 (.cells [(V.int .i64 (Int.ofNat 0)),(V.int .i64 (Int.ofNat 0)),V.nils,V.nils,(V.int .i64 (Int.ofNat 0)),V.nils]);
 joinB (fun c3 s4=>
 condK c3 (
 stK 6 (H.next s1) 0 (V.agg [(V.int .i64 (Int.ofNat 0)),(V.int .i64 (Int.ofNat 0)),V.nils,V.nils,(V.int .i64 (Int.ofNat 0)),V.nils]) s4 fun s6=>
 ldnK E s6 (H.next s1) 0 6 fun u7=>
 some ((V.tup [(V.agg u7),(V.int .i64 (Int.ofNat 9))]),s6)) (
 slenK f fun n8=>
 condK (ltF (Int.ofNat 70000) (Int.ofNat n8)) (
 stK 6 (H.next s1) 0 (V.agg [(V.int .i64 (Int.ofNat 0)),(V.int .i64 (Int.ofNat 0)),V.nils,V.nils,(V.int .i64 (Int.ofNat 0)),V.nils]) s4 fun s9=>
 ldnK E s9 (H.next s1) 0 6 fun u10=>
 some ((V.tup [(V.agg u10),(V.int .i64 (Int.ofNat 5))]),s9)) (
 slenK f fun n11=>
 joinB (fun c12 s13=>
 condK c12 (
 stK 6 (H.next s1) 0 (V.agg [(V.int .i64 (Int.ofNat 0)),(V.int .i64 (Int.ofNat 0)),V.nils,V.nils,(V.int .i64 (Int.ofNat 0)),V.nils]) s13 fun s15=>
 ldnK E s15 (H.next s1) 0 6 fun u16=>
 some ((V.tup [(V.agg u16),(V.int .i64 (Int.ofNat 4))]),s15)) (
 gdrawK (W G32_0 H32_0 [(1,(V.int .i64 e)),(2,f),(3,(V.ptr (H.next σ) 0)),(6,(V.ptr (H.next s1) 0))] s13) fun e17 s18=>
 getL e17 1 fun u19=>
 rtInt .i64 u19 fun x20=>
 getL e17 3 fun u21=>
 rtPtr u21 fun b22 o23=>
 getL e17 6 fun u24=>
 rtPtr u24 fun b25 o26=>
 getL e17 8 fun u27=>
 rtPtr u27 fun b28 o29=>
 callK (D 51 [(V.ptr b28 o29),(V.int .i64 x20),(V.int .i64 (Int.ofNat 1))] s18) fun u30 s31=>
 rtAgg u30 fun l32=>
 xcI .i64 l32 fun x35 l34=>
 xcI .i64 l34 fun x38 l37=>
 rtCons l37 fun x39 l40=>
 rtCons l40 fun x41 l42=>
 xcI .i64 l42 fun x45 l44=>
 rtCons l44 fun x46 l47=>
 rtNil l47 (
 chk (allOne [(V.int .i64 x35),(V.int .i64 x38),x39,x41,(V.int .i64 x45),x46]) (
 ldK E s31 b28 o29 fun u48=>
 callK (D 52 [u48] s31) fun u49 s50=>
 rtInt .i64 u49 fun x51=>
 joinB (fun c52 s53=>
 condK c52 (
 stK 6 b25 o26 (V.agg [(V.int .i64 (Int.ofNat 0)),(V.int .i64 (Int.ofNat 0)),V.nils,V.nils,(V.int .i64 (Int.ofNat 0)),V.nils]) s53 fun s55=>
 ldnK E s55 b25 o26 6 fun u56=>
 some ((V.tup [(V.agg u56),(V.int .i64 (Int.ofNat 4))]),s55)) (
 ldnK E s53 b22 o23 4 fun l57=>
 xcS l57 fun x60 l59=>
 rtCons l59 fun x61 l62=>
 rtCons l62 fun x63 l64=>
 rtCons l64 fun x65 l66=>
 rtNil l66 (
 callK (D 15 [(V.agg [(V.str x60),x61,x63,x65]),(V.int .i64 x20),(V.agg [(V.int .i64 x35),(V.int .i64 x38),x39,x41,(V.int .i64 x45),x46])] s53) fun u67 s68=>
 rtTup u67 fun l69=>
 rtCons l69 fun x70 l71=>
 xcI .i64 l71 fun x74 l73=>
 rtNil l73 (
 condK (not (eqF x74 (Int.ofNat 0))) (
 stK 6 b25 o26 (V.agg [(V.int .i64 (Int.ofNat 0)),(V.int .i64 (Int.ofNat 0)),V.nils,V.nils,(V.int .i64 (Int.ofNat 0)),V.nils]) s68 fun s75=>
 ldnK E s75 b25 o26 6 fun u76=>
 some ((V.tup [(V.agg u76),(V.int .i64 (Int.ofNat 4))]),s75)) (
 stK 6 b25 o26 (V.agg [(V.int .i64 x35),(V.int .i64 x38),x39,x41,(V.int .i64 x45),x46]) s68 fun s77=>
 ldnK E s77 b25 o26 6 fun u78=>
 some ((V.tup [(V.agg u78),(V.int .i64 (Int.ofNat 0))]),s77)))))) fun k54=>
 condK (not (eqF x51 (Int.ofNat 0))) (
 k54 true s50) (
 ldnK E s50 b22 o23 4 fun l79=>
 xcS l79 fun x82 l81=>
 rtCons l81 fun x83 l84=>
 rtCons l84 fun x85 l86=>
 rtCons l86 fun x87 l88=>
 rtNil l88 (
 callK (D 36 [(V.agg [(V.str x82),x83,x85,x87]),(V.int .i64 x20),(V.agg [(V.int .i64 x35),(V.int .i64 x38),x39,x41,(V.int .i64 x45),x46])] s50) fun u89 s90=>
 rtBool u89 fun x91=>
 k54 (not x91) s90)))))) fun k14=>
 condK (eqF (Int.ofNat n11) (Int.ofNat 0)) (
 k14 true s4) (
 ldnK E s4 (H.next σ) 0 4 fun l92=>
 xcS l92 fun x95 l94=>
 rtCons l94 fun x96 l97=>
 rtCons l97 fun x98 l99=>
 rtCons l99 fun x100 l101=>
 rtNil l101 (
 callK (D 49 [(V.agg [(V.str x95),x96,x98,x100])] s4) fun u102 s103=>
 rtBool u102 fun x104=>
 k14 (not x104) s103))))) fun k5=>
 condK (ltF e (Int.ofNat 0)) (
 k5 true s2) (
 ldK E s2 (H.next σ) 3 fun u105=>
 slenK u105 fun n106=>
 k5 (leF (Int.ofNat n106) e) s2)
def S32_0 (a:BS) (b c d:V) (e:Int) (f:V) (σ:H):St:=⟨[(0,(V.agg [(V.str a),b,c,d])),(1,(V.int .i64 e)),(2,f)],[],[],σ⟩
def J32_0 (E:List (Nat × Blk)) (D:Den) (W:DrawFn) (N:Nat):=T32_0 E D W
theorem JE32_0 (a:BS) (b c d:V) (e:Int) (f:V) (σ:H) :
 denC E D W N C32_0 (S32_0 a b c d e f σ) (Fin32 E) nX (Fin32 E)=J32_0 E D W N a b c d e f σ:=by kernel_rfl
def F32 (args:List V) (σ:H):Ans:=
 rtCons args fun x1 l2=>
 rtAgg x1 fun l3=>
 xcS l3 fun x6 l5=>
 rtCons l5 fun x7 l8=>
 rtCons l8 fun x9 l10=>
 rtCons l10 fun x11 l12=>
 rtNil l12 (
 xcI .i64 l2 fun x15 l14=>
 rtCons l14 fun x16 l17=>
 rtNil l17 (
 J32_0 E D W N x6 x7 x9 x11 x15 x16 σ))
def A32:XFn:=⟨73,[y6,.i,.any],[(.cell 6 (some 6)),(.tmp 7)],C32_0⟩
theorem FE32 (args:List V) (σ:H):runX E D W N A32 args σ=F32 E D W N args σ:=by
 unfold F32
 simp only[←JE32_0]
 kernel_rfl
def q34a:List (Nat × XTy):=[(2,.ptr),(8,.ptr)]
def G34_0:List AOper:=[⟨(some 140),.build [(V.str ⟨0,0⟩),(V.int .i64 (Int.ofNat 0)),V.nils,V.nils,V.nils] [],none⟩,⟨(some 141),.mov (.tmp 8),none⟩,⟨(some 142),.nilck (.tmp 141),none⟩,⟨(some 143),.faddr 8 (.tmp 142),none⟩,⟨(some 144),.load none (.tmp 143),none⟩,⟨(some 145),.mov (.tmp 8),none⟩,⟨(some 146),.nilck (.tmp 145),none⟩,⟨(some 147),.faddr 7 (.tmp 146),none⟩,⟨(some 148),.load none (.tmp 147),none⟩,⟨none,.store 5 (.tmp 2) (.tmp 140),none⟩,⟨(some 3),.mov (.tmp 144),none⟩,⟨(some 4),.mov (.tmp 148),none⟩]
def H34_0:List DP:=[⟨0,[]⟩,⟨0,[8]⟩,⟨2,[141]⟩,⟨6,[142]⟩,⟨14,[143]⟩,⟨0,[8]⟩,⟨32,[145]⟩,⟨96,[146]⟩,⟨224,[147]⟩,⟨1,[2,140]⟩,⟨543,[144]⟩,⟨2047,[148]⟩]
def Fin34 (E:List (Nat × Blk)):St→Ans:=fun s=>resK E s [(.cell 2 (some 5)),(.tmp 3),(.tmp 4)] fun l=>some (oneV l,s.σ)
def b34a (c0:XC):Nat→St→Ans:=blkK 1 (dX E D W N (.keep q34a [] [] c0) (Fin34 E) nX (Fin34 E)) nX
def C34_0 (cc1:XC):XC:=(.z (.p 2 [] (.alloc 76 [y7,y0,V.nils,V.nils,V.nils])<|
.q 3 0<|
.q 4 0<|
.nil)
 (.z (.m 13 0<|
.k 14 (.tup y30) 56 [(.t 13)]<|
.m 12 14<|
.P 15 (.extract 0 (.t 12))<|
.P 16 (.extract 1 (.t 12))<|
.P 17 (.extract 2 (.t 12))<|
.m 5 15<|
.m 6 16<|
.m 7 17<|
.nil)
 (.seq (.z (.m 18 7<|
.b 19 .neq .none (.t 18) (.i 0)<|
.nil)
 (.cond (.tmp 19) (.z (.op (some 20) y10 [] (.build [y7,y0,V.nils,V.nils,V.nils] [])<|
.m 21 6<|
.m 22 7<|
.op none y10 [2,20] (.store 5 (.t 2) (.t 20))<|
.m 3 21<|
.m 4 22<|
.nil)
 .ret)
 .skip))
 (.z (.m 23 5<|
.op (some 24) (.agg [.any,.i,.str,.i,.any,.any,.any,.i,.i]) [23] (.build [V.nils,y0,y7,y0,V.nils,V.nils,V.nils,y0,y0] [(0,1,(.t 23))])<|
.P 25 (.box 116 (.t 24))<|
.m 8 25<|
.nil)
 (.z (.m 26 8<|
.m 27 8<|
.k 28 .str 57 [(.t 27),(.i 1)]<|
.n 29 26<|
.f 30 2 29<|
.f 31 0 30<|
.w 1 31 28<|
.nil)
 (.z (.m 32 8<|
.k 33 y11 58 [(.t 32),(.con (V.str ⟨11,100710650190388740279911748⟩))]<|
.nil)
 (.seq (.block 0 (.z (.m 35 8<|
.k 36 .bool 59 [(.t 35),y37]<|
.m 34 36<|
.nil)
 (.cond (.tmp 34) (.ops (.m 37 8<|
.k 38 y11 58 [(.t 37),y31]<|
.nil))
 (.z (.m 40 8<|
.k 41 .bool 59 [(.t 40),y38]<|
.m 39 41<|
.nil)
 (.cond (.tmp 39) (.z (.m 42 8<|
.n 43 42<|
.f 44 2 43<|
.f 45 1 44<|
.op none .any [45] (.store 1 (.t 45) (.i 1))<|
.nil)
 (.ops (.m 46 8<|
.k 47 y11 58 [(.t 46),y31]<|
.nil)))
 (.z (.m 49 8<|
.k 50 .bool 59 [(.t 49),(.con (V.str ⟨9,1241215773001651606849⟩))]<|
.m 48 50<|
.nil)
 (.cond (.tmp 48) (.z (.m 51 8<|
.n 52 51<|
.f 53 2 52<|
.f 54 1 53<|
.op none .any [54] (.store 1 (.t 54) (.i 2))<|
.nil)
 (.ops (.m 55 8<|
.k 56 y11 58 [(.t 55),y31]<|
.nil)))
 .skip)))))))
 (.keep q34a [] [] cc1))))))))
def T34_0 (E:List (Nat × Blk)) (D:Den) (W:DrawFn) (K1:Nat→Nat→Nat→Nat→H→Ans) (a:BS) (σ:H):Ans:=
 let s1:=newB σ (.cells [(V.str ⟨0,0⟩),(V.int .i64 (Int.ofNat 0)),V.nils,V.nils,V.nils]);
 callK (D 56 [(V.str a)] s1) fun u2 s3=>
 rtTup u2 fun l4=>
 rtCons l4 fun x5 l6=>
 xcI .i64 l6 fun x9 l8=>
 xcI .i64 l8 fun x12 l11=>
 rtNil l11 (
 condK (not (eqF x12 (Int.ofNat 0))) (
 stK 5 (H.next σ) 0 (V.agg [(V.str (BS.mk 0 0)),(V.int .i64 (Int.ofNat 0)),V.nils,V.nils,V.nils]) s3 fun s13=>
 ldnK E s13 (H.next σ) 0 5 fun u14=>
 some ((V.tup [(V.agg u14),(V.int .i64 x9),(V.int .i64 x12)]),s13)) (
 fillK [(0,1,x5)] [V.nils,(V.int .i64 (Int.ofNat 0)),(V.str ⟨0,0⟩),(V.int .i64 (Int.ofNat 0)),V.nils,V.nils,V.nils,(V.int .i64 (Int.ofNat 0)),(V.int .i64 (Int.ofNat 0))] fun l15=>
 rtCons l15 fun x16 l17=>
 xcI .i64 l17 fun x20 l19=>
 xcS l19 fun x23 l22=>
 xcI .i64 l22 fun x26 l25=>
 rtCons l25 fun x27 l28=>
 rtCons l28 fun x29 l30=>
 rtCons l30 fun x31 l32=>
 xcI .i64 l32 fun x35 l34=>
 xcI .i64 l34 fun x38 l37=>
 rtNil l37 (
 nbK [x16,(V.int .i64 x20),(V.str x23),(V.int .i64 x26),x27,x29,x31,(V.int .i64 x35),(V.int .i64 x38)] s3 fun s39=>
 callK (D 57 [(V.ptr (H.next s3) 0),(V.int .i64 (Int.ofNat 1))] s39) fun u40 s41=>
 rtStr u40 fun x42=>
 stK 1 (H.next s3) 2 (V.str x42) s41 fun s43=>
 callK (D 58 [(V.ptr (H.next s3) 0),(V.str (BS.mk 11 100710650190388740279911748))] s43) fun u44 s45=>
 rtTup u44 fun l46=>
 rtNil l46 (
 callK (D 59 [(V.ptr (H.next s3) 0),(V.str (BS.mk 8 6073459554577832005))] s45) fun u47 s48=>
 rtBool u47 fun x49=>
 condK x49 (
 callK (D 58 [(V.ptr (H.next s3) 0),(V.str (BS.mk 4 1397178708))] s48) fun u50 s51=>
 rtTup u50 fun l52=>
 rtNil l52 (
 K1 (H.next σ) 0 (H.next s3) 0 s51)) (
 callK (D 59 [(V.ptr (H.next s3) 0),(V.str (BS.mk 8 6073459554577829193))] s48) fun u53 s54=>
 rtBool u53 fun x55=>
 condK x55 (
 stK 1 (H.next s3) 3 (V.int .i64 (Int.ofNat 1)) s54 fun s56=>
 callK (D 58 [(V.ptr (H.next s3) 0),(V.str (BS.mk 4 1397178708))] s56) fun u57 s58=>
 rtTup u57 fun l59=>
 rtNil l59 (
 K1 (H.next σ) 0 (H.next s3) 0 s58)) (
 callK (D 59 [(V.ptr (H.next s3) 0),(V.str (BS.mk 9 1241215773001651606849))] s54) fun u60 s61=>
 rtBool u60 fun x62=>
 condK x62 (
 stK 1 (H.next s3) 3 (V.int .i64 (Int.ofNat 2)) s61 fun s63=>
 callK (D 58 [(V.ptr (H.next s3) 0),(V.str (BS.mk 4 1397178708))] s63) fun u64 s65=>
 rtTup u64 fun l66=>
 rtNil l66 (
 K1 (H.next σ) 0 (H.next s3) 0 s65)) (
 K1 (H.next σ) 0 (H.next s3) 0 s61)))))))
def C34_1 (cc2:XC) (cc3:XC):XC:=(.z (.m 57 8<|
.k 58 y11 58 [(.t 57),(.con (V.str ⟨3,4012602⟩))]<|
.nil)
 (.z (.m 59 8<|
.k 60 y11 58 [(.t 59),(.con (V.str ⟨5,336236856642⟩))]<|
.nil)
 (.seq (.block 1 (.loop q34a [] [] cc3))
 (.keep q34a [] [] cc2))))
def T34_1 (E:List (Nat × Blk)) (D:Den) (W:DrawFn) (K3:Nat→Nat→Nat→Nat→H→Ans) (a b c d:Nat) (σ:H):Ans:=
 callK (D 58 [(V.ptr c d),(V.str (BS.mk 3 4012602))] σ) fun u1 s2=>
 rtTup u1 fun l3=>
 rtNil l3 (
 callK (D 58 [(V.ptr c d),(V.str (BS.mk 5 336236856642))] s2) fun u4 s5=>
 rtTup u4 fun l6=>
 rtNil l6 (
 K3 a b c d s5))
def C34_2 (cc5:XC):XC:=(.seq (.z (.m 120 8<|
.n 121 120<|
.f 122 7 121<|
.l 123 .i 122<|
.b 124 .eql .none (.t 123) (.i 0)<|
.m 125 124<|
.gA 125 true (.p 126 [8,125] y28<|
.op (some 127) y8 [126,125] (.call 60 [(.t 126)])<|
.op (some 128) .i [127,125] (.field 0 none (.t 127))<|
.p 129 [128,125] (.bin .neq .none (.t 128) (.i 0))<|
.nil) 130 125 129<|
.nil)
 (.cond (.tmp 130) (.ops (.m 131 8<|
.m 132 8<|
.k 133 y8 60 [(.t 132)]<|
.k 134 y11 61 [(.t 131),(.i 7),(.t 133)]<|
.nil))
 .skip))
 (.keep q34a [] [] cc5))
def T34_2 (E:List (Nat × Blk)) (D:Den) (W:DrawFn) (K5:Nat→Nat→Nat→Nat→H→Ans) (a b c d:Nat) (σ:H):Ans:=
 ldK E σ c (Nat.add d 7) fun u1=>
 rtInt .i64 u1 fun x2=>
 joinB (fun c3 s4=>
 condK c3 (
 callK (D 60 [(V.ptr c d)] s4) fun u6 s7=>
 rtAgg u6 fun l8=>
 xcI .i64 l8 fun x11 l10=>
 xcS l10 fun x14 l13=>
 xcI .i64 l13 fun x17 l16=>
 rtNil l16 (
 callK (D 61 [(V.ptr c d),(V.int .i64 (Int.ofNat 7)),(V.agg [(V.int .i64 x11),(V.str x14),(V.int .i64 x17)])] s7) fun u18 s19=>
 rtTup u18 fun l20=>
 rtNil l20 (
 K5 a b c d s19))) (
 K5 a b c d s4)) fun k5=>
 condK (eqF x2 (Int.ofNat 0)) (
 callK (D 60 [(V.ptr c d)] σ) fun u21 s22=>
 rtAgg u21 fun l23=>
 xcI .i64 l23 fun x26 l25=>
 xcS l25 fun x29 l28=>
 xcI .i64 l28 fun x32 l31=>
 rtNil l31 (
 k5 (not (eqF x26 (Int.ofNat 0))) s22)) (
 k5 false σ)
def C34_3 (cc4:XC):XC:=(.seq (.z (.m 61 8<|
.n 62 61<|
.f 63 7 62<|
.l 64 .i 63<|
.b 65 .eql .none (.t 64) (.i 0)<|
.m 66 65<|
.gA 66 true (.p 67 [8,66] y28<|
.op (some 68) .bool [67,66] (.call 59 [(.t 67),(.con (V.str ⟨3,4476485⟩))])<|
.p 69 [68,66] (.un .not (.t 68))<|
.nil) 70 66 69<|
.nil)
 (.cond (.tmp 70) .skip
 (.exit 1)))
 (.block 2 (.z (.m 71 8<|
.k 72 y8 60 [(.t 71)]<|
.pal 9 [] 121 [y0,y7,y0]<|
.op none y8 [9,72] (.store 3 (.t 9) (.t 72))<|
.nil)
 (.z (.m 73 8<|
.k 74 .str 57 [(.t 73),(.i 1)]<|
.m 10 74<|
.nil)
 (.seq (.z (.m 75 8<|
.n 76 75<|
.f 77 7 76<|
.l 78 .i 77<|
.b 79 .eql .none (.t 78) (.i 0)<|
.m 80 79<|
.gA 80 true (.p 81 [8,80] y28<|
.p 82 [81,80] (.nilck (.t 81))<|
.p 83 [82,80] (.faddr 2 (.t 82))<|
.p 84 [83,80] (.faddr 2 (.t 83))<|
.p 85 [84,80] (.load none (.t 84))<|
.p 86 [85,80] (.len false (.t 85))<|
.p 87 [86,80] (.bin .geq .none (.t 86) (.i 40))<|
.nil) 88 80 87<|
.nil)
 (.cond (.tmp 88) (.ops (.m 89 8<|
.O 90 y8 (.load (some 3) (.t 9))<|
.k 91 y11 61 [(.t 89),(.i 5),(.t 90)]<|
.nil))
 .skip))
 (.keep [(2,.ptr),(8,.ptr),(10,.str)] [] [] cc4))))))
def T34_3 (E:List (Nat × Blk)) (D:Den) (W:DrawFn) (K2:Nat→Nat→Nat→Nat→H→Ans) (K4:Nat→Nat→Nat→Nat→BS→H→Ans) (a b c d:Nat) (σ:H):Ans:=
 ldK E σ c (Nat.add d 7) fun u1=>
 rtInt .i64 u1 fun x2=>
 joinB (fun c3 s4=>
 condK c3 (
 callK (D 60 [(V.ptr c d)] s4) fun u6 s7=>
 rtAgg u6 fun l8=>
 xcI .i64 l8 fun x11 l10=>
 xcS l10 fun x14 l13=>
 xcI .i64 l13 fun x17 l16=>
 rtNil l16 (
 callK (D 57 [(V.ptr c d),(V.int .i64 (Int.ofNat 1))] s7) fun u18 s19=>
 rtStr u18 fun x20=>
 ldK E s19 c (Nat.add d 7) fun u21=>
 rtInt .i64 u21 fun x22=>
 joinB (fun c23 s24=>
 condK c23 (
 callK (D 61 [(V.ptr c d),(V.int .i64 (Int.ofNat 5)),(V.agg [(V.int .i64 x11),(V.str x14),(V.int .i64 x17)])] s24) fun u26 s27=>
 rtTup u26 fun l28=>
 rtNil l28 (
 K4 a b c d x20 s27)) (
 K4 a b c d x20 s24)) fun k25=>
 condK (eqF x22 (Int.ofNat 0)) (
 ldK E s19 c (Nat.add (Nat.add d 2) 2) fun u29=>
 slenK u29 fun n30=>
 k25 (leF (Int.ofNat 40) (Int.ofNat n30)) s19) (
 k25 false s19))) (
 K2 a b c d s4)) fun k5=>
 condK (eqF x2 (Int.ofNat 0)) (
 callK (D 59 [(V.ptr c d),(V.str (BS.mk 3 4476485))] σ) fun u31 s32=>
 rtBool u31 fun x33=>
 k5 (not x33) s32) (
 k5 false σ)
def C34_4:XC:=(.z (.m 92 8<|
.k 93 y11 58 [(.t 92),(.con (V.str ⟨3,4012602⟩))]<|
.nil)
 (.z (.m 94 8<|
.k 95 .i 62 [(.t 94),(.i 0)]<|
.m 11 95<|
.nil)
 (.z (.m 96 8<|
.m 97 8<|
.n 98 97<|
.f 99 2 98<|
.f 100 2 99<|
.l 101 .any 100<|
.m 102 10<|
.p 103 [102] (.buildSlice 9 1 [y7] [(0,1,(.t 102))])<|
.O 104 .one (.append 9 1 16 (.t 101) (.t 103))<|
.n 105 96<|
.f 106 2 105<|
.f 107 2 106<|
.w 1 107 104<|
.nil)
 (.ops (.m 108 8<|
.m 109 8<|
.n 110 109<|
.f 111 2 110<|
.f 112 3 111<|
.l 113 .any 112<|
.m 114 11<|
.p 115 [114] (.buildSlice 3 1 [y0] [(0,1,(.t 114))])<|
.O 116 .one (.append 3 1 8 (.t 113) (.t 115))<|
.n 117 108<|
.f 118 2 117<|
.f 119 3 118<|
.w 1 119 116<|
.nil)))))
def T34_4 (E:List (Nat × Blk)) (D:Den) (W:DrawFn) (R3:Nat→Nat→Nat→Nat→H→Ans) (a b c d:Nat) (e:BS) (σ:H):Ans:=
 callK (D 58 [(V.ptr c d),(V.str (BS.mk 3 4012602))] σ) fun u1 s2=>
 rtTup u1 fun l3=>
 rtNil l3 (
 callK (D 62 [(V.ptr c d),(V.int .i64 (Int.ofNat 0))] s2) fun u4 s5=>
 rtInt .i64 u4 fun x6=>
 ldK E s5 c (Nat.add (Nat.add d 2) 2) fun u7=>
 let s8:=newB s5 (.cells [(V.str e)]);
 appK E 1 16 u7 (V.sl (H.next s5) 0 1 (.ex 1)) s8 fun u9 s10=>
 rtOne u9 (
 stK 1 c (Nat.add (Nat.add d 2) 2) u9 s10 fun s11=>
 ldK E s11 c (Nat.add (Nat.add d 2) 3) fun u12=>
 let s13:=newB s11 (.cells [(V.int .i64 x6)]);
 appK E 1 8 u12 (V.sl (H.next s11) 0 1 (.ex 1)) s13 fun u14 s15=>
 rtOne u14 (
 stK 1 c (Nat.add (Nat.add d 2) 3) u14 s15 fun s16=>
 R3 a b c d s16)))
def C34_5:XC:=(.seq (.z (.m 135 8<|
.n 136 135<|
.f 137 7 136<|
.l 138 .i 137<|
.b 139 .neq .none (.t 138) (.i 0)<|
.nil)
 (.cond (.tmp 139) (.seq (.keep q34a [] [] (.gdraw G34_0 H34_0 [(2,.ptr),(3,.i),(4,.i)]))
 .ret)
 .skip))
 (.z (.m 149 8<|
.n 150 149<|
.f 151 2 150<|
.O 152 y10 (.load (some 5) (.t 151))<|
.op none y10 [2,152] (.store 5 (.t 2) (.t 152))<|
.q 3 0<|
.q 4 0<|
.nil)
 .ret))
def T34_5 (E:List (Nat × Blk)) (D:Den) (W:DrawFn) (a b c d:Nat) (σ:H):Ans:=
 ldK E σ c (Nat.add d 7) fun u1=>
 rtInt .i64 u1 fun x2=>
 condK (not (eqF x2 (Int.ofNat 0))) (
 gdrawK (W G34_0 H34_0 [(2,(V.ptr a b)),(8,(V.ptr c d))] σ) fun e3 s4=>
 getL e3 2 fun u5=>
 rtPtr u5 fun b6 o7=>
 getL e3 3 fun u8=>
 rtInt .i64 u8 fun x9=>
 getL e3 4 fun u10=>
 rtInt .i64 u10 fun x11=>
 ldnK E s4 b6 o7 5 fun u12=>
 some ((V.tup [(V.agg u12),(V.int .i64 x9),(V.int .i64 x11)]),s4)) (
 ldnK E σ c (Nat.add d 2) 5 fun l13=>
 xcS l13 fun x16 l15=>
 xcI .i64 l15 fun x19 l18=>
 rtCons l18 fun x20 l21=>
 rtCons l21 fun x22 l23=>
 rtCons l23 fun x24 l25=>
 rtNil l25 (
 stK 5 a b (V.agg [(V.str x16),(V.int .i64 x19),x20,x22,x24]) σ fun s26=>
 ldnK E s26 a b 5 fun u27=>
 some ((V.tup [(V.agg u27),(V.int .i64 (Int.ofNat 0)),(V.int .i64 (Int.ofNat 0))]),s26)))
def S34_0 (a:BS) (σ:H):St:=⟨[(0,(V.str a))],[],[],σ⟩
def S34_1 (a b c d:Nat) (σ:H):St:=⟨[(2,(V.ptr a b)),(8,(V.ptr c d))],[],[],σ⟩
def S34_4 (a b c d:Nat) (e:BS) (σ:H):St:=⟨[(2,(V.ptr a b)),(8,(V.ptr c d)),(10,(V.str e))],[],[],σ⟩
theorem P34_0 (cc1:XC) (a:BS) (σ:H) :
 denC E D W N (C34_0 cc1) (S34_0 a σ) (Fin34 E) nX (Fin34 E) =
 T34_0 E D W (fun b c d e σ=>denC E D W N cc1 (S34_1 b c d e σ) (Fin34 E) nX (Fin34 E)) a σ:=by kernel_rfl
theorem P34_1 (cc2:XC) (cc3:XC) (a b c d:Nat) (σ:H) :
 denC E D W N (C34_1 cc2 cc3) (S34_1 a b c d σ) (Fin34 E) nX (Fin34 E) =
 T34_1 E D W (fun a b c d σ=>iterK (fun rec s'=>denC E D W N cc3 s' (kX q34a [] [] rec) (b34a E D W N cc2) (Fin34 E)) N (S34_1 a b c d σ)) a b c d σ:=by kernel_rfl
theorem P34_2 (cc5:XC) (a b c d:Nat) (σ:H) :
 denC E D W N (C34_2 cc5) (S34_1 a b c d σ) (Fin34 E) nX (Fin34 E) =
 T34_2 E D W (fun a b c d σ=>denC E D W N cc5 (S34_1 a b c d σ) (Fin34 E) nX (Fin34 E)) a b c d σ:=by kernel_rfl
theorem P34_3 (cc2:XC) (cc4:XC) (li3:St→Ans) (a b c d:Nat) (σ:H) :
 denC E D W N (C34_3 cc4) (S34_1 a b c d σ) (kX q34a [] [] li3) (b34a E D W N cc2) (Fin34 E) =
 T34_3 E D W (fun a b c d σ=>denC E D W N cc2 (S34_1 a b c d σ) (Fin34 E) nX (Fin34 E)) (fun a b c d e σ=>denC E D W N cc4 (S34_4 a b c d e σ) (kX q34a [] [] li3) (blkK 2 (kX q34a [] [] li3) (b34a E D W N cc2)) (Fin34 E)) a b c d σ:=by kernel_rfl
theorem P34_4 (cc2:XC) (li3:St→Ans) (a b c d:Nat) (e:BS) (σ:H) :
 denC E D W N (C34_4 ) (S34_4 a b c d e σ) (kX q34a [] [] li3) (blkK 2 (kX q34a [] [] li3) (b34a E D W N cc2)) (Fin34 E) =
 T34_4 E D W (fun a b c d σ=>li3 (S34_1 a b c d σ)) a b c d e σ:=by kernel_rfl
def J34_5 (E:List (Nat × Blk)) (D:Den) (W:DrawFn) (N:Nat):=T34_5 E D W
theorem JE34_5 (a b c d:Nat) (σ:H) :
 denC E D W N C34_5 (S34_1 a b c d σ) (Fin34 E) nX (Fin34 E)=J34_5 E D W N a b c d σ:=by kernel_rfl
def J34_2:=T34_2 E D W (J34_5 E D W N )
theorem JE34_2 (a b c d:Nat) (σ:H) :
 denC E D W N (C34_2 C34_5) (S34_1 a b c d σ) (Fin34 E) nX (Fin34 E)=J34_2 E D W N a b c d σ:=by
 refine(P34_2 E D W N C34_5  a b c d σ).trans ?_
 simp only[JE34_5]
 kernel_rfl
def J34_4 (E:List (Nat × Blk)) (D:Den) (W:DrawFn) (N:Nat) (R3:Nat→Nat→Nat→Nat→H→Ans):=T34_4 E D W R3
theorem JE34_4 (li3:St→Ans) (a b c d:Nat) (e:BS) (σ:H) :
 denC E D W N C34_4 (S34_4 a b c d e σ) (kX q34a [] [] li3) (blkK 2 (kX q34a [] [] li3) (b34a E D W N (C34_2 C34_5))) (Fin34 E)=J34_4 E D W N (fun a b c d σ=>li3 (S34_1 a b c d σ)) a b c d e σ:=by
 refine(P34_4 E D W N (C34_2 C34_5) li3 a b c d e σ).trans ?_
 kernel_rfl
def L34_3 (n:Nat):Nat→Nat→Nat→Nat→H→Ans:=
 Nat.rec (fun _ _ _ _ _=>none) (fun _ ih=>T34_3 E D W (J34_2 E D W N ) (J34_4 E D W N ih)) n
theorem LE34_3 (n:Nat):∀(a b c d:Nat) (σ:H),
 iterK (fun rec s'=>denC E D W N (C34_3 C34_4) s' (kX q34a [] [] rec) (b34a E D W N (C34_2 C34_5)) (Fin34 E)) n (S34_1 a b c d σ)=L34_3 E D W N n a b c d σ:=by
 induction n with
 | zero=>intro a b c d σ;rfl
 | succ n ihn=>
  intro a b c d σ
  rw[iterK_succ]
  refine(P34_3 E D W N (C34_2 C34_5) C34_4 (iterK (fun rec s'=>denC E D W N (C34_3 C34_4) s' (kX q34a [] [] rec) (b34a E D W N (C34_2 C34_5)) (Fin34 E)) n) a b c d σ).trans ?_
  simp only[ihn,JE34_2,JE34_4]
  kernel_rfl
def J34_1:=T34_1 E D W (L34_3 E D W N N)
theorem JE34_1 (a b c d:Nat) (σ:H) :
 denC E D W N (C34_1 (C34_2 C34_5) (C34_3 C34_4)) (S34_1 a b c d σ) (Fin34 E) nX (Fin34 E)=J34_1 E D W N a b c d σ:=by
 refine(P34_1 E D W N (C34_2 C34_5) (C34_3 C34_4)  a b c d σ).trans ?_
 simp only[LE34_3]
 kernel_rfl
def J34_0:=T34_0 E D W (J34_1 E D W N )
theorem JE34_0 (a:BS) (σ:H) :
 denC E D W N (C34_0 (C34_1 (C34_2 C34_5) (C34_3 C34_4))) (S34_0 a σ) (Fin34 E) nX (Fin34 E)=J34_0 E D W N a σ:=by
 refine(P34_0 E D W N (C34_1 (C34_2 C34_5) (C34_3 C34_4))  a σ).trans ?_
 simp only[JE34_1]
 kernel_rfl
def F34 (args:List V) (σ:H):Ans:=
 xcS args fun x3 l2=>
 rtNil l2 (
 J34_0 E D W N x3 σ)
def A34:XFn:=⟨153,[.str],[(.cell 2 (some 5)),(.tmp 3),(.tmp 4)],(C34_0 (C34_1 (C34_2 C34_5) (C34_3 C34_4)))⟩
theorem FE34 (args:List V) (σ:H):runX E D W N A34 args σ=F34 E D W N args σ:=by
 unfold F34
 simp only[←JE34_0]
 kernel_rfl
def q35a:List (Nat × XTy):=[(1,.ptr),(2,.ptr),(8,.ptr),(9,.ptr),(10,.i)]
def q35b:List (Nat × XTy):=[(2,.ptr),(8,.ptr),(9,.ptr)]
def G35_0:List AOper:=[⟨(some 25),.faddr 0 (.tmp 1),none⟩,⟨(some 26),.load none (.tmp 25),none⟩,⟨(some 27),.faddr 2 (.tmp 1),none⟩,⟨(some 28),.load none (.tmp 27),none⟩,⟨(some 29),.append 9 1 16 (.con V.nils) (.tmp 28),none⟩,⟨(some 30),.build [(V.str ⟨0,0⟩),V.nils,V.nils,V.nils] [(0,1,(.tmp 26)),(1,1,(.tmp 29))],none⟩,⟨(some 9),.alloc 30 [(V.str ⟨0,0⟩),V.nils,V.nils,V.nils],none⟩,⟨none,.store 4 (.tmp 9) (.tmp 30),none⟩]
def H35_0:List DP:=[⟨0,[1]⟩,⟨1,[25]⟩,⟨0,[1]⟩,⟨4,[27]⟩,⟨12,[28]⟩,⟨31,[26,29]⟩,⟨0,[]⟩,⟨127,[9,30]⟩]
def G35_1:List AOper:=[⟨(some 38),.faddr 2 (.tmp 9),none⟩,⟨(some 39),.load none (.tmp 38),none⟩,⟨(some 40),.mov (.tmp 8),none⟩,⟨(some 41),.faddr 3 (.tmp 1),none⟩,⟨(some 42),.load none (.tmp 41),none⟩,⟨(some 43),.mov (.tmp 10),none⟩,⟨(some 44),.iaddrS 1 (.tmp 42) (.tmp 43),none⟩,⟨(some 45),.load none (.tmp 44),none⟩,⟨(some 46),.call 64 [(.tmp 40),(.tmp 45),(.con (V.int .i64 (Int.ofNat 0)))],none⟩,⟨(some 47),.buildSlice 3 1 [(V.int .i64 (Int.ofNat 0))] [(0,1,(.tmp 46))],none⟩,⟨(some 48),.append 3 1 8 (.tmp 39) (.tmp 47),none⟩,⟨(some 49),.faddr 2 (.tmp 9),none⟩,⟨none,.store 1 (.tmp 49) (.tmp 48),none⟩]
def H35_1:List DP:=[⟨0,[9]⟩,⟨1,[38]⟩,⟨0,[8]⟩,⟨0,[1]⟩,⟨8,[41]⟩,⟨0,[10]⟩,⟨56,[42,43]⟩,⟨120,[44]⟩,⟨252,[40,45]⟩,⟨508,[46]⟩,⟨1023,[39,47]⟩,⟨2047,[9]⟩,⟨4095,[49,48]⟩]
def G35_2:List AOper:=[⟨(some 55),.build [(V.str ⟨0,0⟩),V.nils,V.nils,V.nils] [],none⟩,⟨(some 56),.mov (.tmp 10),none⟩,⟨(some 57),.mov (.tmp 8),none⟩,⟨(some 58),.nilck (.tmp 57),none⟩,⟨(some 59),.faddr 6 (.tmp 58),none⟩,⟨(some 60),.load none (.tmp 59),none⟩,⟨none,.store 4 (.tmp 2) (.tmp 55),none⟩,⟨(some 3),.mov (.tmp 56),none⟩,⟨(some 4),.mov (.tmp 60),none⟩]
def H35_2:List DP:=[⟨0,[]⟩,⟨0,[10]⟩,⟨0,[8]⟩,⟨4,[57]⟩,⟨12,[58]⟩,⟨28,[59]⟩,⟨1,[2,55]⟩,⟨67,[56]⟩,⟨255,[60]⟩]
def Fin35 (E:List (Nat × Blk)):St→Ans:=fun s=>resK E s [(.cell 2 (some 4)),(.tmp 3),(.tmp 4)] fun l=>some (oneV l,s.σ)
def b35a (c0:XC):Nat→St→Ans:=blkK 0 (dX E D W N (.keep q35b [] [] c0) (Fin35 E) nX (Fin35 E)) nX
def C35_0 (cc1:XC) (cc2:XC):XC:=(.z (.P 1 (.box 76 (.t 0))<|
.p 2 [] y35<|
.q 3 0<|
.q 4 0<|
.nil)
 (.z (.O 12 y10 (.load (some 5) (.t 1))<|
.k 13 (.tup y30) 63 [(.t 12)]<|
.m 11 13<|
.P 14 (.extract 0 (.t 11))<|
.P 15 (.extract 1 (.t 11))<|
.P 16 (.extract 2 (.t 11))<|
.m 5 14<|
.m 6 15<|
.m 7 16<|
.nil)
 (.seq (.z (.m 17 7<|
.b 18 .neq .none (.t 17) (.i 0)<|
.nil)
 (.cond (.tmp 18) (.z (.op (some 19) y6 [] (.build [y7,V.nils,V.nils,V.nils] [])<|
.m 20 6<|
.m 21 7<|
.op none y6 [2,19] (.store 4 (.t 2) (.t 19))<|
.m 3 20<|
.m 4 21<|
.nil)
 .ret)
 .skip))
 (.z (.O 22 y10 (.load (some 5) (.t 1))<|
.op (some 23) (.agg [.str,.i,.any,.any,.any,.any,.i]) [22] (.build [y7,y0,V.nils,V.nils,V.nils,V.nils,y0] [(0,5,(.t 22))])<|
.P 24 (.box 129 (.t 23))<|
.m 8 24<|
.nil)
 (.seq (.keep [(1,.ptr),(2,.ptr),(8,.ptr)] [] [] (.gdraw G35_0 H35_0 [(1,.ptr),(2,.ptr),(8,.ptr),(9,.ptr)]))
 (.seq (.z (.q 10 0<|
.nil)
 (.block 0 (.loop q35a [] [] cc2)))
 (.keep q35b [] [] cc1)))))))
def T35_0 (K2:Nat→Nat→Nat→Nat→Nat→Nat→Nat→Nat→Int→H→Ans) (a:BS) (b:Int) (c d e:V) (σ:H):Ans:=
 nbK [(V.str a),(V.int .i64 b),c,d,e] σ fun s1=>
 let s2:=newB s1 (.cells [(V.str ⟨0,0⟩),V.nils,V.nils,V.nils]);
 ldnK E s2 (H.next σ) 0 5 fun l3=>
 xcS l3 fun x6 l5=>
 xcI .i64 l5 fun x9 l8=>
 rtCons l8 fun x10 l11=>
 rtCons l11 fun x12 l13=>
 rtCons l13 fun x14 l15=>
 rtNil l15 (
 callK (D 63 [(V.agg [(V.str x6),(V.int .i64 x9),x10,x12,x14])] s2) fun u16 s17=>
 rtTup u16 fun l18=>
 rtCons l18 fun x19 l20=>
 xcI .i64 l20 fun x23 l22=>
 xcI .i64 l22 fun x26 l25=>
 rtNil l25 (
 condK (not (eqF x26 (Int.ofNat 0))) (
 stK 4 (H.next s1) 0 (V.agg [(V.str (BS.mk 0 0)),V.nils,V.nils,V.nils]) s17 fun s27=>
 ldnK E s27 (H.next s1) 0 4 fun u28=>
 some ((V.tup [(V.agg u28),(V.int .i64 x23),(V.int .i64 x26)]),s27)) (
 ldnK E s17 (H.next σ) 0 5 fun l29=>
 xcS l29 fun x32 l31=>
 xcI .i64 l31 fun x35 l34=>
 rtCons l34 fun x36 l37=>
 rtCons l37 fun x38 l39=>
 rtCons l39 fun x40 l41=>
 rtNil l41 (
 nbK [(V.str x32),(V.int .i64 x35),x36,x38,x40,V.nils,(V.int .i64 (Int.ofNat 0))] s17 fun s42=>
 gdrawK (W G35_0 H35_0 [(1,(V.ptr (H.next σ) 0)),(2,(V.ptr (H.next s1) 0)),(8,(V.ptr (H.next s17) 0))] s42) fun e43 s44=>
 getL e43 1 fun u45=>
 rtPtr u45 fun b46 o47=>
 getL e43 2 fun u48=>
 rtPtr u48 fun b49 o50=>
 getL e43 8 fun u51=>
 rtPtr u51 fun b52 o53=>
 getL e43 9 fun u54=>
 rtPtr u54 fun b55 o56=>
 K2 b46 o47 b49 o50 b52 o53 b55 o56 (Int.ofNat 0) s44))))
def C35_1:XC:=(.z (.m 61 8<|
.n 62 61<|
.f 63 5 62<|
.l 64 .any 63<|
.f 65 3 9<|
.w 1 65 64<|
.nil)
 (.z (.O 66 y6 (.load (some 4) (.t 9))<|
.op none y6 [2,66] (.store 4 (.t 2) (.t 66))<|
.q 3 0<|
.q 4 0<|
.nil)
 .ret))
def T35_1 (E:List (Nat × Blk)) (D:Den) (W:DrawFn) (a b c d e f:Nat) (σ:H):Ans:=
 ldK E σ c (Nat.add d 5) fun u1=>
 stK 1 e (Nat.add f 3) u1 σ fun s2=>
 ldnK E s2 e f 4 fun l3=>
 xcS l3 fun x6 l5=>
 rtCons l5 fun x7 l8=>
 rtCons l8 fun x9 l10=>
 rtCons l10 fun x11 l12=>
 rtNil l12 (
 stK 4 a b (V.agg [(V.str x6),x7,x9,x11]) s2 fun s13=>
 ldnK E s13 a b 4 fun u14=>
 some ((V.tup [(V.agg u14),(V.int .i64 (Int.ofNat 0)),(V.int .i64 (Int.ofNat 0))]),s13))
def C35_2:XC:=(.seq (.z (.m 31 10<|
.f 32 2 1<|
.l 33 .any 32<|
.u 34 33<|
.b 35 .lss .none (.t 31) (.t 34)<|
.nil)
 (.cond (.tmp 35) .skip
 y36))
 (.seq (.block 1 (.seq (.keep q35a [] [] (.gdraw G35_1 H35_1 q35a))
 (.z (.m 50 8<|
.n 51 50<|
.f 52 6 51<|
.l 53 .i 52<|
.b 54 .neq .none (.t 53) (.i 0)<|
.nil)
 (.cond (.tmp 54) (.seq (.keep [(2,.ptr),(8,.ptr),(10,.i)] [] [] (.gdraw G35_2 H35_2 [(2,.ptr),(3,.i),(4,.i)]))
 .ret)
 .skip))))
 (.ops (.m 36 10<|
.b 37 .add .none (.t 36) (.i 1)<|
.m 10 37<|
.nil))))
def T35_2 (E:List (Nat × Blk)) (D:Den) (W:DrawFn) (K1:Nat→Nat→Nat→Nat→Nat→Nat→H→Ans) (R2:Nat→Nat→Nat→Nat→Nat→Nat→Nat→Nat→Int→H→Ans) (a b c d e f g h:Nat) (i:Int) (σ:H):Ans:=
 ldK E σ a (Nat.add b 2) fun u1=>
 slenK u1 fun n2=>
 condK (ltF i (Int.ofNat n2)) (
 gdrawK (W G35_1 H35_1 [(1,(V.ptr a b)),(2,(V.ptr c d)),(8,(V.ptr e f)),(9,(V.ptr g h)),(10,(V.int .i64 i))] σ) fun e3 s4=>
 getL e3 1 fun u5=>
 rtPtr u5 fun b6 o7=>
 getL e3 2 fun u8=>
 rtPtr u8 fun b9 o10=>
 getL e3 8 fun u11=>
 rtPtr u11 fun b12 o13=>
 getL e3 9 fun u14=>
 rtPtr u14 fun b15 o16=>
 getL e3 10 fun u17=>
 rtInt .i64 u17 fun x18=>
 ldK E s4 b12 (Nat.add o13 6) fun u19=>
 rtInt .i64 u19 fun x20=>
 condK (not (eqF x20 (Int.ofNat 0))) (
 gdrawK (W G35_2 H35_2 [(2,(V.ptr b9 o10)),(8,(V.ptr b12 o13)),(10,(V.int .i64 x18))] s4) fun e21 s22=>
 getL e21 2 fun u23=>
 rtPtr u23 fun b24 o25=>
 getL e21 3 fun u26=>
 rtInt .i64 u26 fun x27=>
 getL e21 4 fun u28=>
 rtInt .i64 u28 fun x29=>
 ldnK E s22 b24 o25 4 fun u30=>
 some ((V.tup [(V.agg u30),(V.int .i64 x27),(V.int .i64 x29)]),s22)) (
 R2 b6 o7 b9 o10 b12 o13 b15 o16 (addF .i64 x18 (Int.ofNat 1)) s4)) (
 K1 c d e f g h σ)
def S35_0 (a:BS) (b:Int) (c d e:V) (σ:H):St:=⟨[(0,(V.agg [(V.str a),(V.int .i64 b),c,d,e]))],[],[],σ⟩
def S35_1 (a b c d e f:Nat) (σ:H):St:=⟨[(2,(V.ptr a b)),(8,(V.ptr c d)),(9,(V.ptr e f))],[],[],σ⟩
def S35_2 (a b c d e f g h:Nat) (i:Int) (σ:H):St:=⟨[(1,(V.ptr a b)),(2,(V.ptr c d)),(8,(V.ptr e f)),(9,(V.ptr g h)),(10,(V.int .i64 i))],[],[],σ⟩
theorem P35_0 (cc1:XC) (cc2:XC) (a:BS) (b:Int) (c d e:V) (σ:H) :
 denC E D W N (C35_0 cc1 cc2) (S35_0 a b c d e σ) (Fin35 E) nX (Fin35 E) =
 T35_0 E D W (fun f g h i j k l m o σ=>iterK (fun rec s'=>denC E D W N cc2 s' (kX q35a [] [] rec) (b35a E D W N cc1) (Fin35 E)) N (S35_2 f g h i j k l m o σ)) a b c d e σ:=by kernel_rfl
theorem P35_2 (cc1:XC) (li2:St→Ans) (a b c d e f g h:Nat) (i:Int) (σ:H) :
 denC E D W N (C35_2 ) (S35_2 a b c d e f g h i σ) (kX q35a [] [] li2) (b35a E D W N cc1) (Fin35 E) =
 T35_2 E D W (fun c d e f g h σ=>denC E D W N cc1 (S35_1 c d e f g h σ) (Fin35 E) nX (Fin35 E)) (fun a b c d e f g h i σ=>li2 (S35_2 a b c d e f g h i σ)) a b c d e f g h i σ:=by kernel_rfl
def J35_1 (E:List (Nat × Blk)) (D:Den) (W:DrawFn) (N:Nat):=T35_1 E D W
theorem JE35_1 (a b c d e f:Nat) (σ:H) :
 denC E D W N C35_1 (S35_1 a b c d e f σ) (Fin35 E) nX (Fin35 E)=J35_1 E D W N a b c d e f σ:=by kernel_rfl
def L35_2 (n:Nat):Nat→Nat→Nat→Nat→Nat→Nat→Nat→Nat→Int→H→Ans:=
 Nat.rec (fun _ _ _ _ _ _ _ _ _ _=>none) (fun _ ih=>T35_2 E D W (J35_1 E D W N ) ih) n
theorem LE35_2 (n:Nat):∀(a b c d e f g h:Nat) (i:Int) (σ:H),
 iterK (fun rec s'=>denC E D W N C35_2 s' (kX q35a [] [] rec) (b35a E D W N C35_1) (Fin35 E)) n (S35_2 a b c d e f g h i σ)=L35_2 E D W N n a b c d e f g h i σ:=by
 induction n with
 | zero=>intro a b c d e f g h i σ;rfl
 | succ n ihn=>
  intro a b c d e f g h i σ
  rw[iterK_succ]
  refine(P35_2 E D W N C35_1 (iterK (fun rec s'=>denC E D W N C35_2 s' (kX q35a [] [] rec) (b35a E D W N C35_1) (Fin35 E)) n) a b c d e f g h i σ).trans ?_
  simp only[ihn,JE35_1]
  kernel_rfl
def J35_0:=T35_0 E D W (L35_2 E D W N N)
theorem JE35_0 (a:BS) (b:Int) (c d e:V) (σ:H) :
 denC E D W N (C35_0 C35_1 C35_2) (S35_0 a b c d e σ) (Fin35 E) nX (Fin35 E)=J35_0 E D W N a b c d e σ:=by
 refine(P35_0 E D W N C35_1 C35_2  a b c d e σ).trans ?_
 simp only[LE35_2]
 kernel_rfl
def F35 (args:List V) (σ:H):Ans:=
 rtCons args fun x1 l2=>
 rtAgg x1 fun l3=>
 xcS l3 fun x6 l5=>
 xcI .i64 l5 fun x9 l8=>
 rtCons l8 fun x10 l11=>
 rtCons l11 fun x12 l13=>
 rtCons l13 fun x14 l15=>
 rtNil l15 (
 rtNil l2 (
 J35_0 E D W N x6 x9 x10 x12 x14 σ))
def A35:XFn:=⟨67,[y10],[(.cell 2 (some 4)),(.tmp 3),(.tmp 4)],(C35_0 C35_1 C35_2)⟩
theorem FE35 (args:List V) (σ:H):runX E D W N A35 args σ=F35 E D W N args σ:=by
 unfold F35
 simp only[←JE35_0]
 kernel_rfl
def Fin37 (E:List (Nat × Blk)):St→Ans:=fun s=>resK E s [(.tmp 2)] fun l=>some (oneV l,s.σ)
def C37_0:XC:=(.z (.P 1 (.box 30 (.t 0))<|
.c 2 y2<|
.nil)
 (.z (.f 3 3 1<|
.l 4 .any 3<|
.k 5 .bool 67 [(.t 4),(.con (V.fn 68 [] []))]<|
.P 6 (.un .not (.t 5))<|
.m 2 6<|
.nil)
 .ret))
def T37_0 (E:List (Nat × Blk)) (D:Den) (W:DrawFn) (a:BS) (b c d:V) (σ:H):Ans:=
 nbK [(V.str a),b,c,d] σ fun s1=>
 ldK E s1 (H.next σ) 3 fun u2=>
 callK (D 67 [u2,(V.fn 68 [] [])] s1) fun u3 s4=>
 rtBool u3 fun x5=>
 some ((V.bool (not x5)),s4)
def S37_0 (a:BS) (b c d:V) (σ:H):St:=⟨[(0,(V.agg [(V.str a),b,c,d]))],[],[],σ⟩
def J37_0 (E:List (Nat × Blk)) (D:Den) (W:DrawFn) (N:Nat):=T37_0 E D W
theorem JE37_0 (a:BS) (b c d:V) (σ:H) :
 denC E D W N C37_0 (S37_0 a b c d σ) (Fin37 E) nX (Fin37 E)=J37_0 E D W N a b c d σ:=by kernel_rfl
def F37 (args:List V) (σ:H):Ans:=
 rtCons args fun x1 l2=>
 rtAgg x1 fun l3=>
 xcS l3 fun x6 l5=>
 rtCons l5 fun x7 l8=>
 rtCons l8 fun x9 l10=>
 rtCons l10 fun x11 l12=>
 rtNil l12 (
 rtNil l2 (
 J37_0 E D W N x6 x7 x9 x11 σ))
def A37:XFn:=⟨7,[y6],[(.tmp 2)],C37_0⟩
theorem FE37 (args:List V) (σ:H):runX E D W N A37 args σ=F37 E D W N args σ:=by
 unfold F37
 simp only[←JE37_0]
 kernel_rfl
def Fin41 (E:List (Nat × Blk)):St→Ans:=fun s=>resK E s [] fun l=>some (oneV l,s.σ)
def C41_0:XC:=(.z (.m 4 1<|
.b 5 .neq .none (.t 4) (.i 0)<|
.nil)
 (.cond (.tmp 5) (.ops (.m 6 0<|
.m 7 0<|
.n 8 7<|
.f 9 0 8<|
.l 10 .any 9<|
.p 11 [] (.buildSlice 5 1 [y16] [(0,1,(.con (V.int .u8 (Int.ofNat 1))))])<|
.O 12 .one (.append 5 1 1 (.t 10) (.t 11))<|
.n 13 6<|
.f 14 0 13<|
.w 1 14 12<|
.nil))
 (.ops (.m 15 0<|
.m 16 0<|
.n 17 16<|
.f 18 0 17<|
.l 19 .any 18<|
.p 20 [] y29<|
.O 21 .one (.append 5 1 1 (.t 19) (.t 20))<|
.n 22 15<|
.f 23 0 22<|
.w 1 23 21<|
.nil))))
def T41_0 (E:List (Nat × Blk)) (D:Den) (W:DrawFn) (a b:Nat) (c:Int) (σ:H):Ans:=
 condK (not (eqF c (Int.ofNat 0))) (
 ldK E σ a b fun u1=>
 let s2:=newB σ (.cells [(V.int .u8 (Int.ofNat 1))]);
 appK E 1 1 u1 (V.sl (H.next σ) 0 1 (.ex 1)) s2 fun u3 s4=>
 rtOne u3 (
 stK 1 a b u3 s4 fun s5=>
 some ((V.tup []),s5))) (
 ldK E σ a b fun u6=>
 let s7:=newB σ (.cells [(V.int .u8 (Int.ofNat 0))]);
 appK E 1 1 u6 (V.sl (H.next σ) 0 1 (.ex 1)) s7 fun u8 s9=>
 rtOne u8 (
 stK 1 a b u8 s9 fun s10=>
 some ((V.tup []),s10)))
def S41_0 (a b:Nat) (c:Int) (σ:H):St:=⟨[(0,(V.ptr a b)),(1,(V.int .i64 c))],[],[],σ⟩
def J41_0 (E:List (Nat × Blk)) (D:Den) (W:DrawFn) (N:Nat):=T41_0 E D W
theorem JE41_0 (a b:Nat) (c:Int) (σ:H) :
 denC E D W N C41_0 (S41_0 a b c σ) (Fin41 E) nX (Fin41 E)=J41_0 E D W N a b c σ:=by kernel_rfl
def F41 (args:List V) (σ:H):Ans:=
 rtCons args fun x1 l2=>
 rtPtr x1 fun b3 o4=>
 xcI .i64 l2 fun x7 l6=>
 rtNil l6 (
 J41_0 E D W N b3 o4 x7 σ)
def A41:XFn:=⟨24,[.ptr,.i],[],C41_0⟩
theorem FE41 (args:List V) (σ:H):runX E D W N A41 args σ=F41 E D W N args σ:=by
 unfold F41
 simp only[←JE41_0]
 kernel_rfl
def q45a:List (Nat × XTy):=[(0,.ptr),(3,.any),(4,.i)]
def Fin45 (E:List (Nat × Blk)):St→Ans:=fun s=>resK E s [(.tmp 2)] fun l=>some (oneV l,s.σ)
def b45a (c0:XC):Nat→St→Ans:=blkK 0 (dX E D W N (.keep [(3,.any)] [] [] c0) (Fin45 E) nX (Fin45 E)) nX
def b45b (c0 c1:XC) (l0:St→Ans):St→Ans:=dX E D W N (.keep q45a [] [] c0) (kX q45a [] [] l0) (b45a E D W N c1) (Fin45 E)
def C45_0 (cc1:XC) (cc2:XC):XC:=(.z (.c 2 V.nils<|
.nil)
 (.z (.c 3 V.nils<|
.nil)
 (.seq (.z (.q 4 0<|
.nil)
 (.block 0 (.loop q45a [] [] cc2)))
 (.keep [(3,.any)] [] [] cc1))))
def T45_0 (E:List (Nat × Blk)) (D:Den) (W:DrawFn) (K2:Nat→Nat→V→Int→H→Ans) (a b:Nat) (σ:H):Ans:=
 K2 a b V.nils (Int.ofNat 0) σ
def C45_1:XC:=(.z (.m 42 3<|
.m 2 42<|
.nil)
 .ret)
def T45_1 (E:List (Nat × Blk)) (D:Den) (W:DrawFn) (a:V) (σ:H):Ans:=
 some (a,σ)
def C45_2 (cc3:XC) (cc4:XC):XC:=(.seq (.z (.m 5 4<|
.m 6 0<|
.n 7 6<|
.f 8 0 7<|
.l 9 .any 8<|
.u 10 9<|
.b 11 .lss .none (.t 5) (.t 10)<|
.nil)
 (.cond (.tmp 11) .skip
 y36))
 (.seq (.block 1 (.seq (.z (.m 14 4<|
.b 15 .rem .none (.t 14) (.i 8)<|
.b 16 .eql .none (.t 15) (.i 0)<|
.nil)
 (.cond (.tmp 16) (.ops (.m 17 3<|
.p 18 [] y29<|
.O 19 .one (.append 5 1 1 (.t 17) (.t 18))<|
.m 3 19<|
.nil))
 .skip))
 (.keep q45a [] [] cc4)))
 (.keep q45a [] [] cc3)))
def T45_2 (E:List (Nat × Blk)) (D:Den) (W:DrawFn) (K1:V→H→Ans) (K4:Nat→Nat→V→Int→H→Ans) (a b:Nat) (c:V) (d:Int) (σ:H):Ans:=
 ldK E σ a b fun u1=>
 slenK u1 fun n2=>
 condK (ltF d (Int.ofNat n2)) (
 condK (eqF (Int.tmod d (Int.ofNat 8)) (Int.ofNat 0)) (
 let s3:=newB σ (.cells [(V.int .u8 (Int.ofNat 0))]);
 appK E 1 1 c (V.sl (H.next σ) 0 1 (.ex 1)) s3 fun u4 s5=>
 rtOne u4 (
 K4 a b u4 d s5)) (
 K4 a b c d σ)) (
 K1 c σ)
def C45_3:XC:=(.ops (.m 12 4<|
.b 13 .add .none (.t 12) (.i 1)<|
.m 4 13<|
.nil))
def T45_3 (E:List (Nat × Blk)) (D:Den) (W:DrawFn) (R2:Nat→Nat→V→Int→H→Ans) (a b:Nat) (c:V) (d:Int) (σ:H):Ans:=
 R2 a b c (addF .i64 d (Int.ofNat 1)) σ
def C45_4:XC:=(.draw (.m 20 3<|
.m 21 4<|
.b 22 .quo .none (.t 21) (.i 8)<|
.m 23 3<|
.m 24 4<|
.b 25 .quo .none (.t 24) (.i 8)<|
.s 26 1 23 25<|
.l 27 (.int .u8) 26<|
.m 28 0<|
.n 29 28<|
.f 30 0 29<|
.l 31 .any 30<|
.m 32 4<|
.s 33 1 31 32<|
.l 34 (.int .u8) 33<|
.m 35 4<|
.b 36 .rem .none (.t 35) (.i 8)<|
.b 37 .sub .none (.i 7) (.t 36)<|
.P 38 (.conv (.toInt .u64) (.t 37))<|
.b 39 .shl .none (.t 34) (.t 38)<|
.b 40 .or .none (.t 27) (.t 39)<|
.s 41 1 20 22<|
.w 1 41 40<|
.nil) [0,0,2,0,0,16,56,120,0,256,768,1792,0,7936,16128,0,32768,98304,229376,524032,1048568,2097151,4194303])
def T45_4 (E:List (Nat × Blk)) (D:Den) (W:DrawFn) (K3:Nat→Nat→V→Int→H→Ans) (a b:Nat) (c:V) (d:Int) (σ:H):Ans:=
 iaddrSK 1 c (quoF .i64 d (Int.ofNat 8)) fun b1 o2=>
 ldK E σ b1 o2 fun u3=>
 rtInt .u8 u3 fun x4=>
 ldK E σ a b fun u5=>
 iaddrSK 1 u5 d fun b6 o7=>
 ldK E σ b6 o7 fun u8=>
 rtInt .u8 u8 fun x9=>
 nnK (wrapF .u64 (subF .i64 (Int.ofNat 7) (Int.tmod d (Int.ofNat 8)))) fun n10=>
 iaddrSK 1 c (quoF .i64 d (Int.ofNat 8)) fun b11 o12=>
 stK 1 b11 o12 (V.int .u8 (orF .u8 x4 (shlF .u8 x9 n10))) σ fun s13=>
 K3 a b c d s13
def S45_0 (a b:Nat) (σ:H):St:=⟨[(0,(V.ptr a b))],[],[],σ⟩
def S45_1 (a:V) (σ:H):St:=⟨[(3,a)],[],[],σ⟩
def S45_2 (a b:Nat) (c:V) (d:Int) (σ:H):St:=⟨[(0,(V.ptr a b)),(3,c),(4,(V.int .i64 d))],[],[],σ⟩
theorem P45_0 (cc1:XC) (cc2:XC) (a b:Nat) (σ:H) :
 denC E D W N (C45_0 cc1 cc2) (S45_0 a b σ) (Fin45 E) nX (Fin45 E) =
 T45_0 E D W (fun a b c d σ=>iterK (fun rec s'=>denC E D W N cc2 s' (kX q45a [] [] rec) (b45a E D W N cc1) (Fin45 E)) N (S45_2 a b c d σ)) a b σ:=by kernel_rfl
theorem P45_2 (cc1:XC) (cc3:XC) (cc4:XC) (li2:St→Ans) (a b:Nat) (c:V) (d:Int) (σ:H) :
 denC E D W N (C45_2 cc3 cc4) (S45_2 a b c d σ) (kX q45a [] [] li2) (b45a E D W N cc1) (Fin45 E) =
 T45_2 E D W (fun c σ=>denC E D W N cc1 (S45_1 c σ) (Fin45 E) nX (Fin45 E)) (fun a b c d σ=>denC E D W N cc4 (S45_2 a b c d σ) (b45b E D W N cc3 cc1 li2) (blkK 1 (b45b E D W N cc3 cc1 li2) (b45a E D W N cc1)) (Fin45 E)) a b c d σ:=by kernel_rfl
theorem P45_3 (cc1:XC) (li2:St→Ans) (a b:Nat) (c:V) (d:Int) (σ:H) :
 denC E D W N (C45_3 ) (S45_2 a b c d σ) (kX q45a [] [] li2) (b45a E D W N cc1) (Fin45 E) =
 T45_3 E D W (fun a b c d σ=>li2 (S45_2 a b c d σ)) a b c d σ:=by kernel_rfl
theorem P45_4 (cc1:XC) (cc3:XC) (li2:St→Ans) (a b:Nat) (c:V) (d:Int) (σ:H) :
 denC E D W N (C45_4 ) (S45_2 a b c d σ) (b45b E D W N cc3 cc1 li2) (blkK 1 (b45b E D W N cc3 cc1 li2) (b45a E D W N cc1)) (Fin45 E) =
 T45_4 E D W (fun a b c d σ=>denC E D W N cc3 (S45_2 a b c d σ) (kX q45a [] [] li2) (b45a E D W N cc1) (Fin45 E)) a b c d σ:=by kernel_rfl
def J45_1 (E:List (Nat × Blk)) (D:Den) (W:DrawFn) (N:Nat):=T45_1 E D W
theorem JE45_1 (a:V) (σ:H) :
 denC E D W N C45_1 (S45_1 a σ) (Fin45 E) nX (Fin45 E)=J45_1 E D W N a σ:=by kernel_rfl
def J45_3 (E:List (Nat × Blk)) (D:Den) (W:DrawFn) (N:Nat) (R2:Nat→Nat→V→Int→H→Ans):=T45_3 E D W R2
theorem JE45_3 (li2:St→Ans) (a b:Nat) (c:V) (d:Int) (σ:H) :
 denC E D W N C45_3 (S45_2 a b c d σ) (kX q45a [] [] li2) (b45a E D W N C45_1) (Fin45 E)=J45_3 E D W N (fun a b c d σ=>li2 (S45_2 a b c d σ)) a b c d σ:=by
 refine(P45_3 E D W N C45_1 li2 a b c d σ).trans ?_
 kernel_rfl
def J45_4 (R2:Nat→Nat→V→Int→H→Ans):=T45_4 E D W (J45_3 E D W N R2)
theorem JE45_4 (li2:St→Ans) (a b:Nat) (c:V) (d:Int) (σ:H) :
 denC E D W N C45_4 (S45_2 a b c d σ) (b45b E D W N C45_3 C45_1 li2) (blkK 1 (b45b E D W N C45_3 C45_1 li2) (b45a E D W N C45_1)) (Fin45 E)=J45_4 E D W N (fun a b c d σ=>li2 (S45_2 a b c d σ)) a b c d σ:=by
 refine(P45_4 E D W N C45_1 C45_3 li2 a b c d σ).trans ?_
 simp only[JE45_3]
 kernel_rfl
def L45_2 (n:Nat):Nat→Nat→V→Int→H→Ans:=
 Nat.rec (fun _ _ _ _ _=>none) (fun _ ih=>T45_2 E D W (J45_1 E D W N ) (J45_4 E D W N ih)) n
theorem LE45_2 (n:Nat):∀(a b:Nat) (c:V) (d:Int) (σ:H),
 iterK (fun rec s'=>denC E D W N (C45_2 C45_3 C45_4) s' (kX q45a [] [] rec) (b45a E D W N C45_1) (Fin45 E)) n (S45_2 a b c d σ)=L45_2 E D W N n a b c d σ:=by
 induction n with
 | zero=>intro a b c d σ;rfl
 | succ n ihn=>
  intro a b c d σ
  rw[iterK_succ]
  refine(P45_2 E D W N C45_1 C45_3 C45_4 (iterK (fun rec s'=>denC E D W N (C45_2 C45_3 C45_4) s' (kX q45a [] [] rec) (b45a E D W N C45_1) (Fin45 E)) n) a b c d σ).trans ?_
  simp only[ihn,JE45_1,JE45_4]
  kernel_rfl
def J45_0:=T45_0 E D W (L45_2 E D W N N)
theorem JE45_0 (a b:Nat) (σ:H) :
 denC E D W N (C45_0 C45_1 (C45_2 C45_3 C45_4)) (S45_0 a b σ) (Fin45 E) nX (Fin45 E)=J45_0 E D W N a b σ:=by
 refine(P45_0 E D W N C45_1 (C45_2 C45_3 C45_4)  a b σ).trans ?_
 simp only[LE45_2]
 kernel_rfl
def F45 (args:List V) (σ:H):Ans:=
 rtCons args fun x1 l2=>
 rtPtr x1 fun b3 o4=>
 rtNil l2 (
 J45_0 E D W N b3 o4 σ)
def A45:XFn:=⟨43,[.ptr],[(.tmp 2)],(C45_0 C45_1 (C45_2 C45_3 C45_4))⟩
theorem FE45 (args:List V) (σ:H):runX E D W N A45 args σ=F45 E D W N args σ:=by
 unfold F45
 simp only[←JE45_0]
 kernel_rfl
def Fin46 (E:List (Nat × Blk)):St→Ans:=fun s=>resK E s [(.tmp 6)] fun l=>some (oneV l,s.σ)
def C46_0:XC:=(.z (.P 3 (.box 30 (.t 0))<|
.P 5 (.box 38 (.t 2))<|
.c 6 y2<|
.nil)
 (.z (.O 7 y1 (.load (some 6) (.t 5))<|
.k 8 .i 88 [(.t 7)]<|
.b 9 .leq .none (.t 8) (.i 5000)<|
.m 10 9<|
.gA 10 true (.op (some 11) y6 [3,10] (.load (some 4) (.t 3))<|
.p 12 [1,10] y15<|
.op (some 13) y1 [5,10] (.load (some 6) (.t 5))<|
.op (some 14) .bool [11,12,13,10] (.call 89 [(.t 11),(.t 12),(.t 13),(.i 1)])<|
.nil) 15 10 14<|
.m 6 15<|
.nil)
 .ret))
def T46_0 (E:List (Nat × Blk)) (D:Den) (W:DrawFn) (a:BS) (b c d:V) (e f g:Int) (h i:V) (j:Int) (k:V) (σ:H):Ans:=
 nbK [(V.str a),b,c,d] σ fun s1=>
 nbK [(V.int .i64 f),(V.int .i64 g),h,i,(V.int .i64 j),k] s1 fun s2=>
 ldnK E s2 (H.next s1) 0 6 fun l3=>
 xcI .i64 l3 fun x6 l5=>
 xcI .i64 l5 fun x9 l8=>
 rtCons l8 fun x10 l11=>
 rtCons l11 fun x12 l13=>
 xcI .i64 l13 fun x16 l15=>
 rtCons l15 fun x17 l18=>
 rtNil l18 (
 callK (D 88 [(V.agg [(V.int .i64 x6),(V.int .i64 x9),x10,x12,(V.int .i64 x16),x17])] s2) fun u19 s20=>
 rtInt .i64 u19 fun x21=>
 joinB (fun c22 s23=>
 some ((V.bool c22),s23)) fun k24=>
 condK (leF x21 (Int.ofNat 5000)) (
 ldnK E s20 (H.next σ) 0 4 fun l25=>
 xcS l25 fun x28 l27=>
 rtCons l27 fun x29 l30=>
 rtCons l30 fun x31 l32=>
 rtCons l32 fun x33 l34=>
 rtNil l34 (
 ldnK E s20 (H.next s1) 0 6 fun l35=>
 xcI .i64 l35 fun x38 l37=>
 xcI .i64 l37 fun x41 l40=>
 rtCons l40 fun x42 l43=>
 rtCons l43 fun x44 l45=>
 xcI .i64 l45 fun x48 l47=>
 rtCons l47 fun x49 l50=>
 rtNil l50 (
 callK (D 89 [(V.agg [(V.str x28),x29,x31,x33]),(V.int .i64 e),(V.agg [(V.int .i64 x38),(V.int .i64 x41),x42,x44,(V.int .i64 x48),x49]),(V.int .i64 (Int.ofNat 1))] s20) fun u51 s52=>
 rtBool u51 fun x53=>
 k24 x53 s52))) (
 k24 false s20))
def S46_0 (a:BS) (b c d:V) (e f g:Int) (h i:V) (j:Int) (k:V) (σ:H):St:=⟨[(0,(V.agg [(V.str a),b,c,d])),(1,(V.int .i64 e)),(2,(V.agg [(V.int .i64 f),(V.int .i64 g),h,i,(V.int .i64 j),k]))],[],[],σ⟩
def J46_0 (E:List (Nat × Blk)) (D:Den) (W:DrawFn) (N:Nat):=T46_0 E D W
theorem JE46_0 (a:BS) (b c d:V) (e f g:Int) (h i:V) (j:Int) (k:V) (σ:H) :
 denC E D W N C46_0 (S46_0 a b c d e f g h i j k σ) (Fin46 E) nX (Fin46 E)=J46_0 E D W N a b c d e f g h i j k σ:=by kernel_rfl
def F46 (args:List V) (σ:H):Ans:=
 rtCons args fun x1 l2=>
 rtAgg x1 fun l3=>
 xcS l3 fun x6 l5=>
 rtCons l5 fun x7 l8=>
 rtCons l8 fun x9 l10=>
 rtCons l10 fun x11 l12=>
 rtNil l12 (
 xcI .i64 l2 fun x15 l14=>
 rtCons l14 fun x16 l17=>
 rtAgg x16 fun l18=>
 xcI .i64 l18 fun x21 l20=>
 xcI .i64 l20 fun x24 l23=>
 rtCons l23 fun x25 l26=>
 rtCons l26 fun x27 l28=>
 xcI .i64 l28 fun x31 l30=>
 rtCons l30 fun x32 l33=>
 rtNil l33 (
 rtNil l17 (
 J46_0 E D W N x6 x7 x9 x11 x15 x21 x24 x25 x27 x31 x32 σ)))
def A46:XFn:=⟨16,[y6,.i,y1],[(.tmp 6)],C46_0⟩
theorem FE46 (args:List V) (σ:H):runX E D W N A46 args σ=F46 E D W N args σ:=by
 unfold F46
 simp only[←JE46_0]
 kernel_rfl
def q47a:List (Nat × XTy):=[(1,.i),(2,.ptr),(5,.i)]
def Fin47 (E:List (Nat × Blk)):St→Ans:=fun s=>resK E s [(.tmp 4)] fun l=>some (oneV l,s.σ)
def b47a (c0:XC):Nat→St→Ans:=blkK 0 (dX E D W N (.keep [] [] [] c0) (Fin47 E) nX (Fin47 E)) nX
def C47_0 (cc1:XC) (cc2:XC):XC:=(.z (.P 2 (.box 38 (.t 0))<|
.c 4 y2<|
.nil)
 (.seq (.z (.f 6 4 2<|
.l 7 .i 6<|
.b 8 .neq .none (.t 7) (.i 0)<|
.m 9 8<|
.gA 9 true (.p 10 [2,9] (.faddr 4 (.t 2))<|
.op (some 11) .i [10,9] (.load none (.t 10))<|
.p 12 [1,9] y15<|
.p 13 [11,12,9] (.bin .neq .none (.t 11) (.t 12))<|
.nil) 14 9 13<|
.nil)
 (.cond (.tmp 14) (.z (.c 4 y2<|
.nil)
 .ret)
 .skip))
 (.seq (.z (.q 5 0<|
.nil)
 (.block 0 (.loop q47a [] [] cc2)))
 (.keep [] [] [] cc1))))
def T47_0 (E:List (Nat × Blk)) (D:Den) (W:DrawFn) (K2:Int→Nat→Nat→Int→H→Ans) (a b:Int) (c d:V) (e:Int) (f:V) (g:Int) (σ:H):Ans:=
 nbK [(V.int .i64 a),(V.int .i64 b),c,d,(V.int .i64 e),f] σ fun s1=>
 ldK E s1 (H.next σ) 4 fun u2=>
 rtInt .i64 u2 fun x3=>
 joinB (fun c4 s5=>
 condK c4 (
 some ((V.bool false),s5)) (
 K2 g (H.next σ) 0 (Int.ofNat 0) s5)) fun k6=>
 condK (not (eqF x3 (Int.ofNat 0))) (
 ldK E s1 (H.next σ) 4 fun u7=>
 rtInt .i64 u7 fun x8=>
 k6 (not (eqF x8 g)) s1) (
 k6 false s1)
def C47_1:XC:=(.z (.c 4 y23<|
.nil)
 .ret)
def T47_1 (E:List (Nat × Blk)) (D:Den) (W:DrawFn) (σ:H):Ans:=
 some ((V.bool true),σ)
def C47_2:XC:=(.seq (.z (.m 15 5<|
.f 16 3 2<|
.l 17 .any 16<|
.u 18 17<|
.b 19 .lss .none (.t 15) (.t 18)<|
.nil)
 (.cond (.tmp 19) .skip
 y36))
 (.seq (.block 1 (.z (.f 22 3 2<|
.l 23 .any 22<|
.m 24 5<|
.s 25 6 23 24<|
.O 26 y1 (.load (some 6) (.t 25))<|
.m 27 1<|
.k 28 .bool 47 [(.t 26),(.t 27)]<|
.P 29 (.un .not (.t 28))<|
.nil)
 (.cond (.tmp 29) (.z (.c 4 y2<|
.nil)
 .ret)
 .skip)))
 (.ops (.m 20 5<|
.b 21 .add .none (.t 20) (.i 1)<|
.m 5 21<|
.nil))))
def T47_2 (E:List (Nat × Blk)) (D:Den) (W:DrawFn) (K1:H→Ans) (R2:Int→Nat→Nat→Int→H→Ans) (a:Int) (b c:Nat) (d:Int) (σ:H):Ans:=
 ldK E σ b (Nat.add c 3) fun u1=>
 slenK u1 fun n2=>
 condK (ltF d (Int.ofNat n2)) (
 ldK E σ b (Nat.add c 3) fun u3=>
 iaddrSK 6 u3 d fun b4 o5=>
 ldnK E σ b4 o5 6 fun l6=>
 xcI .i64 l6 fun x9 l8=>
 xcI .i64 l8 fun x12 l11=>
 rtCons l11 fun x13 l14=>
 rtCons l14 fun x15 l16=>
 xcI .i64 l16 fun x19 l18=>
 rtCons l18 fun x20 l21=>
 rtNil l21 (
 callK (D 47 [(V.agg [(V.int .i64 x9),(V.int .i64 x12),x13,x15,(V.int .i64 x19),x20]),(V.int .i64 a)] σ) fun u22 s23=>
 rtBool u22 fun x24=>
 condK (not x24) (
 some ((V.bool false),s23)) (
 R2 a b c (addF .i64 d (Int.ofNat 1)) s23))) (
 K1 σ)
def S47_0 (a b:Int) (c d:V) (e:Int) (f:V) (g:Int) (σ:H):St:=⟨[(0,(V.agg [(V.int .i64 a),(V.int .i64 b),c,d,(V.int .i64 e),f])),(1,(V.int .i64 g))],[],[],σ⟩
def S47_1 (σ:H):St:=⟨[],[],[],σ⟩
def S47_2 (a:Int) (b c:Nat) (d:Int) (σ:H):St:=⟨[(1,(V.int .i64 a)),(2,(V.ptr b c)),(5,(V.int .i64 d))],[],[],σ⟩
theorem P47_0 (cc1:XC) (cc2:XC) (a b:Int) (c d:V) (e:Int) (f:V) (g:Int) (σ:H) :
 denC E D W N (C47_0 cc1 cc2) (S47_0 a b c d e f g σ) (Fin47 E) nX (Fin47 E) =
 T47_0 E D W (fun g h i j σ=>iterK (fun rec s'=>denC E D W N cc2 s' (kX q47a [] [] rec) (b47a E D W N cc1) (Fin47 E)) N (S47_2 g h i j σ)) a b c d e f g σ:=by kernel_rfl
theorem P47_2 (cc1:XC) (li2:St→Ans) (a:Int) (b c:Nat) (d:Int) (σ:H) :
 denC E D W N (C47_2 ) (S47_2 a b c d σ) (kX q47a [] [] li2) (b47a E D W N cc1) (Fin47 E) =
 T47_2 E D W (fun  σ=>denC E D W N cc1 (S47_1 σ) (Fin47 E) nX (Fin47 E)) (fun a b c d σ=>li2 (S47_2 a b c d σ)) a b c d σ:=by kernel_rfl
def J47_1 (E:List (Nat × Blk)) (D:Den) (W:DrawFn) (N:Nat):=T47_1 E D W
theorem JE47_1 (σ:H) :
 denC E D W N C47_1 (S47_1 σ) (Fin47 E) nX (Fin47 E)=J47_1 E D W N  σ:=by kernel_rfl
def L47_2 (n:Nat):Int→Nat→Nat→Int→H→Ans:=
 Nat.rec (fun _ _ _ _ _=>none) (fun _ ih=>T47_2 E D W (J47_1 E D W N ) ih) n
theorem LE47_2 (n:Nat):∀(a:Int) (b c:Nat) (d:Int) (σ:H),
 iterK (fun rec s'=>denC E D W N C47_2 s' (kX q47a [] [] rec) (b47a E D W N C47_1) (Fin47 E)) n (S47_2 a b c d σ)=L47_2 E D W N n a b c d σ:=by
 induction n with
 | zero=>intro a b c d σ;rfl
 | succ n ihn=>
  intro a b c d σ
  rw[iterK_succ]
  refine(P47_2 E D W N C47_1 (iterK (fun rec s'=>denC E D W N C47_2 s' (kX q47a [] [] rec) (b47a E D W N C47_1) (Fin47 E)) n) a b c d σ).trans ?_
  simp only[ihn,JE47_1]
  kernel_rfl
def J47_0:=T47_0 E D W (L47_2 E D W N N)
theorem JE47_0 (a b:Int) (c d:V) (e:Int) (f:V) (g:Int) (σ:H) :
 denC E D W N (C47_0 C47_1 C47_2) (S47_0 a b c d e f g σ) (Fin47 E) nX (Fin47 E)=J47_0 E D W N a b c d e f g σ:=by
 refine(P47_0 E D W N C47_1 C47_2  a b c d e f g σ).trans ?_
 simp only[LE47_2]
 kernel_rfl
def F47 (args:List V) (σ:H):Ans:=
 rtCons args fun x1 l2=>
 rtAgg x1 fun l3=>
 xcI .i64 l3 fun x6 l5=>
 xcI .i64 l5 fun x9 l8=>
 rtCons l8 fun x10 l11=>
 rtCons l11 fun x12 l13=>
 xcI .i64 l13 fun x16 l15=>
 rtCons l15 fun x17 l18=>
 rtNil l18 (
 xcI .i64 l2 fun x21 l20=>
 rtNil l20 (
 J47_0 E D W N x6 x9 x10 x12 x16 x17 x21 σ))
def A47:XFn:=⟨30,[y1,.i],[(.tmp 4)],(C47_0 C47_1 C47_2)⟩
theorem FE47 (args:List V) (σ:H):runX E D W N A47 args σ=F47 E D W N args σ:=by
 unfold F47
 simp only[←JE47_0]
 kernel_rfl
def Fin48 (E:List (Nat × Blk)):St→Ans:=fun s=>resK E s [] fun l=>some (oneV l,s.σ)
def C48_0 (cc1:XC) (cc2:XC):XC:=(.z (.P 5 (.box 30 (.t 1))<|
.P 7 (.box 38 (.t 3))<|
.nil)
 (.z (.f 11 3 5<|
.l 12 .any 11<|
.m 13 2<|
.s 14 13 12 13<|
.O 15 y5 (.load (some 13) (.t 14))<|
.pal 8 [] 145 [y0,V.nils,y2,y2,y2,y2,y0,y0,V.nils,V.nils,y0,y2,y0]<|
.op none y5 [8,15] (.store 13 (.t 8) (.t 15))<|
.nil)
 (.z (.f 16 0 8<|
.l 17 .i 16<|
.nil)
 (.block 0 (.z (.b 19 .eql .none (.t 17) (.i 1)<|
.m 18 19<|
.nil)
 (.cond (.tmp 18) (.ops (.m 20 0<|
.f 21 1 7<|
.l 22 .i 21<|
.P 23 (.conv (.toInt .u64) (.t 22))<|
.k 24 y11 20 [(.t 20),(.t 23),(.i 1)]<|
.nil))
 (.z (.b 26 .eql .none (.t 17) (.i 2)<|
.m 25 26<|
.nil)
 (.cond (.tmp 25) (.ops (.m 27 0<|
.f 28 2 8<|
.O 29 y3 (.load (some 6) (.t 28))<|
.f 30 1 7<|
.l 31 .i 30<|
.k 32 y11 90 [(.t 27),(.t 29),(.t 31)]<|
.nil))
 (.z (.b 34 .eql .none (.t 17) (.i 3)<|
.m 33 34<|
.nil)
 (.cond (.tmp 33) (.ops (.m 35 0<|
.O 36 y6 (.load (some 4) (.t 5))<|
.m 37 2<|
.O 38 y1 (.load (some 6) (.t 7))<|
.k 39 y11 91 [(.t 35),(.t 36),(.t 37),(.t 38)]<|
.nil))
 (.z (.b 41 .eql .none (.t 17) (.i 6)<|
.m 40 41<|
.nil)
 (.cond (.tmp 40) (.ops (.m 42 0<|
.f 43 2 7<|
.l 44 .any 43<|
.k 45 y11 21 [(.t 42),(.t 44)]<|
.nil))
 (.z (.b 47 .eql .none (.t 17) (.i 5)<|
.m 46 47<|
.nil)
 (.cond (.tmp 46) (.seq (.z (.f 48 2 8<|
.f 49 3 48<|
.l 50 .bool 49<|
.nil)
 (.cond (.tmp 50) (.ops (.m 51 0<|
.f 52 2 8<|
.O 53 y3 (.load (some 6) (.t 52))<|
.f 54 2 7<|
.l 55 .any 54<|
.u 56 55<|
.k 57 .bool 93 [(.t 53),(.t 56)]<|
.P 58 (.un .not (.t 57))<|
.k 59 y11 92 [(.t 51),(.t 58)]<|
.nil))
 .skip))
 (.keep [(0,.any),(7,.ptr)] [8] [(8,[.i,.any,.bool,.bool,.bool,.bool,.i,.i,.any,.any,.i,.bool,.i])] cc1))
 (.z (.b 91 .eql .none (.t 17) (.i 10)<|
.m 90 91<|
.nil)
 (.cond (.tmp 90) (.ops (.m 92 0<|
.O 93 y6 (.load (some 4) (.t 5))<|
.O 94 y5 (.load (some 13) (.t 8))<|
.O 95 y1 (.load (some 6) (.t 7))<|
.k 96 y11 95 [(.t 92),(.t 93),(.t 94),(.t 95)]<|
.nil))
 (.z (.b 98 .eql .none (.t 17) (.i 9)<|
.m 97 98<|
.nil)
 (.cond (.tmp 97) (.ops (.m 99 0<|
.O 100 y6 (.load (some 4) (.t 5))<|
.m 101 2<|
.O 102 y1 (.load (some 6) (.t 7))<|
.k 103 y11 96 [(.t 99),(.t 100),(.t 101),(.t 102)]<|
.nil))
 (.seq (.z (.b 105 .eql .none (.t 17) (.i 7)<|
.m 104 105<|
.nil)
 (.cond (.tmp 104) .skip
 (.ops (.b 106 .eql .none (.t 17) (.i 8)<|
.m 104 106<|
.nil))))
 (.keep [(0,.any),(2,.i),(5,.ptr),(7,.ptr),(104,.bool)] [] [] cc2))))))))))))))))))))
def T48_0 (E:List (Nat × Blk)) (D:Den) (W:DrawFn) (K1:V→Nat→Nat→Int→V→Bool→Bool→Bool→Bool→Int→Int→V→V→Int→Bool→Int→H→Ans) (K2:V→Int→Nat→Nat→Nat→Nat→Bool→H→Ans) (a:V) (b:BS) (c d e:V) (f g h:Int) (i j:V) (k:Int) (l:V) (σ:H):Ans:=
 nbK [(V.str b),c,d,e] σ fun s1=>
 nbK [(V.int .i64 g),(V.int .i64 h),i,j,(V.int .i64 k),l] s1 fun s2=>
 ldK E s2 (H.next σ) 3 fun u3=>
 iaddrSK 13 u3 f fun b4 o5=>
 ldnK E s2 b4 o5 13 fun l6=>
 xcI .i64 l6 fun x9 l8=>
 rtCons l8 fun x10 l11=>
 xcB l11 fun x14 l13=>
 xcB l13 fun x17 l16=>
 xcB l16 fun x20 l19=>
 xcB l19 fun x23 l22=>
 xcI .i64 l22 fun x26 l25=>
 xcI .i64 l25 fun x29 l28=>
 rtCons l28 fun x30 l31=>
 rtCons l31 fun x32 l33=>
 xcI .i64 l33 fun x36 l35=>
 xcB l35 fun x39 l38=>
 xcI .i64 l38 fun x42 l41=>
 rtNil l41 (
 chk (allOne [(V.int .i64 x9),x10,(V.bool x14),(V.bool x17),(V.bool x20),(V.bool x23),(V.int .i64 x26),(V.int .i64 x29),x30,x32,(V.int .i64 x36),(V.bool x39),(V.int .i64 x42)]) (
 condK (eqF x9 (Int.ofNat 1)) (
 ldK E s2 (H.next s1) 1 fun u43=>
 rtInt .i64 u43 fun x44=>
 callK (D 20 [a,(V.int .u64 (wrapF .u64 x44)),(V.int .i64 (Int.ofNat 1))] s2) fun u45 s46=>
 rtTup u45 fun l47=>
 rtNil l47 (
 some ((V.tup []),s46))) (
 condK (eqF x9 (Int.ofNat 2)) (
 ldK E s2 (H.next s1) 1 fun u48=>
 rtInt .i64 u48 fun x49=>
 callK (D 90 [a,(V.agg [(V.bool x14),(V.bool x17),(V.bool x20),(V.bool x23),(V.int .i64 x26),(V.int .i64 x29)]),(V.int .i64 x49)] s2) fun u50 s51=>
 rtTup u50 fun l52=>
 rtNil l52 (
 some ((V.tup []),s51))) (
 condK (eqF x9 (Int.ofNat 3)) (
 ldnK E s2 (H.next σ) 0 4 fun l53=>
 xcS l53 fun x56 l55=>
 rtCons l55 fun x57 l58=>
 rtCons l58 fun x59 l60=>
 rtCons l60 fun x61 l62=>
 rtNil l62 (
 ldnK E s2 (H.next s1) 0 6 fun l63=>
 xcI .i64 l63 fun x66 l65=>
 xcI .i64 l65 fun x69 l68=>
 rtCons l68 fun x70 l71=>
 rtCons l71 fun x72 l73=>
 xcI .i64 l73 fun x76 l75=>
 rtCons l75 fun x77 l78=>
 rtNil l78 (
 callK (D 91 [a,(V.agg [(V.str x56),x57,x59,x61]),(V.int .i64 f),(V.agg [(V.int .i64 x66),(V.int .i64 x69),x70,x72,(V.int .i64 x76),x77])] s2) fun u79 s80=>
 rtTup u79 fun l81=>
 rtNil l81 (
 some ((V.tup []),s80))))) (
 condK (eqF x9 (Int.ofNat 6)) (
 ldK E s2 (H.next s1) 2 fun u82=>
 callK (D 21 [a,u82] s2) fun u83 s84=>
 rtTup u83 fun l85=>
 rtNil l85 (
 some ((V.tup []),s84))) (
 condK (eqF x9 (Int.ofNat 5)) (
 condK x23 (
 ldK E s2 (H.next s1) 2 fun u86=>
 slenK u86 fun n87=>
 callK (D 93 [(V.agg [(V.bool x14),(V.bool x17),(V.bool x20),(V.bool x23),(V.int .i64 x26),(V.int .i64 x29)]),(V.int .i64 (Int.ofNat n87))] s2) fun u88 s89=>
 rtBool u88 fun x90=>
 callK (D 92 [a,(V.bool (not x90))] s89) fun u91 s92=>
 rtTup u91 fun l93=>
 rtNil l93 (
 K1 a (H.next s1) 0 x9 x10 x14 x17 x20 x23 x26 x29 x30 x32 x36 x39 x42 s92)) (
 K1 a (H.next s1) 0 x9 x10 x14 x17 x20 x23 x26 x29 x30 x32 x36 x39 x42 s2)) (
 condK (eqF x9 (Int.ofNat 10)) (
 ldnK E s2 (H.next σ) 0 4 fun l94=>
 xcS l94 fun x97 l96=>
 rtCons l96 fun x98 l99=>
 rtCons l99 fun x100 l101=>
 rtCons l101 fun x102 l103=>
 rtNil l103 (
 ldnK E s2 (H.next s1) 0 6 fun l104=>
 xcI .i64 l104 fun x107 l106=>
 xcI .i64 l106 fun x110 l109=>
 rtCons l109 fun x111 l112=>
 rtCons l112 fun x113 l114=>
 xcI .i64 l114 fun x117 l116=>
 rtCons l116 fun x118 l119=>
 rtNil l119 (
 callK (D 95 [a,(V.agg [(V.str x97),x98,x100,x102]),(V.agg [(V.int .i64 x9),x10,(V.bool x14),(V.bool x17),(V.bool x20),(V.bool x23),(V.int .i64 x26),(V.int .i64 x29),x30,x32,(V.int .i64 x36),(V.bool x39),(V.int .i64 x42)]),(V.agg [(V.int .i64 x107),(V.int .i64 x110),x111,x113,(V.int .i64 x117),x118])] s2) fun u120 s121=>
 rtTup u120 fun l122=>
 rtNil l122 (
 some ((V.tup []),s121))))) (
 condK (eqF x9 (Int.ofNat 9)) (
 ldnK E s2 (H.next σ) 0 4 fun l123=>
 xcS l123 fun x126 l125=>
 rtCons l125 fun x127 l128=>
 rtCons l128 fun x129 l130=>
 rtCons l130 fun x131 l132=>
 rtNil l132 (
 ldnK E s2 (H.next s1) 0 6 fun l133=>
 xcI .i64 l133 fun x136 l135=>
 xcI .i64 l135 fun x139 l138=>
 rtCons l138 fun x140 l141=>
 rtCons l141 fun x142 l143=>
 xcI .i64 l143 fun x146 l145=>
 rtCons l145 fun x147 l148=>
 rtNil l148 (
 callK (D 96 [a,(V.agg [(V.str x126),x127,x129,x131]),(V.int .i64 f),(V.agg [(V.int .i64 x136),(V.int .i64 x139),x140,x142,(V.int .i64 x146),x147])] s2) fun u149 s150=>
 rtTup u149 fun l151=>
 rtNil l151 (
 some ((V.tup []),s150))))) (
 condK (eqF x9 (Int.ofNat 7)) (
 K2 a f (H.next σ) 0 (H.next s1) 0 (eqF x9 (Int.ofNat 7)) s2) (
 K2 a f (H.next σ) 0 (H.next s1) 0 (eqF x9 (Int.ofNat 8)) s2))))))))))
def C48_1:XC:=(.z (.f 61 2 8<|
.O 62 y3 (.load (some 6) (.t 61))<|
.f 63 2 7<|
.l 64 .any 63<|
.u 65 64<|
.k 66 (.tup [(.int .u64),.bool]) 94 [(.t 62),(.t 65)]<|
.m 60 66<|
.P 67 (.extract 0 (.t 60))<|
.P 68 (.extract 1 (.t 60))<|
.m 9 67<|
.m 10 68<|
.nil)
 (.z (.m 69 10<|
.nil)
 (.cond (.tmp 69) (.z (.m 70 0<|
.f 71 2 7<|
.l 72 .any 71<|
.u 73 72<|
.P 74 (.conv (.toInt .u64) (.t 73))<|
.f 75 2 8<|
.f 76 4 75<|
.l 77 .i 76<|
.P 78 (.conv (.toInt .u64) (.t 77))<|
.b 79 .sub .none (.t 74) (.t 78)<|
.m 80 9<|
.k 81 y11 27 [(.t 70),(.t 79),(.t 80)]<|
.nil)
 (.ops (.m 82 0<|
.f 83 2 7<|
.l 84 .any 83<|
.k 85 y11 44 [(.t 82),(.t 84)]<|
.nil)))
 (.ops (.m 86 0<|
.f 87 2 7<|
.l 88 .any 87<|
.k 89 y11 21 [(.t 86),(.t 88)]<|
.nil)))))
def T48_1 (E:List (Nat × Blk)) (D:Den) (W:DrawFn) (a:V) (b c:Nat) (d:Int) (e:V) (f g h i:Bool) (j k:Int) (l m:V) (o:Int) (p:Bool) (q:Int) (σ:H):Ans:=
 ldK E σ b (Nat.add c 2) fun u1=>
 slenK u1 fun n2=>
 callK (D 94 [(V.agg [(V.bool f),(V.bool g),(V.bool h),(V.bool i),(V.int .i64 j),(V.int .i64 k)]),(V.int .i64 (Int.ofNat n2))] σ) fun u3 s4=>
 rtTup u3 fun l5=>
 xcI .u64 l5 fun x8 l7=>
 xcB l7 fun x11 l10=>
 rtNil l10 (
 condK x11 (
 ldK E s4 b (Nat.add c 2) fun u12=>
 slenK u12 fun n13=>
 callK (D 27 [a,(V.int .u64 (subF .u64 (wrapF .u64 (Int.ofNat n13)) (wrapF .u64 j))),(V.int .u64 x8)] s4) fun u14 s15=>
 rtTup u14 fun l16=>
 rtNil l16 (
 ldK E s15 b (Nat.add c 2) fun u17=>
 callK (D 44 [a,u17] s15) fun u18 s19=>
 rtTup u18 fun l20=>
 rtNil l20 (
 some ((V.tup []),s19)))) (
 ldK E s4 b (Nat.add c 2) fun u21=>
 callK (D 21 [a,u21] s4) fun u22 s23=>
 rtTup u22 fun l24=>
 rtNil l24 (
 some ((V.tup []),s23))))
def C48_2:XC:=(.cond (.tmp 104) (.ops (.m 107 0<|
.O 108 y6 (.load (some 4) (.t 5))<|
.m 109 2<|
.O 110 y1 (.load (some 6) (.t 7))<|
.k 111 y11 97 [(.t 107),(.t 108),(.t 109),(.t 110)]<|
.nil))
 .skip)
def T48_2 (E:List (Nat × Blk)) (D:Den) (W:DrawFn) (a:V) (b:Int) (c d e f:Nat) (g:Bool) (σ:H):Ans:=
 condK g (
 ldnK E σ c d 4 fun l1=>
 xcS l1 fun x4 l3=>
 rtCons l3 fun x5 l6=>
 rtCons l6 fun x7 l8=>
 rtCons l8 fun x9 l10=>
 rtNil l10 (
 ldnK E σ e f 6 fun l11=>
 xcI .i64 l11 fun x14 l13=>
 xcI .i64 l13 fun x17 l16=>
 rtCons l16 fun x18 l19=>
 rtCons l19 fun x20 l21=>
 xcI .i64 l21 fun x24 l23=>
 rtCons l23 fun x25 l26=>
 rtNil l26 (
 callK (D 97 [a,(V.agg [(V.str x4),x5,x7,x9]),(V.int .i64 b),(V.agg [(V.int .i64 x14),(V.int .i64 x17),x18,x20,(V.int .i64 x24),x25])] σ) fun u27 s28=>
 rtTup u27 fun l29=>
 rtNil l29 (
 some ((V.tup []),s28))))) (
 some ((V.tup []),σ))
def S48_0 (a:V) (b:BS) (c d e:V) (f g h:Int) (i j:V) (k:Int) (l:V) (σ:H):St:=⟨[(0,a),(1,(V.agg [(V.str b),c,d,e])),(2,(V.int .i64 f)),(3,(V.agg [(V.int .i64 g),(V.int .i64 h),i,j,(V.int .i64 k),l]))],[],[],σ⟩
def S48_1 (a:V) (b c:Nat) (d:Int) (e:V) (f g h i:Bool) (j k:Int) (l m:V) (o:Int) (p:Bool) (q:Int) (σ:H):St:=⟨[(0,a),(7,(V.ptr b c))],[(8,(8,0))],[(8,[(V.int .i64 d),e,(V.bool f),(V.bool g),(V.bool h),(V.bool i),(V.int .i64 j),(V.int .i64 k),l,m,(V.int .i64 o),(V.bool p),(V.int .i64 q)])],σ⟩
def S48_2 (a:V) (b:Int) (c d e f:Nat) (g:Bool) (σ:H):St:=⟨[(0,a),(2,(V.int .i64 b)),(5,(V.ptr c d)),(7,(V.ptr e f)),(104,(V.bool g))],[],[],σ⟩
theorem P48_0 (cc1:XC) (cc2:XC) (a:V) (b:BS) (c d e:V) (f g h:Int) (i j:V) (k:Int) (l:V) (σ:H) :
 denC E D W N (C48_0 cc1 cc2) (S48_0 a b c d e f g h i j k l σ) (Fin48 E) nX (Fin48 E) =
 T48_0 E D W (fun a m o p q r s t u v w x y z B I σ=>denC E D W N cc1 (S48_1 a m o p q r s t u v w x y z B I σ) (Fin48 E) (blkK 0 (Fin48 E) nX) (Fin48 E)) (fun a f M O m o U σ=>denC E D W N cc2 (S48_2 a f M O m o U σ) (Fin48 E) (blkK 0 (Fin48 E) nX) (Fin48 E)) a b c d e f g h i j k l σ:=by kernel_rfl
def J48_1 (E:List (Nat × Blk)) (D:Den) (W:DrawFn) (N:Nat):=T48_1 E D W
theorem JE48_1 (a:V) (b c:Nat) (d:Int) (e:V) (f g h i:Bool) (j k:Int) (l m:V) (o:Int) (p:Bool) (q:Int) (σ:H) :
 denC E D W N C48_1 (S48_1 a b c d e f g h i j k l m o p q σ) (Fin48 E) (blkK 0 (Fin48 E) nX) (Fin48 E)=J48_1 E D W N a b c d e f g h i j k l m o p q σ:=by kernel_rfl
def J48_2 (E:List (Nat × Blk)) (D:Den) (W:DrawFn) (N:Nat):=T48_2 E D W
theorem JE48_2 (a:V) (b:Int) (c d e f:Nat) (g:Bool) (σ:H) :
 denC E D W N C48_2 (S48_2 a b c d e f g σ) (Fin48 E) (blkK 0 (Fin48 E) nX) (Fin48 E)=J48_2 E D W N a b c d e f g σ:=by kernel_rfl
def J48_0:=T48_0 E D W (J48_1 E D W N ) (J48_2 E D W N )
theorem JE48_0 (a:V) (b:BS) (c d e:V) (f g h:Int) (i j:V) (k:Int) (l:V) (σ:H) :
 denC E D W N (C48_0 C48_1 C48_2) (S48_0 a b c d e f g h i j k l σ) (Fin48 E) nX (Fin48 E)=J48_0 E D W N a b c d e f g h i j k l σ:=by
 refine(P48_0 E D W N C48_1 C48_2  a b c d e f g h i j k l σ).trans ?_
 simp only[JE48_1,JE48_2]
 kernel_rfl
def F48 (args:List V) (σ:H):Ans:=
 rtCons args fun x1 l2=>
 rtCons l2 fun x3 l4=>
 rtAgg x3 fun l5=>
 xcS l5 fun x8 l7=>
 rtCons l7 fun x9 l10=>
 rtCons l10 fun x11 l12=>
 rtCons l12 fun x13 l14=>
 rtNil l14 (
 xcI .i64 l4 fun x17 l16=>
 rtCons l16 fun x18 l19=>
 rtAgg x18 fun l20=>
 xcI .i64 l20 fun x23 l22=>
 xcI .i64 l22 fun x26 l25=>
 rtCons l25 fun x27 l28=>
 rtCons l28 fun x29 l30=>
 xcI .i64 l30 fun x33 l32=>
 rtCons l32 fun x34 l35=>
 rtNil l35 (
 rtNil l19 (
 J48_0 E D W N x1 x8 x9 x11 x13 x17 x23 x26 x27 x29 x33 x34 σ)))
def A48:XFn:=⟨112,[.any,y6,.i,y1],[],(C48_0 C48_1 C48_2)⟩
theorem FE48 (args:List V) (σ:H):runX E D W N A48 args σ=F48 E D W N args σ:=by
 unfold F48
 simp only[←JE48_0]
 kernel_rfl
def Fin49 (E:List (Nat × Blk)):St→Ans:=fun s=>resK E s [(.tmp 2)] fun l=>some (oneV l,s.σ)
def C49_0:XC:=(.z (.P 1 (.box 30 (.t 0))<|
.c 2 y2<|
.nil)
 (.z (.O 3 y6 (.load (some 4) (.t 1))<|
.k 4 .bool 37 [(.t 3)]<|
.m 5 4<|
.gA 5 true (.p 6 [1,5] (.faddr 3 (.t 1))<|
.p 7 [6,5] (.load none (.t 6))<|
.op (some 8) .bool [7,5] (.call 67 [(.t 7),(.con (V.fn 98 [] []))])<|
.p 9 [8,5] (.un .not (.t 8))<|
.nil) 10 5 9<|
.m 2 10<|
.nil)
 .ret))
def T49_0 (E:List (Nat × Blk)) (D:Den) (W:DrawFn) (a:BS) (b c d:V) (σ:H):Ans:=
 nbK [(V.str a),b,c,d] σ fun s1=>
 ldnK E s1 (H.next σ) 0 4 fun l2=>
 xcS l2 fun x5 l4=>
 rtCons l4 fun x6 l7=>
 rtCons l7 fun x8 l9=>
 rtCons l9 fun x10 l11=>
 rtNil l11 (
 callK (D 37 [(V.agg [(V.str x5),x6,x8,x10])] s1) fun u12 s13=>
 rtBool u12 fun x14=>
 joinB (fun c15 s16=>
 some ((V.bool c15),s16)) fun k17=>
 condK x14 (
 ldK E s13 (H.next σ) 3 fun u18=>
 callK (D 67 [u18,(V.fn 98 [] [])] s13) fun u19 s20=>
 rtBool u19 fun x21=>
 k17 (not x21) s20) (
 k17 false s13))
def S49_0 (a:BS) (b c d:V) (σ:H):St:=⟨[(0,(V.agg [(V.str a),b,c,d]))],[],[],σ⟩
def J49_0 (E:List (Nat × Blk)) (D:Den) (W:DrawFn) (N:Nat):=T49_0 E D W
theorem JE49_0 (a:BS) (b c d:V) (σ:H) :
 denC E D W N C49_0 (S49_0 a b c d σ) (Fin49 E) nX (Fin49 E)=J49_0 E D W N a b c d σ:=by kernel_rfl
def F49 (args:List V) (σ:H):Ans:=
 rtCons args fun x1 l2=>
 rtAgg x1 fun l3=>
 xcS l3 fun x6 l5=>
 rtCons l5 fun x7 l8=>
 rtCons l8 fun x9 l10=>
 rtCons l10 fun x11 l12=>
 rtNil l12 (
 rtNil l2 (
 J49_0 E D W N x6 x7 x9 x11 σ))
def A49:XFn:=⟨11,[y6],[(.tmp 2)],C49_0⟩
theorem FE49 (args:List V) (σ:H):runX E D W N A49 args σ=F49 E D W N args σ:=by
 unfold F49
 simp only[←JE49_0]
 kernel_rfl
def Fin50 (E:List (Nat × Blk)):St→Ans:=fun s=>resK E s [(.tmp 2)] fun l=>some (oneV l,s.σ)
def C50_0:XC:=(.z (.c 2 V.nilp<|
.nil)
 (.z (.m 3 0<|
.k 4 .one 99 [(.t 3)]<|
.m 5 0<|
.u 6 5<|
.b 7 .eql .none (.t 6) (.i 1)<|
.m 8 7<|
.gA 8 true (.p 9 [0,8] y14<|
.p 10 [9,8] (.iaddrS 1 (.t 9) (.i 0))<|
.op (some 11) (.int .u8) [10,8] (.load none (.t 10))<|
.p 12 [11,8] (.bin .eql .none (.t 11) (.con y16))<|
.nil) 13 8 12<|
.op (some 14) (.agg [.any,.i,.bool]) [4,13] (.build [V.nilp,y0,y2] [(0,1,(.t 4)),(2,1,(.t 13))])<|
.P 15 (.box 168 (.t 14))<|
.m 2 15<|
.nil)
 .ret))
def T50_0 (E:List (Nat × Blk)) (D:Den) (W:DrawFn) (a:V) (σ:H):Ans:=
 callK (D 99 [a] σ) fun u1 s2=>
 rtOne u1 (
 slenK a fun n3=>
 joinB (fun c4 s5=>
 fillK [(0,1,u1),(2,1,(V.bool c4))] [V.nilp,(V.int .i64 (Int.ofNat 0)),(V.bool false)] fun l7=>
 rtCons l7 fun x8 l9=>
 xcI .i64 l9 fun x12 l11=>
 xcB l11 fun x15 l14=>
 rtNil l14 (
 nbK [x8,(V.int .i64 x12),(V.bool x15)] s5 fun s16=>
 some ((V.ptr (H.next s5) 0),s16))) fun k6=>
 condK (eqF (Int.ofNat n3) (Int.ofNat 1)) (
 iaddrSK 1 a (Int.ofNat 0) fun b17 o18=>
 ldK E s2 b17 o18 fun u19=>
 rtInt .u8 u19 fun x20=>
 k6 (eqF x20 (Int.ofNat 0)) s2) (
 k6 false s2))
def S50_0 (a:V) (σ:H):St:=⟨[(0,a)],[],[],σ⟩
def J50_0 (E:List (Nat × Blk)) (D:Den) (W:DrawFn) (N:Nat):=T50_0 E D W
theorem JE50_0 (a:V) (σ:H) :
 denC E D W N C50_0 (S50_0 a σ) (Fin50 E) nX (Fin50 E)=J50_0 E D W N a σ:=by kernel_rfl
def F50 (args:List V) (σ:H):Ans:=
 rtCons args fun x1 l2=>
 rtNil l2 (
 J50_0 E D W N x1 σ)
def A50:XFn:=⟨16,[.any],[(.tmp 2)],C50_0⟩
theorem FE50 (args:List V) (σ:H):runX E D W N A50 args σ=F50 E D W N args σ:=by
 unfold F50
 simp only[←JE50_0]
 kernel_rfl
def q51a:List (Nat × XTy):=[(6,.ptr),(8,.ptr)]
def G51_0:List AOper:=[⟨(some 9),.load none (.tmp 3),none⟩,⟨(some 10),.load none (.tmp 3),none⟩,⟨(some 11),.nilck (.tmp 10),none⟩,⟨(some 12),.faddr 5 (.tmp 11),none⟩,⟨(some 13),.load none (.tmp 12),none⟩,⟨(some 14),.call 101 [(.tmp 13),(.con (V.int .i64 (Int.ofNat 1)))],none⟩,⟨(some 15),.un .not (.tmp 14),none⟩,⟨(some 16),.mov (.tmp 15),none⟩,⟨(some 17),.mov (.tmp 1),(some (16,false))⟩,⟨(some 18),.bin .lss .none (.tmp 17) (.con (V.int .i64 (Int.ofNat 0))),(some (16,false))⟩,⟨(some 19),.pick (.tmp 16) (.con (V.bool true)) (.tmp 18),none⟩,⟨(some 20),.mov (.tmp 19),none⟩,⟨(some 21),.mov (.tmp 1),(some (20,false))⟩,⟨(some 22),.load none (.tmp 3),(some (20,false))⟩,⟨(some 23),.nilck (.tmp 22),(some (20,false))⟩,⟨(some 24),.faddr 1 (.tmp 23),(some (20,false))⟩,⟨(some 25),.faddr 3 (.tmp 24),(some (20,false))⟩,⟨(some 26),.load none (.tmp 25),(some (20,false))⟩,⟨(some 27),.len false (.tmp 26),(some (20,false))⟩,⟨(some 28),.bin .geq .none (.tmp 21) (.tmp 27),(some (20,false))⟩,⟨(some 29),.pick (.tmp 20) (.con (V.bool true)) (.tmp 28),none⟩,⟨(some 30),.mov (.tmp 29),none⟩,⟨(some 31),.mov (.tmp 2),(some (30,false))⟩,⟨(some 32),.bin .gtr .none (.tmp 31) (.con (V.int .i64 (Int.ofNat 17))),(some (30,false))⟩,⟨(some 33),.pick (.tmp 30) (.con (V.bool true)) (.tmp 32),none⟩,⟨(some 34),.call 100 [(.tmp 9),(.tmp 33)],none⟩]
def H51_0:List DP:=[⟨0,[3]⟩,⟨0,[3]⟩,⟨2,[10]⟩,⟨6,[11]⟩,⟨14,[12]⟩,⟨30,[13]⟩,⟨62,[14]⟩,⟨126,[15]⟩,⟨254,[1,16]⟩,⟨510,[17,16]⟩,⟨1022,[16,18]⟩,⟨2046,[19]⟩,⟨4094,[1,20]⟩,⟨4094,[3,20]⟩,⟨12286,[22,20]⟩,⟨28670,[23,20]⟩,⟨61438,[24,20]⟩,⟨126974,[25,20]⟩,⟨258046,[26,20]⟩,⟨524286,[21,27,20]⟩,⟨1048574,[20,28]⟩,⟨2097150,[29]⟩,⟨4194302,[2,30]⟩,⟨8388606,[31,30]⟩,⟨16777214,[30,32]⟩,⟨33554431,[9,33]⟩]
def Fin51 (E:List (Nat × Blk)):St→Ans:=fun s=>resK E s [(.cell 6 (some 6))] fun l=>some (oneV l,s.σ)
def b51a (c0:XC):St→Ans:=dX E D W N (.keep q51a [] [] c0) (Fin51 E) nX (Fin51 E)
def C51_0 (cc1:XC) (cc2:XC):XC:=(.z (.P 3 (.box 98 (.t 0))<|
.p 6 [] y24<|
.nil)
 (.seq (.seq (.keep [(1,.i),(2,.i),(3,.ptr),(6,.ptr)] [] [] (.gdraw G51_0 H51_0 [(1,.i),(2,.i),(3,.ptr),(6,.ptr)]))
 (.z (.l 35 .any 3<|
.k 36 .bool 102 [(.t 35)]<|
.P 37 (.un .not (.t 36))<|
.nil)
 (.cond (.tmp 37) (.z (.op (some 38) y1 [] (.build [y0,y0,V.nils,V.nils,y0,V.nils] [])<|
.op none y1 [6,38] (.store 6 (.t 6) (.t 38))<|
.nil)
 .ret)
 .skip)))
 (.z (.l 39 .any 3<|
.n 40 39<|
.f 41 1 40<|
.f 42 3 41<|
.l 43 .any 42<|
.m 44 1<|
.s 45 13 43 44<|
.O 46 y5 (.load (some 13) (.t 45))<|
.pal 7 [] 145 [y0,V.nils,y2,y2,y2,y2,y0,y0,V.nils,V.nils,y0,y2,y0]<|
.op none y5 [7,46] (.store 13 (.t 7) (.t 46))<|
.nil)
 (.z (.f 47 0 7<|
.l 48 .i 47<|
.op (some 49) y1 [48] (.build [y0,y0,V.nils,V.nils,y0,V.nils] [(0,1,(.t 48))])<|
.p 8 [] y24<|
.op none y1 [8,49] (.store 6 (.t 8) (.t 49))<|
.nil)
 (.seq (.z (.f 50 0 7<|
.l 51 .i 50<|
.nil)
 (.block 0 (.z (.b 53 .eql .none (.t 51) (.i 1)<|
.m 52 53<|
.nil)
 (.cond (.tmp 52) (.ops (.l 54 .any 3<|
.n 55 54<|
.f 56 0 55<|
.l 57 .any 56<|
.k 58 (.int .u64) 103 [(.t 57),(.i 1)]<|
.P 59 (.conv (.toInt .i64) (.t 58))<|
.f 60 1 8<|
.w 1 60 59<|
.nil))
 (.z (.b 62 .eql .none (.t 51) (.i 2)<|
.m 61 62<|
.nil)
 (.cond (.tmp 61) (.ops (.l 63 .any 3<|
.f 64 2 7<|
.O 65 y3 (.load (some 6) (.t 64))<|
.k 66 .i 104 [(.t 63),(.t 65)]<|
.f 67 1 8<|
.w 1 67 66<|
.nil))
 (.z (.b 69 .eql .none (.t 51) (.i 3)<|
.m 68 69<|
.nil)
 (.cond (.tmp 68) (.z (.l 70 .any 3<|
.m 71 1<|
.k 72 y1 105 [(.t 70),(.t 71)]<|
.op none y1 [6,72] (.store 6 (.t 6) (.t 72))<|
.nil)
 .ret)
 (.z (.b 74 .eql .none (.t 51) (.i 6)<|
.m 73 74<|
.nil)
 (.cond (.tmp 73) (.ops (.l 75 .any 3<|
.n 76 75<|
.f 77 0 76<|
.l 78 .any 77<|
.k 79 .one 106 [(.t 78),(.i 70000)]<|
.f 80 2 8<|
.w 1 80 79<|
.nil))
 (.z (.b 82 .eql .none (.t 51) (.i 5)<|
.m 81 82<|
.nil)
 (.cond (.tmp 81) (.ops (.l 83 .any 3<|
.f 84 2 7<|
.O 85 y3 (.load (some 6) (.t 84))<|
.p 86 [3,8] (.mkfn 108 [] [(.t 3),(.t 8)])<|
.p 87 [3,8] (.mkfn 110 [] [(.t 3),(.t 8)])<|
.k 88 y11 107 [(.t 83),(.t 85),(.t 86),(.t 87)]<|
.nil))
 (.z (.b 90 .eql .none (.t 51) (.i 10)<|
.m 89 90<|
.nil)
 (.cond (.tmp 89) (.ops (.l 91 .any 3<|
.O 92 y5 (.load (some 13) (.t 7))<|
.m 93 2<|
.k 94 y11 111 [(.t 91),(.t 92),(.t 8),(.t 93)]<|
.nil))
 (.z (.b 96 .eql .none (.t 51) (.i 9)<|
.m 95 96<|
.nil)
 (.cond (.tmp 95) (.z (.l 97 .any 3<|
.m 98 1<|
.m 99 2<|
.k 100 y1 112 [(.t 97),(.t 98),(.t 99)]<|
.op none y1 [6,100] (.store 6 (.t 6) (.t 100))<|
.nil)
 .ret)
 (.seq (.z (.b 102 .eql .none (.t 51) (.i 7)<|
.m 101 102<|
.nil)
 (.cond (.tmp 101) .skip
 (.ops (.b 103 .eql .none (.t 51) (.i 8)<|
.m 101 103<|
.nil))))
 (.keep [(1,.i),(2,.i),(3,.ptr),(6,.ptr),(8,.ptr),(101,.bool)] [] [] cc2))))))))))))))))))
 (.keep q51a [] [] cc1))))))
def T51_0 (K1:Nat→Nat→Nat→Nat→H→Ans) (K2:Int→Int→Nat→Nat→Nat→Nat→Nat→Nat→Bool→H→Ans) (a:V) (b c:Int) (σ:H):Ans:=
 nbK (V.cells a) σ fun s1=>
 let s2:=newB s1 (.cells [(V.int .i64 (Int.ofNat 0)),(V.int .i64 (Int.ofNat 0)),V.nils,V.nils,(V.int .i64 (Int.ofNat 0)),V.nils]);
 gdrawK (W G51_0 H51_0 [(1,(V.int .i64 b)),(2,(V.int .i64 c)),(3,(V.ptr (H.next σ) 0)),(6,(V.ptr (H.next s1) 0))] s2) fun e3 s4=>
 getL e3 1 fun u5=>
 rtInt .i64 u5 fun x6=>
 getL e3 2 fun u7=>
 rtInt .i64 u7 fun x8=>
 getL e3 3 fun u9=>
 rtPtr u9 fun b10 o11=>
 getL e3 6 fun u12=>
 rtPtr u12 fun b13 o14=>
 ldK E s4 b10 o11 fun u15=>
 callK (D 102 [u15] s4) fun u16 s17=>
 rtBool u16 fun x18=>
 condK (not x18) (
 stK 6 b13 o14 (V.agg [(V.int .i64 (Int.ofNat 0)),(V.int .i64 (Int.ofNat 0)),V.nils,V.nils,(V.int .i64 (Int.ofNat 0)),V.nils]) s17 fun s19=>
 ldnK E s19 b13 o14 6 fun u20=>
 some ((V.agg u20),s19)) (
 ldK E s17 b10 o11 fun u21=>
 rtPtr u21 fun b22 o23=>
 ldK E s17 b22 (Nat.add (Nat.add o23 1) 3) fun u24=>
 iaddrSK 13 u24 x6 fun b25 o26=>
 ldnK E s17 b25 o26 13 fun l27=>
 xcI .i64 l27 fun x30 l29=>
 rtCons l29 fun x31 l32=>
 xcB l32 fun x35 l34=>
 xcB l34 fun x38 l37=>
 xcB l37 fun x41 l40=>
 xcB l40 fun x44 l43=>
 xcI .i64 l43 fun x47 l46=>
 xcI .i64 l46 fun x50 l49=>
 rtCons l49 fun x51 l52=>
 rtCons l52 fun x53 l54=>
 xcI .i64 l54 fun x57 l56=>
 xcB l56 fun x60 l59=>
 xcI .i64 l59 fun x63 l62=>
 rtNil l62 (
 chk (allOne [(V.int .i64 x30),x31,(V.bool x35),(V.bool x38),(V.bool x41),(V.bool x44),(V.int .i64 x47),(V.int .i64 x50),x51,x53,(V.int .i64 x57),(V.bool x60),(V.int .i64 x63)]) (
 let s64:=newB s17 (.cells [(V.int .i64 (Int.ofNat 0)),(V.int .i64 (Int.ofNat 0)),V.nils,V.nils,(V.int .i64 (Int.ofNat 0)),V.nils]);
 stK 6 (H.next s17) 0 (V.agg [(V.int .i64 x30),(V.int .i64 (Int.ofNat 0)),V.nils,V.nils,(V.int .i64 (Int.ofNat 0)),V.nils]) s64 fun s65=>
 condK (eqF x30 (Int.ofNat 1)) (
 ldK E s65 b10 o11 fun u66=>
 rtPtr u66 fun b67 o68=>
 ldK E s65 b67 o68 fun u69=>
 callK (D 103 [u69,(V.int .i64 (Int.ofNat 1))] s65) fun u70 s71=>
 rtInt .u64 u70 fun x72=>
 stK 1 (H.next s17) 1 (V.int .i64 (wrapF .i64 x72)) s71 fun s73=>
 K1 b13 o14 (H.next s17) 0 s73) (
 condK (eqF x30 (Int.ofNat 2)) (
 ldK E s65 b10 o11 fun u74=>
 callK (D 104 [u74,(V.agg [(V.bool x35),(V.bool x38),(V.bool x41),(V.bool x44),(V.int .i64 x47),(V.int .i64 x50)])] s65) fun u75 s76=>
 rtInt .i64 u75 fun x77=>
 stK 1 (H.next s17) 1 (V.int .i64 x77) s76 fun s78=>
 K1 b13 o14 (H.next s17) 0 s78) (
 condK (eqF x30 (Int.ofNat 3)) (
 ldK E s65 b10 o11 fun u79=>
 callK (D 105 [u79,(V.int .i64 x6)] s65) fun u80 s81=>
 rtAgg u80 fun l82=>
 xcI .i64 l82 fun x85 l84=>
 xcI .i64 l84 fun x88 l87=>
 rtCons l87 fun x89 l90=>
 rtCons l90 fun x91 l92=>
 xcI .i64 l92 fun x95 l94=>
 rtCons l94 fun x96 l97=>
 rtNil l97 (
 stK 6 b13 o14 (V.agg [(V.int .i64 x85),(V.int .i64 x88),x89,x91,(V.int .i64 x95),x96]) s81 fun s98=>
 ldnK E s98 b13 o14 6 fun u99=>
 some ((V.agg u99),s98))) (
 condK (eqF x30 (Int.ofNat 6)) (
 ldK E s65 b10 o11 fun u100=>
 rtPtr u100 fun b101 o102=>
 ldK E s65 b101 o102 fun u103=>
 callK (D 106 [u103,(V.int .i64 (Int.ofNat 70000))] s65) fun u104 s105=>
 rtOne u104 (
 stK 1 (H.next s17) 2 u104 s105 fun s106=>
 K1 b13 o14 (H.next s17) 0 s106)) (
 condK (eqF x30 (Int.ofNat 5)) (
 ldK E s65 b10 o11 fun u107=>
 callK (D 107 [u107,(V.agg [(V.bool x35),(V.bool x38),(V.bool x41),(V.bool x44),(V.int .i64 x47),(V.int .i64 x50)]),(V.fn 108 [] [(V.ptr b10 o11),(V.ptr (H.next s17) 0)]),(V.fn 110 [] [(V.ptr b10 o11),(V.ptr (H.next s17) 0)])] s65) fun u108 s109=>
 rtTup u108 fun l110=>
 rtNil l110 (
 K1 b13 o14 (H.next s17) 0 s109)) (
 condK (eqF x30 (Int.ofNat 10)) (
 ldK E s65 b10 o11 fun u111=>
 callK (D 111 [u111,(V.agg [(V.int .i64 x30),x31,(V.bool x35),(V.bool x38),(V.bool x41),(V.bool x44),(V.int .i64 x47),(V.int .i64 x50),x51,x53,(V.int .i64 x57),(V.bool x60),(V.int .i64 x63)]),(V.ptr (H.next s17) 0),(V.int .i64 x8)] s65) fun u112 s113=>
 rtTup u112 fun l114=>
 rtNil l114 (
 K1 b13 o14 (H.next s17) 0 s113)) (
 condK (eqF x30 (Int.ofNat 9)) (
 ldK E s65 b10 o11 fun u115=>
 callK (D 112 [u115,(V.int .i64 x6),(V.int .i64 x8)] s65) fun u116 s117=>
 rtAgg u116 fun l118=>
 xcI .i64 l118 fun x121 l120=>
 xcI .i64 l120 fun x124 l123=>
 rtCons l123 fun x125 l126=>
 rtCons l126 fun x127 l128=>
 xcI .i64 l128 fun x131 l130=>
 rtCons l130 fun x132 l133=>
 rtNil l133 (
 stK 6 b13 o14 (V.agg [(V.int .i64 x121),(V.int .i64 x124),x125,x127,(V.int .i64 x131),x132]) s117 fun s134=>
 ldnK E s134 b13 o14 6 fun u135=>
 some ((V.agg u135),s134))) (
 condK (eqF x30 (Int.ofNat 7)) (
 K2 x6 x8 b10 o11 b13 o14 (H.next s17) 0 (eqF x30 (Int.ofNat 7)) s65) (
 K2 x6 x8 b10 o11 b13 o14 (H.next s17) 0 (eqF x30 (Int.ofNat 8)) s65)))))))))))
def C51_1:XC:=(.z (.O 108 y1 (.load (some 6) (.t 8))<|
.op none y1 [6,108] (.store 6 (.t 6) (.t 108))<|
.nil)
 .ret)
def T51_1 (E:List (Nat × Blk)) (D:Den) (W:DrawFn) (a b c d:Nat) (σ:H):Ans:=
 ldnK E σ c d 6 fun l1=>
 xcI .i64 l1 fun x4 l3=>
 xcI .i64 l3 fun x7 l6=>
 rtCons l6 fun x8 l9=>
 rtCons l9 fun x10 l11=>
 xcI .i64 l11 fun x14 l13=>
 rtCons l13 fun x15 l16=>
 rtNil l16 (
 stK 6 a b (V.agg [(V.int .i64 x4),(V.int .i64 x7),x8,x10,(V.int .i64 x14),x15]) σ fun s17=>
 ldnK E s17 a b 6 fun u18=>
 some ((V.agg u18),s17))
def C51_2:XC:=(.cond (.tmp 101) (.z (.l 104 .any 3<|
.m 105 1<|
.m 106 2<|
.k 107 y1 113 [(.t 104),(.t 105),(.t 106)]<|
.op none y1 [6,107] (.store 6 (.t 6) (.t 107))<|
.nil)
 .ret)
 .skip)
def T51_2 (E:List (Nat × Blk)) (D:Den) (W:DrawFn) (K1:Nat→Nat→Nat→Nat→H→Ans) (a b:Int) (c d e f g h:Nat) (i:Bool) (σ:H):Ans:=
 condK i (
 ldK E σ c d fun u1=>
 callK (D 113 [u1,(V.int .i64 a),(V.int .i64 b)] σ) fun u2 s3=>
 rtAgg u2 fun l4=>
 xcI .i64 l4 fun x7 l6=>
 xcI .i64 l6 fun x10 l9=>
 rtCons l9 fun x11 l12=>
 rtCons l12 fun x13 l14=>
 xcI .i64 l14 fun x17 l16=>
 rtCons l16 fun x18 l19=>
 rtNil l19 (
 stK 6 e f (V.agg [(V.int .i64 x7),(V.int .i64 x10),x11,x13,(V.int .i64 x17),x18]) s3 fun s20=>
 ldnK E s20 e f 6 fun u21=>
 some ((V.agg u21),s20))) (
 K1 e f g h σ)
def S51_0 (a:V) (b c:Int) (σ:H):St:=⟨[(0,a),(1,(V.int .i64 b)),(2,(V.int .i64 c))],[],[],σ⟩
def S51_1 (a b c d:Nat) (σ:H):St:=⟨[(6,(V.ptr a b)),(8,(V.ptr c d))],[],[],σ⟩
def S51_2 (a b:Int) (c d e f g h:Nat) (i:Bool) (σ:H):St:=⟨[(1,(V.int .i64 a)),(2,(V.int .i64 b)),(3,(V.ptr c d)),(6,(V.ptr e f)),(8,(V.ptr g h)),(101,(V.bool i))],[],[],σ⟩
theorem P51_0 (cc1:XC) (cc2:XC) (a:V) (b c:Int) (σ:H) :
 denC E D W N (C51_0 cc1 cc2) (S51_0 a b c σ) (Fin51 E) nX (Fin51 E) =
 T51_0 E D W (fun d e f g σ=>denC E D W N cc1 (S51_1 d e f g σ) (Fin51 E) nX (Fin51 E)) (fun b c h i d e f g j σ=>denC E D W N cc2 (S51_2 b c h i d e f g j σ) (b51a E D W N cc1) (blkK 0 (b51a E D W N cc1) nX) (Fin51 E)) a b c σ:=by kernel_rfl
theorem P51_2 (cc1:XC) (a b:Int) (c d e f g h:Nat) (i:Bool) (σ:H) :
 denC E D W N (C51_2 ) (S51_2 a b c d e f g h i σ) (b51a E D W N cc1) (blkK 0 (b51a E D W N cc1) nX) (Fin51 E) =
 T51_2 E D W (fun e f g h σ=>denC E D W N cc1 (S51_1 e f g h σ) (Fin51 E) nX (Fin51 E)) a b c d e f g h i σ:=by kernel_rfl
def J51_1 (E:List (Nat × Blk)) (D:Den) (W:DrawFn) (N:Nat):=T51_1 E D W
theorem JE51_1 (a b c d:Nat) (σ:H) :
 denC E D W N C51_1 (S51_1 a b c d σ) (Fin51 E) nX (Fin51 E)=J51_1 E D W N a b c d σ:=by kernel_rfl
def J51_2:=T51_2 E D W (J51_1 E D W N )
theorem JE51_2 (a b:Int) (c d e f g h:Nat) (i:Bool) (σ:H) :
 denC E D W N C51_2 (S51_2 a b c d e f g h i σ) (b51a E D W N C51_1) (blkK 0 (b51a E D W N C51_1) nX) (Fin51 E)=J51_2 E D W N a b c d e f g h i σ:=by
 refine(P51_2 E D W N C51_1  a b c d e f g h i σ).trans ?_
 simp only[JE51_1]
 kernel_rfl
def J51_0:=T51_0 E D W (J51_1 E D W N ) (J51_2 E D W N )
theorem JE51_0 (a:V) (b c:Int) (σ:H) :
 denC E D W N (C51_0 C51_1 C51_2) (S51_0 a b c σ) (Fin51 E) nX (Fin51 E)=J51_0 E D W N a b c σ:=by
 refine(P51_0 E D W N C51_1 C51_2  a b c σ).trans ?_
 simp only[JE51_1,JE51_2]
 kernel_rfl
def F51 (args:List V) (σ:H):Ans:=
 rtCons args fun x1 l2=>
 xcI .i64 l2 fun x5 l4=>
 xcI .i64 l4 fun x8 l7=>
 rtNil l7 (
 J51_0 E D W N x1 x5 x8 σ)
def A51:XFn:=⟨109,y30,[(.cell 6 (some 6))],(C51_0 C51_1 C51_2)⟩
theorem FE51 (args:List V) (σ:H):runX E D W N A51 args σ=F51 E D W N args σ:=by
 unfold F51
 simp only[←JE51_0]
 kernel_rfl
def Fin52 (E:List (Nat × Blk)):St→Ans:=fun s=>resK E s [(.tmp 2)] fun l=>some (oneV l,s.σ)
def C52_0:XC:=(.z (.q 2 0<|
.nil)
 (.seq (.z (.m 4 0<|
.k 5 .i 114 [(.t 4)]<|
.m 3 5<|
.nil)
 (.block 0 (.z (.m 7 3<|
.b 8 .neq .none (.t 7) (.i 0)<|
.m 6 8<|
.nil)
 (.cond (.tmp 6) (.z (.m 9 3<|
.m 2 9<|
.nil)
 .ret)
 (.z (.m 11 0<|
.n 12 11<|
.f 13 2 12<|
.l 14 .bool 13<|
.m 15 14<|
.gA 15 true (.p 16 [0,15] y14<|
.op (some 17) .i [16,15] (.call 115 [(.t 16)])<|
.p 18 [17,15] (.bin .eql .none (.t 17) (.i 8))<|
.nil) 19 15 18<|
.m 10 19<|
.nil)
 (.cond (.tmp 10) (.z (.q 2 0<|
.nil)
 .ret)
 .skip))))))
 (.z (.m 20 0<|
.n 21 20<|
.f 22 0 21<|
.l 23 .any 22<|
.k 24 .i 116 [(.t 23)]<|
.m 2 24<|
.nil)
 .ret)))
def T52_0 (E:List (Nat × Blk)) (D:Den) (W:DrawFn) (a b:Nat) (σ:H):Ans:=
 callK (D 114 [(V.ptr a b)] σ) fun u1 s2=>
 rtInt .i64 u1 fun x3=>
 condK (not (eqF x3 (Int.ofNat 0))) (
 some ((V.int .i64 x3),s2)) (
 ldK E s2 a (Nat.add b 2) fun u4=>
 rtBool u4 fun x5=>
 joinB (fun c6 s7=>
 condK c6 (
 some ((V.int .i64 (Int.ofNat 0)),s7)) (
 ldK E s7 a b fun u9=>
 callK (D 116 [u9] s7) fun u10 s11=>
 rtInt .i64 u10 fun x12=>
 some ((V.int .i64 x12),s11))) fun k8=>
 condK x5 (
 callK (D 115 [(V.ptr a b)] s2) fun u13 s14=>
 rtInt .i64 u13 fun x15=>
 k8 (eqF x15 (Int.ofNat 8)) s14) (
 k8 false s2))
def S52_0 (a b:Nat) (σ:H):St:=⟨[(0,(V.ptr a b))],[],[],σ⟩
def J52_0 (E:List (Nat × Blk)) (D:Den) (W:DrawFn) (N:Nat):=T52_0 E D W
theorem JE52_0 (a b:Nat) (σ:H) :
 denC E D W N C52_0 (S52_0 a b σ) (Fin52 E) nX (Fin52 E)=J52_0 E D W N a b σ:=by kernel_rfl
def F52 (args:List V) (σ:H):Ans:=
 rtCons args fun x1 l2=>
 rtPtr x1 fun b3 o4=>
 rtNil l2 (
 J52_0 E D W N b3 o4 σ)
def A52:XFn:=⟨25,[.ptr],[(.tmp 2)],C52_0⟩
theorem FE52 (args:List V) (σ:H):runX E D W N A52 args σ=F52 E D W N args σ:=by
 unfold F52
 simp only[←JE52_0]
 kernel_rfl
def q56a:List (Nat × XTy):=[(0,.str),(5,.any),(6,.i)]
def Fin56 (E:List (Nat × Blk)):St→Ans:=fun s=>resK E s [(.tmp 2),(.tmp 3),(.tmp 4)] fun l=>some (oneV l,s.σ)
def C56_0 (cc1:XC):XC:=(.z (.c 2 V.nils<|
.q 3 0<|
.q 4 0<|
.nil)
 (.seq (.z (.m 9 0<|
.P 10 (.len true (.t 9))<|
.b 11 .gtr .none (.t 10) (.i 8000)<|
.nil)
 (.cond (.tmp 11) (.z (.c 2 V.nils<|
.q 3 0<|
.q 4 5<|
.nil)
 .ret)
 .skip))
 (.z (.c 5 V.nils<|
.nil)
 (.z (.q 6 0<|
.nil)
 (.block 0 (.loop q56a [] [] cc1))))))
def T56_0 (E:List (Nat × Blk)) (D:Den) (W:DrawFn) (K1:BS→V→Int→H→Ans) (a:BS) (σ:H):Ans:=
 condK (ltF (Int.ofNat 8000) (Int.ofNat (BS.len a))) (
 some ((V.tup [V.nils,(V.int .i64 (Int.ofNat 0)),(V.int .i64 (Int.ofNat 5))]),σ)) (
 K1 a V.nils (Int.ofNat 0) σ)
def C56_1:XC:=(.block 1 (.z (.m 12 0<|
.m 13 6<|
.k 14 .i 117 [(.t 12),(.t 13)]<|
.m 6 14<|
.nil)
 (.seq (.z (.m 15 6<|
.m 16 0<|
.P 17 (.len true (.t 16))<|
.b 18 .geq .none (.t 15) (.t 17)<|
.nil)
 (.cond (.tmp 18) (.z (.m 19 5<|
.m 20 0<|
.P 21 (.len true (.t 20))<|
.op (some 22) y8 [21] (.build [y0,y7,y0] [(2,1,(.t 21))])<|
.p 23 [22] (.buildSlice 121 1 [y0,y7,y0] [(0,3,(.t 22))])<|
.O 24 .one (.append 121 3 32 (.t 19) (.t 23))<|
.m 2 24<|
.q 3 0<|
.q 4 0<|
.nil)
 .ret)
 .skip))
 (.z (.m 26 0<|
.m 27 6<|
.k 28 (.tup [y8,.i]) 118 [(.t 26),(.t 27)]<|
.m 25 28<|
.P 29 (.extract 0 (.t 25))<|
.P 30 (.extract 1 (.t 25))<|
.pal 7 [] 121 [y0,y7,y0]<|
.op none y8 [7,29] (.store 3 (.t 7) (.t 29))<|
.m 8 30<|
.nil)
 (.seq (.z (.m 31 8<|
.b 32 .lss .none (.t 31) (.i 0)<|
.nil)
 (.cond (.tmp 32) (.z (.m 33 6<|
.c 2 V.nils<|
.m 3 33<|
.q 4 6<|
.nil)
 .ret)
 .skip))
 (.z (.m 34 5<|
.O 35 y8 (.load (some 3) (.t 7))<|
.p 36 [35] (.buildSlice 121 1 [y0,y7,y0] [(0,3,(.t 35))])<|
.O 37 .one (.append 121 3 32 (.t 34) (.t 36))<|
.m 5 37<|
.nil)
 (.ops (.m 38 8<|
.m 6 38<|
.nil))))))))
def T56_1 (E:List (Nat × Blk)) (D:Den) (W:DrawFn) (R1:BS→V→Int→H→Ans) (a:BS) (b:V) (c:Int) (σ:H):Ans:=
 callK (D 117 [(V.str a),(V.int .i64 c)] σ) fun u1 s2=>
 rtInt .i64 u1 fun x3=>
 condK (leF (Int.ofNat (BS.len a)) x3) (
 let s4:=newB s2 (.cells [(V.int .i64 (Int.ofNat 0)),(V.str (BS.mk 0 0)),(V.int .i64 (Int.ofNat (BS.len a)))]);
 appK E 3 32 b (V.sl (H.next s2) 0 1 (.ex 1)) s4 fun u5 s6=>
 rtOne u5 (
 some ((V.tup [u5,(V.int .i64 (Int.ofNat 0)),(V.int .i64 (Int.ofNat 0))]),s6))) (
 callK (D 118 [(V.str a),(V.int .i64 x3)] s2) fun u7 s8=>
 rtTup u7 fun l9=>
 rtCons l9 fun x10 l11=>
 rtAgg x10 fun l12=>
 xcI .i64 l12 fun x15 l14=>
 xcS l14 fun x18 l17=>
 xcI .i64 l17 fun x21 l20=>
 rtNil l20 (
 xcI .i64 l11 fun x24 l23=>
 rtNil l23 (
 condK (ltF x24 (Int.ofNat 0)) (
 some ((V.tup [V.nils,(V.int .i64 x3),(V.int .i64 (Int.ofNat 6))]),s8)) (
 let s25:=newB s8 (.cells [(V.int .i64 x15),(V.str x18),(V.int .i64 x21)]);
 appK E 3 32 b (V.sl (H.next s8) 0 1 (.ex 1)) s25 fun u26 s27=>
 rtOne u26 (
 R1 a u26 x24 s27)))))
def S56_0 (a:BS) (σ:H):St:=⟨[(0,(V.str a))],[],[],σ⟩
def S56_1 (a:BS) (b:V) (c:Int) (σ:H):St:=⟨[(0,(V.str a)),(5,b),(6,(V.int .i64 c))],[],[],σ⟩
theorem P56_0 (cc1:XC) (a:BS) (σ:H) :
 denC E D W N (C56_0 cc1) (S56_0 a σ) (Fin56 E) nX (Fin56 E) =
 T56_0 E D W (fun a b c σ=>iterK (fun rec s'=>denC E D W N cc1 s' (kX q56a [] [] rec) (blkK 0 (Fin56 E) nX) (Fin56 E)) N (S56_1 a b c σ)) a σ:=by kernel_rfl
theorem P56_1 (li1:St→Ans) (a:BS) (b:V) (c:Int) (σ:H) :
 denC E D W N (C56_1 ) (S56_1 a b c σ) (kX q56a [] [] li1) (blkK 0 (Fin56 E) nX) (Fin56 E) =
 T56_1 E D W (fun a b c σ=>li1 (S56_1 a b c σ)) a b c σ:=by kernel_rfl
def L56_1 (E:List (Nat × Blk)) (D:Den) (W:DrawFn) (N:Nat) (n:Nat):BS→V→Int→H→Ans:=
 Nat.rec (fun _ _ _ _=>none) (fun _ ih=>T56_1 E D W ih) n
theorem LE56_1 (n:Nat):∀(a:BS) (b:V) (c:Int) (σ:H),
 iterK (fun rec s'=>denC E D W N C56_1 s' (kX q56a [] [] rec) (blkK 0 (Fin56 E) nX) (Fin56 E)) n (S56_1 a b c σ)=L56_1 E D W N n a b c σ:=by
 induction n with
 | zero=>intro a b c σ;rfl
 | succ n ihn=>
  intro a b c σ
  rw[iterK_succ]
  refine(P56_1 E D W N  (iterK (fun rec s'=>denC E D W N C56_1 s' (kX q56a [] [] rec) (blkK 0 (Fin56 E) nX) (Fin56 E)) n) a b c σ).trans ?_
  simp only[ihn]
  kernel_rfl
def J56_0:=T56_0 E D W (L56_1 E D W N N)
theorem JE56_0 (a:BS) (σ:H) :
 denC E D W N (C56_0 C56_1) (S56_0 a σ) (Fin56 E) nX (Fin56 E)=J56_0 E D W N a σ:=by
 refine(P56_0 E D W N C56_1  a σ).trans ?_
 simp only[LE56_1]
 kernel_rfl
def F56 (args:List V) (σ:H):Ans:=
 xcS args fun x3 l2=>
 rtNil l2 (
 J56_0 E D W N x3 σ)
def A56:XFn:=⟨39,[.str],[(.tmp 2),(.tmp 3),(.tmp 4)],(C56_0 C56_1)⟩
theorem FE56 (args:List V) (σ:H):runX E D W N A56 args σ=F56 E D W N args σ:=by
 unfold F56
 simp only[←JE56_0]
 kernel_rfl
def Fin57 (E:List (Nat × Blk)):St→Ans:=fun s=>resK E s [(.tmp 4)] fun l=>some (oneV l,s.σ)
def C57_0:XC:=(.z (.c 4 y7<|
.nil)
 (.z (.m 6 0<|
.k 7 y8 60 [(.t 6)]<|
.pal 5 [] 121 [y0,y7,y0]<|
.op none y8 [5,7] (.store 3 (.t 5) (.t 7))<|
.nil)
 (.seq (.z (.m 8 0<|
.n 9 8<|
.f 10 7 9<|
.l 11 .i 10<|
.b 12 .neq .none (.t 11) (.i 0)<|
.m 13 12<|
.gO 13 false (.p 14 [5,13] (.faddr 0 (.t 5))<|
.op (some 15) .i [14,13] (.load none (.t 14))<|
.p 16 [1,13] y15<|
.p 17 [15,16,13] (.bin .neq .none (.t 15) (.t 16))<|
.nil) 18 13 17<|
.nil)
 (.cond (.tmp 18) (.z (.m 19 0<|
.O 20 y8 (.load (some 3) (.t 5))<|
.k 21 y11 61 [(.t 19),(.i 7),(.t 20)]<|
.nil)
 (.z (.c 4 y7<|
.nil)
 .ret))
 .skip))
 (.z (.m 22 0<|
.k 23 y8 119 [(.t 22)]<|
.O 24 .str (.field 1 none (.t 23))<|
.m 4 24<|
.nil)
 .ret))))
def T57_0 (E:List (Nat × Blk)) (D:Den) (W:DrawFn) (a b:Nat) (c:Int) (σ:H):Ans:=
 callK (D 60 [(V.ptr a b)] σ) fun u1 s2=>
 rtAgg u1 fun l3=>
 xcI .i64 l3 fun x6 l5=>
 xcS l5 fun x9 l8=>
 xcI .i64 l8 fun x12 l11=>
 rtNil l11 (
 ldK E s2 a (Nat.add b 7) fun u13=>
 rtInt .i64 u13 fun x14=>
 joinB (fun c15 s16=>
 condK c15 (
 callK (D 61 [(V.ptr a b),(V.int .i64 (Int.ofNat 7)),(V.agg [(V.int .i64 x6),(V.str x9),(V.int .i64 x12)])] s16) fun u18 s19=>
 rtTup u18 fun l20=>
 rtNil l20 (
 some ((V.str (BS.mk 0 0)),s19))) (
 callK (D 119 [(V.ptr a b)] s16) fun u21 s22=>
 rtAgg u21 fun l23=>
 xcI .i64 l23 fun x26 l25=>
 xcS l25 fun x29 l28=>
 xcI .i64 l28 fun x32 l31=>
 rtNil l31 (
 some ((V.str x29),s22)))) fun k17=>
 condK (not (eqF x14 (Int.ofNat 0))) (
 k17 true s2) (
 k17 (not (eqF x6 c)) s2))
def S57_0 (a b:Nat) (c:Int) (σ:H):St:=⟨[(0,(V.ptr a b)),(1,(V.int .i64 c))],[],[],σ⟩
def J57_0 (E:List (Nat × Blk)) (D:Den) (W:DrawFn) (N:Nat):=T57_0 E D W
theorem JE57_0 (a b:Nat) (c:Int) (σ:H) :
 denC E D W N C57_0 (S57_0 a b c σ) (Fin57 E) nX (Fin57 E)=J57_0 E D W N a b c σ:=by kernel_rfl
def F57 (args:List V) (σ:H):Ans:=
 rtCons args fun x1 l2=>
 rtPtr x1 fun b3 o4=>
 xcI .i64 l2 fun x7 l6=>
 rtNil l6 (
 J57_0 E D W N b3 o4 x7 σ)
def A57:XFn:=⟨25,[.ptr,.i],[(.tmp 4)],C57_0⟩
theorem FE57 (args:List V) (σ:H):runX E D W N A57 args σ=F57 E D W N args σ:=by
 unfold F57
 simp only[←JE57_0]
 kernel_rfl
def Fin58 (E:List (Nat × Blk)):St→Ans:=fun s=>resK E s [] fun l=>some (oneV l,s.σ)
def C58_0:XC:=(.z (.m 4 0<|
.n 5 4<|
.f 6 7 5<|
.l 7 .i 6<|
.b 8 .eql .none (.t 7) (.i 0)<|
.m 9 8<|
.gA 9 true (.p 10 [0,9] y14<|
.p 11 [1,9] y15<|
.op (some 12) .bool [10,11,9] (.call 59 [(.t 10),(.t 11)])<|
.p 13 [12,9] (.un .not (.t 12))<|
.nil) 14 9 13<|
.nil)
 (.cond (.tmp 14) (.ops (.m 15 0<|
.m 16 0<|
.k 17 y8 60 [(.t 16)]<|
.k 18 y11 61 [(.t 15),(.i 7),(.t 17)]<|
.nil))
 .skip))
def T58_0 (E:List (Nat × Blk)) (D:Den) (W:DrawFn) (a b:Nat) (c:BS) (σ:H):Ans:=
 ldK E σ a (Nat.add b 7) fun u1=>
 rtInt .i64 u1 fun x2=>
 joinB (fun c3 s4=>
 condK c3 (
 callK (D 60 [(V.ptr a b)] s4) fun u6 s7=>
 rtAgg u6 fun l8=>
 xcI .i64 l8 fun x11 l10=>
 xcS l10 fun x14 l13=>
 xcI .i64 l13 fun x17 l16=>
 rtNil l16 (
 callK (D 61 [(V.ptr a b),(V.int .i64 (Int.ofNat 7)),(V.agg [(V.int .i64 x11),(V.str x14),(V.int .i64 x17)])] s7) fun u18 s19=>
 rtTup u18 fun l20=>
 rtNil l20 (
 some ((V.tup []),s19)))) (
 some ((V.tup []),s4))) fun k5=>
 condK (eqF x2 (Int.ofNat 0)) (
 callK (D 59 [(V.ptr a b),(V.str c)] σ) fun u21 s22=>
 rtBool u21 fun x23=>
 k5 (not x23) s22) (
 k5 false σ)
def S58_0 (a b:Nat) (c:BS) (σ:H):St:=⟨[(0,(V.ptr a b)),(1,(V.str c))],[],[],σ⟩
def J58_0 (E:List (Nat × Blk)) (D:Den) (W:DrawFn) (N:Nat):=T58_0 E D W
theorem JE58_0 (a b:Nat) (c:BS) (σ:H) :
 denC E D W N C58_0 (S58_0 a b c σ) (Fin58 E) nX (Fin58 E)=J58_0 E D W N a b c σ:=by kernel_rfl
def F58 (args:List V) (σ:H):Ans:=
 rtCons args fun x1 l2=>
 rtPtr x1 fun b3 o4=>
 xcS l2 fun x7 l6=>
 rtNil l6 (
 J58_0 E D W N b3 o4 x7 σ)
def A58:XFn:=⟨19,[.ptr,.str],[],C58_0⟩
theorem FE58 (args:List V) (σ:H):runX E D W N A58 args σ=F58 E D W N args σ:=by
 unfold F58
 simp only[←JE58_0]
 kernel_rfl
def Fin59 (E:List (Nat × Blk)):St→Ans:=fun s=>resK E s [(.tmp 4)] fun l=>some (oneV l,s.σ)
def C59_0:XC:=(.z (.c 4 y2<|
.nil)
 (.z (.m 6 0<|
.k 7 y8 60 [(.t 6)]<|
.pal 5 [] 121 [y0,y7,y0]<|
.op none y8 [5,7] (.store 3 (.t 5) (.t 7))<|
.nil)
 (.seq (.z (.m 8 0<|
.n 9 8<|
.f 10 7 9<|
.l 11 .i 10<|
.b 12 .eql .none (.t 11) (.i 0)<|
.m 13 12<|
.gA 13 true (.p 14 [5,13] (.faddr 0 (.t 5))<|
.op (some 15) .i [14,13] (.load none (.t 14))<|
.p 16 [15,13] (.bin .eql .none (.t 15) (.i 5))<|
.p 17 [16,13] (.mov (.t 16))<|
.grp 17 false (.p 18 [5,17] (.faddr 0 (.t 5))<|
.op (some 19) .i [18,17] (.load none (.t 18))<|
.p 20 [19,17] (.bin .eql .none (.t 19) (.i 6))<|
.nil) 21 [17,20,13] (.t 17) y9 (.t 20)<|
.nil) 22 13 21<|
.m 23 22<|
.gA 23 true (.p 24 [5,23] (.faddr 1 (.t 5))<|
.op (some 25) .str [24,23] (.load none (.t 24))<|
.p 26 [1,23] y15<|
.p 27 [25,26,23] (.bin .eql .none (.t 25) (.t 26))<|
.nil) 28 23 27<|
.nil)
 (.cond (.tmp 28) (.z (.m 29 0<|
.k 30 y8 119 [(.t 29)]<|
.nil)
 (.z (.c 4 y23<|
.nil)
 .ret))
 .skip))
 (.z (.c 4 y2<|
.nil)
 .ret))))
def T59_0 (E:List (Nat × Blk)) (D:Den) (W:DrawFn) (a b:Nat) (c:BS) (σ:H):Ans:=
 callK (D 60 [(V.ptr a b)] σ) fun u1 s2=>
 rtAgg u1 fun l3=>
 xcI .i64 l3 fun x6 l5=>
 xcS l5 fun x9 l8=>
 xcI .i64 l8 fun x12 l11=>
 rtNil l11 (
 ldK E s2 a (Nat.add b 7) fun u13=>
 rtInt .i64 u13 fun x14=>
 joinB (fun c15 s16=>
 joinB (fun c18 s19=>
 condK c18 (
 callK (D 119 [(V.ptr a b)] s19) fun u21 s22=>
 rtAgg u21 fun l23=>
 xcI .i64 l23 fun x26 l25=>
 xcS l25 fun x29 l28=>
 xcI .i64 l28 fun x32 l31=>
 rtNil l31 (
 some ((V.bool true),s22))) (
 some ((V.bool false),s19))) fun k20=>
 condK c15 (
 k20 (BS.beq x9 c) s16) (
 k20 false s16)) fun k17=>
 condK (eqF x14 (Int.ofNat 0)) (
 joinB (fun c33 s34=>
 k17 c33 s34) fun k35=>
 condK (eqF x6 (Int.ofNat 5)) (
 k35 true s2) (
 k35 (eqF x6 (Int.ofNat 6)) s2)) (
 k17 false s2))
def S59_0 (a b:Nat) (c:BS) (σ:H):St:=⟨[(0,(V.ptr a b)),(1,(V.str c))],[],[],σ⟩
def J59_0 (E:List (Nat × Blk)) (D:Den) (W:DrawFn) (N:Nat):=T59_0 E D W
theorem JE59_0 (a b:Nat) (c:BS) (σ:H) :
 denC E D W N C59_0 (S59_0 a b c σ) (Fin59 E) nX (Fin59 E)=J59_0 E D W N a b c σ:=by kernel_rfl
def F59 (args:List V) (σ:H):Ans:=
 rtCons args fun x1 l2=>
 rtPtr x1 fun b3 o4=>
 xcS l2 fun x7 l6=>
 rtNil l6 (
 J59_0 E D W N b3 o4 x7 σ)
def A59:XFn:=⟨31,[.ptr,.str],[(.tmp 4)],C59_0⟩
theorem FE59 (args:List V) (σ:H):runX E D W N A59 args σ=F59 E D W N args σ:=by
 unfold F59
 simp only[←JE59_0]
 kernel_rfl
def Fin60 (E:List (Nat × Blk)):St→Ans:=fun s=>resK E s [(.cell 2 (some 3))] fun l=>some (oneV l,s.σ)
def C60_0:XC:=(.z (.pal 2 [] 121 [y0,y7,y0]<|
.nil)
 (.seq (.draw (.m 3 0<|
.n 4 3<|
.f 5 0 4<|
.l 6 .any 5<|
.m 7 0<|
.n 8 7<|
.f 9 1 8<|
.l 10 .i 9<|
.s 11 3 6 10<|
.O 12 y8 (.load (some 3) (.t 11))<|
.op none y8 [2,12] (.store 3 (.t 2) (.t 12))<|
.nil) [0,1,3,7,0,16,48,112,255,511,1023])
 .ret))
def T60_0 (E:List (Nat × Blk)) (D:Den) (W:DrawFn) (a b:Nat) (σ:H):Ans:=
 ldK E σ a b fun u1=>
 ldK E σ a (Nat.add b 1) fun u2=>
 rtInt .i64 u2 fun x3=>
 iaddrSK 3 u1 x3 fun b4 o5=>
 ldnK E σ b4 o5 3 fun l6=>
 xcI .i64 l6 fun x9 l8=>
 xcS l8 fun x12 l11=>
 xcI .i64 l11 fun x15 l14=>
 rtNil l14 (
 some ((V.agg [(V.int .i64 x9),(V.str x12),(V.int .i64 x15)]),σ))
def S60_0 (a b:Nat) (σ:H):St:=⟨[(0,(V.ptr a b))],[],[],σ⟩
def J60_0 (E:List (Nat × Blk)) (D:Den) (W:DrawFn) (N:Nat):=T60_0 E D W
theorem JE60_0 (a b:Nat) (σ:H) :
 denC E D W N C60_0 (S60_0 a b σ) (Fin60 E) nX (Fin60 E)=J60_0 E D W N a b σ:=by kernel_rfl
def F60 (args:List V) (σ:H):Ans:=
 rtCons args fun x1 l2=>
 rtPtr x1 fun b3 o4=>
 rtNil l2 (
 J60_0 E D W N b3 o4 σ)
def A60:XFn:=⟨13,[.ptr],[(.cell 2 (some 3))],C60_0⟩
theorem FE60 (args:List V) (σ:H):runX E D W N A60 args σ=F60 E D W N args σ:=by
 unfold F60
 simp only[←JE60_0]
 kernel_rfl
def q62a:List (Nat × XTy):=[(0,.ptr),(1,.i),(5,.i),(6,.ptr)]
def Fin62 (E:List (Nat × Blk)):St→Ans:=fun s=>resK E s [(.tmp 4)] fun l=>some (oneV l,s.σ)
def C62_0 (cc1:XC) (cc2:XC):XC:=(.z (.q 4 0<|
.nil)
 (.seq (.z (.m 9 0<|
.n 10 9<|
.f 11 7 10<|
.l 12 .i 11<|
.b 13 .neq .none (.t 12) (.i 0)<|
.nil)
 (.cond (.tmp 13) (.z (.q 4 0<|
.nil)
 .ret)
 .skip))
 (.seq (.z (.m 14 0<|
.k 15 y8 60 [(.t 14)]<|
.k 16 .bool 120 [(.t 15)]<|
.P 17 (.un .not (.t 16))<|
.nil)
 (.cond (.tmp 17) (.z (.m 18 0<|
.m 19 0<|
.k 20 y8 60 [(.t 19)]<|
.k 21 y11 61 [(.t 18),(.i 7),(.t 20)]<|
.nil)
 (.z (.q 4 0<|
.nil)
 .ret))
 .skip))
 (.seq (.z (.m 22 1<|
.b 23 .gtr .none (.t 22) (.i 16)<|
.m 24 23<|
.gO 24 false (.p 25 [0,24] y14<|
.p 26 [25,24] (.nilck (.t 25))<|
.p 27 [26,24] (.faddr 2 (.t 26))<|
.p 28 [27,24] (.faddr 4 (.t 27))<|
.p 29 [28,24] (.load none (.t 28))<|
.p 30 [29,24] (.len false (.t 29))<|
.p 31 [30,24] (.bin .geq .none (.t 30) (.i 300))<|
.nil) 32 24 31<|
.nil)
 (.cond (.tmp 32) (.z (.m 33 0<|
.m 34 0<|
.k 35 y8 60 [(.t 34)]<|
.k 36 y11 61 [(.t 33),(.i 5),(.t 35)]<|
.nil)
 (.z (.q 4 0<|
.nil)
 .ret))
 .skip))
 (.z (.m 37 0<|
.n 38 37<|
.f 39 2 38<|
.f 40 4 39<|
.l 41 .any 40<|
.u 42 41<|
.m 5 42<|
.nil)
 (.z (.m 43 0<|
.m 44 0<|
.n 45 44<|
.f 46 2 45<|
.f 47 4 46<|
.l 48 .any 47<|
.op (some 49) y4 [] (.build [y0,y7,y2,y0,y0,y2,y2,y2,y2,y0,y0,V.nils,V.nils,y0,y2,y0] [])<|
.p 50 [49] (.buildSlice 183 1 [y0,y7,y2,y0,y0,y2,y2,y2,y2,y0,y0,V.nils,V.nils,y0,y2,y0] [(0,16,(.t 49))])<|
.O 51 .one (.append 183 16 144 (.t 48) (.t 50))<|
.n 52 43<|
.f 53 2 52<|
.f 54 4 53<|
.w 1 54 51<|
.nil)
 (.z (.op (some 55) y4 [] (.build [y0,y7,y2,y0,y0,y2,y2,y2,y2,y0,y0,V.nils,V.nils,y0,y2,y0] [])<|
.p 6 [] (.alloc 183 [y0,y7,y2,y0,y0,y2,y2,y2,y2,y0,y0,V.nils,V.nils,y0,y2,y0])<|
.op none y4 [6,55] (.store 16 (.t 6) (.t 55))<|
.nil)
 (.seq (.z (.m 56 0<|
.k 57 .bool 59 [(.t 56),(.con (V.str ⟨1,91⟩))]<|
.nil)
 (.cond (.tmp 57) (.z (.m 58 0<|
.k 59 y8 60 [(.t 58)]<|
.pal 7 [] 121 [y0,y7,y0]<|
.op none y8 [7,59] (.store 3 (.t 7) (.t 59))<|
.nil)
 (.z (.m 60 0<|
.k 61 .i 121 [(.t 60)]<|
.m 8 61<|
.nil)
 (.seq (.z (.m 62 0<|
.n 63 62<|
.f 64 7 63<|
.l 65 .i 64<|
.b 66 .eql .none (.t 65) (.i 0)<|
.m 67 66<|
.gA 67 true (.p 68 [8,67] y28<|
.p 69 [68,67] (.bin .lss .none (.t 68) (.i 0))<|
.p 70 [69,67] (.mov (.t 69))<|
.grp 70 false (.p 71 [8,70] y28<|
.p 72 [71,70] (.bin .gtr .none (.t 71) (.i 268435456))<|
.nil) 73 [70,72,67] (.t 70) y9 (.t 72)<|
.nil) 74 67 73<|
.nil)
 (.cond (.tmp 74) (.ops (.m 75 0<|
.O 76 y8 (.load (some 3) (.t 7))<|
.k 77 y11 61 [(.t 75),(.i 12),(.t 76)]<|
.nil))
 .skip))
 (.keep [(0,.ptr),(1,.i),(5,.i),(6,.ptr),(8,.i)] [] [] cc2))))
 .skip))
 (.keep q62a [] [] cc1)))))))))
def T62_0 (E:List (Nat × Blk)) (D:Den) (W:DrawFn) (K1:Nat→Nat→Int→Int→Nat→Nat→H→Ans) (K2:Nat→Nat→Int→Int→Nat→Nat→Int→H→Ans) (a b:Nat) (c:Int) (σ:H):Ans:=
 ldK E σ a (Nat.add b 7) fun u1=>
 rtInt .i64 u1 fun x2=>
 condK (not (eqF x2 (Int.ofNat 0))) (
 some ((V.int .i64 (Int.ofNat 0)),σ)) (
 callK (D 60 [(V.ptr a b)] σ) fun u3 s4=>
 rtAgg u3 fun l5=>
 xcI .i64 l5 fun x8 l7=>
 xcS l7 fun x11 l10=>
 xcI .i64 l10 fun x14 l13=>
 rtNil l13 (
 callK (D 120 [(V.agg [(V.int .i64 x8),(V.str x11),(V.int .i64 x14)])] s4) fun u15 s16=>
 rtBool u15 fun x17=>
 condK (not x17) (
 callK (D 60 [(V.ptr a b)] s16) fun u18 s19=>
 rtAgg u18 fun l20=>
 xcI .i64 l20 fun x23 l22=>
 xcS l22 fun x26 l25=>
 xcI .i64 l25 fun x29 l28=>
 rtNil l28 (
 callK (D 61 [(V.ptr a b),(V.int .i64 (Int.ofNat 7)),(V.agg [(V.int .i64 x23),(V.str x26),(V.int .i64 x29)])] s19) fun u30 s31=>
 rtTup u30 fun l32=>
 rtNil l32 (
 some ((V.int .i64 (Int.ofNat 0)),s31)))) (
 joinB (fun c33 s34=>
 condK c33 (
 callK (D 60 [(V.ptr a b)] s34) fun u36 s37=>
 rtAgg u36 fun l38=>
 xcI .i64 l38 fun x41 l40=>
 xcS l40 fun x44 l43=>
 xcI .i64 l43 fun x47 l46=>
 rtNil l46 (
 callK (D 61 [(V.ptr a b),(V.int .i64 (Int.ofNat 5)),(V.agg [(V.int .i64 x41),(V.str x44),(V.int .i64 x47)])] s37) fun u48 s49=>
 rtTup u48 fun l50=>
 rtNil l50 (
 some ((V.int .i64 (Int.ofNat 0)),s49)))) (
 ldK E s34 a (Nat.add (Nat.add b 2) 4) fun u51=>
 slenK u51 fun n52=>
 ldK E s34 a (Nat.add (Nat.add b 2) 4) fun u53=>
 let s54:=newB s34 (.cells [(V.int .i64 (Int.ofNat 0)),(V.str (BS.mk 0 0)),(V.bool false),(V.int .i64 (Int.ofNat 0)),(V.int .i64 (Int.ofNat 0)),(V.bool false),(V.bool false),(V.bool false),(V.bool false),(V.int .i64 (Int.ofNat 0)),(V.int .i64 (Int.ofNat 0)),V.nils,V.nils,(V.int .i64 (Int.ofNat 0)),(V.bool false),(V.int .i64 (Int.ofNat 0))]);
 appK E 16 144 u53 (V.sl (H.next s34) 0 1 (.ex 1)) s54 fun u55 s56=>
 rtOne u55 (
 stK 1 a (Nat.add (Nat.add b 2) 4) u55 s56 fun s57=>
 let s58:=newB s57 (.cells [(V.int .i64 (Int.ofNat 0)),(V.str ⟨0,0⟩),(V.bool false),(V.int .i64 (Int.ofNat 0)),(V.int .i64 (Int.ofNat 0)),(V.bool false),(V.bool false),(V.bool false),(V.bool false),(V.int .i64 (Int.ofNat 0)),(V.int .i64 (Int.ofNat 0)),V.nils,V.nils,(V.int .i64 (Int.ofNat 0)),(V.bool false),(V.int .i64 (Int.ofNat 0))]);
 stK 16 (H.next s57) 0 (V.agg [(V.int .i64 (Int.ofNat 0)),(V.str (BS.mk 0 0)),(V.bool false),(V.int .i64 (Int.ofNat 0)),(V.int .i64 (Int.ofNat 0)),(V.bool false),(V.bool false),(V.bool false),(V.bool false),(V.int .i64 (Int.ofNat 0)),(V.int .i64 (Int.ofNat 0)),V.nils,V.nils,(V.int .i64 (Int.ofNat 0)),(V.bool false),(V.int .i64 (Int.ofNat 0))]) s58 fun s59=>
 callK (D 59 [(V.ptr a b),(V.str (BS.mk 1 91))] s59) fun u60 s61=>
 rtBool u60 fun x62=>
 condK x62 (
 callK (D 60 [(V.ptr a b)] s61) fun u63 s64=>
 rtAgg u63 fun l65=>
 xcI .i64 l65 fun x68 l67=>
 xcS l67 fun x71 l70=>
 xcI .i64 l70 fun x74 l73=>
 rtNil l73 (
 callK (D 121 [(V.ptr a b)] s64) fun u75 s76=>
 rtInt .i64 u75 fun x77=>
 ldK E s76 a (Nat.add b 7) fun u78=>
 rtInt .i64 u78 fun x79=>
 joinB (fun c80 s81=>
 condK c80 (
 callK (D 61 [(V.ptr a b),(V.int .i64 (Int.ofNat 12)),(V.agg [(V.int .i64 x68),(V.str x71),(V.int .i64 x74)])] s81) fun u83 s84=>
 rtTup u83 fun l85=>
 rtNil l85 (
 K2 a b c (Int.ofNat n52) (H.next s57) 0 x77 s84)) (
 K2 a b c (Int.ofNat n52) (H.next s57) 0 x77 s81)) fun k82=>
 condK (eqF x79 (Int.ofNat 0)) (
 joinB (fun c86 s87=>
 k82 c86 s87) fun k88=>
 condK (ltF x77 (Int.ofNat 0)) (
 k88 true s76) (
 k88 (ltF (Int.ofNat 268435456) x77) s76)) (
 k82 false s76))) (
 K1 a b c (Int.ofNat n52) (H.next s57) 0 s61)))) fun k35=>
 condK (ltF (Int.ofNat 16) c) (
 k35 true s16) (
 ldK E s16 a (Nat.add (Nat.add b 2) 4) fun u89=>
 slenK u89 fun n90=>
 k35 (leF (Int.ofNat 300) (Int.ofNat n90)) s16))))
def C62_1:XC:=(.z (.m 91 0<|
.m 92 1<|
.k 93 y11 122 [(.t 91),(.t 6),(.t 92)]<|
.nil)
 (.seq (.z (.m 94 0<|
.n 95 94<|
.f 96 7 95<|
.l 97 .i 96<|
.b 98 .neq .none (.t 97) (.i 0)<|
.nil)
 (.cond (.tmp 98) (.z (.q 4 0<|
.nil)
 .ret)
 .skip))
 (.seq (.draw (.m 99 0<|
.n 100 99<|
.f 101 2 100<|
.f 102 4 101<|
.l 103 .any 102<|
.m 104 5<|
.O 105 y4 (.load (some 16) (.t 6))<|
.s 106 16 103 104<|
.op none y4 [106,105] (.store 16 (.t 106) (.t 105))<|
.nil) [0,1,3,7,15,0,0,127,255])
 (.z (.m 107 5<|
.m 4 107<|
.nil)
 .ret))))
def T62_1 (E:List (Nat × Blk)) (D:Den) (W:DrawFn) (a b:Nat) (c d:Int) (e f:Nat) (σ:H):Ans:=
 callK (D 122 [(V.ptr a b),(V.ptr e f),(V.int .i64 c)] σ) fun u1 s2=>
 rtTup u1 fun l3=>
 rtNil l3 (
 ldK E s2 a (Nat.add b 7) fun u4=>
 rtInt .i64 u4 fun x5=>
 condK (not (eqF x5 (Int.ofNat 0))) (
 some ((V.int .i64 (Int.ofNat 0)),s2)) (
 ldK E s2 a (Nat.add (Nat.add b 2) 4) fun u6=>
 ldnK E s2 e f 16 fun l7=>
 xcI .i64 l7 fun x10 l9=>
 xcS l9 fun x13 l12=>
 xcB l12 fun x16 l15=>
 xcI .i64 l15 fun x19 l18=>
 xcI .i64 l18 fun x22 l21=>
 xcB l21 fun x25 l24=>
 xcB l24 fun x28 l27=>
 xcB l27 fun x31 l30=>
 xcB l30 fun x34 l33=>
 xcI .i64 l33 fun x37 l36=>
 xcI .i64 l36 fun x40 l39=>
 rtCons l39 fun x41 l42=>
 rtCons l42 fun x43 l44=>
 xcI .i64 l44 fun x47 l46=>
 xcB l46 fun x50 l49=>
 xcI .i64 l49 fun x53 l52=>
 rtNil l52 (
 iaddrSK 16 u6 d fun b54 o55=>
 stK 16 b54 o55 (V.agg [(V.int .i64 x10),(V.str x13),(V.bool x16),(V.int .i64 x19),(V.int .i64 x22),(V.bool x25),(V.bool x28),(V.bool x31),(V.bool x34),(V.int .i64 x37),(V.int .i64 x40),x41,x43,(V.int .i64 x47),(V.bool x50),(V.int .i64 x53)]) s2 fun s56=>
 some ((V.int .i64 d),s56))))
def C62_2:XC:=(.z (.m 78 0<|
.k 79 y11 58 [(.t 78),(.con (V.str ⟨1,93⟩))]<|
.nil)
 (.z (.m 80 8<|
.op (some 81) (.agg [.bool,.i,.i]) [80] (.build [y2,y0,y0] [(0,1,y9),(1,1,(.t 80))])<|
.f 82 2 6<|
.op none (.agg [.bool,.i,.i]) [82,81] (.store 3 (.t 82) (.t 81))<|
.nil)
 (.z (.m 83 0<|
.k 84 .bool 59 [(.t 83),y37]<|
.nil)
 (.cond (.tmp 84) (.ops (.f 85 2 6<|
.f 86 2 85<|
.op none .any [86] (.store 1 (.t 86) (.i 1))<|
.nil))
 (.z (.m 87 0<|
.k 88 .bool 59 [(.t 87),y38]<|
.nil)
 (.cond (.tmp 88) (.ops (.f 89 2 6<|
.f 90 2 89<|
.op none .any [90] (.store 1 (.t 90) (.i 2))<|
.nil))
 .skip))))))
def T62_2 (E:List (Nat × Blk)) (D:Den) (W:DrawFn) (K1:Nat→Nat→Int→Int→Nat→Nat→H→Ans) (a b:Nat) (c d:Int) (e f:Nat) (g:Int) (σ:H):Ans:=
 callK (D 58 [(V.ptr a b),(V.str (BS.mk 1 93))] σ) fun u1 s2=>
 rtTup u1 fun l3=>
 rtNil l3 (
 stK 3 e (Nat.add f 2) (V.agg [(V.bool true),(V.int .i64 g),(V.int .i64 (Int.ofNat 0))]) s2 fun s4=>
 callK (D 59 [(V.ptr a b),(V.str (BS.mk 8 6073459554577832005))] s4) fun u5 s6=>
 rtBool u5 fun x7=>
 condK x7 (
 stK 1 e (Nat.add (Nat.add f 2) 2) (V.int .i64 (Int.ofNat 1)) s6 fun s8=>
 K1 a b c d e f s8) (
 callK (D 59 [(V.ptr a b),(V.str (BS.mk 8 6073459554577829193))] s6) fun u9 s10=>
 rtBool u9 fun x11=>
 condK x11 (
 stK 1 e (Nat.add (Nat.add f 2) 2) (V.int .i64 (Int.ofNat 2)) s10 fun s12=>
 K1 a b c d e f s12) (
 K1 a b c d e f s10)))
def S62_0 (a b:Nat) (c:Int) (σ:H):St:=⟨[(0,(V.ptr a b)),(1,(V.int .i64 c))],[],[],σ⟩
def S62_1 (a b:Nat) (c d:Int) (e f:Nat) (σ:H):St:=⟨[(0,(V.ptr a b)),(1,(V.int .i64 c)),(5,(V.int .i64 d)),(6,(V.ptr e f))],[],[],σ⟩
def S62_2 (a b:Nat) (c d:Int) (e f:Nat) (g:Int) (σ:H):St:=⟨[(0,(V.ptr a b)),(1,(V.int .i64 c)),(5,(V.int .i64 d)),(6,(V.ptr e f)),(8,(V.int .i64 g))],[],[],σ⟩
theorem P62_0 (cc1:XC) (cc2:XC) (a b:Nat) (c:Int) (σ:H) :
 denC E D W N (C62_0 cc1 cc2) (S62_0 a b c σ) (Fin62 E) nX (Fin62 E) =
 T62_0 E D W (fun a b c d e f σ=>denC E D W N cc1 (S62_1 a b c d e f σ) (Fin62 E) nX (Fin62 E)) (fun a b c d e f g σ=>denC E D W N cc2 (S62_2 a b c d e f g σ) (dX E D W N (.keep q62a [] [] cc1) (Fin62 E) nX (Fin62 E)) nX (Fin62 E)) a b c σ:=by kernel_rfl
theorem P62_2 (cc1:XC) (a b:Nat) (c d:Int) (e f:Nat) (g:Int) (σ:H) :
 denC E D W N (C62_2 ) (S62_2 a b c d e f g σ) (dX E D W N (.keep q62a [] [] cc1) (Fin62 E) nX (Fin62 E)) nX (Fin62 E) =
 T62_2 E D W (fun a b c d e f σ=>denC E D W N cc1 (S62_1 a b c d e f σ) (Fin62 E) nX (Fin62 E)) a b c d e f g σ:=by kernel_rfl
def J62_1 (E:List (Nat × Blk)) (D:Den) (W:DrawFn) (N:Nat):=T62_1 E D W
theorem JE62_1 (a b:Nat) (c d:Int) (e f:Nat) (σ:H) :
 denC E D W N C62_1 (S62_1 a b c d e f σ) (Fin62 E) nX (Fin62 E)=J62_1 E D W N a b c d e f σ:=by kernel_rfl
def J62_2:=T62_2 E D W (J62_1 E D W N )
theorem JE62_2 (a b:Nat) (c d:Int) (e f:Nat) (g:Int) (σ:H) :
 denC E D W N C62_2 (S62_2 a b c d e f g σ) (dX E D W N (.keep q62a [] [] C62_1) (Fin62 E) nX (Fin62 E)) nX (Fin62 E)=J62_2 E D W N a b c d e f g σ:=by
 refine(P62_2 E D W N C62_1  a b c d e f g σ).trans ?_
 simp only[JE62_1]
 kernel_rfl
def J62_0:=T62_0 E D W (J62_1 E D W N ) (J62_2 E D W N )
theorem JE62_0 (a b:Nat) (c:Int) (σ:H) :
 denC E D W N (C62_0 C62_1 C62_2) (S62_0 a b c σ) (Fin62 E) nX (Fin62 E)=J62_0 E D W N a b c σ:=by
 refine(P62_0 E D W N C62_1 C62_2  a b c σ).trans ?_
 simp only[JE62_1,JE62_2]
 kernel_rfl
def F62 (args:List V) (σ:H):Ans:=
 rtCons args fun x1 l2=>
 rtPtr x1 fun b3 o4=>
 xcI .i64 l2 fun x7 l6=>
 rtNil l6 (
 J62_0 E D W N b3 o4 x7 σ)
def A62:XFn:=⟨108,[.ptr,.i],[(.tmp 4)],(C62_0 C62_1 C62_2)⟩
theorem FE62 (args:List V) (σ:H):runX E D W N A62 args σ=F62 E D W N args σ:=by
 unfold F62
 simp only[←JE62_0]
 kernel_rfl
end
end Go.Proofs.YtgjjnbddbbhloaaGreatDoor
