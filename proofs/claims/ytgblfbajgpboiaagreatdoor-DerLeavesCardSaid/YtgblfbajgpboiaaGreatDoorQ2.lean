/- What the last text leans on, part 3 of 6: merged out of smaller texts. No condition. -/
import GoSem.ClaimChange
import Derived.Below
import Derived.KernelRfl
import Derived.Test.YtgblfbajgpboiaaGreatDoorQ1
set_option linter.unusedSimpArgs false
namespace Go.Og
variable {P:Program} {D:Den} {C:Cx}
theorem noBad_mem:∀{l:List AOper},noBad l=true→∀o∈l,o.op ≠ .bad
 | [],_,o,ho=>by simp at ho
 | a::l,h,o,ho=>by
  simp only[noBad,Bool.and_eq_true]at h
  rcases List.mem_cons.1 ho with rfl|ho
  ·intro hb;rw[hb]at h;cases h.1
  ·exact noBad_mem h.2 o ho
def Tok (R:Ren) (B:Bs) (x:Option Value):Oc→Prop
 | .val v=>∃y,x=some y∧conc R v=some y
 | .mark m off=>∃i,B m=some i∧x=some (.pointer (some ⟨i.blk,i.shift+off,none⟩))
 | .pal d _=>∃i,B d=some i∧x=some (.pointer (some ⟨i.blk,i.shift+0,none⟩))
theorem Tok.mono {R R':Ren} {B B':Bs} {x:Option Value} {c:Oc} (h:Tok R B x c) (hR:Le R R') (hB:∀m i,B m=some i→B' m=some i):Tok R' B' x c:=by
 cases c with
 | val v=>obtain⟨y,h1,h2⟩:=h;exact⟨y,h1,conc_mono hR v y h2⟩
 | mark m off=>obtain⟨i,h1,h2⟩:=h;exact⟨i,hB _ _ h1,h2⟩
 | pal d z=>obtain⟨i,h1,h2⟩:=h;exact⟨i,hB _ _ h1,h2⟩
set_option maxHeartbeats 2000000 in
theorem draw_ok (hD:∀f,SoundFn P C.E C.G f (D f)) (hmix:P.follows .mixedOrders=true) {nR:Nat} {R0:Ren} {nt:Nat} (rid:Nat) {ops:Array Oper} {l:XL} {ancs:List Nat}
    (hflat:l.flat none=ops.toList.map (compOper P C.G nt ops)) (hpl:List.zipWith DP.mk ancs l.lks=planOf ops) (hplan:planOk ops (ops.toList.map (compOper P C.G nt ops)) (planOf ops)=true)
    (hok:l.okG none none=true) (hdo:drawOk (l.flat none) ancs=true) (hanl:ancs.length=l.lks.length) (hmk:l.makes=false) (hnb:noBad (l.flat none)=true)
    {s:St} {a0:Act} {w00:World} {κ:Env→Qs→Rg→H→Ans} {res:V × H} (hpo:palsOk s.q l.pals=true)
    (h:denL C.E D true true 0 l 0 s.e s.q s.r s.σ κ=some res) (hI:InvS C nR R0 nt s a0 w00) (Q:Exit→Act→World→Prop)
    (hQ:∀s' a' w',κ s'.e s'.q s'.r s'.σ=some res→InvS C nR R0 nt s' a' w'→Q .normal a' w'):(Code.region rid ops true).wp P Q a0 w00:=by
  obtain⟨s',hrun,hκ,_⟩:=denL_run l none none none true 0 s κ res h hok (.inl ⟨rfl,rfl⟩) (fun _=>hmk)
  obtain⟨sts,oc,ex,hst0,hs',hat⟩:=run_chain hrun
  rw[zip_len]at hs'
  obtain⟨hfl1,hfl2⟩:=flat_len l none
  have hsz:l.size=ops.size:=by rw[←hfl1,hflat];simp
  generalize hnn:ops.size=n at *
  rw[hsz]at hs'
  have F:=planOk_ok (l:=ops.toList.map (compOper P C.G nt ops)) (by simp) hplan
  have hgood:∀(i:Nat) (o:Oper),ops[i]? = some o→∃g,compOper P C.G nt ops o=⟨o.dst,compOp P C.G o.op,g⟩∧compG ops o.guard=some g∧dstOk nt o.dst=true:=by
    intro i o ho
    have hmem:compOper P C.G nt ops o∈l.flat none:=by
      rw[hflat,List.mem_map]
      exact⟨o,by simpa using Array.mem_of_getElem? ho,rfl⟩
    have hb:=noBad_mem hnb _ hmem
    unfold compOper at hb ⊢
    split at hb
    · rename_i g h1 h2;exact⟨g,rfl,h1,h2⟩
    · exact(hb rfl).elim
  have hlt:∀{i:Nat} {o:Oper},ops[i]? = some o→i<n:=fun {i o} ho=>by
    rcases Nat.lt_or_ge i ops.size with h|h
    · omega
    · rw[Array.getElem?_eq_none h]at ho;cases ho
  have some3:∀(i:Nat),i<n→∃(o:Oper) (p:DP),ops[i]? = some o∧(planOf ops)[i]? = some p∧ancs.getD i 0=p.anc∧(l.flat none)[i]? = some (compOper P C.G nt ops o)∧At C.E D (sts i) (compOper P C.G nt ops o) p.looks (oc i) (ex i) (sts (i+1)):=by
    intro i hi
    have h1:i<ops.size:=by omega
    have ho:ops[i]? = some ops[i]:=Array.getElem?_eq_getElem h1
    have hf:(l.flat none)[i]? = some (compOper P C.G nt ops ops[i]):=by
      rw[hflat,List.getElem?_map,Array.getElem?_toList,ho];rfl
    have hk:l.lks[i]? = some (l.lks[i]'(by omega)):=List.getElem?_eq_getElem _
    have ha:ancs[i]? = some (ancs[i]'(by omega)):=List.getElem?_eq_getElem _
    refine⟨ops[i],⟨ancs[i]'(by omega),l.lks[i]'(by omega)⟩,ho,?_,?_,hf,?_⟩
    · rw[←hpl,List.getElem?_zipWith,ha,hk]
    · rw[List.getD_eq_getElem?_getD,ha];rfl
    · exact hat i _ _ (by rw[List.getElem?_zip_eq_some];exact⟨hf,hk⟩)
  have hdlt:∀(i:Nat) (o:Oper) (t:Nat),ops[i]? = some o→o.dst=some t→t<nt:=by
    intro i o t ho ht
    obtain⟨g,_,_,hd⟩:=hgood i o ho
    rw[ht]at hd;simpa[dstOk]using hd
  have hdu:∀(i k:Nat) (o o':Oper) (t:Nat),i≠k→ops[i]? = some o→ops[k]? = some o'→o.dst=some t→o'.dst≠some t:=by
    intro i k o o' t hne ho ho' ht
    obtain⟨o1,p1,h1,h2,_⟩:=some3 i (hlt ho)
    obtain⟨o2,p2,h3,h4,_⟩:=some3 k (hlt ho')
    exact(F.dsts i k o o' p1 p2 hne ho ho' h2 h4 t ht).1
  have hpald:∀(k m:Nat) (z:List V),k<n→oc k = .pal m z→ex k=true∧∃(o:Oper) (el:TypeId),ops[k]? = some o∧o.dst=some m∧compOp P C.G o.op = .alloc el z:=by
    intro k m z hk hc
    obtain⟨o,p,ho,_,_,_,hA⟩:=some3 k hk
    obtain⟨g,hg,_,_⟩:=hgood k o ho
    rw[hg]at hA
    rw[hc]at hA
    generalize ex k=x at hA ⊢
    cases hA with
    | pal _ d el z hd ho' hw h=>exact⟨rfl,o,el,ho,hd,ho'⟩
  have hpalu:∀(k k' m:Nat) (z z':List V),k<n→k'<n→oc k = .pal m z→oc k' = .pal m z'→k=k':=by
    intro k k' m z z' hk hk' h1 h2
    rcases Nat.decEq k k' with hne|he
    · exfalso
      obtain⟨_,o,_,ho,hd,_⟩:=hpald k m z hk h1
      obtain⟨_,o',_,ho',hd',_⟩:=hpald k' m z' hk' h2
      exact hdu k k' o o' m hne ho ho' hd hd'
    · exact he
  let W:Nat→Prop:=fun i=>ex i=true∧∃o:Oper,ops[i]? = some o∧(compOp P C.G o.op).cls = .k
  have seg:∀(p i:Nat),p≤i→i≤n→(∀k:Nat,p≤k→k<i→¬W k)→(sts i).σ=(sts p).σ∧(∀m,(∀k z,p≤k→k<i→oc k ≠ .pal m z)→look (sts i).r m=look (sts p).r m) ∧
      (∀k m z,p≤k→k<i→oc k = .pal m z→look (sts i).r m=some z):=by
    intro p i
    induction i with
    | zero=>
      intro hpi _ _
      have:p=0:=by omega
      subst this
      exact⟨rfl,fun _ _=>rfl,fun k m z h1 h2=>by omega⟩
    | succ i ih=>
      intro hpi' hin hW
      by_cases hpe:p=i+1
      · subst hpe;exact⟨rfl,fun _ _=>rfl,fun k m z h1 h2=>by omega⟩
      have hpi:p≤i:=by omega
      have ih:=ih hpi
      obtain⟨h1,h2,h3⟩:=ih (by omega) (fun k hk1 hk2=>hW k hk1 (by omega))
      obtain⟨o,p',ho,_,_,_,hA⟩:=some3 i (by omega)
      obtain⟨g,hg,_,_⟩:=hgood i o ho
      rw[hg]at hA
      have same:(sts (i+1)).σ=(sts i).σ→(sts (i+1)).r=(sts i).r→(∀m z,oc i ≠ .pal m z)→(sts (i+1)).σ=(sts p).σ∧(∀m,(∀k z,p≤k→k<i+1→oc k ≠ .pal m z)→look (sts (i+1)).r m=look (sts p).r m) ∧
          (∀k m z,p≤k→k<i+1→oc k = .pal m z→look (sts (i+1)).r m=some z):=by
        intro e1 e2 hnp
        refine⟨e1.trans h1,fun m hm=>by rw[e2];exact h2 m (fun k z hk1 hk2=>hm k z hk1 (by omega)),fun k m z hk1 hk2 hkc=>?_⟩
        rw[e2]
        by_cases hki:k=i
        · subst hki;exact(hnp _ _ hkc).elim
        · exact h3 k m z hk1 (by omega) hkc
      have hWi:=hW i hpi (by omega)
      generalize hoc:oc i=c at hA
      generalize hex:ex i=x at hA
      cases hA with
      | skip _ hw h=>exact same h.2.2.2 h.2.2.1 (fun m z hh=>by rw[hoc]at hh;cases hh)
      | val _ pw v r' σ' hw hs hl hna h=>
        obtain⟨e1,e2⟩:=step_still hs (fun hk=>hWi ⟨hex,o,ho,hk⟩) hna
        exact same (h.2.2.2.trans e2) (h.2.2.1.trans e1) (fun m z hh=>by rw[hoc]at hh;cases hh)
      | mark _ pw id nx m off hw hs h=>exact same h.2.2.2 h.2.2.1 (fun m z hh=>by rw[hoc]at hh;cases hh)
      | pal _ d el z hd ho' hw h=>
        have hr:(sts (i+1)).r=(d,z)::without [d] (sts i).r:=h.2.2.1
        have hne:∀m,m≠d→look (sts (i+1)).r m=look (sts i).r m:=fun m hm=>by
          rw[hr]
          simp only[look,Nat.beq_eq]
          rw[if_neg (Ne.symm hm),look_without,if_neg (fun hh=>hm ((memN_one d m).1 hh).symm)]
        refine⟨h.2.2.2.trans h1,fun m hm=>?_,fun k m z' hk1 hk2 hkc=>?_⟩
        · have hmd:m≠d:=fun he=>hm i z hpi (by omega) (by rw[hoc,he])
          rw[hne m hmd]
          exact h2 m (fun k z hk1 hk2=>hm k z hk1 (by omega))
        · by_cases hki:k=i
          · subst hki
            rw[hoc]at hkc;cases hkc
            rw[hr];simp[look]
          · have hmd:m≠d:=fun he=>hki (hpalu k i d z' z (by omega) (by omega) (by rw[hkc,he]) hoc)
            rw[hne m hmd]
            exact h3 k m z' hk1 (by omega) hkc
  have roots:∀(i:Nat),i≤n→∀(t m off:Nat),look (sts i).q t=some (m,off)→∀k z,k<n→oc k = .pal m z→k<i:=by
    intro i
    induction i with
    | zero=>
      intro _ t m off hl k z hk hc
      exfalso
      obtain⟨_,o,el,ho,hd,hcc⟩:=hpald k m z hk hc
      obtain⟨g,hg,_,_⟩:=hgood k o ho
      have hmem:compOper P C.G nt ops o∈l.flat none:=by
        rw[hflat,List.mem_map]
        exact⟨o,by simpa using Array.mem_of_getElem? ho,rfl⟩
      have:=pals_mem l none hmk _ hmem m (by rw[hg];simp only[hcc];rfl) (by rw[hg];exact hd)
      exact palsOk_mem hpo m this t off (hst0.2.1 t _ hl)
    | succ i ih=>
      intro hin t m off hl k z hk hc
      have ih:=ih (by omega)
      obtain⟨o,p',ho,_,_,_,hA⟩:=some3 i (by omega)
      generalize hoc:oc i=c at hA
      generalize hex:ex i=x at hA
      have old:∀t,look (sts i).q t=some (m,off)→k<i+1:=fun t ht=>Nat.lt_succ_of_lt (ih t m off ht k z hk hc)
      cases hA with
      | skip _ hw h=>
        have:=h.2.1 t _ hl
        rw[look_without1]at this
        split at this
        · cases this
        · exact old t this
      | val _ pw v r' σ' hw hs hl' hna h=>
        have:=h.2.1 t _ hl
        rw[look_without1]at this
        split at this
        · cases this
        · exact old t this
      | mark _ pw id nx m' off' hw hs h=>
        have:=h.2.1 t _ hl
        rw[look_putQ]at this
        split at this
        · simp only[Option.some.injEq,Prod.mk.injEq]at this
          obtain⟨rfl,rfl⟩:=this
          obtain⟨x,off2,hx⟩:=mark_root hs
          cases x with
          | con v=>cases hx
          | tmp u=>
            have hx:look (restrQ p'.looks (sts i).q) u=some (m',off2):=hx
            exact Nat.lt_succ_of_lt (ih u m' off2 (look_restrQ _ _ _ _ hx).1 k z hk hc)
        · rw[look_without1]at this
          split at this
          · cases this
          · exact old t this
      | pal _ d el z' hd ho' hw h=>
        have:=h.2.1 t _ hl
        simp only[look,Nat.beq_eq]at this
        split at this
        · simp only[Option.some.injEq,Prod.mk.injEq]at this
          obtain⟨rfl,rfl⟩:=this
          have:=hpalu k i d z z' hk (by omega) hc hoc
          omega
        · have h2:=(look_unmark _ _ _ _ this).2
          rw[look_without]at h2
          split at h2
          · cases h2
          · exact old t h2
  have srcE:∀(i:Nat),i≤n→∀(t:Nat) (v:V),look (sts i).e t=some v→(∃(k:Nat) (o':Oper),k<i∧ops[k]? = some o'∧o'.dst=some t∧oc k = .val v)∨(look s.e t=some v∧∀(k:Nat) (o':Oper),k<i→ops[k]? = some o'→o'.dst≠some t):=by
    intro i
    induction i with
    | zero=>intro _ t v hl;exact .inr ⟨hst0.1 t v hl,fun k o' hk=>by omega⟩
    | succ i ih=>
      intro hin t v hl
      have ih:=ih (by omega)
      obtain⟨o,p',ho,_,_,_,hA⟩:=some3 i (by omega)
      obtain⟨g,hg,_,_⟩:=hgood i o ho
      rw[hg]at hA
      generalize hoc:oc i=c at hA
      generalize hex:ex i=x at hA
      have old:o.dst≠some t→look (sts i).e t=some v→(∃(k:Nat) (o':Oper),k<i+1∧ops[k]? = some o'∧o'.dst=some t∧oc k = .val v)∨(look s.e t=some v∧∀(k:Nat) (o':Oper),k<i+1→ops[k]? = some o'→o'.dst≠some t):=by
        intro hne ht
        rcases ih t v ht with ⟨k,o',h1,h2,h3,h4⟩|⟨h1,h2⟩
        · exact .inl ⟨k,o',by omega,h2,h3,h4⟩
        · refine .inr ⟨h1,fun k o' hk ho'=>?_⟩
          by_cases hki:k=i
          · subst hki;rw[ho]at ho';cases ho';exact hne
          · exact h2 k o' (by omega) ho'
      cases hA with
      | skip _ hw h=>
        have:=h.1 t _ hl
        rw[look_putE]at this
        split at this
        · rename_i hd;cases this;exact .inl ⟨i,o,by omega,ho,hd,hoc⟩
        · rename_i hd;exact old hd this
      | val _ pw v' r' σ' hw hs hl' hna h=>
        have:=h.1 t _ hl
        rw[look_putE]at this
        split at this
        · rename_i hd;cases this;exact .inl ⟨i,o,by omega,ho,hd,hoc⟩
        · rename_i hd;exact old hd this
      | mark _ pw id nx m' off' hw hs h=>
        have:=h.1 t _ hl
        rw[look_without1]at this
        split at this
        · cases this
        · rename_i hd;exact old hd this
      | pal _ d el z' hd ho' hw h=>
        have:=h.1 t _ hl
        rw[look_without]at this
        split at this
        · cases this
        · rename_i hm
          exact old (fun hh=>hm ((memN_one d t).2 (by rw[show o.dst=some d from hd]at hh;simpa using hh))) this
  have srcQ:∀(i:Nat),i≤n→∀(t m off:Nat),look (sts i).q t=some (m,off)→(∃(k:Nat) (o':Oper),k<i∧ops[k]? = some o'∧o'.dst=some t∧(oc k = .mark m off∨∃z,oc k = .pal m z∧off=0)) ∨
      (look s.q t=some (m,off)∧∀(k:Nat) (o':Oper),k<i→ops[k]? = some o'→o'.dst≠some t):=by
    intro i
    induction i with
    | zero=>intro _ t m off hl;exact .inr ⟨hst0.2.1 t _ hl,fun k o' hk=>by omega⟩
    | succ i ih=>
      intro hin t m off hl
      have ih:=ih (by omega)
      obtain⟨o,p',ho,_,_,_,hA⟩:=some3 i (by omega)
      obtain⟨g,hg,_,_⟩:=hgood i o ho
      rw[hg]at hA
      generalize hoc:oc i=c at hA
      generalize hex:ex i=x at hA
      have old:o.dst≠some t→look (sts i).q t=some (m,off)→(∃(k:Nat) (o':Oper),k<i+1∧ops[k]? = some o'∧o'.dst=some t∧(oc k = .mark m off∨∃z,oc k = .pal m z∧off=0)) ∨
          (look s.q t=some (m,off)∧∀(k:Nat) (o':Oper),k<i+1→ops[k]? = some o'→o'.dst≠some t):=by
        intro hne ht
        rcases ih t m off ht with ⟨k,o',h1,h2,h3,h4⟩|⟨h1,h2⟩
        · exact .inl ⟨k,o',by omega,h2,h3,h4⟩
        · refine .inr ⟨h1,fun k o' hk ho'=>?_⟩
          by_cases hki:k=i
          · subst hki;rw[ho]at ho';cases ho';exact hne
          · exact h2 k o' (by omega) ho'
      cases hA with
      | skip _ hw h=>
        have:=h.2.1 t _ hl
        rw[look_without1]at this
        split at this
        · cases this
        · rename_i hd;exact old hd this
      | val _ pw v' r' σ' hw hs hl' hna h=>
        have:=h.2.1 t _ hl
        rw[look_without1]at this
        split at this
        · cases this
        · rename_i hd;exact old hd this
      | mark _ pw id nx m' off' hw hs h=>
        have:=h.2.1 t _ hl
        rw[look_putQ]at this
        split at this
        · rename_i hd
          simp only[Option.some.injEq,Prod.mk.injEq]at this
          obtain⟨rfl,rfl⟩:=this
          exact .inl ⟨i,o,by omega,ho,hd,.inl hoc⟩
        · rename_i hd
          rw[look_without1,if_neg hd]at this
          exact old hd this
      | pal _ d el z' hd ho' hw h=>
        have:=h.2.1 t _ hl
        simp only[look,Nat.beq_eq]at this
        split at this
        · rename_i hdt
          simp only[Option.some.injEq,Prod.mk.injEq]at this
          obtain⟨rfl,rfl⟩:=this
          exact .inl ⟨i,o,by omega,ho,by rw[←hdt];exact hd,.inr ⟨z',hoc,rfl⟩⟩
        · rename_i hdt
          have h2:=(look_unmark _ _ _ _ this).2
          rw[look_without]at h2
          split at h2
          · cases h2
          · exact old (fun hh=>hdt (by rw[show o.dst=some d from hd]at hh;simpa using hh)) h2
  obtain⟨Rs,Bs0,hx0,hn0,hm0,he0,hq0,hnt0,hd0⟩:=hI
  let Bi:Bs:=fun m=>if memN l.pals m=true then none else Bs0 m
  have hpalm:∀(k m:Nat) (z:List V),k<n→oc k = .pal m z→memN l.pals m=true:=by
    intro k m z hk hc
    obtain⟨_,o,el,ho,hd,hcc⟩:=hpald k m z hk hc
    obtain⟨g,hg,_,_⟩:=hgood k o ho
    have hmem:compOper P C.G nt ops o∈l.flat none:=by
      rw[hflat,List.mem_map]
      exact⟨o,by simpa using Array.mem_of_getElem? ho,rfl⟩
    exact pals_mem l none hmk _ hmem m (by rw[hg];simp only[hcc];rfl) (by rw[hg];exact hd)
  let Inv:Array Bool→Act→World→Prop:=fun listed a w=>
    listed.size=n∧(∀(i:Nat) (o:Oper),listed.getD i false=true→ops[i]? = some o→∀ed∈o.after,Region.binds .any ed=true→listed.getD ed.on false=true)∧a.defers=[] ∧
    ∃(R:Ren) (B:Bs) (p:Nat) (rL:Rg),p≤n∧(p=0∨∃j,p=j+1∧W j∧listed.getD j false=true)∧(∀j,j<n→W j→(listed.getD j false=true↔j<p))∧Ext nR R0 R∧nR≤(sts p).σ.next ∧
      MemI C R B rL (sts p).σ w∧(∀k m z,p≤k→k<n→listed.getD k false=true→oc k = .pal m z→look rL m=some z) ∧
      (∀m,(∀k z,p≤k→k<n→listed.getD k false=true→oc k ≠ .pal m z)→look rL m=look (sts p).r m) ∧
      (∀k m z,k<n→oc k = .pal m z→listed.getD k false=false→B m=none)∧nt≤a.tmps.size ∧
      (∀(i:Nat) (o:Oper) (t:Nat),listed.getD i false=true→ops[i]? = some o→o.dst=some t→Tok R B a.tmps[t]? (oc i)) ∧
      (∀t v,look s.e t=some v→(∀(i:Nat) (o:Oper),listed.getD i false=true→ops[i]? = some o→o.dst≠some t)→∃x,a.tmps[t]? = some x∧conc R v=some x) ∧
      (∀t m off,look s.q t=some (m,off)→(∀(i:Nat) (o:Oper),listed.getD i false=true→ops[i]? = some o→o.dst≠some t)→∃i,B m=some i∧a.tmps[t]? = some (.pointer (some ⟨i.blk,i.shift+off,none⟩)))
  have hanc:∀(listed:Array Bool),(∀(i:Nat) (o:Oper),listed.getD i false=true→ops[i]? = some o→∀ed∈o.after,Region.binds .any ed=true→listed.getD ed.on false=true) →
      ∀(i:Nat) (o:Oper) (p:DP),ops[i]? = some o→(planOf ops)[i]? = some p→(∀ed∈o.after,Region.binds .any ed=true→listed.getD ed.on false=true)→∀(k:Nat),k<n→p.anc.testBit k=true→listed.getD k false=true:=by
    intro listed hcl i
    induction i using Nat.strongRecOn with
    | _ i ih=>
      intro o p ho hp hed k hk hb
      obtain⟨ed,hem,hbe,hr⟩:=F.anc i o p ho hp k (by omega) hb
      have hlt':=F.edges i o ho ed hem hbe
      have hli:=hed ed hem hbe
      rcases hr with rfl|hr
      · exact hli
      · have hin:i<n:=hlt ho
        obtain⟨o2,p2,h1,h3,_⟩:=some3 ed.on (by omega)
        exact ih ed.on hlt' o2 p2 h1 h3 (fun ed2 hm2 hb2=>hcl ed.on o2 hli h1 ed2 hm2 hb2) k hk (by rw[←ancOf_eq h3];exact hr)
  have hready_nil:∀listed:Array Bool,listed.size=n→Region.ready .any ops listed=[]→∀k,k<n→listed.getD k false=true:=by
    intro listed hsz' hr k
    induction k using Nat.strongRecOn with
    | _ k ih=>
      intro hk
      cases hb:listed.getD k false with
      | true=>rfl
      | false=>
        exfalso
        obtain⟨o,p,h1,_⟩:=some3 k hk
        have:k∈Region.ready .any ops listed:=mem_ready.2 ⟨by rw[getD_true_iff hsz' hk];exact hb,o,h1,fun ed hm hbd=>ih ed.on (F.edges k o h1 ed hm hbd) (by have:=F.edges k o h1 ed hm hbd;omega)⟩
        rw[hr]at this;cases this
  have hnone:∀(listed:Array Bool),(∀(i:Nat) (o:Oper),listed.getD i false=true→ops[i]? = some o→∀ed∈o.after,Region.binds .any ed=true→listed.getD ed.on false=true) →
      ∀(j:Nat) (t:Nat),j≤n→(j<n→∃o p,ops[j]? = some o∧(planOf ops)[j]? = some p∧listed.getD j false=false∧memN p.looks t=true) →
      (∀(k:Nat) (o':Oper),k<j→ops[k]? = some o'→o'.dst≠some t)→∀(i:Nat) (o:Oper),listed.getD i false=true→ops[i]? = some o→o.dst≠some t:=by
    intro listed hcl j t hj hrd hk2 i oi hli hoi hdst
    have hin:i<n:=hlt hoi
    by_cases hij:i<j
    · exact hk2 i oi hij hoi hdst
    · have hjn:j<n:=by omega
      obtain⟨o,p,ho,hp,hnl,hlook⟩:=hrd hjn
      by_cases hie:i=j
      · subst hie;rw[hnl]at hli;cases hli
      · obtain⟨o3,p3,h1,h3,_⟩:=some3 i hin
        rw[hoi]at h1;cases h1
        have hd:=(F.dsts i j oi o p3 p hie hoi ho h3 hp t hdst).2 hlook
        rcases hd with hd|hd
        · have:=F.ancLt j p hp i (by omega) hd;omega
        · have:=hanc listed hcl i oi p3 hoi h3 (fun ed hm hb=>hcl i oi hli hoi ed hm hb) j hjn hd
          rw[hnl]at this;cases this
  have hwritten:∀(listed:Array Bool),(∀(i:Nat) (o:Oper),listed.getD i false=true→ops[i]? = some o→∀ed∈o.after,Region.binds .any ed=true→listed.getD ed.on false=true) →
      ∀(j t k:Nat) (ok:Oper),j≤n→(j=n→∀k,k<n→listed.getD k false=true)→(j<n→∃o p,ops[j]? = some o∧(planOf ops)[j]? = some p∧memN p.looks t=true∧(∀ed∈o.after,Region.binds .any ed=true→listed.getD ed.on false=true)) →
      k<j→ops[k]? = some ok→ok.dst=some t→listed.getD k false=true:=by
    intro listed hcl j t k ok hj hall hrd hk hok' hdst
    by_cases hjn:j<n
    · obtain⟨o,p,ho,hp,hlook,hed⟩:=hrd hjn
      obtain⟨o3,p3,h1,h3,_⟩:=some3 k (by omega)
      rw[hok']at h1;cases h1
      have hd:=(F.dsts k j ok o p3 p (by omega) hok' ho h3 hp t hdst).2 hlook
      rcases hd with hd|hd
      · exact hanc listed hcl j o p ho hp hed k (by omega) hd
      · have:=F.ancLt k p3 h3 j (by omega) hd;omega
    · exact hall (by omega) k (by omega)
  have hput:∀(a:Act) (d:Option Nat) (x:Value) (t:Nat),d≠some t→(a.put d x).tmps[t]? = a.tmps[t]? := by
    intro a d x t hne
    cases d with
    | none=>rfl
    | some d=>
      simp only[Act.put,Array.getElem?_setIfInBounds]
      rw[if_neg (fun h=>hne (by rw[h]))]
  have hputsz:∀(a:Act) (d:Option Nat) (x:Value),(a.put d x).tmps.size=a.tmps.size:=by
    intro a d x;cases d<;>simp[Act.put]
  have hclsk:∀(listed:Array Bool),(∀(i:Nat) (o:Oper),listed.getD i false=true→ops[i]? = some o→∀ed∈o.after,Region.binds .any ed=true→listed.getD ed.on false=true) →
      ∀(i:Nat) (o:Oper),ops[i]? = some o→listed.getD i false=false→(∀ed∈o.after,Region.binds .any ed=true→listed.getD ed.on false=true)→∀j,j<n→W j →
        ((compOp P C.G o.op).cls = .k→(j<i→listed.getD j false=true)∧(i<j→listed.getD j false=false)) ∧
        ((compOp P C.G o.op).cls = .l→(j<i→listed.getD j false=true)∧(i<j→listed.getD j false=false)) ∧
        ((compOp P C.G o.op).cls = .a→(i<j→listed.getD j false=false)):=by
    intro listed hcl i o ho hnl hed j hj hWj
    obtain⟨hexj,oj,hoj,hcj⟩:=hWj
    have hi:i<n:=hlt ho
    obtain⟨o1,p1,e1,e2,e3,e4,_⟩:=some3 i hi
    rw[ho]at e1;cases e1
    obtain⟨o2,p2,f1,f2,f3,f4,_⟩:=some3 j hj
    rw[hoj]at f1;cases f1
    obtain⟨g1,hg1,_⟩:=hgood i o ho
    obtain⟨g2,hg2,_⟩:=hgood j oj hoj
    have hup:∀k,k<n→p1.anc.testBit k=true→listed.getD k false=true:=hanc listed hcl i o p1 ho e2 hed
    have hdown:p2.anc.testBit i=true→listed.getD j false=false:=by
      intro hb
      cases hlj:listed.getD j false with
      | false=>rfl
      | true=>
        exfalso
        have:=hanc listed hcl j oj p2 hoj f2 (fun ed hm hb=>hcl j oj hlj hoj ed hm hb) i hi hb
        rw[hnl]at this;cases this
    have hl1:(ops.toList.map (compOper P C.G nt ops))[i]? = some (compOper P C.G nt ops o):=by rw[←hflat];exact e4
    have hl2:(ops.toList.map (compOper P C.G nt ops))[j]? = some (compOper P C.G nt ops oj):=by rw[←hflat];exact f4
    have hkj:(compOper P C.G nt ops oj).op.cls = .k:=by rw[hg2];exact hcj
    have hdoj:=allN_ok hdo j (by rw[hfl1];omega)
    rw[f4]at hdoj
    simp only[hkj]at hdoj
    have hdoji:=allN_ok hdoj i (by rw[hfl1];omega)
    rw[e4]at hdoji
    rw[e3,f3]at hdoji
    refine⟨fun hk=>?_,fun hk=>?_,fun hk=>?_⟩
    · have hki:(compOper P C.G nt ops o).op.cls = .k:=by rw[hg1];exact hk
      exact⟨fun hji=>hup j hj (F.kk j i _ _ p1 hji hl2 hl1 e2 hkj hki),fun hij=>hdown (F.kk i j _ _ p2 hij hl1 hl2 f2 hki hkj)⟩
    · have hki:(compOper P C.G nt ops o).op.cls = .l:=by rw[hg1];exact hk
      simp only[hki,Bool.or_eq_true]at hdoji
      rcases hdoji with hb|hb
      · have:=F.ancLt i p1 e2 j (by omega) hb
        exact⟨fun _=>hup j hj hb,fun hij=>by omega⟩
      · have:=F.ancLt j p2 f2 i (by omega) hb
        exact⟨fun hji=>by omega,fun _=>hdown hb⟩
    · have hki:(compOper P C.G nt ops o).op.cls = .a:=by rw[hg1];exact hk
      simp only[hki,Bool.or_eq_true,Bool.not_eq_true']at hdoji
      intro hij
      rcases hdoji with hb|hb
      · have:Nat.blt i j=true:=by simpa using hij
        rw[this]at hb;cases hb
      · exact hdown hb
  have hallk:∀(listed:Array Bool),(∀(i:Nat) (o:Oper),listed.getD i false=true→ops[i]? = some o→∀ed∈o.after,Region.binds .any ed=true→listed.getD ed.on false=true) →
      ∀(i:Nat) (o:Oper),ops[i]? = some o→(∀ed∈o.after,Region.binds .any ed=true→listed.getD ed.on false=true)→(compOp P C.G o.op).cls = .k→∀k m z,k<i→oc k = .pal m z→listed.getD k false=true:=by
    intro listed hcl i o ho hed hk k m z hki hc
    have hi:i<n:=hlt ho
    obtain⟨o1,p1,e1,e2,e3,e4,_⟩:=some3 i hi
    rw[ho]at e1;cases e1
    obtain⟨g1,hg1,_⟩:=hgood i o ho
    obtain⟨_,ok,el,hok',hdk,hck⟩:=hpald k m z (by omega) hc
    obtain⟨o2,p2,f1,f2,f3,f4,_⟩:=some3 k (by omega)
    rw[hok']at f1;cases f1
    obtain⟨g2,hg2,_⟩:=hgood k ok hok'
    have hkk:(compOper P C.G nt ops o).op.cls = .k:=by rw[hg1];exact hk
    have hdoj:=allN_ok hdo i (by rw[hfl1];omega)
    rw[e4]at hdoj
    simp only[hkk]at hdoj
    have hdoji:=allN_ok hdoj k (by rw[hfl1];omega)
    rw[f4]at hdoji
    have hka:(compOper P C.G nt ops ok).op.cls = .a:=by rw[hg2];simp only[hck];rfl
    rw[e3]at hdoji
    simp only[hka,Bool.or_eq_true,Bool.not_eq_true']at hdoji
    rcases hdoji with hb|hb
    · have:Nat.blt k i=true:=by simpa using hki
      rw[this]at hb;cases hb
    · exact hanc listed hcl i o p1 ho e2 hed k (by omega) hb
  have hfin:∀listed a w,Inv listed a w→(∀k,k<n→listed.getD k false=true)→Q .normal a w:=by
    intro listed a w hI hall
    obtain⟨hls,hcl,hd,R,B,p,rL,hpn,hp0,hpw,hx,hnp,hmem,hr1,hr2,hbs,htsz,hw,hu,hqq⟩:=hI
    have hnW:∀k,p≤k→k<n→¬W k:=fun k h1 h2 hW=>by have:=(hpw k h2 hW).1 (hall k h2);omega
    obtain⟨s1,s2,s3⟩:=seg p n hpn (Nat.le_refl _) hnW
    have hrr:∀m,look rL m=look (sts n).r m:=by
      intro m
      by_cases hex2:∃k z,p≤k∧k<n∧oc k = .pal m z
      · obtain⟨k,z,h1,h2,h3⟩:=hex2
        rw[hr1 k m z h1 h2 (hall k h2) h3,s3 k m z h1 h2 h3]
      · have hno:∀k z,p≤k→k<n→oc k ≠ .pal m z:=fun k z h1 h2 h3=>hex2 ⟨k,z,h1,h2,h3⟩
        rw[hr2 m (fun k z h1 h2 _=>hno k z h1 h2),s2 m hno]
    rw[hs']at hκ
    refine hQ (sts n) a w hκ ⟨R,B,hx,by rw[s1];exact hnp,⟨by rw[s1];exact hmem.rel,⟨fun m i hm=>?_,hmem.priv.inj,by rw[s1];exact hmem.priv.apart⟩⟩,⟨fun t v hv=>?_⟩,⟨fun t m off hv=>?_⟩,htsz,hd⟩
    · obtain⟨h1,l',h2,h3⟩:=hmem.priv.at_ m i hm
      exact⟨h1,l',by rw[←hrr];exact h2,h3⟩
    · rcases srcE n (Nat.le_refl _) t v hv with ⟨k,o',h1,h2,h3,h4⟩ | ⟨h1,h2⟩
      · have:=hw k o' t (hall k h1) h2 h3
        rw[h4]at this;exact this
      · exact hu t v h1 (hnone listed hcl n t (Nat.le_refl _) (fun h=>by omega) h2)
    · rcases srcQ n (Nat.le_refl _) t m off hv with ⟨k,o',h1,h2,h3,h4⟩ | ⟨h1,h2⟩
      · have:=hw k o' t (hall k h1) h2 h3
        rcases h4 with h4|⟨z,h4,rfl⟩
        · rw[h4]at this;exact this
        · rw[h4]at this;exact this
      · exact hqq t m off h1 (hnone listed hcl n t (Nat.le_refl _) (fun h=>by omega) h2)
  have hstep:∀listed a w,Inv listed a w→∀i,i∈Region.ready .any ops listed→∀K:Act→World→Prop,(∀a' w',Inv (listed.setIfInBounds i true) a' w'→K a' w')→wpOp P ops Q i K a w:=by
    intro listed a w hI i hi K hK
    obtain⟨hls,hcl,hd,R,B,p,rL,hpn,hp0,hpw,hx,hnp,hmem,hr1,hr2,hbs,htsz,hw,hu,hqq⟩:=hI
    obtain⟨hli,o,ho,hed⟩:=mem_ready.1 hi
    have hin:i<n:=hlt ho
    have hnl:listed.getD i false=false:=by rw[←getD_true_iff hls hin];exact hli
    obtain⟨o2,pi,ho2,hpi,_,_,hA⟩:=some3 i hin
    rw[ho]at ho2;cases ho2
    obtain⟨g,hg,hcg,hdok⟩:=hgood i o ho
    rw[hg]at hA
    have hsz':i<listed.size:=by omega
    have hLs:∀k,(listed.setIfInBounds i true).getD k false=(decide (k=i) || listed.getD k false):=fun k=>set_getD hsz'
    have hLi:(listed.setIfInBounds i true).getD i false=true:=by rw[hLs];simp
    have hLo:∀k,k≠i→(listed.setIfInBounds i true).getD k false=listed.getD k false:=fun k hk=>by rw[hLs];simp[hk]
    have hclk:=hclsk listed hcl i o ho hnl hed
    have hmw:=hmem.rel
    have hem:EnvL R (selE true pi.looks (sts i).e) a.tmps:=by
      refine⟨fun t v hv=>?_⟩
      obtain⟨ht,hmemt⟩:=look_restr _ _ _ _ hv
      rcases srcE i (by omega) t v ht with ⟨k,o',h1,h2,h3,h4⟩|⟨h1,h2⟩
      · have:=hw k o' t (hwritten listed hcl i t k o' (by omega) (fun h=>by omega) (fun _=>⟨o,pi,ho,hpi,hmemt,hed⟩) h1 h2 h3) h2 h3
        rw[h4]at this;exact this
      · exact hu t v h1 (hnone listed hcl i t (by omega) (fun _=>⟨o,pi,ho,hpi,hnl,hmemt⟩) h2)
    have hqm:QOk B (selQ true pi.looks (sts i).q) a.tmps:=by
      refine⟨fun t m off hv=>?_⟩
      obtain⟨ht,hmemt⟩:=look_restrQ _ _ _ _ hv
      rcases srcQ i (by omega) t m off ht with ⟨k,o',h1,h2,h3,h4⟩|⟨h1,h2⟩
      · have:=hw k o' t (hwritten listed hcl i t k o' (by omega) (fun h=>by omega) (fun _=>⟨o,pi,ho,hpi,hmemt,hed⟩) h1 h2 h3) h2 h3
        rcases h4 with h4|⟨z,h4,rfl⟩
        · rw[h4]at this;exact this
        · rw[h4]at this;exact this
      · exact hqq t m off h1 (hnone listed hcl i t (by omega) (fun _=>⟨o,pi,ho,hpi,hnl,hmemt⟩) h2)
    have mk:∀(R':Ren) (B':Bs) (p':Nat) (rL':Rg) (w':World) (x:Value),p'≤n→(p'=0∨∃j,p'=j+1∧W j∧(listed.setIfInBounds i true).getD j false=true) →
        (∀j,j<n→W j→((listed.setIfInBounds i true).getD j false=true↔j<p'))→Ext nR R0 R'→nR≤(sts p').σ.next→MemI C R' B' rL' (sts p').σ w' →
        (∀k m z,p'≤k→k<n→(listed.setIfInBounds i true).getD k false=true→oc k = .pal m z→look rL' m=some z) →
        (∀m,(∀k z,p'≤k→k<n→(listed.setIfInBounds i true).getD k false=true→oc k ≠ .pal m z)→look rL' m=look (sts p').r m) →
        (∀k m z,k<n→oc k = .pal m z→(listed.setIfInBounds i true).getD k false=false→B' m=none)→Le R R'→(∀m b,B m=some b→B' m=some b) →
        (∀t,o.dst=some t→Tok R' B' (some x) (oc i))→K (a.put o.dst x) w':=by
      intro R' B' p' rL' w' x h1 h2 h3 h4 h5 h6 h7 h8 h9 h10 h11 h12
      refine hK _ _ ⟨by rw[Array.size_setIfInBounds];exact hls,?_,by rw[defers_put];exact hd,R',B',p',rL',h1,h2,h3,h4,h5,h6,h7,h8,h9,by rw[hputsz];exact htsz,?_,?_,?_⟩
      · intro i' o' hi' ho' ed hm' hb'
        rw[hLs]at hi' ⊢
        simp only[Bool.or_eq_true,decide_eq_true_eq]at hi' ⊢
        rcases hi' with rfl|hi'
        · rw[ho]at ho';cases ho'
          exact .inr (hed ed hm' hb')
        · exact .inr (hcl i' o' hi' ho' ed hm' hb')
      · intro i' o' t hi' ho' hdt
        rw[hLs]at hi'
        simp only[Bool.or_eq_true,decide_eq_true_eq]at hi'
        by_cases he:i'=i
        · subst he
          rw[ho]at ho';cases ho'
          have:=h12 t hdt
          have htl:t<a.tmps.size:=Nat.lt_of_lt_of_le (hdlt i' o t ho hdt) htsz
          have hpt:(a.put o.dst x).tmps[t]? = some x:=by rw[hdt];simp[Act.put,Array.getElem?_setIfInBounds,htl]
          rw[hpt];exact this
        · have:=hw i' o' t (hi'.resolve_left he) ho' hdt
          rw[hput a o.dst x t (hdu i' i o' o t he ho' ho hdt)]
          exact this.mono h10 h11
      · intro t v hv hno
        rw[hput a o.dst x t (hno i o hLi ho)]
        obtain⟨y,hy1,hy2⟩:=hu t v hv (fun i' o' hi' ho'=>hno i' o' (by rw[hLs,hi'];simp) ho')
        exact⟨y,hy1,conc_mono h10 v y hy2⟩
      · intro t m off hv hno
        rw[hput a o.dst x t (hno i o hLi ho)]
        obtain⟨b,hb1,hb2⟩:=hqq t m off hv (fun i' o' hi' ho'=>hno i' o' (by rw[hLs,hi'];simp) ho')
        exact⟨b,h11 m b hb1,hb2⟩
    have mk0:∀(R':Ren) (w':World) (x:Value),¬W i→(∀m z,oc i ≠ .pal m z)→Ext nR R0 R'→MemI C R' B rL (sts p).σ w'→Le R R'→(∀t,o.dst=some t→Tok R' B (some x) (oc i))→K (a.put o.dst x) w':=by
      intro R' w' x hnW hnp' h1 h2 h3 h4
      refine mk R' B p rL w' x hpn ?_ ?_ h1 hnp h2 ?_ ?_ ?_ h3 (fun _ _ h=>h) h4
      · rcases hp0 with h | ⟨j,h5,h6,h7⟩
        · exact .inl h
        · exact .inr ⟨j,h5,h6,by rw[hLs,h7];simp⟩
      · intro j hj hWj
        by_cases hji:j=i
        · subst hji;exact(hnW hWj).elim
        · rw[hLo j hji];exact hpw j hj hWj
      · intro k m z hk1 hk2 hk3 hk4
        by_cases hki:k=i
        · subst hki;exact(hnp' m z hk4).elim
        · rw[hLo k hki]at hk3;exact hr1 k m z hk1 hk2 hk3 hk4
      · intro m hm
        refine hr2 m (fun k z hk1 hk2 hk3=>?_)
        exact hm k z hk1 hk2 (by rw[hLs,hk3];simp)
      · intro k m z hk1 hk2 hk3
        by_cases hki:k=i
        · subst hki;rw[hLi]at hk3;cases hk3
        · rw[hLo k hki]at hk3;exact hbs k m z hk1 hk2 hk3
    have hext:∀R',(∀k,k<(sts p).σ.next→k≠(sts p).σ.next→R' k=R k)→Ext nR R0 R':=fun R' hk k hkn=>by rw[hk k (by omega) (by omega)];exact hx k hkn
    have hpi':(∀j,j<n→W j→i<j→listed.getD j false=false)→p≤i:=by
      intro hno
      rcases hp0 with h|⟨j,h1,h2,h3⟩
      · omega
      · rcases Nat.lt_trichotomy j i with h4 | h4 | h4
        · omega
        · subst h4;rw[hnl]at h3;cases h3
        · have hW:=h2
          obtain⟨_,oj,hoj,_⟩:=h2
          rw[hno j (hlt hoj) hW h4]at h3;cases h3
    have hnoW:(∀j,j<n→W j→j<i→listed.getD j false=true)→∀k,p≤k→k<i→¬W k:=by
      intro hyes k hk1 hk2 hWk
      have:=(hpw k (by omega) hWk).1 (hyes k (by omega) hWk hk2)
      omega
    have hsame:p≤i→(∀k,p≤k→k<i→¬W k)→(sts i).σ=(sts p).σ∧∀x m off,markX (selQ true pi.looks (sts i).q) x=some (m,off)→look rL m=look (sts i).r m:=by
      intro hpi2 hnW
      obtain⟨s1,s2,s3⟩:=seg p i hpi2 (by omega) hnW
      refine⟨s1,fun x m off hmx=>?_⟩
      cases x with
      | con v=>cases hmx
      | tmp u=>
        have hmx:look (selQ true pi.looks (sts i).q) u=some (m,off):=hmx
        obtain⟨b,hb,_⟩:=hqm.at_ u m off hmx
        have hroot:=roots i (by omega) u m off (look_restrQ _ _ _ _ hmx).1
        by_cases hex2:∃k z,p≤k∧k<i∧oc k = .pal m z
        · obtain⟨k,z,h1,h2,h3⟩:=hex2
          have hlk:listed.getD k false=true:=by
            cases hlk:listed.getD k false with
            | true=>rfl
            | false=>have:=hbs k m z (by omega) h3 hlk;rw[hb]at this;cases this
          rw[hr1 k m z h1 (by omega) hlk h3,s3 k m z h1 h2 h3]
        · have hno:∀k z,p≤k→k<i→oc k ≠ .pal m z:=fun k z h1 h2 h3=>hex2 ⟨k,z,h1,h2,h3⟩
          rw[hr2 m (fun k z h1 h2 _ h3=>hno k z h1 (hroot k z h2 h3) h3),s2 m hno]
    have hgl:=hmw.globOk
    unfold wpOp
    rw[ho]
    simp only
    generalize hoc:oc i=c at hA
    generalize hexi:ex i=xx at hA
    cases hA with
    | skip _ hwn h=>
      rw[if_neg (by rw[wanted_ok hem.env hcg hwn];simp)]
      exact mk0 R w undef (fun hW=>by have h9:=hW.1;rw[hexi]at h9;cases h9) (fun m z hh=>by rw[hoc]at hh;cases hh) hx hmem (Le.refl _) (fun t _=>by rw[hoc];exact⟨_,rfl,rfl⟩)
    | mark _ pw id nx m off hwn hs h=>
      rw[if_pos (wanted_ok hem.env hcg hwn)]
      left
      have hs2:Step C.E D pw (sts p).σ.next ((sts p).σ.next+1) (compOp P C.G o.op) (selE true pi.looks (sts i).e) (selQ true pi.looks (sts i).q) rL (sts p).σ (.mark m off):=mark_any hs
      refine step_ok hD hmem hem hqm o (hmw.fresh _ (Nat.le_refl _)) (Nat.lt_succ_self _) (Nat.le_succ _) hs2 K Q (fun v2 r2 σ2 heq=>by cases heq) (fun m2 off2 heq b hb=>?_)
      cases heq
      refine mk0 R w _ (fun hW=>?_) (fun m z hh=>by rw[hoc]at hh;cases hh) hx hmem (Le.refl _) (fun t _=>by rw[hoc];exact⟨b,hb,rfl⟩)
      obtain⟨_,o3,ho3,hc3⟩:=hW
      rw[ho]at ho3;cases ho3
      cases hs with
      | mv x _ _ hoo _=>have hoo:compOp P C.G o.op=_∨compOp P C.G o.op=_:=hoo;rcases hoo with hoo | hoo<;>(rw[hoo]at hc3;cases hc3)
      | fa d x _ _ hoo _=>have hoo:compOp P C.G o.op=_:=hoo;rw[hoo]at hc3;cases hc3
    | pal _ d el z hdd hoo hwn h=>
      rw[if_pos (wanted_ok hem.env hcg hwn)]
      left
      have hoo:compOp P C.G o.op = .alloc el z:=hoo
      have hdd:o.dst=some d:=hdd
      have hca:(compOp P C.G o.op).cls = .a:=by rw[hoo];rfl
      have hple:=hpi' (fun j hj hW hij=>(hclk j hj hW).2.2 hca hij)
      have hBd:B d=none:=hbs i d z hin hoc hnl
      refine pal_ok hmem o (d:=d) hoo K Q (fun b w' hmem'=>?_)
      refine mk R (fun m=>if m=d then some b else B m) p ((d,z)::without [d] rL) w' _ hpn ?_ ?_ hx hnp hmem' ?_ ?_ ?_ (Le.refl _) (fun m b' hb'=>?_) (fun t _=>?_)
      · rcases hp0 with h | ⟨j,h5,h6,h7⟩
        · exact .inl h
        · exact .inr ⟨j,h5,h6,by rw[hLs,h7];simp⟩
      · intro j hj hWj
        by_cases hji:j=i
        · subst hji
          obtain⟨_,o3,ho3,hc3⟩:=hWj
          rw[ho]at ho3;cases ho3
          rw[hca]at hc3;cases hc3
        · rw[hLo j hji];exact hpw j hj hWj
      · intro k m z' hk1 hk2 hk3 hk4
        by_cases hki:k=i
        · subst hki;rw[hoc]at hk4;cases hk4;simp[look]
        · rw[hLo k hki]at hk3
          have hmd:¬d=m:=fun he=>hki (hpalu k i m z' z hk2 hin hk4 (by rw[hoc,he]))
          simp only[look,Nat.beq_eq]
          rw[if_neg hmd,look_without,if_neg (fun hh=>hmd ((memN_one d m).1 hh))]
          exact hr1 k m z' hk1 hk2 hk3 hk4
      · intro m hm
        have hmd:¬d=m:=fun he=>hm i z hple hin hLi (by rw[hoc,he])
        simp only[look,Nat.beq_eq]
        rw[if_neg hmd,look_without,if_neg (fun hh=>hmd ((memN_one d m).1 hh))]
        exact hr2 m (fun k z' hk1 hk2 hk3=>hm k z' hk1 hk2 (by rw[hLs,hk3];simp))
      · intro k m z' hk1 hk2 hk3
        by_cases hki:k=i
        · subst hki;rw[hLi]at hk3;cases hk3
        · rw[hLo k hki]at hk3
          have hmd:¬m=d:=fun he=>hki (hpalu k i m z' z hk1 hin hk2 (by rw[hoc,he]))
          rw[if_neg hmd];exact hbs k m z' hk1 hk2 hk3
      · by_cases hmd:m=d
        · subst hmd;rw[hBd]at hb';cases hb'
        · rw[if_neg hmd];exact hb'
      · rw[hoc];exact⟨b,by simp,rfl⟩
    | val _ pw v r' σ' hwn hs hl' hna h=>
      rw[if_pos (wanted_ok hem.env hcg hwn)]
      left
      have hs:Step C.E D pw (sts i).σ.next ((sts i).σ.next+1) (compOp P C.G o.op) (selE true pi.looks (sts i).e) (selQ true pi.looks (sts i).q) (sts i).r (sts i).σ (.val v r' σ'):=hs
      have hl':o.dst=none∨v.live=true∨(compOp P C.G o.op).cls ≠ .k:=hl'
      have hna:(compOp P C.G o.op).cls ≠ .a:=hna
      have htok:∀(R':Ren) (x:Value),((v = .dead∧(compOp P C.G o.op).cls = .k)∨conc R' v=some x)→∀t,o.dst=some t→Tok R' B (some x) (oc i):=by
        intro R' x hv t ht
        rw[hoc]
        refine⟨x,rfl,?_⟩
        rcases hv with ⟨rfl,hc⟩|hv
        · rcases hl' with h | h | h
          · rw[ht]at h;cases h
          · cases h
          · exact(h hc).elim
        · exact hv
      by_cases hck:(compOp P C.G o.op).cls = .k
      ·
        have hWi:W i:=⟨hexi,o,ho,hck⟩
        have hple:=hpi' (fun j hj hW hij=>((hclk j hj hW).1 hck).2 hij)
        have hnW:=hnoW (fun j hj hW hji=>((hclk j hj hW).1 hck).1 hji)
        obtain⟨hσ,hrm⟩:=hsame hple hnW
        obtain⟨s1,s2,s3⟩:=seg p i hple (by omega) hnW
        rw[hσ]at hs
        obtain⟨rL',hs2,hrel⟩:=step_move (rL:=rL) hs hrm
        refine step_ok hD hmem hem hqm o (hmw.fresh _ (Nat.le_refl _)) (Nat.lt_succ_self _) (Nat.le_succ _) hs2 K Q (fun v2 r2 σ2 heq R' w' x hle hk hn' hmem' hv=>?_) (fun m off heq=>by cases heq)
        cases heq
        have hσ':(sts (i+1)).σ=σ':=h.2.2.2
        have hr':(sts (i+1)).r=r':=h.2.2.1
        have hall:=hallk listed hcl i o ho hed hck
        have hold:∀m,(∀k z,i≤k→k<n→(listed.setIfInBounds i true).getD k false=true→oc k ≠ .pal m z)→look rL m=look (sts i).r m:=by
          intro m hm
          by_cases hex2:∃k z,p≤k∧k<i∧oc k = .pal m z
          · obtain⟨k,z,h1,h2,h3⟩:=hex2
            rw[hr1 k m z h1 (by omega) (hall k m z h2 h3) h3,s3 k m z h1 h2 h3]
          · have hno:∀k z,p≤k→k<i→oc k ≠ .pal m z:=fun k z h1 h2 h3=>hex2 ⟨k,z,h1,h2,h3⟩
            rw[hr2 m (fun k z h1 h2 h3 h4=>?_),s2 m hno]
            rcases Nat.lt_or_ge k i with h5|h5
            · exact hno k z h1 h5 h4
            · exact hm k z h5 h2 (by rw[hLs,h3];simp) h4
        have hmroot:∀x m off,markX (selQ true pi.looks (sts i).q) x=some (m,off)→∀k z,k<n→oc k = .pal m z→k<i:=by
          intro x m off hmx
          cases x with
          | con v=>cases hmx
          | tmp u=>
            have hmx:look (selQ true pi.looks (sts i).q) u=some (m,off):=hmx
            exact roots i (by omega) u m off (look_restrQ _ _ _ _ hmx).1
        refine mk R' B (i+1) rL' w' x (by omega) (.inr ⟨i,rfl,hWi,hLi⟩) ?_ (hext R' hk) (by rw[hσ'];omega) (by rw[hσ'];exact hmem') ?_ ?_ ?_ hle (fun _ _ h=>h) (htok R' x hv)
        · intro j hj hWj
          by_cases hji:j=i
          · subst hji;rw[hLi];simp
          · rw[hLo j hji]
            rcases Nat.lt_trichotomy j i with h4|h4|h4
            · rw[((hclk j hj hWj).1 hck).1 h4];simp;omega
            · exact(hji h4).elim
            · rw[((hclk j hj hWj).1 hck).2 h4];simp;omega
        · intro k m z hk1 hk2 hk3 hk4
          have hk3':listed.getD k false=true:=by rw[hLo k (by omega)]at hk3;exact hk3
          have hb:=hr1 k m z (by omega) hk2 hk3' hk4
          rcases hrel with ⟨_,h6⟩|⟨x',m',off',c',l',h6,h7,_,h8⟩
          · rw[h6];exact hb
          · rw[h8]
            have hne:¬m'=m:=fun he=>by have:=hmroot x' m' off' h6 k z hk2 (by rw[he];exact hk4);omega
            rw[look_repl' (by rw[hrm x' m' off' h6];exact h7),if_neg hne];exact hb
        · intro m hm
          have hb:=hold m (fun k z hk1 hk2 hk3 hk4=>by
            rcases Nat.eq_or_lt_of_le hk1 with h5|h5
            · subst h5;rw[hoc]at hk4;cases hk4
            · exact hm k z (by omega) hk2 hk3 hk4)
          rw[hr']
          rcases hrel with ⟨h5,h6⟩|⟨x',m',off',c',l',h6,h7,h8,h9⟩
          · rw[h5,h6];exact hb
          · rw[h8,h9,look_repl' (by rw[hrm x' m' off' h6];exact h7),look_repl' h7,hb]
        · intro k m z hk1 hk2 hk3
          by_cases hki:k=i
          · subst hki;rw[hLi]at hk3;cases hk3
          · rw[hLo k hki]at hk3;exact hbs k m z hk1 hk2 hk3
      ·
        have hnWi:¬W i:=fun hW=>by
          obtain⟨_,o3,ho3,hc3⟩:=hW
          rw[ho]at ho3;cases ho3
          exact hck hc3
        have go:Step C.E D pw (sts p).σ.next ((sts p).σ.next+1) (compOp P C.G o.op) (selE true pi.looks (sts i).e) (selQ true pi.looks (sts i).q) rL (sts p).σ (.val v rL (sts p).σ)→o.wp P a w K Q:=by
          intro hs2
          refine step_ok hD hmem hem hqm o (hmw.fresh _ (Nat.le_refl _)) (Nat.lt_succ_self _) (Nat.le_succ _) hs2 K Q (fun v2 r2 σ2 heq R' w' x hle hk hn' hmem' hv=>?_) (fun m off heq=>by cases heq)
          cases heq
          exact mk0 R' w' x hnWi (fun m z hh=>by rw[hoc]at hh;cases hh) (hext R' hk) hmem' hle (htok R' x hv)
        cases hcls:(compOp P C.G o.op).cls with
        | k=>exact(hck hcls).elim
        | a=>exact(hna hcls).elim
        | p=>
          refine go ?_
          cases hs with
          | p _ hc h9=>exact .p v hc h9
          | l _ hc h9=>rw[hcls]at hc;cases hc
          | a _ b hc h9=>rw[hcls]at hc;cases hc
          | k _ σ1 _ hc h hs=>rw[hcls]at hc;cases hc
          | ld x m off l _ hoo hm hl h=>rw[hoo]at hcls;cases hcls
          | ldn n x m off l hoo hm hl h=>rw[hoo]at hcls;cases hcls
          | st n x y m off l cs u hw hoo hm hl hn hu hlu hcs h1 hlen h=>rw[hoo]at hcls;cases hcls
        | l=>
          have hple:=hpi' (fun j hj hW hij=>((hclk j hj hW).2.1 hcls).2 hij)
          have hnW:=hnoW (fun j hj hW hji=>((hclk j hj hW).2.1 hcls).1 hji)
          obtain⟨hσ,hrm⟩:=hsame hple hnW
          rw[hσ]at hs
          obtain⟨rL',hs2,_⟩:=step_move (rL:=rL) hs hrm
          obtain⟨e1,e2⟩:=step_still hs2 hck hna
          rw[e1,e2]at hs2
          exact go hs2
  have hany:∀fuel listed a w,Inv listed a w→(List.range n).countP (fun k=>!listed.getD k false)≤fuel→wpAny P .any ops Q fuel listed a w:=by
    intro fuel
    induction fuel with
    | zero=>
      intro listed a w hI hcnt
      have hall:∀k,k<n→listed.getD k false=true:=by
        intro k hk
        have h0:(List.range n).countP (fun k=>!listed.getD k false)=0:=by omega
        have:=List.countP_eq_zero.1 h0 k (List.mem_range.2 hk)
        simpa using this
      refine⟨?_,hfin listed a w hI hall⟩
      apply List.eq_nil_iff_forall_not_mem.2
      intro j hj
      obtain⟨h1,o,h2,_⟩:=mem_ready.1 hj
      have hjn:j<n:=hlt h2
      rw[getD_true_iff hI.1 hjn,hall j hjn]at h1
      cases h1
    | succ fuel ih=>
      intro listed a w hI hcnt
      refine⟨fun hr=>hfin listed a w hI (hready_nil listed hI.1 hr),fun i hi=>?_⟩
      have hin:i<n:=by
        obtain⟨_,o,h2,_⟩:=mem_ready.1 hi
        exact hlt h2
      have hnl:listed.getD i false=false:=by rw[←getD_true_iff hI.1 hin];exact(mem_ready.1 hi).1
      refine hstep listed a w hI i hi _ (fun a' w' hI'=>ih _ a' w' hI' ?_)
      have hsz':i<listed.size:=by rw[hI.1];exact hin
      have:=cnt_lt (p:=fun k=>!(listed.setIfInBounds i true).getD k false) (q:=fun k=>!listed.getD k false) (fun k hk=>by
        simp only[Bool.not_eq_true']at hk ⊢
        rw[set_getD hsz']at hk
        simp only[Bool.or_eq_false_iff]at hk
        exact hk.2) (i:=i) (by simp only[hnl];rfl) (by simp only[set_getD hsz'];simp) (List.range n) (List.mem_range.2 hin)
      omega
  refine wp_region_any hmix ?_
  rw[hnn]
  have hrepl:∀k,(Array.replicate n false).getD k false=false:=fun k=>by
    simp only[Array.getD_eq_getD_getElem?,Array.getElem?_replicate]
    split<;>rfl
  refine hany n _ a0 _ ⟨by simp,?_,hd0,Rs,Bi,0,s.r,Nat.zero_le _,.inl rfl,?_,hx0,by rw[hst0.2.2.2];exact hn0,?_,?_,?_,?_,hnt0,?_,?_,?_⟩ ?_
  · intro i o hi;rw[hrepl]at hi;cases hi
  · intro j hj hW;rw[hrepl];simp
  · rw[hst0.2.2.2]
    refine⟨hm0.rel.drawn _,⟨fun m i hm=>?_,fun m m' i i' hm hm' hb=>?_,fun m i hm=>?_⟩⟩
    · simp only[Bi]at hm
      split at hm
      · cases hm
      · exact hm0.priv.at_ m i hm
    · simp only[Bi]at hm hm'
      split at hm
      · cases hm
      · split at hm'
        · cases hm'
        · exact hm0.priv.inj m m' i i' hm hm' hb
    · simp only[Bi]at hm
      split at hm
      · cases hm
      · exact hm0.priv.apart m i hm
  · intro k m z h1 h2 h3;rw[hrepl]at h3;cases h3
  · intro m _;rw[hst0.2.2.1]
  · intro k m z h1 h2 _
    simp only[Bi]
    rw[if_pos (hpalm k m z h1 h2)]
  · intro i o t hi;rw[hrepl]at hi;cases hi
  · intro t v hv _;exact he0.at_ t v hv
  · intro t m off hv _
    obtain⟨i,h1,h2⟩:=hq0.at_ t m off hv
    refine⟨i,?_,h2⟩
    simp only[Bi]
    rw[if_neg (fun hh=>palsOk_mem hpo m hh t off hv)]
    exact h1
  · refine Nat.le_trans (List.countP_le_length) (by simp)
end Go.Og
namespace Go.Og
variable {P:Program} {D:Den} {C:Cx}
theorem look_mem {α:Type}:∀{l:List (Nat × α)} {k:Nat} {a:α},look l k=some a→(k,a)∈l
 | [],k,a,h=>by simp[look]at h
 | (m,b)::l,k,a,h=>by
  simp only[look,Nat.beq_eq]at h
  split at h
  ·rename_i he;subst he;cases h;exact List.mem_cons_self
  ·exact List.mem_cons_of_mem _ (look_mem h)
theorem keepE_some {e:Env}:∀(ts:List (Nat × XTy)) (κ:Env→Ans) (res:V × H),keepE e ts κ=some res→∃e',(∀t v,look e' t=some v→look e t=some v)∧κ e'=some res
 | [],κ,res,h=>⟨[],fun t v hv=>by simp[look]at hv,h⟩
 | (t,ty)::l,κ,res,h=>by
  simp only[keepE]at h
  unfold getK at h
  simp only at h
  cases hl:look e t with
  | none=>rw[hl]at h;cases h
  | some v=>
   rw[hl]at h
   have h2:=rt_some _ _ _ _ h
   obtain⟨e',h3,h4⟩:=keepE_some l _ res h2
   refine⟨_,fun u w hu=>?_,h4⟩
   simp only[look,Nat.beq_eq]at hu
   split at hu
   ·rename_i he;subst he;cases hu;exact hl
   ·exact h3 u w hu
theorem keepL_some {e:Env}:∀(ts:List (Nat × XTy)) (κ:Env→Ans) (res:V × H),keepL e ts κ=some res→∃e',(∀t v,look e' t=some v→look e t=some v∧v.live=true)∧κ e'=some res
 | [],κ,res,h=>⟨[],fun t v hv=>by simp[look]at hv,h⟩
 | (t,ty)::l,κ,res,h=>by
  simp only[keepL,getL]at h
  cases hl:look e t with
  | none=>rw[hl]at h;cases h
  | some v=>
   rw[hl]at h
   obtain⟨hlv,h⟩:=chk_some h
   have h2:=rt_some _ _ _ _ h
   obtain⟨e',h3,h4⟩:=keepL_some l _ res h2
   refine⟨_,fun u w hu=>?_,h4⟩
   simp only[look,Nat.beq_eq]at hu
   split at hu
   ·rename_i he;subst he;cases hu;exact⟨hl,hlv⟩
   ·exact h3 u w hu
theorem keepR_some {r:Rg}:∀(rs:List (Nat × List XTy)) (κ:Rg→Ans) (res:V × H),keepR r rs κ=some res→∃r',(∀m l,look r' m=some l→look r m=some l)∧(∀m,memN (rs.map Prod.fst) m=true→∃l,look r' m=some l)∧κ r'=some res
 | [],κ,res,h=>⟨[],fun t v hv=>by simp[look]at hv,fun m hm=>by simp[memN]at hm,h⟩
 | (m,tys)::l,κ,res,h=>by
  simp only[keepR]at h
  cases hl:look r m with
  | none=>rw[hl]at h;cases h
  | some cs=>
   rw[hl]at h
   have h2:=rts_some _ _ _ _ h
   obtain⟨r',h3,h4,h5⟩:=keepR_some l _ res h2
   refine⟨_,fun u w hu=>?_,fun u hu=>?_,h5⟩
   ·simp only[look,Nat.beq_eq]at hu
    split at hu
    ·rename_i he;subst he;cases hu;exact hl
    ·exact h3 u w hu
   ·simp only[look,Nat.beq_eq]
    by_cases he:m=u
    ·exact⟨cs,by rw[if_pos he]⟩
    ·rw[if_neg he]
     simp only[List.map_cons]at hu
     exact h4 u (((memN_cons m _ u).1 hu).resolve_left he)
theorem look_keepQ:∀(ms rs:List Nat) (q:Qs) (t:Nat) (p:Nat × Nat),look (keepQ ms rs q) t=some p→look q t=some p∧memN rs p.1=true
 | [],rs,q,t,p,h=>by simp[keepQ,look]at h
 | a::l,rs,q,t,p,h=>by
  simp only[keepQ]at h
  split at h
  ·rename_i p' hp
   split at h
   ·rename_i hm
    simp only[look,Nat.beq_eq]at h
    split at h
    ·rename_i he;subst he;cases h;exact⟨hp,hm⟩
    ·exact look_keepQ l rs q t p h
   ·exact look_keepQ l rs q t p h
  ·exact look_keepQ l rs q t p h
theorem keepS_ok {nR:Nat} {R0:Ren} {nt:Nat} {ts:List (Nat × XTy)} {ms:List Nat} {rs:List (Nat × List XTy)} {s:St} {κ:St→Ans} {res:V × H} (h:keepS ts ms rs s κ=some res) {a:Act} {w:World} (hI:InvS C nR R0 nt s a w) :
  ∃s0,κ s0=some res∧InvS C nR R0 nt s0 a w:=by
 unfold keepS at h
 obtain⟨e',he',h⟩:=keepE_some _ _ _ h
 obtain⟨r',hr1,hr2,h⟩:=keepR_some _ _ _ h
 obtain⟨R,B,h1,h2,h3,h4,h5,h6,h7⟩:=hI
 refine⟨_,h,R,fun m=>if memN (rs.map Prod.fst) m=true then B m else none,h1,h2,⟨h3.rel,⟨fun m i hm=>?_,fun m m' i i' hm hm'=>?_,fun m i hm=>?_⟩⟩,h4.sub he',⟨fun t m off hq=>?_⟩,h6,h7⟩
 ·split at hm
  ·rename_i hmem
   obtain⟨hO,l,hl,hok'⟩:=h3.priv.at_ m i hm
   obtain⟨l',hl'⟩:=hr2 m hmem
   have:=hr1 m l' hl'
   rw[hl]at this;cases this
   exact⟨hO,l,hl',hok'⟩
  ·cases hm
 ·split at hm
  ·split at hm'
   ·exact h3.priv.inj m m' i i' hm hm'
   ·cases hm'
  ·cases hm
 ·split at hm
  ·exact h3.priv.apart m i hm
  ·cases hm
 ·obtain⟨hq1,hq2⟩:=look_keepQ _ _ _ _ _ hq
  obtain⟨i,hi1,hi2⟩:=h5.at_ t m off hq1
  refine⟨i,?_,hi2⟩
  rw[if_pos hq2];exact hi1
theorem denC_ok (hD:∀f,SoundFn P C.E C.G f (D f)) {W:DrawFn} (hW:SoundW P C.E C.G W) (hmix:P.follows .mixedOrders=true) (N nt:Nat) {nR:Nat} {R0:Ren} {res:V × H} :
  ∀(xc:XC) (c:Code),xc.strip=compC P C.G nt c→xc.ok=true→∀(s:St) (kn:St→Ans) (kx:Nat→St→Ans) (kr:St→Ans),denC C.E D W N xc s kn kx kr=some res →
   ∀(a:Act) (w:World) (Q:Exit→Act→World→Prop),InvS C nR R0 nt s a w→(∀s' a' w',kn s'=some res→InvS C nR R0 nt s' a' w'→Q .normal a' w') →
    (∀id s' a' w',kx id s'=some res→InvS C nR R0 nt s' a' w'→Q (.exit id) a' w')→(∀s' a' w',kr s'=some res→InvS C nR R0 nt s' a' w'→Q .ret a' w')→c.wp P Q a w:=by
 intro xc
 induction xc with
 | bad=>intro c _ _ s kn kx kr h;cases h
 | keep ts ms rs xc ih=>
  intro c hs hok s kn kx kr h a w Q hI hn hx hr
  rw[denC_keep]at h
  obtain⟨s0,h,hI⟩:=keepS_ok h hI
  exact ih c hs hok s0 kn kx kr h a w Q hI hn hx hr
 | skip=>
  intro c hs hok s kn kx kr h a w Q hI hn hx hr
  cases c<;>simp only[XC.strip,compC]at hs<;>(try (cases hs;done))
  ·exact wp_skip (hn s a w h hI)
  ·rename_i i o d;cases d<;>(first | (cases hs;done) | (simp only[compC]at hs;split at hs<;>cases hs))
 | exit id=>
  intro c hs hok s kn kx kr h a w Q hI hn hx hr
  cases c<;>simp only[XC.strip,compC]at hs<;>(try (cases hs;done))
  ·rename_i i o d;cases d<;>(first | (cases hs;done) | (simp only[compC]at hs;split at hs<;>cases hs))
  ·cases hs;exact wp_exit (hx id s a w h hI)
 | ret=>
  intro c hs hok s kn kx kr h a w Q hI hn hx hr
  cases c<;>simp only[XC.strip,compC]at hs<;>(try (cases hs;done))
  ·rename_i i o d;cases d<;>(first | (cases hs;done) | (simp only[compC]at hs;split at hs<;>cases hs))
  ·exact wp_ret (hr s a w h hI)
 | ops l=>
  intro c hs hok s kn kx kr h a w Q hI hn hx hr
  cases c<;>simp only[XC.strip,compC]at hs<;>(try (cases hs;done))
  rename_i i o d
  cases d
  case true=>simp only[compC]at hs;split at hs<;>cases hs
  simp only[compC,AC.region.injEq]at hs
  rw[denC_ops]at h
  obtain⟨s',hrun,hκ,_⟩:=denL_run l none none none true 0 s _ res h hok (.inl ⟨rfl,rfl⟩) (fun h=>by cases h)
  refine wp_region_list (run_seq hD hrun o.toList a w ?_ hI (fun a' w' hI'=>hn _ a' w' hκ hI'))
  obtain⟨h1,h2⟩:=flat_len l none
  rw[List.map_fst_zip (by omega),hs]
 | draw l ancs=>
  intro c hs hok s kn kx kr h a w Q hI hn hx hr
  cases c<;>simp only[XC.strip,compC]at hs<;>(try (cases hs;done))
  rename_i i o d
  cases d<;>simp only[compC]at hs<;>(try (cases hs;done))
  split at hs
  case isFalse=>cases hs
  rename_i hplan
  simp only[AC.draw.injEq]at hs
  rw[denC_draw]at h
  unfold drawK at h
  split at h
  ·rename_i hpo
   simp only[XC.ok,Bool.and_eq_true,Nat.beq_eq,Bool.not_eq_true']at hok
   obtain⟨⟨⟨⟨k1,k2⟩,k3⟩,k4⟩,k5⟩:=hok
   exact draw_ok hD hmix i hs.1 hs.2 hplan k1 k2 k3 k4 k5 hpo h hI Q (fun s' a' w' hκ hI'=>hn s' a' w' hκ hI')
  ·cases h
 | gdraw ops pl ts=>
  intro c hs hok s kn kx kr h a w Q hI hn hx hr
  cases c<;>simp only[XC.strip,compC]at hs<;>(try (cases hs;done))
  rename_i i o d
  cases d<;>simp only[compC]at hs<;>(try (cases hs;done))
  split at hs
  case isFalse=>cases hs
  rename_i hplan
  simp only[AC.draw.injEq]at hs
  obtain⟨rfl,rfl⟩:=hs
  rw[denC_gdraw]at h
  cases h1:W (o.toList.map (compOper P C.G nt o)) (planOf o) s.e s.σ with
  | none=>rw[h1]at h;cases h
  | some q=>
   obtain⟨e1,σ1⟩:=q
   rw[h1]at h
   obtain⟨e',he',h⟩:=keepL_some _ _ _ h
   obtain⟨R,B,g1,g2,g3,g4,g5,g6,g7⟩:=hI
   refine hW C rfl rfl nt i o s.e s.σ e1 σ1 hplan h1 R a w Q g3.rel g4.env g6 g7 (fun R' a' w' hx' hn' hrel' he1 hsz hd=>?_)
   refine hn _ a' w' h ⟨R',fun _=>none,g1.trans hx' g2,Nat.le_trans g2 hn',⟨hrel',⟨fun m i hm=>(by cases hm),fun m m' i i' hm=>(by cases hm),fun m i hm=>(by cases hm)⟩⟩,⟨fun t v hv=>?_⟩,⟨fun t m off hq=>(by simp[look]at hq)⟩,hsz,hd⟩
   obtain⟨h2,h3⟩:=he' t v hv
   rcases he1.at_ t v h2 with rfl|h4
   ·cases h3
   ·exact h4
 | seq p q ihp ihq=>
  intro c hs hok s kn kx kr h a w Q hI hn hx hr
  cases c<;>simp only[XC.strip,compC]at hs<;>(try (cases hs;done))
  ·rename_i i o d;cases d<;>(first | (cases hs;done) | (simp only[compC]at hs;split at hs<;>cases hs))
  rename_i c1 c2
  simp only[AC.seq.injEq]at hs
  simp only[XC.ok,Bool.and_eq_true]at hok
  rw[denC_seq]at h
  refine wp_seq (ihp c1 hs.1 hok.1 s _ kx kr h a w _ hI (fun s' a' w' h' hI'=>?_) (fun id s' a' w' h' hI'=>hx id s' a' w' h' hI') (fun s' a' w' h' hI'=>hr s' a' w' h' hI'))
  exact ihq c2 hs.2 hok.2 s' kn kx kr h' a' w' Q hI' hn hx hr
 | cond o p q ihp ihq=>
  intro c hs hok s kn kx kr h a w Q hI hn hx hr
  cases c<;>simp only[XC.strip,compC]at hs<;>(try (cases hs;done))
  ·rename_i i o d;cases d<;>(first | (cases hs;done) | (simp only[compC]at hs;split at hs<;>cases hs))
  rename_i co c1 c2
  simp only[AC.cond.injEq]at hs
  obtain⟨rfl,h1,h2⟩:=hs
  simp only[XC.ok,Bool.and_eq_true]at hok
  rw[denC_cond]at h
  obtain⟨v,hv,_,h⟩:=getK_some h
  obtain⟨cb,rfl,h9⟩:=rtBool_some h
  have hI2:=hI
  obtain⟨R,B,g1,g2,g3,g4,g5,g6,g7⟩:=hI2
  have hev:=ev_bool (a:=a) g4.env g3.rel.globOk hv
  cases cb with
  | true=>exact wp_cond_true hev (ihp c1 h1 hok.1 s kn kx kr h9 a w Q hI hn hx hr)
  | false=>exact wp_cond_false hev (ihq c2 h2 hok.2 s kn kx kr h9 a w Q hI hn hx hr)
 | block id p ih=>
  intro c hs hok s kn kx kr h a w Q hI hn hx hr
  cases c<;>simp only[XC.strip,compC]at hs<;>(try (cases hs;done))
  ·rename_i i o d;cases d<;>(first | (cases hs;done) | (simp only[compC]at hs;split at hs<;>cases hs))
  rename_i i c1
  simp only[AC.block.injEq]at hs
  obtain⟨rfl,hs⟩:=hs
  rw[denC_block]at h
  refine wp_block (ih c1 hs hok s kn _ kr h a w _ hI (fun s' a' w' h' hI'=>hn s' a' w' h' hI') (fun j s' a' w' h' hI'=>?_) (fun s' a' w' h' hI'=>hr s' a' w' h' hI'))
  show Exit.inBlock id Q (.exit j) a' w'
  simp only[Exit.inBlock]
  unfold blkK at h'
  split at h'
  ·rename_i hj
   rw[Nat.beq_eq]at hj
   rw[if_pos hj];exact hn s' a' w' h' hI'
  ·rename_i hj
   rw[if_neg (fun hh=>by rw[←Nat.beq_eq,hj]at hh;cases hh)];exact hx j s' a' w' h' hI'
 | loop ts ms rs p ih=>
  intro c hs hok s kn kx kr h a w Q hI hn hx hr
  cases c<;>simp only[XC.strip,compC]at hs<;>(try (cases hs;done))
  ·rename_i i o d;cases d<;>(first | (cases hs;done) | (simp only[compC]at hs;split at hs<;>cases hs))
  rename_i c1
  simp only[AC.loop.injEq]at hs
  rw[denC_loop]at h
  obtain⟨s0,h,hI⟩:=keepS_ok h hI
  have key:∀(n:Nat) (s:St) (a:Act) (w:World),iterK (fun rec s'=>denC C.E D W N p s' (fun s''=>keepS ts ms rs s'' rec) kx kr) n s=some res→InvS C nR R0 nt s a w→Code.rounds P c1 Q n a w:=by
   intro n
   induction n with
   | zero=>intro s a w h;cases h
   | succ n ihn=>
    intro s a w h hI
    have h:denC C.E D W N p s (fun s''=>keepS ts ms rs s'' (iterK (fun rec s'=>denC C.E D W N p s' (fun s''=>keepS ts ms rs s'' rec) kx kr) n)) kx kr=some res:=h
    rw[rounds_succ]
    refine ih c1 hs hok s _ kx kr h a w _ hI (fun s' a' w' h' hI'=>?_) (fun id s' a' w' h' hI'=>hx id s' a' w' h' hI') (fun s' a' w' h' hI'=>hr s' a' w' h' hI')
    obtain⟨s2,h2,hI2⟩:=keepS_ok h' hI'
    exact ihn s2 a' w' h2 hI2
  exact wp_loop_rounds N (key N s0 a w h hI)
theorem andThen_inv {α β:Type} {x:Result α} {g:α→World→Result β} {z:β} {w:World} (h:Result.andThen x g = .ok z w):∃y w2,x = .ok y w2∧g y w2 = .ok z w:=by
 cases x with
 | ok y w2=>exact⟨y,w2,rfl,h⟩
 | _=>cases h
theorem resK_ok {R:Ren} {B:Bs} {s:St} {w:World} {a:Act} (hm:MemI C R B s.r s.σ w) (he:EnvL R s.e a.tmps) (hq:QOk B s.q a.tmps):∀(rs:List ResultVar) (as:List AR) (κ:List V→Ans) (res:V × H),compRs P rs=some as→resK C.E s as κ=some res →
  ∃l xs,κ l=some res∧concs R l=some xs∧(rs.mapM (m:=Sem) fun
   | .tmp t=>pure (a.tmps.getD t undef)
   | .cell b t=>do loadVar t (←asAddr (a.tmps.getD b undef))).run P w = .ok xs w
 | [],as,κ,res,hc,h=>by
  simp only[compRs,Option.some.injEq]at hc;subst hc
  exact⟨[],[],h,rfl,rfl⟩
 | r::rs,as,κ,res,hc,h=>by
  simp only[compRs]at hc
  cases hr:compR P r with
  | none=>rw[hr]at hc;cases hc
  | some ar=>
   cases hrs:compRs P rs with
   | none=>rw[hr,hrs]at hc;cases hc
   | some as'=>
    rw[hr,hrs]at hc
    simp only[Option.some.injEq]at hc
    subst hc
    have one:∀(C2:Cx) (R2:Ren) (σ2:H) (e2:Env) (v:V),Rel C2 R2 σ2 w→EnvOk R2 e2 a.tmps→resV C2.E e2 σ2 [ar]=some [v]→Le R R2→(∃x,conc R v=some x)→resK C.E s as' (fun l=>κ (v::l))=some res →
      ∃l xs,κ l=some res∧concs R l=some xs∧((r::rs).mapM (m:=Sem) fun
       | .tmp t=>pure (a.tmps.getD t undef)
       | .cell b t=>do loadVar t (←asAddr (a.tmps.getD b undef))).run P w = .ok xs w:=by
     intro C2 R2 σ2 e2 v h1 h2 h3 hle ⟨x,hx⟩ h4
     obtain⟨xs,h5,h6⟩:=resV_ok (P:=P) h1 h2 [r] [ar] [v] (by simp only[compRs,hr]) h3
     obtain⟨y,ys,h7,h8,rfl⟩:=concs_cons.1 h5
     simp only[concs,Option.some.injEq]at h8;subst h8
     have:=conc_mono hle v x hx
     rw[h7]at this;cases this
     obtain⟨l,xs,g1,g2,g3⟩:=resK_ok hm he hq rs as' _ res hrs h4
     refine⟨v::l,_,g1,concs_cons.2 ⟨_,_,hx,g2,rfl⟩,?_⟩
     rw[List.mapM_cons]at h6 ⊢
     rw[Sem.run_bind]at h6 ⊢
     obtain⟨y2,w2,e1,e2⟩:=andThen_inv h6
     simp only[Sem.run_bind,List.mapM_nil,Sem.run_pure,Result.andThen_ok,Result.ok.injEq,List.cons.injEq,and_true]at e2
     obtain⟨rfl,rfl⟩:=e2
     refine(congrArg (fun r=>Result.andThen r _) e1).trans ?_
     simp only[Result.andThen_ok,Sem.run_bind,g3,Sem.run_pure]
    cases r with
    | tmp t=>
     simp only[compR,Option.some.injEq]at hr
     subst hr
     simp only[resK]at h
     unfold getK at h
     simp only at h
     cases hl:look s.e t with
     | none=>rw[hl]at h;cases h
     | some v=>
      rw[hl]at h
      obtain⟨x,hx1,hx2⟩:=he.at_ t v hl
      have hge:getE s.e t=v:=by simp only[getE,hl]
      refine one C R s.σ s.e v hm.rel he.env ?_ (Le.refl _) ⟨x,hx2⟩ h
      simp only[resV,hge,live_of_conc hx2]
    | cell t ty=>
     simp only[compR]at hr
     cases hs:shapeOf P ty with
     | none=>rw[hs]at hr;cases hr
     | some n=>
      rw[hs]at hr
      simp only[Option.some.injEq]at hr
      subst hr
      simp only[resK]at h
      split at h
      ·rename_i m off hqt
       obtain⟨i,hi1,hi2⟩:=hq.at_ t m off hqt
       split at h
       ·rename_i cs hcs
        have hr2:=hm.priv.one hm.rel hi1 hcs
        have he2:EnvOk (upd R s.σ.next i) [(t,.ptr s.σ.next off)] a.tmps:=EnvOk.cons ⟨fun k v hk=>by simp[look]at hk⟩ hi2 (conc_ptr_mk (upd_same _ _ _))
        have hle:Le R (upd R s.σ.next i):=(upd_ext R s.σ.next i).le hm.rel.fresh
        obtain⟨_,l',hl',hok⟩:=hm.priv.at_ m i hi1
        rw[hcs]at hl';cases hl'
        obtain⟨arr,el,lo,hi,_,hh,_⟩:=hok
        have hgp:getE [(t,V.ptr s.σ.next off)] t = .ptr s.σ.next off:=by simp[getE,look]
        have hrd:rd C.E ⟨s.σ.next+1,[(s.σ.next,.cells cs)]⟩ s.σ.next=some cs:=by simp[rd,look]
        split at h
        ·obtain⟨v,hv,h⟩:=nthK_some h
         obtain⟨x,hx,_⟩:=hh off v hv
         refine one _ _ _ _ v hr2 he2 ?_ hle ⟨x,hx⟩ h
         simp only[resV,hgp,hrd,hv]
        ·rename_i n
         obtain⟨hb,h⟩:=subK_some h
         obtain⟨xs,hxs,_⟩:=hh.cells (by simpa using hb)
         refine one _ _ _ _ _ hr2 he2 ?_ hle ⟨_,conc_agg_mk hxs⟩ h
         simp only[resV,hgp,rdN,hrd,hb,if_true]
       ·cases h
      ·obtain⟨p,hp,_,h⟩:=getK_some h
       obtain⟨b,o,rfl,h9⟩:=rtPtr_some h
       have hgp:getE s.e t = .ptr b o:=hp
       cases n with
       | none=>
        simp only at h9
        obtain⟨l,hl,h9⟩:=rdK_some h9
        obtain⟨v,hv,h9⟩:=nthK_some h9
        obtain⟨i,arr,el,fr,_,_,hold⟩:=hm.rel.read hl
        obtain⟨x,hx,_⟩:=hold o v hv
        refine one C R s.σ s.e v hm.rel he.env ?_ (Le.refl _) ⟨x,hx⟩ h9
        simp only[resV,hgp,hl,hv]
       | some n=>
        simp only at h9
        obtain⟨l,hl,h9⟩:=rdK_some h9
        obtain⟨hb,h9⟩:=subK_some h9
        obtain⟨i,arr,el,fr,_,_,hold⟩:=hm.rel.read hl
        obtain⟨xs,hxs,_⟩:=hold.cells (by simpa using hb)
        refine one C R s.σ s.e _ hm.rel he.env ?_ (Le.refl _) ⟨_,conc_agg_mk hxs⟩ h9
        simp only[resV,hgp,rdN,hl,hb,if_true]
theorem runX_ok {E:List (Nat × Blk)} {G:Nat→Bool} (hD:∀f,SoundFn P E G f (D f)) {W:DrawFn} (hW:SoundW P E G W) (hmix:P.follows .mixedOrders=true) (N:Nat) {f:FuncId} {fn:Func} (hf:P.funcs[f]? = some fn)
  {xf:XFn} {af':AFn} (hc:compF P G fn=some af') (hs:xf.strip=af') (hxok:xf.body.ok=true) (hok:callOk P f=true):SoundFn P E G f (runX E D W N xf):=by
 intro C hE hG R σ w args xs v σ' h hrel hxs
 subst hE hG
 refine⟨hok,?_⟩
 unfold compF at hc
 cases hb:fn.body with
 | none=>rw[hb]at hc;cases hc
 | some c=>
  cases hr:compRs P fn.results.toList with
  | none=>rw[hb,hr]at hc;cases hc
  | some rs=>
   rw[hb,hr]at hc
   simp only[Option.some.injEq]at hc
   rw[←hs]at hc
   obtain⟨nt,params,resl,body⟩:=xf
   simp only[XFn.strip,AFn.mk.injEq]at hc
   obtain⟨rfl,rfl,_,hbody⟩:=hc
   unfold runX at h
   simp only at h
   have h:=rts_some _ _ _ _ h
   have hlen:=concs_length hxs
   refine calls_of_wp hf hb ?_
   have hsz:fn.ntmps≤(xs.toArray++Array.replicate (fn.ntmps-xs.toArray.size) undef).size:=by simp;omega
   have harg:∀(l:List V) (ys:List Value) (k:Nat),concs R l=some ys→∀(t:Nat) (v:V),look (argE k l) t=some v→∃y,k≤t∧ys[t-k]? = some y∧conc R v=some y:=by
    intro l
    induction l with
    | nil=>intro ys k _ t v h;simp[argE,look]at h
    | cons u l ih=>
     intro ys k hc t v h
     obtain⟨y,zs,hy,hz,rfl⟩:=concs_cons.1 hc
     simp only[argE,look]at h
     by_cases hk:k=t
     ·subst hk
      rw[if_pos (by simp)]at h
      cases h
      exact⟨y,Nat.le_refl _,by simp,hy⟩
     ·rw[if_neg (by simpa using hk)]at h
      obtain⟨q,h1,h2,h3⟩:=ih zs (k+1) hz t v h
      exact⟨q,by omega,by rw[show t-k=(t-(k+1))+1 by omega,List.getElem?_cons_succ];exact h2,h3⟩
   have he0:EnvL R (argE 0 args) (xs.toArray++Array.replicate (fn.ntmps-xs.toArray.size) undef):=by
    refine⟨fun k u hk=>?_⟩
    obtain⟨y,_,h2,h3⟩:=harg args xs 0 hxs k u hk
    refine⟨y,?_,h3⟩
    rw[Nat.sub_zero]at h2
    have hlt:k<xs.length:=by
     rcases Nat.lt_or_ge k xs.length with h|h
     ·exact h
     ·rw[List.getElem?_eq_none h]at h2;cases h2
    rw[Array.getElem?_append_left (by simpa using hlt)]
    simpa using h2
   have fin:∀(s':St) (a':Act) (w':World),(resK C.E s' rs fun l=>some (oneV l,s'.σ))=some (v,σ')→InvS C σ.next R fn.ntmps s' a' w' →
     a'.defers=[]∧∃x,(results fn a'.tmps).run P w' = .ok x w'∧∃R' x',Ext σ.next R R'∧σ.next≤σ'.next∧Rel C R' σ' w'∧conc R' v=some x'∧Ending.returned x = .returned x':=by
    intro s' a' w' h' ⟨R1,B1,k1,k2,k3,k4,k5,k6,k7⟩
    obtain⟨l,ys,g1,g2,g3⟩:=resK_ok (P:=P) k3 k4 k5 fn.results.toList rs _ _ hr h'
    simp only[Option.some.injEq,Prod.mk.injEq]at g1
    obtain⟨rfl,rfl⟩:=g1
    have hres:(results fn a'.tmps).run P w' = .ok (if h:ys.toArray.size=1 then ys.toArray[0] else .tuple ys.toArray) w':=by
     unfold results
     refine(Sem.run_bind P w' _ _).trans ?_
     rw[Array.mapM_eq_mapM_toList,Sem.run_map]
     refine(congrArg (fun r=>Result.andThen (Result.andThen r _) _) g3).trans rfl
    exact⟨k7,_,hres,R1,_,k1,k2,k3.rel,oneV_ok g2,rfl⟩
   refine denC_ok (C:=C) hD hW hmix N fn.ntmps body c hbody.symm hxok _ _ _ _ h _ w _ ⟨R,fun _=>none,Ext.refl _ _,Nat.le_refl _,⟨hrel,⟨fun m i hm=>(by cases hm),fun m m' i i' hm=>(by cases hm),fun m i hm=>(by cases hm)⟩⟩,he0,⟨fun t m off hq=>(by simp[look]at hq)⟩,hsz,rfl⟩ ?_ ?_ ?_
   ·intro s' a' w' h' hI'
    obtain⟨h1,x,h2,h3⟩:=fin s' a' w' h' hI'
    exact⟨h1,x,h2,h3⟩
   ·intro id s' a' w' h' _;cases h'
   ·intro s' a' w' h' hI'
    obtain⟨h1,x,h2,h3⟩:=fin s' a' w' h' hI'
    exact⟨h1,x,h2,h3⟩
end Go.Og
namespace Go.Og
def okB (a:Ans):Bool:=match a with
 | some (.bool true,_)=>true
 | _=>false
theorem okB_some {a:Ans} (h:okB a=true):∃σ,a=some (.bool true,σ):=by
 unfold okB at h
 split at h
 ·exact⟨_,rfl⟩
 ·cases h
def argR (ng:Nat) (l:List (Nat × BI)):Ren:=fun id=>if id<ng then some ⟨id,0,0⟩else look l id
theorem ExtOk.lt {R:Ren} {i:BI} {b:Blk} {w:World} (h:ExtOk R i b w):i.blk<w.heap.size:=by
 cases b with
 | cells l=>
  obtain⟨arr,el,fr,h1,_⟩:=h
  exact(Array.getElem?_eq_some_iff.1 h1).1
 | _=>exact h.elim
theorem start_relE {G:Nat→Bool} {ng n0:Nat} (hG:∀g,G g=true→g<ng) (hn:ng≤n0) (l:List (Nat × BI)) (E:List (Nat × Blk)) (w:World) (hl:∀id i,look l id=some i→id<n0)
  (hE:∀id b,look E id=some b→∃i,argR ng l id=some i∧ExtOk (argR ng l) i b w) :
  Rel ⟨fun blk=>w.heap.size≤blk,w,E,G⟩ (argR ng l) ⟨n0,[]⟩ w where
 fresh id hid:=by
  have hid':n0≤id:=hid
  unfold argR;rw[if_neg (by omega)]
  cases hk:look l id with
  | none=>rfl
  | some i=>have:=hl id i hk;omega
 own id b hb:=by simp[look]at hb
 inj id id' b b' i i' hb:=by simp[look]at hb
 ext id b hb:=by
  obtain⟨i,h1,h2⟩:=hE id b hb
  exact⟨i,h1,Nat.not_le.2 h2.lt,h2⟩
 glob g hg:=⟨⟨g,0,0⟩,by unfold argR;rw[if_pos (hG g hg)],rfl,rfl⟩
 fr _ _:=rfl
 size:=Nat.le_refl _
 new _ h:=h
 os:=rfl
 tape:=rfl
 output:=rfl
theorem Rel.grow {C:Cx} {R:Ren} {σ:H} {w w':World} (h:Rel C R σ w) (hold:∀k,k<w.heap.size→w'.heap[k]? = w.heap[k]?) (hsz:w.heap.size≤w'.heap.size)
  (hos:w'.os=w.os) (htape:w'.tape=w.tape) (hout:w'.output=w.output):Rel C R σ w' where
 fresh:=h.fresh
 own id b hb:=by
  obtain⟨i,hi,hO,hok⟩:=h.own id b hb
  exact⟨i,hi,hO,hok.mono (Le.refl _) (hold _ hok.lt)⟩
 inj:=h.inj
 ext id b hb:=by
  obtain⟨i,hi,hO,hok⟩:=h.ext id b hb
  exact⟨i,hi,hO,hok.mono (Le.refl _) (hold _ hok.lt)⟩
 glob:=h.glob
 fr blk hn:=by
  rcases Nat.lt_or_ge blk w.heap.size with hl|hl
  ·rw[hold blk hl];exact h.fr blk hn
  ·exact absurd (h.new blk (Nat.le_trans h.size hl)) hn
 size:=Nat.le_trans h.size hsz
 new:=h.new
 os:=hos.trans h.os
 tape:=htape.trans h.tape
 output:=hout.trans h.output
def known (D:Den) (f:Nat) (F:List V→H→Ans):Den:=fun g=>match Nat.beq g f with
 | true=>F
 | false=>D g
set_option linter.unusedVariables false
noncomputable section
mutual
def V.closed:V→Bool
 | .dead=>false
 | .ptr _ _=>false
 | .sl _ _ _ _=>false
 | .sle _ _ _ _=>false
 | .mp _=>false
 | .fn _ a c=>closeds a&&closeds c
 | .ifc _ v=>V.closed v
 | .agg l=>closeds l
 | .tup l=>closeds l
 | _=>true
def closeds:List V→Bool
 | []=>true
 | v::l=>V.closed v&&closeds l
end
mutual
def V.clean (n0:Nat):V→Bool
 | .dead=>false
 | .ptr b _=>Nat.ble n0 b
 | .sl b _ _ _=>Nat.ble n0 b
 | .sle b _ _ _=>Nat.ble n0 b
 | .mp b=>Nat.ble n0 b
 | .fn _ a c=>cleans n0 a&&cleans n0 c
 | .ifc _ v=>V.clean n0 v
 | .agg l=>cleans n0 l
 | .tup l=>cleans n0 l
 | _=>true
def cleans (n0:Nat):List V→Bool
 | []=>true
 | v::l=>V.clean n0 v&&cleans n0 l
end
mutual
def V.sh (n0 d:Nat):V→V
 | .ptr b o => .ptr (Nat.add (Nat.sub b n0) d) o
 | .sl b o n c => .sl (Nat.add (Nat.sub b n0) d) o n c
 | .sle b o k e => .sle (Nat.add (Nat.sub b n0) d) o k e
 | .mp b => .mp (Nat.add (Nat.sub b n0) d)
 | .fn f a c => .fn f (shs n0 d a) (shs n0 d c)
 | .ifc t v => .ifc t (V.sh n0 d v)
 | .agg l => .agg (shs n0 d l)
 | .tup l => .tup (shs n0 d l)
 | v=>v
def shs (n0 d:Nat):List V→List V
 | []=>[]
 | v::l=>V.sh n0 d v::shs n0 d l
end
section
variable {R S:Ren} {n0 d:Nat}
mutual
theorem conc_sh (h:∀b,n0≤b→S (Nat.add (Nat.sub b n0) d)=R b):∀v:V,V.clean n0 v=true→conc S (V.sh n0 d v)=conc R v
 | .dead,hc=>by simp[V.clean]at hc
 | .ptr b o,hc=>by
  simp only[V.clean,Nat.ble_eq]at hc
  simp only[V.sh,conc,h b hc]
 | .sl b o n (.ex c),hc=>by
  simp only[V.clean,Nat.ble_eq]at hc
  simp only[V.sh,conc,h b hc]
 | .sl b o n (.op c),hc=>by
  simp only[V.clean,Nat.ble_eq]at hc
  simp only[V.sh,conc,h b hc]
 | .sle b o k e,hc=>by
  simp only[V.clean,Nat.ble_eq]at hc
  simp only[V.sh,conc,h b hc]
 | .mp b,hc=>by
  simp only[V.clean,Nat.ble_eq]at hc
  simp only[V.sh,conc,h b hc]
 | .bool _,_=>rfl
 | .int _ _,_=>rfl
 | .str _,_=>rfl
 | .nilp,_=>rfl
 | .nils,_=>rfl
 | .nilm,_=>rfl
 | .nilf,_=>rfl
 | .nili,_=>rfl
 | .fn f a c,hc=>by
  simp only[V.clean,Bool.and_eq_true]at hc
  simp only[V.sh,conc,concs_sh h a hc.1,concs_sh h c hc.2]
 | .ifc t v,hc=>by
  simp only[V.clean]at hc
  simp only[V.sh,conc,conc_sh h v hc]
 | .agg l,hc=>by
  simp only[V.clean]at hc
  simp only[V.sh,conc,concs_sh h l hc]
 | .tup l,hc=>by
  simp only[V.clean]at hc
  simp only[V.sh,conc,concs_sh h l hc]
theorem concs_sh (h:∀b,n0≤b→S (Nat.add (Nat.sub b n0) d)=R b):∀l:List V,cleans n0 l=true→concs S (shs n0 d l)=concs R l
 | [],_=>rfl
 | v::l,hc=>by
  simp only[cleans,Bool.and_eq_true]at hc
  simp only[shs,concs,conc_sh h v hc.1,concs_sh h l hc.2]
end
theorem shs_get:∀(l:List V) (k:Nat),(shs n0 d l)[k]? = (l[k]?).map (V.sh n0 d)
 | [],k=>by simp[shs]
 | v::l,0=>by simp[shs]
 | v::l,k+1=>by simpa[shs]using shs_get l k
theorem shs_length:∀(l:List V),(shs n0 d l).length=l.length
 | []=>rfl
 | v::l=>by simp[shs,shs_length l]
theorem cleans_get:∀{l:List V} {k:Nat} {v:V},cleans n0 l=true→l[k]? = some v→V.clean n0 v=true
 | [],k,v,_,h=>by simp at h
 | u::l,0,v,hc,h=>by
  simp only[cleans,Bool.and_eq_true]at hc
  simp at h;subst h;exact hc.1
 | u::l,k+1,v,hc,h=>by
  simp only[cleans,Bool.and_eq_true]at hc
  exact cleans_get hc.2 (by simpa using h)
def shp (n0 d:Nat):List (V × V)→List (V × V)
 | []=>[]
 | p::l=>(V.sh n0 d p.1,V.sh n0 d p.2)::shp n0 d l
def cleanp (n0:Nat):List (V × V)→Bool
 | []=>true
 | p::l=>V.clean n0 p.1&&V.clean n0 p.2&&cleanp n0 l
def Blk.sh (n0 d:Nat):Blk→Blk
 | .cells l => .cells (shs n0 d l)
 | .map l => .map (shp n0 d l)
 | .siter s p => .siter s p
 | .unit t => .unit t
def Blk.clean (n0:Nat):Blk→Bool
 | .cells l=>cleans n0 l
 | .map l=>cleanp n0 l
 | .siter _ _=>true
 | .unit _=>true
theorem MapHolds.sh (h:∀b,n0≤b→S (Nat.add (Nat.sub b n0) d)=R b):∀{l:List (V × V)} {es:List MapEntry},cleanp n0 l=true→MapHolds R l es→MapHolds S (shp n0 d l) es
 | [],[],_,_=>trivial
 | (a,b)::l,e::es,hc,⟨h1,h2,h3⟩=>by
  simp only[cleanp,Bool.and_eq_true]at hc
  exact⟨(conc_sh h a hc.1.1).trans h1,(conc_sh h b hc.1.2).trans h2,MapHolds.sh h hc.2 h3⟩
 | [],_::_,_,h=>h.elim
 | _::_,[],_,h=>h.elim
theorem OwnOk.sh (h:∀b,n0≤b→S (Nat.add (Nat.sub b n0) d)=R b) {i:BI} {b:Blk} {w:World} (hc:b.clean n0=true) (hb:OwnOk R i b w):OwnOk S i (b.sh n0 d) w:=by
 cases b with
 | cells l=>
  obtain⟨arr,el,lo,hi,h1,h2,h3,h4,h5⟩:=hb
  refine⟨arr,el,lo,hi,h1,fun k v hk=>?_,h3,by rw[shs_length];exact h4,h5⟩
  rw[shs_get,Option.map_eq_some_iff]at hk
  obtain⟨u,hu,rfl⟩:=hk
  obtain⟨a,ha,h6,h7⟩:=h2 k u hu
  exact⟨a,(conc_sh h u (cleans_get hc hu)).trans ha,h6,h7⟩
 | map l=>
  obtain⟨es,clock,h1,h2⟩:=hb
  exact⟨es,clock,h1,h2.sh h hc⟩
 | siter s p=>exact hb
 | unit t=>exact hb
def shBl (n0 d:Nat):List (Nat × Blk)→List (Nat × Blk)
 | []=>[]
 | p::l=>(Nat.add (Nat.sub p.1 n0) d,p.2.sh n0 d)::shBl n0 d l
def cleanBl (n0:Nat):List (Nat × Blk)→Bool
 | []=>true
 | p::l=>Nat.ble n0 p.1&&p.2.clean n0&&cleanBl n0 l
theorem look_app {α:Type}:∀(l m:List (Nat × α)) (id:Nat),look (l++m) id=match look l id with | some b=>some b | none=>look m id
 | [],m,id=>rfl
 | (k,b)::l,m,id=>by
  simp only[List.cons_append,look]
  cases Nat.beq k id with
  | true=>rfl
  | false=>simpa using look_app l m id
end
def prsEq:List (V × V)→List (V × V)→Bool
 | [],[]=>true
 | p::l,q::m=>V.beq p.1 q.1&&V.beq p.2 q.2&&prsEq l m
 | _,_=>false
theorem prsEq_ok:∀{l m:List (V × V)},prsEq l m=true→l=m
 | [],[],_=>rfl
 | (a,b)::l,(c,d)::m,h=>by
  simp only[prsEq,Bool.and_eq_true]at h
  rw[beq_ok _ _ h.1.1,beq_ok _ _ h.1.2,prsEq_ok h.2]
 | [],_::_,h=>by cases h
 | _::_,[],h=>by cases h
def blkEq:Blk→Blk→Bool
 | .cells a,.cells b=>beqs a b
 | .map a,.map b=>prsEq a b
 | _,_=>false
theorem blkEq_ok {a b:Blk} (h:blkEq a b=true):a=b:=by
 cases a<;>cases b<;>simp only[blkEq,Bool.false_eq_true]at h
 ·rw[beqs_ok _ _ h]
 ·rw[prsEq_ok h]
def inBl:List (Nat × Blk)→List (Nat × Blk)→Bool
 | [],_=>true
 | p::l,m=>(match lookF m p.1 with
  | some b=>blkEq b p.2
  | none=>false)&&inBl l m
theorem inBl_ok:∀{l m:List (Nat × Blk)},inBl l m=true→∀p∈l,look m p.1=some p.2
 | [],_,_,p,hp=>by cases hp
 | q::l,m,h,p,hp=>by
  simp only[inBl,Bool.and_eq_true,lookF_eq]at h
  rcases List.mem_cons.1 hp with rfl|hp
  ·have h1:=h.1
   cases hb:look m p.1 with
   | none=>rw[hb]at h1;cases h1
   | some b=>rw[hb]at h1;rw[blkEq_ok h1]
  ·exact inBl_ok h.2 p hp
structure Con where
 args:List V
 v:V
 bl:List (Nat × Blk)
 m:Nat
def Con.right (F:List V→H→Ans) (e:Con):Bool:=match F e.args ⟨100,[]⟩with
 | some (v,σ)=>V.beq v e.v&&(inBl e.bl σ.bl&&(Nat.ble σ.next (100+e.m)&&(cleanBl 100 e.bl&&(V.clean 100 e.v&&closeds e.args))))
 | none=>false
def Con.ans (e:Con) (σ:H):V × H:=(V.sh 100 σ.next e.v,⟨Nat.add σ.next e.m,shBl 100 σ.next e.bl++σ.bl⟩)
theorem cell_int {P:Program} {w:World} {r:Reach} {base:Nat} {t:TypeId} {k:IntKind} {v:Value} (ht:P.underlying t=some (.int k)) (h:Cell.okWide P w r base t v):∃n,v = .int k n:=by
 unfold Cell.okWide at h
 rw[ht]at h
 unfold Cell.ok at h
 rw[ht]at h
 cases v<;>simp at h
 obtain⟨rfl,_⟩:=h
 exact⟨_,rfl⟩
theorem cell_slice {P:Program} {w:World} {r:Reach} {base:Nat} {t e:TypeId} {v:Value} (ht:P.underlying t=some (.slice e)) (h:Cell.okWide P w r base t v) :
  v = .slice none 0 0∨∃blk off len cap,v = .slice (some ⟨blk,off,none⟩) len cap:=by
 unfold Cell.okWide at h
 rw[ht]at h
 unfold Cell.ok at h
 rw[ht]at h
 cases v<;>simp at h
 rename_i a len cap
 cases a with
 | none=>
  cases len<;>cases cap<;>first | exact .inl rfl | simp at h
 | some a=>
  obtain⟨b,o,s⟩:=a
  simp only at h
  obtain⟨_,_,_,hs,_⟩:=h
  simp only at hs
  subst hs
  exact .inr ⟨_,_,_,_,rfl⟩
end
end Go.Og
set_option linter.all false
set_option maxRecDepth 100000
set_option maxHeartbeats 0
namespace Go.Proofs.YtgblfbajgpboiaaGreatDoor
open Go Go.Og
noncomputable section
variable (E:List (Nat × Blk)) (D:Den) (W:DrawFn) (N:Nat)
def y0:V:=(V.int .i64 (Int.ofNat 0))
def y1:V:=(V.bool false)
def y2:XTy:=(.agg [.i,.i,.any,.any,.i,.any])
def y3:XTy:=(.agg [.i,.str,.bool,.i,.i,.bool,.bool,.bool,.bool,.i,.i,.any,.any,.i,.bool,.i])
def y4:XTy:=(.agg [.bool,.bool,.bool,.bool,.i,.i])
def y5:V:=(V.str ⟨0,0⟩)
def y6:XTy:=(.agg [.i,.str,.i])
def y7:List XTy:=[.i,.any,.bool,.bool,.bool,.bool,.i,.i,.any,.any,.i,.bool,.i]
def y8:V:=(V.int .u8 (Int.ofNat 0))
def y9:XTy:=(.agg [.str,.any,.any,.any])
def y10:XTy:=(.agg [.str,.i,.any,.any,.any])
def y11:AO:=(.con (V.bool true))
def y12:XTy:=(.agg [.i,.i])
def y13:AOp:=(.mov (.t 0))
def y14:AO:=(.con (V.int .u8 (Int.ofNat 45)))
def y15:AOp:=(.mov (.t 1))
def y16:XTy:=(.tup [])
def y17:V:=(V.int .i64 (Int.negSucc 0))
def y21:XC:=(.exit 0)
def y18:XC:=(.cond (.tmp 9) .skip
 y21)
def y19:AO:=(.con (V.int .u8 (Int.ofNat 48)))
def y20:AO:=(.con (V.int .u8 (Int.ofNat 128)))
def y22:AO:=(.con (V.str ⟨10,488440487847103610377301⟩))
def y23:AO:=(.con (V.str ⟨10,322399817400452109389381⟩))
def y24:AO:=(.con (V.str ⟨4,1397178708⟩))
def y25:AOp:=(.faddr 1 (.t 6))
def y26:AO:=(.con (V.str ⟨1,123⟩))
def y27:AOp:=(.alloc 31 [y5,V.nils,V.nils,V.nils])
def y28:AOp:=(.mov (.t 8))
def y29:AO:=(.con y1)
def y30:AO:=(.con (V.str ⟨8,6073459554577832005⟩))
def y31:AO:=(.con (V.str ⟨8,6073459554577829193⟩))
def y32:AO:=(.con (V.str ⟨8,4990918871747741011⟩))
def nX:Nat→St→Ans:=fun _ _=>none
def kX (ts:List (Nat × XTy)) (ms:List Nat) (rs:List (Nat × List XTy)) (κ:St→Ans):St→Ans:=fun s=>keepS ts ms rs s κ
def dX (E:List (Nat × Blk)) (D:Den) (W:DrawFn) (N:Nat) (c:XC) (k:St→Ans) (x:Nat→St→Ans) (r:St→Ans):St→Ans:=fun s=>denC E D W N c s k x r
def q3a:List (Nat × XTy):=[(3,.i),(4,.bool),(17,.any),(18,.any),(19,.any),(20,.i)]
def q3b:List (Nat × List XTy):=[(13,[.str,.any,.any,.any])]
def Fin3 (E:List (Nat × Blk)):St→Ans:=fun s=>resK E s [(.tmp 10)] fun l=>some (oneV l,s.σ)
def b3a (c0:XC):Nat→St→Ans:=blkK 0 (dX E D W N (.keep [] [] [] c0) (Fin3 E) nX (Fin3 E)) nX
def b3b (c0 c1:XC) (l0:St→Ans):St→Ans:=dX E D W N (.keep q3a [13] q3b c0) (kX q3a [13] q3b l0) (b3a E D W N c1) (Fin3 E)
def C3_0 (cc1:XC):XC:=(.z (.c 10 y1<|
.nil)
 (.seq (.z (.m 24 2<|
.u 25 24<|
.b 26 .gtr .none (.t 25) (.i 300)<|
.nil)
 (.cond (.tmp 26) (.z (.k 27 .bool 5 []<|
.m 10 27<|
.nil)
 .ret)
 .skip))
 (.z (.m 28 3<|
.P 29 (.conv (.toInt .u64) (.t 28))<|
.b 30 .rem .none (.t 29) (.con (V.int .u64 (Int.ofNat 3000)))<|
.P 31 (.conv (.toInt .i64) (.t 30))<|
.m 3 31<|
.nil)
 (.z (.c 11 (V.str ⟨9,596369269913283480905⟩)<|
.nil)
 (.seq (.z (.m 32 4<|
.nil)
 (.cond (.tmp 32) (.ops (.c 11 (V.str ⟨9,596369269913283483717⟩)<|
.nil))
 .skip))
 (.keep [(0,.bool),(1,.i),(2,.any),(3,.i),(4,.bool),(11,.str)] [] [] cc1))))))
def T3_0 (E:List (Nat × Blk)) (D:Den) (W:DrawFn) (K1:Bool→Int→V→Int→Bool→BS→H→Ans) (a:Bool) (b:Int) (c:V) (d:Int) (e:Bool) (σ:H):Ans:=
 slenK c fun n1=>
 condK (ltF (Int.ofNat 300) (Int.ofNat n1)) (
 callK (D 5 [] σ) fun u2 s3=>
 rtBool u2 fun x4=>
 some ((V.bool x4),s3)) (
 condK e (
 K1 a b c (wrapF .i64 (Int.tmod (wrapF .u64 d) (Int.ofNat 3000))) e (BS.mk 9 596369269913283483717) σ) (
 K1 a b c (wrapF .i64 (Int.tmod (wrapF .u64 d) (Int.ofNat 3000))) e (BS.mk 9 596369269913283480905) σ))
def C3_1 (cc2:XC):XC:=(.z (.m 33 3<|
.P 34 (.conv (.toInt .u64) (.t 33))<|
.k 35 .str 6 [(.t 34)]<|
.b 36 .add .none (.con (V.str ⟨1,91⟩)) (.t 35)<|
.b 37 .add .none (.t 36) (.con (V.str ⟨2,8285⟩))<|
.m 38 11<|
.b 39 .add .none (.t 37) (.t 38)<|
.m 12 39<|
.nil)
 (.z (.m 41 12<|
.b 42 .add .none (.con (V.str ⟨30,222506571868557908864840178738838794715991869943048379564569277948502093⟩)) (.t 41)<|
.b 43 .add .none (.t 42) (.con (V.str ⟨14,653888045630826294252513155567426⟩))<|
.m 44 12<|
.b 45 .add .none (.t 43) (.t 44)<|
.b 46 .add .none (.t 45) (.con (V.str ⟨14,653888045630844742126893291294281⟩))<|
.m 47 12<|
.b 48 .add .none (.t 46) (.t 47)<|
.b 49 .add .none (.t 48) (.con (V.str ⟨19,718957509434857746226029963610990240362414927⟩))<|
.m 50 12<|
.b 51 .add .none (.t 49) (.t 50)<|
.b 52 .add .none (.t 51) (.con (V.str ⟨8,4921947447783871822⟩))<|
.k 53 (.tup [y9,.bool]) 7 [(.t 52)]<|
.m 40 53<|
.P 54 (.extract 0 (.t 40))<|
.P 55 (.extract 1 (.t 40))<|
.pal 13 [] 31 [y5,V.nils,V.nils,V.nils]<|
.op none y9 [13,54] (.store 4 (.t 13) (.t 54))<|
.m 14 55<|
.nil)
 (.seq (.z (.m 56 14<|
.P 57 (.un .not (.t 56))<|
.m 58 57<|
.gO 58 false (.p 59 [13,58] (.faddr 2 (.t 13))<|
.p 60 [59,58] (.load none (.t 59))<|
.p 61 [60,58] (.len false (.t 60))<|
.p 62 [61,58] (.bin .neq .none (.t 61) (.i 4))<|
.nil) 63 58 62<|
.nil)
 (.cond (.tmp 63) (.z (.c 10 y1<|
.nil)
 .ret)
 .skip))
 (.z (.p 64 [] (.buildSlice 5 1 [y8] [(0,1,(.con y8))])<|
.q 15 0<|
.m 16 64<|
.nil)
 (.seq (.z (.m 65 0<|
.nil)
 (.cond (.tmp 65) (.ops (.p 66 [] (.buildSlice 5 1 [y8] [(0,1,(.con (V.int .u8 (Int.ofNat 255))))])<|
.q 15 1<|
.m 16 66<|
.nil))
 .skip))
 (.keep [(1,.i),(2,.any),(3,.i),(4,.bool),(15,.i),(16,.any)] [13] q3b cc2))))))
def T3_1 (E:List (Nat × Blk)) (D:Den) (W:DrawFn) (K2:Int→V→Int→Bool→Int→V→BS→V→V→V→H→Ans) (a:Bool) (b:Int) (c:V) (d:Int) (e:Bool) (f:BS) (σ:H):Ans:=
 callK (D 6 [.int .u64 (wrapF .u64 d)] σ) fun u1 s2=>
 rtStr u1 fun x3=>
 catK (BS.mk 1 91) x3 fun t4=>
 catK t4 (BS.mk 2 8285) fun t5=>
 catK t5 f fun t6=>
 catK (BS.mk 30 222506571868557908864840178738838794715991869943048379564569277948502093) t6 fun t7=>
 catK t7 (BS.mk 14 653888045630826294252513155567426) fun t8=>
 catK t8 t6 fun t9=>
 catK t9 (BS.mk 14 653888045630844742126893291294281) fun t10=>
 catK t10 t6 fun t11=>
 catK t11 (BS.mk 19 718957509434857746226029963610990240362414927) fun t12=>
 catK t12 t6 fun t13=>
 catK t13 (BS.mk 8 4921947447783871822) fun t14=>
 callK (D 7 [.str t14] s2) fun u15 s16=>
 rtTup u15 fun l17=>
 rtCons l17 fun x18 l19=>
 rtAgg x18 fun l20=>
 xcS l20 fun x23 l22=>
 rtCons l22 fun x24 l25=>
 rtCons l25 fun x26 l27=>
 rtCons l27 fun x28 l29=>
 rtNil l29 (
 xcB l19 fun x32 l31=>
 rtNil l31 (
 chk (allOne [.str x23,x24,x26,x28]) (
 joinB (fun c33 s34=>
 condK c33 (
 some ((V.bool false),s34)) (
 let s36:=newB s34 (.cells [.int .u8 (Int.ofNat 0)]);
 condK a (
 let s37:=newB s36 (.cells [.int .u8 (Int.ofNat 255)]);
 K2 b c d e (Int.ofNat 1) (V.sl (H.next s36) 0 1 (.ex 1)) x23 x24 x26 x28 s37) (
 K2 b c d e (Int.ofNat 0) (V.sl (H.next s34) 0 1 (.ex 1)) x23 x24 x26 x28 s36))) fun k35=>
 condK (not x32) (
 k35 true s16) (
 slenK x26 fun n38=>
 k35 (not (eqF (Int.ofNat n38) (Int.ofNat 4))) s16))))
def C3_2 (cc3:XC) (cc4:XC):XC:=(.z (.m 67 15<|
.op (some 68) y2 [67] (.build [y0,y0,V.nils,V.nils,y0,V.nils] [(0,1,(.i 1)),(1,1,(.t 67))])<|
.m 69 1<|
.op (some 70) y2 [69] (.build [y0,y0,V.nils,V.nils,y0,V.nils] [(0,1,(.i 2)),(1,1,(.t 69))])<|
.m 71 2<|
.op (some 72) y2 [71] (.build [y0,y0,V.nils,V.nils,y0,V.nils] [(0,1,(.i 5)),(2,1,(.t 71))])<|
.op (some 73) y2 [] (.build [y0,y0,V.nils,V.nils,y0,V.nils] [(0,1,(.i 4))])<|
.p 74 [68,70,72,73] (.buildSlice 37 4 [y0,y0,V.nils,V.nils,y0,V.nils,y0,y0,V.nils,V.nils,y0,V.nils,y0,y0,V.nils,V.nils,y0,V.nils,y0,y0,V.nils,V.nils,y0,V.nils] [(0,6,(.t 68)),(6,6,(.t 70)),(12,6,(.t 72)),(18,6,(.t 73))])<|
.m 17 74<|
.nil)
 (.z (.m 75 16<|
.m 76 1<|
.k 77 .one 8 [(.t 76)]<|
.m 78 2<|
.p 79 [75,77,78] (.buildSlice 22 4 [V.nils,V.nils,V.nils,V.nils] [(0,1,(.t 75)),(1,1,(.t 77)),(2,1,(.t 78)),(3,1,(.con V.nils))])<|
.m 18 79<|
.nil)
 (.z (.p 80 [] (.buildSlice 3 4 [y0,y0,y0,y0] [(0,1,(.i 1)),(1,1,(.i 2)),(2,1,(.i 4)),(3,1,(.i 5))])<|
.m 19 80<|
.nil)
 (.seq (.z (.q 20 0<|
.nil)
 (.block 0 (.loop q3a [13] q3b cc4)))
 (.keep [] [] [] cc3)))))
def T3_2 (E:List (Nat × Blk)) (D:Den) (W:DrawFn) (K4:Int→Bool→V→V→V→Int→BS→V→V→V→H→Ans) (a:Int) (b:V) (c:Int) (d:Bool) (e:Int) (f:V) (g:BS) (h i j:V) (σ:H):Ans:=
 fillK [(0,1,(V.int .i64 (Int.ofNat 5))),(2,1,b)] [.int .i64 (Int.ofNat 0),.int .i64 (Int.ofNat 0),V.nils,V.nils,.int .i64 (Int.ofNat 0),V.nils] fun l1=>
 xcI .i64 l1 fun x4 l3=>
 xcI .i64 l3 fun x7 l6=>
 rtCons l6 fun x8 l9=>
 rtCons l9 fun x10 l11=>
 xcI .i64 l11 fun x14 l13=>
 rtCons l13 fun x15 l16=>
 rtNil l16 (
 chk (allOne [.int .i64 (Int.ofNat 1),.int .i64 e,V.nils,V.nils,.int .i64 (Int.ofNat 0),V.nils,.int .i64 (Int.ofNat 2),.int .i64 a,V.nils,V.nils,.int .i64 (Int.ofNat 0),V.nils,.int .i64 x4,.int .i64 x7,x8,x10,.int .i64 x14,x15,.int .i64 (Int.ofNat 4),.int .i64 (Int.ofNat 0),V.nils,V.nils,.int .i64 (Int.ofNat 0),V.nils]) (
 let s17:=newB σ (.cells [.int .i64 (Int.ofNat 1),.int .i64 e,V.nils,V.nils,.int .i64 (Int.ofNat 0),V.nils,.int .i64 (Int.ofNat 2),.int .i64 a,V.nils,V.nils,.int .i64 (Int.ofNat 0),V.nils,.int .i64 x4,.int .i64 x7,x8,x10,.int .i64 x14,x15,.int .i64 (Int.ofNat 4),.int .i64 (Int.ofNat 0),V.nils,V.nils,.int .i64 (Int.ofNat 0),V.nils]);
 callK (D 8 [.int .i64 a] s17) fun u18 s19=>
 rtOne u18 (
 fillK [(0,1,f),(1,1,u18),(2,1,b),(3,1,V.nils)] [V.nils,V.nils,V.nils,V.nils] fun l20=>
 chk (allOne l20) (
 let s21:=newB s19 (.cells l20);
 let s22:=newB s21 (.cells [.int .i64 (Int.ofNat 1),.int .i64 (Int.ofNat 2),.int .i64 (Int.ofNat 4),.int .i64 (Int.ofNat 5)]);
 K4 c d (V.sl (H.next σ) 0 4 (.ex 4)) (V.sl (H.next s19) 0 4 (.ex 4)) (V.sl (H.next s21) 0 4 (.ex 4)) (Int.ofNat 0) g h i j s22))))
def C3_3:XC:=(.z (.k 128 .bool 5 []<|
.m 10 128<|
.nil)
 .ret)
def T3_3 (E:List (Nat × Blk)) (D:Den) (W:DrawFn) (σ:H):Ans:=
 callK (D 5 [] σ) fun u1 s2=>
 rtBool u1 fun x3=>
 some ((V.bool x3),s2)
def C3_4 (cc5:XC) (cc6:XC):XC:=(.seq (.z (.m 81 20<|
.b 82 .lss .none (.t 81) (.i 4)<|
.nil)
 (.cond (.tmp 82) .skip
 y21))
 (.seq (.block 1 (.z (.m 85 3<|
.op (some 86) y12 [85] (.build [y0,y0] [(0,1,(.i 2)),(1,1,(.t 85))])<|
.m 87 18<|
.m 88 20<|
.s 89 1 87 88<|
.l 90 .any 89<|
.k 91 .one 9 [(.t 86),y29,(.t 90)]<|
.m 21 91<|
.nil)
 (.seq (.z (.m 92 4<|
.nil)
 (.cond (.tmp 92) (.draw (.m 93 3<|
.op (some 94) y12 [93] (.build [y0,y0] [(0,1,(.i 2)),(1,1,(.t 93))])<|
.m 95 19<|
.m 96 20<|
.s 97 1 95 96<|
.l 98 .i 97<|
.op (some 99) y12 [98] (.build [y0,y0] [(1,1,(.t 98))])<|
.m 100 18<|
.m 101 20<|
.s 102 1 100 101<|
.l 103 .any 102<|
.k 104 .one 9 [(.t 99),y29,(.t 103)]<|
.k 105 .one 9 [(.t 94),y11,(.t 104)]<|
.m 21 105<|
.nil) [0,1,0,0,12,28,60,0,0,384,896,2044,4095,8191])
 .skip))
 (.keep [(3,.i),(4,.bool),(17,.any),(18,.any),(19,.any),(20,.i),(21,.any)] [13] q3b cc6))))
 (.keep q3a [13] q3b cc5)))
def T3_4 (E:List (Nat × Blk)) (D:Den) (W:DrawFn) (K3:H→Ans) (K6:Int→Bool→V→V→V→Int→V→BS→V→V→V→H→Ans) (a:Int) (b:Bool) (c d e:V) (f:Int) (g:BS) (h i j:V) (σ:H):Ans:=
 condK (ltF f (Int.ofNat 4)) (
 iaddrSK 1 d f fun b1 o2=>
 ldK E σ b1 o2 fun u3=>
 callK (D 9 [.agg [.int .i64 (Int.ofNat 2),.int .i64 a],.bool false,u3] σ) fun u4 s5=>
 rtOne u4 (
 condK b (
 iaddrSK 1 e f fun b6 o7=>
 ldK E s5 b6 o7 fun u8=>
 rtInt .i64 u8 fun x9=>
 iaddrSK 1 d f fun b10 o11=>
 ldK E s5 b10 o11 fun u12=>
 callK (D 9 [.agg [.int .i64 (Int.ofNat 0),.int .i64 x9],.bool false,u12] s5) fun u13 s14=>
 rtOne u13 (
 callK (D 9 [.agg [.int .i64 (Int.ofNat 2),.int .i64 a],.bool true,u13] s14) fun u15 s16=>
 rtOne u15 (
 K6 a b c d e f u15 g h i j s16))) (
 K6 a b c d e f u4 g h i j s5))) (
 K3 σ)
def C3_5:XC:=(.ops (.m 83 20<|
.b 84 .add .none (.t 83) (.i 1)<|
.m 20 84<|
.nil))
def T3_5 (E:List (Nat × Blk)) (D:Den) (W:DrawFn) (R4:Int→Bool→V→V→V→Int→BS→V→V→V→H→Ans) (a:Int) (b:Bool) (c d e:V) (f:Int) (g:BS) (h i j:V) (σ:H):Ans:=
 R4 a b c d e (addF .i64 f (Int.ofNat 1)) g h i j σ
def C3_6:XC:=(.seq (.draw (.O 107 y9 (.load (some 4) (.t 13))<|
.f 108 2 13<|
.l 109 .any 108<|
.m 110 20<|
.s 111 1 109 110<|
.l 112 .i 111<|
.m 113 17<|
.m 114 20<|
.s 115 6 113 114<|
.O 116 y2 (.load (some 6) (.t 115))<|
.k 117 (.tup [.any,.i]) 10 [(.t 107),(.t 112),(.t 116)]<|
.m 106 117<|
.P 118 (.extract 0 (.t 106))<|
.P 119 (.extract 1 (.t 106))<|
.m 22 118<|
.m 23 119<|
.nil) [0,0,2,0,14,30,0,0,192,448,1023,2047,4095,4095,8191,32767])
 (.z (.m 120 23<|
.b 121 .neq .none (.t 120) (.i 0)<|
.m 122 121<|
.gO 122 false (.p 123 [22,122] (.mov (.t 22))<|
.p 124 [21,122] (.mov (.t 21))<|
.op (some 125) .bool [123,124,122] (.call 11 [(.t 123),(.t 124)])<|
.p 126 [125,122] (.un .not (.t 125))<|
.nil) 127 122 126<|
.nil)
 (.cond (.tmp 127) (.z (.c 10 y1<|
.nil)
 .ret)
 .skip)))
def T3_6 (E:List (Nat × Blk)) (D:Den) (W:DrawFn) (K5:Int→Bool→V→V→V→Int→BS→V→V→V→H→Ans) (a:Int) (b:Bool) (c d e:V) (f:Int) (g:V) (h:BS) (i j k:V) (σ:H):Ans:=
 iaddrSK 1 j f fun b1 o2=>
 ldK E σ b1 o2 fun u3=>
 rtInt .i64 u3 fun x4=>
 iaddrSK 6 c f fun b5 o6=>
 ldnK E σ b5 o6 6 fun l7=>
 xcI .i64 l7 fun x10 l9=>
 xcI .i64 l9 fun x13 l12=>
 rtCons l12 fun x14 l15=>
 rtCons l15 fun x16 l17=>
 xcI .i64 l17 fun x20 l19=>
 rtCons l19 fun x21 l22=>
 rtNil l22 (
 callK (D 10 [.agg [.str h,i,j,k],.int .i64 x4,.agg [.int .i64 x10,.int .i64 x13,x14,x16,.int .i64 x20,x21]] σ) fun u23 s24=>
 rtTup u23 fun l25=>
 rtCons l25 fun x26 l27=>
 xcI .i64 l27 fun x30 l29=>
 rtNil l29 (
 joinB (fun c31 s32=>
 condK c31 (
 some ((V.bool false),s32)) (
 K5 a b c d e f h i j k s32)) fun k33=>
 condK (not (eqF x30 (Int.ofNat 0))) (
 k33 true s24) (
 callK (D 11 [x26,g] s24) fun u34 s35=>
 rtBool u34 fun x36=>
 k33 (not x36) s35)))
def S3_0 (a:Bool) (b:Int) (c:V) (d:Int) (e:Bool) (σ:H):St:=⟨[(0,.bool a),(1,.int .i64 b),(2,c),(3,.int .i64 d),(4,.bool e)],[],[],σ⟩
def S3_1 (a:Bool) (b:Int) (c:V) (d:Int) (e:Bool) (f:BS) (σ:H):St:=⟨[(0,.bool a),(1,.int .i64 b),(2,c),(3,.int .i64 d),(4,.bool e),(11,.str f)],[],[],σ⟩
def S3_2 (a:Int) (b:V) (c:Int) (d:Bool) (e:Int) (f:V) (g:BS) (h i j:V) (σ:H):St:=⟨[(1,.int .i64 a),(2,b),(3,.int .i64 c),(4,.bool d),(15,.int .i64 e),(16,f)],[(13,(13,0))],[(13,[.str g,h,i,j])],σ⟩
def S3_3 (σ:H):St:=⟨[],[],[],σ⟩
def S3_4 (a:Int) (b:Bool) (c d e:V) (f:Int) (g:BS) (h i j:V) (σ:H):St:=⟨[(3,.int .i64 a),(4,.bool b),(17,c),(18,d),(19,e),(20,.int .i64 f)],[(13,(13,0))],[(13,[.str g,h,i,j])],σ⟩
def S3_6 (a:Int) (b:Bool) (c d e:V) (f:Int) (g:V) (h:BS) (i j k:V) (σ:H):St:=⟨[(3,.int .i64 a),(4,.bool b),(17,c),(18,d),(19,e),(20,.int .i64 f),(21,g)],[(13,(13,0))],[(13,[.str h,i,j,k])],σ⟩
theorem P3_0 (cc1:XC) (a:Bool) (b:Int) (c:V) (d:Int) (e:Bool) (σ:H) :
 denC E D W N (C3_0 cc1) (S3_0 a b c d e σ) (Fin3 E) nX (Fin3 E) =
 T3_0 E D W (fun a b c d e f σ=>denC E D W N cc1 (S3_1 a b c d e f σ) (Fin3 E) nX (Fin3 E)) a b c d e σ:=by kernel_rfl
theorem P3_1 (cc2:XC) (a:Bool) (b:Int) (c:V) (d:Int) (e:Bool) (f:BS) (σ:H) :
 denC E D W N (C3_1 cc2) (S3_1 a b c d e f σ) (Fin3 E) nX (Fin3 E) =
 T3_1 E D W (fun b c d e g h i j k l σ=>denC E D W N cc2 (S3_2 b c d e g h i j k l σ) (Fin3 E) nX (Fin3 E)) a b c d e f σ:=by kernel_rfl
theorem P3_2 (cc3:XC) (cc4:XC) (a:Int) (b:V) (c:Int) (d:Bool) (e:Int) (f:V) (g:BS) (h i j:V) (σ:H) :
 denC E D W N (C3_2 cc3 cc4) (S3_2 a b c d e f g h i j σ) (Fin3 E) nX (Fin3 E) =
 T3_2 E D W (fun c d k l m o g h i j σ=>iterK (fun rec s'=>denC E D W N cc4 s' (kX q3a [13] q3b rec) (b3a E D W N cc3) (Fin3 E)) N (S3_4 c d k l m o g h i j σ)) a b c d e f g h i j σ:=by kernel_rfl
theorem P3_4 (cc3:XC) (cc5:XC) (cc6:XC) (li4:St→Ans) (a:Int) (b:Bool) (c d e:V) (f:Int) (g:BS) (h i j:V) (σ:H) :
 denC E D W N (C3_4 cc5 cc6) (S3_4 a b c d e f g h i j σ) (kX q3a [13] q3b li4) (b3a E D W N cc3) (Fin3 E) =
 T3_4 E D W (fun  σ=>denC E D W N cc3 (S3_3 σ) (Fin3 E) nX (Fin3 E)) (fun a b c d e f k g h i j σ=>denC E D W N cc6 (S3_6 a b c d e f k g h i j σ) (b3b E D W N cc5 cc3 li4) (blkK 1 (b3b E D W N cc5 cc3 li4) (b3a E D W N cc3)) (Fin3 E)) a b c d e f g h i j σ:=by kernel_rfl
theorem P3_5 (cc3:XC) (li4:St→Ans) (a:Int) (b:Bool) (c d e:V) (f:Int) (g:BS) (h i j:V) (σ:H) :
 denC E D W N (C3_5 ) (S3_4 a b c d e f g h i j σ) (kX q3a [13] q3b li4) (b3a E D W N cc3) (Fin3 E) =
 T3_5 E D W (fun a b c d e f g h i j σ=>li4 (S3_4 a b c d e f g h i j σ)) a b c d e f g h i j σ:=by kernel_rfl
theorem P3_6 (cc3:XC) (cc5:XC) (li4:St→Ans) (a:Int) (b:Bool) (c d e:V) (f:Int) (g:V) (h:BS) (i j k:V) (σ:H) :
 denC E D W N (C3_6 ) (S3_6 a b c d e f g h i j k σ) (b3b E D W N cc5 cc3 li4) (blkK 1 (b3b E D W N cc5 cc3 li4) (b3a E D W N cc3)) (Fin3 E) =
 T3_6 E D W (fun a b c d e f h i j k σ=>denC E D W N cc5 (S3_4 a b c d e f h i j k σ) (kX q3a [13] q3b li4) (b3a E D W N cc3) (Fin3 E)) a b c d e f g h i j k σ:=by kernel_rfl
def J3_3 (E:List (Nat × Blk)) (D:Den) (W:DrawFn) (N:Nat):=T3_3 E D W
theorem JE3_3 (σ:H) :
 denC E D W N C3_3 (S3_3 σ) (Fin3 E) nX (Fin3 E)=J3_3 E D W N  σ:=by kernel_rfl
def J3_5 (E:List (Nat × Blk)) (D:Den) (W:DrawFn) (N:Nat) (R4:Int→Bool→V→V→V→Int→BS→V→V→V→H→Ans):=T3_5 E D W R4
theorem JE3_5 (li4:St→Ans) (a:Int) (b:Bool) (c d e:V) (f:Int) (g:BS) (h i j:V) (σ:H) :
 denC E D W N C3_5 (S3_4 a b c d e f g h i j σ) (kX q3a [13] q3b li4) (b3a E D W N C3_3) (Fin3 E)=J3_5 E D W N (fun a b c d e f g h i j σ=>li4 (S3_4 a b c d e f g h i j σ)) a b c d e f g h i j σ:=by
 refine(P3_5 E D W N C3_3 li4 a b c d e f g h i j σ).trans ?_
 kernel_rfl
def J3_6 (R4:Int→Bool→V→V→V→Int→BS→V→V→V→H→Ans):=T3_6 E D W (J3_5 E D W N R4)
theorem JE3_6 (li4:St→Ans) (a:Int) (b:Bool) (c d e:V) (f:Int) (g:V) (h:BS) (i j k:V) (σ:H) :
 denC E D W N C3_6 (S3_6 a b c d e f g h i j k σ) (b3b E D W N C3_5 C3_3 li4) (blkK 1 (b3b E D W N C3_5 C3_3 li4) (b3a E D W N C3_3)) (Fin3 E)=J3_6 E D W N (fun a b c d e f h i j k σ=>li4 (S3_4 a b c d e f h i j k σ)) a b c d e f g h i j k σ:=by
 refine(P3_6 E D W N C3_3 C3_5 li4 a b c d e f g h i j k σ).trans ?_
 simp only[JE3_5]
 kernel_rfl
def L3_4 (n:Nat):Int→Bool→V→V→V→Int→BS→V→V→V→H→Ans:=
 Nat.rec (fun _ _ _ _ _ _ _ _ _ _ _=>none) (fun _ ih=>T3_4 E D W (J3_3 E D W N ) (J3_6 E D W N ih)) n
theorem LE3_4 (n:Nat):∀(a:Int) (b:Bool) (c d e:V) (f:Int) (g:BS) (h i j:V) (σ:H),
 iterK (fun rec s'=>denC E D W N (C3_4 C3_5 C3_6) s' (kX q3a [13] q3b rec) (b3a E D W N C3_3) (Fin3 E)) n (S3_4 a b c d e f g h i j σ)=L3_4 E D W N n a b c d e f g h i j σ:=by
 induction n with
 | zero=>intro a b c d e f g h i j σ;rfl
 | succ n ihn=>
  intro a b c d e f g h i j σ
  rw[iterK_succ]
  refine(P3_4 E D W N C3_3 C3_5 C3_6 (iterK (fun rec s'=>denC E D W N (C3_4 C3_5 C3_6) s' (kX q3a [13] q3b rec) (b3a E D W N C3_3) (Fin3 E)) n) a b c d e f g h i j σ).trans ?_
  simp only[ihn,JE3_3,JE3_6]
  kernel_rfl
def J3_2:=T3_2 E D W (L3_4 E D W N N)
theorem JE3_2 (a:Int) (b:V) (c:Int) (d:Bool) (e:Int) (f:V) (g:BS) (h i j:V) (σ:H) :
 denC E D W N (C3_2 C3_3 (C3_4 C3_5 C3_6)) (S3_2 a b c d e f g h i j σ) (Fin3 E) nX (Fin3 E)=J3_2 E D W N a b c d e f g h i j σ:=by
 refine(P3_2 E D W N C3_3 (C3_4 C3_5 C3_6)  a b c d e f g h i j σ).trans ?_
 simp only[LE3_4]
 kernel_rfl
def J3_1:=T3_1 E D W (J3_2 E D W N )
theorem JE3_1 (a:Bool) (b:Int) (c:V) (d:Int) (e:Bool) (f:BS) (σ:H) :
 denC E D W N (C3_1 (C3_2 C3_3 (C3_4 C3_5 C3_6))) (S3_1 a b c d e f σ) (Fin3 E) nX (Fin3 E)=J3_1 E D W N a b c d e f σ:=by
 refine(P3_1 E D W N (C3_2 C3_3 (C3_4 C3_5 C3_6))  a b c d e f σ).trans ?_
 simp only[JE3_2]
 kernel_rfl
def J3_0:=T3_0 E D W (J3_1 E D W N )
theorem JE3_0 (a:Bool) (b:Int) (c:V) (d:Int) (e:Bool) (σ:H) :
 denC E D W N (C3_0 (C3_1 (C3_2 C3_3 (C3_4 C3_5 C3_6)))) (S3_0 a b c d e σ) (Fin3 E) nX (Fin3 E)=J3_0 E D W N a b c d e σ:=by
 refine(P3_0 E D W N (C3_1 (C3_2 C3_3 (C3_4 C3_5 C3_6)))  a b c d e σ).trans ?_
 simp only[JE3_1]
 kernel_rfl
def F3 (args:List V) (σ:H):Ans:=
 xcB args fun x3 l2=>
 xcI .i64 l2 fun x6 l5=>
 rtCons l5 fun x7 l8=>
 xcI .i64 l8 fun x11 l10=>
 xcB l10 fun x14 l13=>
 rtNil l13 (
 J3_0 E D W N x3 x6 x7 x11 x14 σ)
def A3:XFn:=⟨129,[.bool,.i,.any,.i,.bool],[(.tmp 10)],(C3_0 (C3_1 (C3_2 C3_3 (C3_4 C3_5 C3_6))))⟩
theorem FE3 (args:List V) (σ:H):runX E D W N A3 args σ=F3 E D W N args σ:=by
 unfold F3
 simp only[←JE3_0]
 kernel_rfl
def G6_0:List AOper:=[⟨(some 10),.mov (.tmp 0),none⟩,⟨(some 11),.bin .quo .none (.tmp 10) (.con (V.int .u64 (Int.ofNat 10))),none⟩,⟨(some 12),.call 6 [(.tmp 11)],none⟩,⟨(some 13),.mov (.tmp 0),none⟩,⟨(some 14),.bin .rem .none (.tmp 13) (.con (V.int .u64 (Int.ofNat 10))),none⟩,⟨(some 15),.bin .add .none (.con (V.int .u64 (Int.ofNat 48))) (.tmp 14),none⟩,⟨(some 16),.conv (.toInt .u8) (.tmp 15),none⟩,⟨(some 17),.buildSlice 5 1 [(V.int .u8 (Int.ofNat 0))] [(0,1,(.tmp 16))],none⟩,⟨(some 18),.conv .toStr (.tmp 17),none⟩,⟨(some 19),.bin .add .none (.tmp 12) (.tmp 18),none⟩,⟨(some 2),.mov (.tmp 19),none⟩]
def H6_0:List DP:=[⟨0,[0]⟩,⟨1,[10]⟩,⟨3,[11]⟩,⟨0,[0]⟩,⟨8,[13]⟩,⟨24,[14]⟩,⟨56,[15]⟩,⟨120,[16]⟩,⟨248,[17]⟩,⟨511,[12,18]⟩,⟨1023,[19]⟩]
def C6_0:XC:=(.z (.c 2 y5<|
.nil)
 (.seq (.z (.m 3 0<|
.b 4 .lss .none (.t 3) (.con (V.int .u64 (Int.ofNat 10)))<|
.nil)
 (.cond (.tmp 4) (.z (.m 5 0<|
.b 6 .add .none (.con (V.int .u64 (Int.ofNat 48))) (.t 5)<|
.P 7 (.conv (.toInt .u8) (.t 6))<|
.p 8 [7] (.buildSlice 5 1 [y8] [(0,1,(.t 7))])<|
.P 9 (.conv .toStr (.t 8))<|
.m 2 9<|
.nil)
 .ret)
 .skip))
 (.seq (.keep [(0,(.int .u64))] [] [] (.gdraw G6_0 H6_0 [(2,.str)]))
 .ret)))
def T6_0 (E:List (Nat × Blk)) (D:Den) (W:DrawFn) (a:Int) (σ:H):Ans:=
 condK (ltF a (Int.ofNat 10)) (
 let s1:=newB σ (.cells [.int .u8 (wrapF .u8 (addF .u64 (Int.ofNat 48) a))]);
 toStrK E s1 (V.sl (H.next σ) 0 1 (.ex 1)) fun t2=>
 some ((V.str t2),s1)) (
 gdrawK (W G6_0 H6_0 [(0,.int .u64 a)] σ) fun e3 s4=>
 getL e3 2 fun u5=>
 rtStr u5 fun x6=>
 some ((V.str x6),s4))
def F6 (N:Nat) (args:List V) (σ:H):Ans:=
 xcI .u64 args fun x3 l2=>
 rtNil l2 (
 T6_0 E D W x3 σ)
def A6:XFn:=⟨20,[(.int .u64)],[(.tmp 2)],C6_0⟩
theorem FE6 (args:List V) (σ:H):runX E D W N A6 args σ=F6 E D W N args σ:=by kernel_rfl
def G7_0:List AOper:=[⟨(some 29),.load (some 4) (.tmp 7),none⟩,⟨(some 30),.mov (.tmp 9),none⟩,⟨(some 31),.bin .eql .none (.tmp 30) (.con (V.int .i64 (Int.ofNat 0))),none⟩,⟨(some 32),.mov (.tmp 31),none⟩,⟨(some 33),.faddr 3 (.tmp 7),(some (32,true))⟩,⟨(some 34),.load none (.tmp 33),(some (32,true))⟩,⟨(some 35),.len false (.tmp 34),(some (32,true))⟩,⟨(some 36),.bin .leq .none (.tmp 35) (.con (V.int .i64 (Int.ofNat 120))),(some (32,true))⟩,⟨(some 37),.pick (.tmp 32) (.tmp 36) (.con (V.bool false)),none⟩,⟨none,.store 4 (.tmp 2) (.tmp 29),none⟩,⟨(some 3),.mov (.tmp 37),none⟩]
def H7_0:List DP:=[⟨0,[7]⟩,⟨0,[9]⟩,⟨2,[30]⟩,⟨6,[31]⟩,⟨14,[7,32]⟩,⟨30,[33,32]⟩,⟨62,[34,32]⟩,⟨126,[35,32]⟩,⟨254,[32,36]⟩,⟨15,[2,29]⟩,⟨1023,[37]⟩]
def C7_0:XC:=(.z (.p 2 [] y27<|
.c 3 y1<|
.nil)
 (.seq (.z (.m 10 0<|
.P 11 (.len true (.t 10))<|
.b 12 .gtr .none (.t 11) (.i 3000)<|
.nil)
 (.cond (.tmp 12) (.z (.op (some 13) y9 [] (.build [y5,V.nils,V.nils,V.nils] [])<|
.op none y9 [2,13] (.store 4 (.t 2) (.t 13))<|
.c 3 y1<|
.nil)
 .ret)
 .skip))
 (.z (.m 15 0<|
.k 16 (.tup [y10,.i,.i]) 13 [(.t 15)]<|
.m 14 16<|
.P 17 (.extract 0 (.t 14))<|
.P 18 (.extract 1 (.t 14))<|
.P 19 (.extract 2 (.t 14))<|
.pal 4 [] 51 [y5,y0,V.nils,V.nils,V.nils]<|
.op none y10 [4,17] (.store 5 (.t 4) (.t 17))<|
.m 5 18<|
.m 6 19<|
.nil)
 (.seq (.z (.m 20 6<|
.b 21 .neq .none (.t 20) (.i 0)<|
.nil)
 (.cond (.tmp 21) (.z (.op (some 22) y9 [] (.build [y5,V.nils,V.nils,V.nils] [])<|
.op none y9 [2,22] (.store 4 (.t 2) (.t 22))<|
.c 3 y1<|
.nil)
 .ret)
 .skip))
 (.z (.O 24 y10 (.load (some 5) (.t 4))<|
.k 25 (.tup [y9,.i,.i]) 14 [(.t 24)]<|
.m 23 25<|
.P 26 (.extract 0 (.t 23))<|
.P 27 (.extract 1 (.t 23))<|
.P 28 (.extract 2 (.t 23))<|
.p 7 [] y27<|
.op none y9 [7,26] (.store 4 (.t 7) (.t 26))<|
.m 8 27<|
.m 9 28<|
.nil)
 (.seq (.keep [(2,.ptr),(7,.ptr),(9,.i)] [] [] (.gdraw G7_0 H7_0 [(2,.ptr),(3,.bool)]))
 .ret))))))
def T7_0 (a:BS) (σ:H):Ans:=
 let s1:=newB σ (.cells [.str ⟨0,0⟩,V.nils,V.nils,V.nils]);
 condK (ltF (Int.ofNat 3000) (Int.ofNat (BS.len a))) (
 stK 4 (H.next σ) 0 (V.agg [.str (BS.mk 0 0),V.nils,V.nils,V.nils]) s1 fun s2=>
 ldnK E s2 (H.next σ) 0 4 fun u3=>
 some ((V.tup [.agg u3,.bool false]),s2)) (
 callK (D 13 [.str a] s1) fun u4 s5=>
 rtTup u4 fun l6=>
 rtCons l6 fun x7 l8=>
 rtAgg x7 fun l9=>
 xcS l9 fun x12 l11=>
 xcI .i64 l11 fun x15 l14=>
 rtCons l14 fun x16 l17=>
 rtCons l17 fun x18 l19=>
 rtCons l19 fun x20 l21=>
 rtNil l21 (
 xcI .i64 l8 fun x24 l23=>
 xcI .i64 l23 fun x27 l26=>
 rtNil l26 (
 chk (allOne [.str x12,.int .i64 x15,x16,x18,x20]) (
 condK (not (eqF x27 (Int.ofNat 0))) (
 stK 4 (H.next σ) 0 (V.agg [.str (BS.mk 0 0),V.nils,V.nils,V.nils]) s5 fun s28=>
 ldnK E s28 (H.next σ) 0 4 fun u29=>
 some ((V.tup [.agg u29,.bool false]),s28)) (
 callK (D 14 [.agg [.str x12,.int .i64 x15,x16,x18,x20]] s5) fun u30 s31=>
 rtTup u30 fun l32=>
 rtCons l32 fun x33 l34=>
 rtAgg x33 fun l35=>
 xcS l35 fun x38 l37=>
 rtCons l37 fun x39 l40=>
 rtCons l40 fun x41 l42=>
 rtCons l42 fun x43 l44=>
 rtNil l44 (
 xcI .i64 l34 fun x47 l46=>
 xcI .i64 l46 fun x50 l49=>
 rtNil l49 (
 let s51:=newB s31 (.cells [.str ⟨0,0⟩,V.nils,V.nils,V.nils]);
 stK 4 (H.next s31) 0 (V.agg [.str x38,x39,x41,x43]) s51 fun s52=>
 gdrawK (W G7_0 H7_0 [(2,.ptr (H.next σ) 0),(7,.ptr (H.next s31) 0),(9,.int .i64 x50)] s52) fun e53 s54=>
 getL e53 2 fun u55=>
 rtPtr u55 fun b56 o57=>
 getL e53 3 fun u58=>
 rtBool u58 fun x59=>
 ldnK E s54 b56 o57 4 fun u60=>
 some ((V.tup [.agg u60,.bool x59]),s54))))))))
def F7 (N:Nat) (args:List V) (σ:H):Ans:=
 xcS args fun x3 l2=>
 rtNil l2 (
 T7_0 E D W x3 σ)
def A7:XFn:=⟨38,[.str],[(.cell 2 (some 4)),(.tmp 3)],C7_0⟩
theorem FE7 (args:List V) (σ:H):runX E D W N A7 args σ=F7 E D W N args σ:=by kernel_rfl
def Fin8 (E:List (Nat × Blk)):St→Ans:=fun s=>resK E s [(.tmp 2)] fun l=>some (oneV l,s.σ)
def b8a (c0:XC):Nat→St→Ans:=blkK 0 (dX E D W N (.keep [(3,.any)] [] [] c0) (Fin8 E) nX (Fin8 E)) nX
def C8_0 (cc1:XC) (cc2:XC):XC:=(.z (.c 2 V.nils<|
.nil)
 (.z (.m 4 0<|
.P 5 (.conv (.toInt .u8) (.t 4))<|
.p 6 [5] (.buildSlice 5 1 [y8] [(0,1,(.t 5))])<|
.m 3 6<|
.nil)
 (.seq (.block 0 (.loop [(0,.i),(3,.any)] [] [] cc2))
 (.keep [(3,.any)] [] [] cc1))))
def T8_0 (E:List (Nat × Blk)) (D:Den) (W:DrawFn) (K2:Int→V→H→Ans) (a:Int) (σ:H):Ans:=
 let s1:=newB σ (.cells [.int .u8 (wrapF .u8 a)]);
 K2 a (V.sl (H.next σ) 0 1 (.ex 1)) s1
def C8_1:XC:=(.z (.m 20 3<|
.m 2 20<|
.nil)
 .ret)
def T8_1 (E:List (Nat × Blk)) (D:Den) (W:DrawFn) (a:V) (σ:H):Ans:=
 some (a,σ)
def C8_2:XC:=(.seq (.z (.m 7 0<|
.b 8 .lss .none (.t 7) (.con (V.int .i64 (Int.negSucc 127)))<|
.m 9 8<|
.gO 9 false (.p 10 [0,9] y13<|
.p 11 [10,9] (.bin .gtr .none (.t 10) (.i 127))<|
.nil) 12 9 11<|
.nil)
 (.cond (.tmp 12) .skip
 y21))
 (.block 1 (.z (.m 13 0<|
.b 14 .shr .none (.t 13) (.con (V.int .u64 (Int.ofNat 8)))<|
.m 0 14<|
.nil)
 (.ops (.m 15 0<|
.P 16 (.conv (.toInt .u8) (.t 15))<|
.p 17 [16] (.buildSlice 5 1 [y8] [(0,1,(.t 16))])<|
.m 18 3<|
.O 19 .one (.append 5 1 1 (.t 17) (.t 18))<|
.m 3 19<|
.nil)))))
def T8_2 (E:List (Nat × Blk)) (D:Den) (W:DrawFn) (K1:V→H→Ans) (R2:Int→V→H→Ans) (a:Int) (b:V) (σ:H):Ans:=
 joinB (fun c1 s2=>
 condK c1 (
 let s4:=newB s2 (.cells [.int .u8 (wrapF .u8 (shrF .i64 a 8))]);
 appK E 1 1 (V.sl (H.next s2) 0 1 (.ex 1)) b s4 fun u5 s6=>
 rtOne u5 (
 R2 (shrF .i64 a 8) u5 s6)) (
 K1 b s2)) fun k3=>
 condK (ltF a (Int.negSucc 127)) (
 k3 true σ) (
 k3 (ltF (Int.ofNat 127) a) σ)
def S8_0 (a:Int) (σ:H):St:=⟨[(0,.int .i64 a)],[],[],σ⟩
def S8_1 (a:V) (σ:H):St:=⟨[(3,a)],[],[],σ⟩
def S8_2 (a:Int) (b:V) (σ:H):St:=⟨[(0,.int .i64 a),(3,b)],[],[],σ⟩
theorem P8_0 (cc1:XC) (cc2:XC) (a:Int) (σ:H) :
 denC E D W N (C8_0 cc1 cc2) (S8_0 a σ) (Fin8 E) nX (Fin8 E) =
 T8_0 E D W (fun a b σ=>iterK (fun rec s'=>denC E D W N cc2 s' (kX [(0,.i),(3,.any)] [] [] rec) (b8a E D W N cc1) (Fin8 E)) N (S8_2 a b σ)) a σ:=by kernel_rfl
theorem P8_2 (cc1:XC) (li2:St→Ans) (a:Int) (b:V) (σ:H) :
 denC E D W N (C8_2 ) (S8_2 a b σ) (kX [(0,.i),(3,.any)] [] [] li2) (b8a E D W N cc1) (Fin8 E) =
 T8_2 E D W (fun b σ=>denC E D W N cc1 (S8_1 b σ) (Fin8 E) nX (Fin8 E)) (fun a b σ=>li2 (S8_2 a b σ)) a b σ:=by kernel_rfl
def J8_1 (E:List (Nat × Blk)) (D:Den) (W:DrawFn) (N:Nat):=T8_1 E D W
theorem JE8_1 (a:V) (σ:H) :
 denC E D W N C8_1 (S8_1 a σ) (Fin8 E) nX (Fin8 E)=J8_1 E D W N a σ:=by kernel_rfl
def L8_2 (n:Nat):Int→V→H→Ans:=
 Nat.rec (fun _ _ _=>none) (fun _ ih=>T8_2 E D W (J8_1 E D W N ) ih) n
theorem LE8_2 (n:Nat):∀(a:Int) (b:V) (σ:H),
 iterK (fun rec s'=>denC E D W N C8_2 s' (kX [(0,.i),(3,.any)] [] [] rec) (b8a E D W N C8_1) (Fin8 E)) n (S8_2 a b σ)=L8_2 E D W N n a b σ:=by
 induction n with
 | zero=>intro a b σ;rfl
 | succ n ihn=>
  intro a b σ
  rw[iterK_succ]
  refine(P8_2 E D W N C8_1 (iterK (fun rec s'=>denC E D W N C8_2 s' (kX [(0,.i),(3,.any)] [] [] rec) (b8a E D W N C8_1) (Fin8 E)) n) a b σ).trans ?_
  simp only[ihn,JE8_1]
  kernel_rfl
def J8_0:=T8_0 E D W (L8_2 E D W N N)
theorem JE8_0 (a:Int) (σ:H) :
 denC E D W N (C8_0 C8_1 C8_2) (S8_0 a σ) (Fin8 E) nX (Fin8 E)=J8_0 E D W N a σ:=by
 refine(P8_0 E D W N C8_1 C8_2  a σ).trans ?_
 simp only[LE8_2]
 kernel_rfl
def F8 (args:List V) (σ:H):Ans:=
 xcI .i64 args fun x3 l2=>
 rtNil l2 (
 J8_0 E D W N x3 σ)
def A8:XFn:=⟨21,[.i],[(.tmp 2)],(C8_0 C8_1 C8_2)⟩
theorem FE8 (args:List V) (σ:H):runX E D W N A8 args σ=F8 E D W N args σ:=by
 unfold F8
 simp only[←JE8_0]
 kernel_rfl
def C9_0:XC:=(.z (.P 3 (.box 42 (.t 0))<|
.c 6 V.nils<|
.nil)
 (.z (.O 7 y12 (.load (some 2) (.t 3))<|
.m 8 1<|
.m 9 2<|
.u 10 9<|
.k 11 .one 15 [(.t 7),(.t 8),(.t 10)]<|
.m 12 2<|
.O 13 .one (.append 5 1 1 (.t 11) (.t 12))<|
.m 6 13<|
.nil)
 .ret))
def T9_0 (E:List (Nat × Blk)) (D:Den) (W:DrawFn) (a b:Int) (c:Bool) (d:V) (σ:H):Ans:=
 nbK [.int .i64 a,.int .i64 b] σ fun s1=>
 ldnK E s1 (H.next σ) 0 2 fun l2=>
 xcI .i64 l2 fun x5 l4=>
 xcI .i64 l4 fun x8 l7=>
 rtNil l7 (
 slenK d fun n9=>
 callK (D 15 [.agg [.int .i64 x5,.int .i64 x8],.bool c,.int .i64 (Int.ofNat n9)] s1) fun u10 s11=>
 rtOne u10 (
 appK E 1 1 u10 d s11 fun u12 s13=>
 rtOne u12 (
 some (u12,s13))))
def F9 (N:Nat) (args:List V) (σ:H):Ans:=
 rtCons args fun x1 l2=>
 rtAgg x1 fun l3=>
 xcI .i64 l3 fun x6 l5=>
 xcI .i64 l5 fun x9 l8=>
 rtNil l8 (
 xcB l2 fun x12 l11=>
 rtCons l11 fun x13 l14=>
 rtNil l14 (
 T9_0 E D W x6 x9 x12 x13 σ))
def A9:XFn:=⟨14,[y12,.bool,.any],[(.tmp 6)],C9_0⟩
theorem FE9 (args:List V) (σ:H):runX E D W N A9 args σ=F9 E D W N args σ:=by kernel_rfl
def C10_0:XC:=(.z (.P 3 (.box 31 (.t 0))<|
.P 5 (.box 37 (.t 2))<|
.c 6 V.nils<|
.q 7 0<|
.nil)
 (.seq (.block 0 (.z (.O 11 y9 (.load (some 4) (.t 3))<|
.m 12 1<|
.O 13 y2 (.load (some 6) (.t 5))<|
.k 14 .bool 16 [(.t 11),(.t 12),(.t 13)]<|
.P 15 (.un .not (.t 14))<|
.m 10 15<|
.nil)
 (.cond (.tmp 10) (.z (.c 6 V.nils<|
.q 7 13<|
.nil)
 .ret)
 (.z (.O 17 y2 (.load (some 6) (.t 5))<|
.k 18 .bool 17 [(.t 17),(.i 1)]<|
.P 19 (.un .not (.t 18))<|
.m 16 19<|
.nil)
 (.cond (.tmp 16) (.z (.c 6 V.nils<|
.q 7 16<|
.nil)
 .ret)
 .skip)))))
 (.z (.O 20 y9 (.load (some 4) (.t 3))<|
.op (some 21) y9 [20] (.build [y5,V.nils,V.nils,V.nils] [(0,4,(.t 20))])<|
.P 22 (.box 61 (.t 21))<|
.m 8 22<|
.nil)
 (.z (.m 23 8<|
.m 24 1<|
.O 25 y2 (.load (some 6) (.t 5))<|
.k 26 .one 18 [(.t 23),(.t 24),(.t 25)]<|
.m 9 26<|
.nil)
 (.seq (.z (.m 27 9<|
.u 28 27<|
.b 29 .gtr .none (.t 28) (.i 70000)<|
.nil)
 (.cond (.tmp 29) (.z (.c 6 V.nils<|
.q 7 5<|
.nil)
 .ret)
 .skip))
 (.z (.m 30 9<|
.m 6 30<|
.q 7 0<|
.nil)
 .ret))))))
def T10_0 (E:List (Nat × Blk)) (D:Den) (W:DrawFn) (a:BS) (b c d:V) (e f g:Int) (h i:V) (j:Int) (k:V) (σ:H):Ans:=
 nbK [.str a,b,c,d] σ fun s1=>
 nbK [.int .i64 f,.int .i64 g,h,i,.int .i64 j,k] s1 fun s2=>
 ldnK E s2 (H.next σ) 0 4 fun l3=>
 xcS l3 fun x6 l5=>
 rtCons l5 fun x7 l8=>
 rtCons l8 fun x9 l10=>
 rtCons l10 fun x11 l12=>
 rtNil l12 (
 ldnK E s2 (H.next s1) 0 6 fun l13=>
 xcI .i64 l13 fun x16 l15=>
 xcI .i64 l15 fun x19 l18=>
 rtCons l18 fun x20 l21=>
 rtCons l21 fun x22 l23=>
 xcI .i64 l23 fun x26 l25=>
 rtCons l25 fun x27 l28=>
 rtNil l28 (
 callK (D 16 [.agg [.str x6,x7,x9,x11],.int .i64 e,.agg [.int .i64 x16,.int .i64 x19,x20,x22,.int .i64 x26,x27]] s2) fun u29 s30=>
 rtBool u29 fun x31=>
 condK (not x31) (
 some ((V.tup [V.nils,.int .i64 (Int.ofNat 13)]),s30)) (
 ldnK E s30 (H.next s1) 0 6 fun l32=>
 xcI .i64 l32 fun x35 l34=>
 xcI .i64 l34 fun x38 l37=>
 rtCons l37 fun x39 l40=>
 rtCons l40 fun x41 l42=>
 xcI .i64 l42 fun x45 l44=>
 rtCons l44 fun x46 l47=>
 rtNil l47 (
 callK (D 17 [.agg [.int .i64 x35,.int .i64 x38,x39,x41,.int .i64 x45,x46],.int .i64 (Int.ofNat 1)] s30) fun u48 s49=>
 rtBool u48 fun x50=>
 condK (not x50) (
 some ((V.tup [V.nils,.int .i64 (Int.ofNat 16)]),s49)) (
 ldnK E s49 (H.next σ) 0 4 fun l51=>
 xcS l51 fun x54 l53=>
 rtCons l53 fun x55 l56=>
 rtCons l56 fun x57 l58=>
 rtCons l58 fun x59 l60=>
 rtNil l60 (
 nbK [.str x54,x55,x57,x59] s49 fun s61=>
 ldnK E s61 (H.next s1) 0 6 fun l62=>
 xcI .i64 l62 fun x65 l64=>
 xcI .i64 l64 fun x68 l67=>
 rtCons l67 fun x69 l70=>
 rtCons l70 fun x71 l72=>
 xcI .i64 l72 fun x75 l74=>
 rtCons l74 fun x76 l77=>
 rtNil l77 (
 callK (D 18 [.ptr (H.next s49) 0,.int .i64 e,.agg [.int .i64 x65,.int .i64 x68,x69,x71,.int .i64 x75,x76]] s61) fun u78 s79=>
 rtOne u78 (
 slenK u78 fun n80=>
 condK (ltF (Int.ofNat 70000) (Int.ofNat n80)) (
 some ((V.tup [V.nils,.int .i64 (Int.ofNat 5)]),s79)) (
 some ((V.tup [u78,.int .i64 (Int.ofNat 0)]),s79))))))))))
def F10 (N:Nat) (args:List V) (σ:H):Ans:=
 rtCons args fun x1 l2=>
 rtAgg x1 fun l3=>
 xcS l3 fun x6 l5=>
 rtCons l5 fun x7 l8=>
 rtCons l8 fun x9 l10=>
 rtCons l10 fun x11 l12=>
 rtNil l12 (
 xcI .i64 l2 fun x15 l14=>
 rtCons l14 fun x16 l17=>
 rtAgg x16 fun l18=>
 xcI .i64 l18 fun x21 l20=>
 xcI .i64 l20 fun x24 l23=>
 rtCons l23 fun x25 l26=>
 rtCons l26 fun x27 l28=>
 xcI .i64 l28 fun x31 l30=>
 rtCons l30 fun x32 l33=>
 rtNil l33 (
 rtNil l17 (
 T10_0 E D W x6 x7 x9 x11 x15 x21 x24 x25 x27 x31 x32 σ)))
def A10:XFn:=⟨31,[y9,.i,y2],[(.tmp 6),(.tmp 7)],C10_0⟩
theorem FE10 (args:List V) (σ:H):runX E D W N A10 args σ=F10 E D W N args σ:=by kernel_rfl
def C11_0:XC:=(.z (.c 4 y1<|
.nil)
 (.z (.m 5 0<|
.P 6 (.conv .toStr (.t 5))<|
.m 7 1<|
.P 8 (.conv .toStr (.t 7))<|
.b 9 .eql .none (.t 6) (.t 8)<|
.m 4 9<|
.nil)
 .ret))
def T11_0 (E:List (Nat × Blk)) (D:Den) (W:DrawFn) (a b:V) (σ:H):Ans:=
 toStrK E σ a fun t1=>
 toStrK E σ b fun t2=>
 some ((V.bool (BS.beq t1 t2)),σ)
def F11 (N:Nat) (args:List V) (σ:H):Ans:=
 rtCons args fun x1 l2=>
 rtCons l2 fun x3 l4=>
 rtNil l4 (
 T11_0 E D W x1 x3 σ)
def A11:XFn:=⟨10,[.any,.any],[(.tmp 4)],C11_0⟩
theorem FE11 (args:List V) (σ:H):runX E D W N A11 args σ=F11 E D W N args σ:=by kernel_rfl
def q12a:List (Nat × XTy):=[(0,.any),(1,.i),(5,.i)]
def Fin12 (E:List (Nat × Blk)):St→Ans:=fun s=>resK E s [(.tmp 4)] fun l=>some (oneV l,s.σ)
def b12a (c0:XC):Nat→St→Ans:=blkK 0 (dX E D W N (.keep [] [] [] c0) (Fin12 E) nX (Fin12 E)) nX
def C12_0 (cc1:XC) (cc2:XC):XC:=(.z (.c 4 y1<|
.nil)
 (.seq (.z (.q 5 0<|
.nil)
 (.block 0 (.loop q12a [] [] cc2)))
 (.keep [] [] [] cc1)))
def T12_0 (E:List (Nat × Blk)) (D:Den) (W:DrawFn) (K2:V→Int→Int→H→Ans) (a:V) (b:Int) (σ:H):Ans:=
 K2 a b (Int.ofNat 0) σ
def C12_1:XC:=(.z (.c 4 y1<|
.nil)
 .ret)
def T12_1 (E:List (Nat × Blk)) (D:Den) (W:DrawFn) (σ:H):Ans:=
 some ((V.bool false),σ)
def C12_2:XC:=(.seq (.z (.m 6 5<|
.m 7 0<|
.u 8 7<|
.b 9 .lss .none (.t 6) (.t 8)<|
.nil)
 y18)
 (.seq (.block 1 (.z (.m 12 0<|
.m 13 5<|
.s 14 1 12 13<|
.l 15 .i 14<|
.m 16 1<|
.b 17 .eql .none (.t 15) (.t 16)<|
.nil)
 (.cond (.tmp 17) (.z (.c 4 (V.bool true)<|
.nil)
 .ret)
 .skip)))
 (.ops (.m 10 5<|
.b 11 .add .none (.t 10) (.i 1)<|
.m 5 11<|
.nil))))
def T12_2 (E:List (Nat × Blk)) (D:Den) (W:DrawFn) (K1:H→Ans) (R2:V→Int→Int→H→Ans) (a:V) (b c:Int) (σ:H):Ans:=
 slenK a fun n1=>
 condK (ltF c (Int.ofNat n1)) (
 iaddrSK 1 a c fun b2 o3=>
 ldK E σ b2 o3 fun u4=>
 rtInt .i64 u4 fun x5=>
 condK (eqF x5 b) (
 some ((V.bool true),σ)) (
 R2 a b (addF .i64 c (Int.ofNat 1)) σ)) (
 K1 σ)
def S12_0 (a:V) (b:Int) (σ:H):St:=⟨[(0,a),(1,.int .i64 b)],[],[],σ⟩
def S12_1 (σ:H):St:=⟨[],[],[],σ⟩
def S12_2 (a:V) (b c:Int) (σ:H):St:=⟨[(0,a),(1,.int .i64 b),(5,.int .i64 c)],[],[],σ⟩
theorem P12_0 (cc1:XC) (cc2:XC) (a:V) (b:Int) (σ:H) :
 denC E D W N (C12_0 cc1 cc2) (S12_0 a b σ) (Fin12 E) nX (Fin12 E) =
 T12_0 E D W (fun a b c σ=>iterK (fun rec s'=>denC E D W N cc2 s' (kX q12a [] [] rec) (b12a E D W N cc1) (Fin12 E)) N (S12_2 a b c σ)) a b σ:=by kernel_rfl
theorem P12_2 (cc1:XC) (li2:St→Ans) (a:V) (b c:Int) (σ:H) :
 denC E D W N (C12_2 ) (S12_2 a b c σ) (kX q12a [] [] li2) (b12a E D W N cc1) (Fin12 E) =
 T12_2 E D W (fun  σ=>denC E D W N cc1 (S12_1 σ) (Fin12 E) nX (Fin12 E)) (fun a b c σ=>li2 (S12_2 a b c σ)) a b c σ:=by kernel_rfl
def J12_1 (E:List (Nat × Blk)) (D:Den) (W:DrawFn) (N:Nat):=T12_1 E D W
theorem JE12_1 (σ:H) :
 denC E D W N C12_1 (S12_1 σ) (Fin12 E) nX (Fin12 E)=J12_1 E D W N  σ:=by kernel_rfl
def L12_2 (n:Nat):V→Int→Int→H→Ans:=
 Nat.rec (fun _ _ _ _=>none) (fun _ ih=>T12_2 E D W (J12_1 E D W N ) ih) n
theorem LE12_2 (n:Nat):∀(a:V) (b c:Int) (σ:H),
 iterK (fun rec s'=>denC E D W N C12_2 s' (kX q12a [] [] rec) (b12a E D W N C12_1) (Fin12 E)) n (S12_2 a b c σ)=L12_2 E D W N n a b c σ:=by
 induction n with
 | zero=>intro a b c σ;rfl
 | succ n ihn=>
  intro a b c σ
  rw[iterK_succ]
  refine(P12_2 E D W N C12_1 (iterK (fun rec s'=>denC E D W N C12_2 s' (kX q12a [] [] rec) (b12a E D W N C12_1) (Fin12 E)) n) a b c σ).trans ?_
  simp only[ihn,JE12_1]
  kernel_rfl
def J12_0:=T12_0 E D W (L12_2 E D W N N)
theorem JE12_0 (a:V) (b:Int) (σ:H) :
 denC E D W N (C12_0 C12_1 C12_2) (S12_0 a b σ) (Fin12 E) nX (Fin12 E)=J12_0 E D W N a b σ:=by
 refine(P12_0 E D W N C12_1 C12_2  a b σ).trans ?_
 simp only[LE12_2]
 kernel_rfl
def F12 (args:List V) (σ:H):Ans:=
 rtCons args fun x1 l2=>
 xcI .i64 l2 fun x5 l4=>
 rtNil l4 (
 J12_0 E D W N x1 x5 σ)
def A12:XFn:=⟨18,[.any,.i],[(.tmp 4)],(C12_0 C12_1 C12_2)⟩
theorem FE12 (args:List V) (σ:H):runX E D W N A12 args σ=F12 E D W N args σ:=by
 unfold F12
 simp only[←JE12_0]
 kernel_rfl
def q13a:List (Nat × XTy):=[(2,.ptr),(8,.ptr)]
def G13_0:List AOper:=[⟨(some 140),.build [(V.str ⟨0,0⟩),(V.int .i64 (Int.ofNat 0)),V.nils,V.nils,V.nils] [],none⟩,⟨(some 141),.mov (.tmp 8),none⟩,⟨(some 142),.nilck (.tmp 141),none⟩,⟨(some 143),.faddr 8 (.tmp 142),none⟩,⟨(some 144),.load none (.tmp 143),none⟩,⟨(some 145),.mov (.tmp 8),none⟩,⟨(some 146),.nilck (.tmp 145),none⟩,⟨(some 147),.faddr 7 (.tmp 146),none⟩,⟨(some 148),.load none (.tmp 147),none⟩,⟨none,.store 5 (.tmp 2) (.tmp 140),none⟩,⟨(some 3),.mov (.tmp 144),none⟩,⟨(some 4),.mov (.tmp 148),none⟩]
def H13_0:List DP:=[⟨0,[]⟩,⟨0,[8]⟩,⟨2,[141]⟩,⟨6,[142]⟩,⟨14,[143]⟩,⟨0,[8]⟩,⟨32,[145]⟩,⟨96,[146]⟩,⟨224,[147]⟩,⟨1,[2,140]⟩,⟨543,[144]⟩,⟨2047,[148]⟩]
def Fin13 (E:List (Nat × Blk)):St→Ans:=fun s=>resK E s [(.cell 2 (some 5)),(.tmp 3),(.tmp 4)] fun l=>some (oneV l,s.σ)
def b13a (c0:XC):Nat→St→Ans:=blkK 1 (dX E D W N (.keep q13a [] [] c0) (Fin13 E) nX (Fin13 E)) nX
def C13_0 (cc1:XC):XC:=(.z (.p 2 [] (.alloc 51 [y5,y0,V.nils,V.nils,V.nils])<|
.q 3 0<|
.q 4 0<|
.nil)
 (.z (.m 13 0<|
.k 14 (.tup [.any,.i,.i]) 19 [(.t 13)]<|
.m 12 14<|
.P 15 (.extract 0 (.t 12))<|
.P 16 (.extract 1 (.t 12))<|
.P 17 (.extract 2 (.t 12))<|
.m 5 15<|
.m 6 16<|
.m 7 17<|
.nil)
 (.seq (.z (.m 18 7<|
.b 19 .neq .none (.t 18) (.i 0)<|
.nil)
 (.cond (.tmp 19) (.z (.op (some 20) y10 [] (.build [y5,y0,V.nils,V.nils,V.nils] [])<|
.m 21 6<|
.m 22 7<|
.op none y10 [2,20] (.store 5 (.t 2) (.t 20))<|
.m 3 21<|
.m 4 22<|
.nil)
 .ret)
 .skip))
 (.z (.m 23 5<|
.op (some 24) (.agg [.any,.i,.str,.i,.any,.any,.any,.i,.i]) [23] (.build [V.nils,y0,y5,y0,V.nils,V.nils,V.nils,y0,y0] [(0,1,(.t 23))])<|
.P 25 (.box 68 (.t 24))<|
.m 8 25<|
.nil)
 (.z (.m 26 8<|
.m 27 8<|
.k 28 .str 20 [(.t 27),(.i 1)]<|
.n 29 26<|
.f 30 2 29<|
.f 31 0 30<|
.w 1 31 28<|
.nil)
 (.z (.m 32 8<|
.k 33 y16 21 [(.t 32),(.con (V.str ⟨11,100710650190388740279911748⟩))]<|
.nil)
 (.seq (.block 0 (.z (.m 35 8<|
.k 36 .bool 22 [(.t 35),y30]<|
.m 34 36<|
.nil)
 (.cond (.tmp 34) (.ops (.m 37 8<|
.k 38 y16 21 [(.t 37),y24]<|
.nil))
 (.z (.m 40 8<|
.k 41 .bool 22 [(.t 40),y31]<|
.m 39 41<|
.nil)
 (.cond (.tmp 39) (.z (.m 42 8<|
.n 43 42<|
.f 44 2 43<|
.f 45 1 44<|
.op none .any [45] (.store 1 (.t 45) (.i 1))<|
.nil)
 (.ops (.m 46 8<|
.k 47 y16 21 [(.t 46),y24]<|
.nil)))
 (.z (.m 49 8<|
.k 50 .bool 22 [(.t 49),(.con (V.str ⟨9,1241215773001651606849⟩))]<|
.m 48 50<|
.nil)
 (.cond (.tmp 48) (.z (.m 51 8<|
.n 52 51<|
.f 53 2 52<|
.f 54 1 53<|
.op none .any [54] (.store 1 (.t 54) (.i 2))<|
.nil)
 (.ops (.m 55 8<|
.k 56 y16 21 [(.t 55),y24]<|
.nil)))
 .skip)))))))
 (.keep q13a [] [] cc1))))))))
def T13_0 (E:List (Nat × Blk)) (D:Den) (W:DrawFn) (K1:Nat→Nat→Nat→Nat→H→Ans) (a:BS) (σ:H):Ans:=
 let s1:=newB σ (.cells [.str ⟨0,0⟩,.int .i64 (Int.ofNat 0),V.nils,V.nils,V.nils]);
 callK (D 19 [.str a] s1) fun u2 s3=>
 rtTup u2 fun l4=>
 rtCons l4 fun x5 l6=>
 xcI .i64 l6 fun x9 l8=>
 xcI .i64 l8 fun x12 l11=>
 rtNil l11 (
 condK (not (eqF x12 (Int.ofNat 0))) (
 stK 5 (H.next σ) 0 (V.agg [.str (BS.mk 0 0),.int .i64 (Int.ofNat 0),V.nils,V.nils,V.nils]) s3 fun s13=>
 ldnK E s13 (H.next σ) 0 5 fun u14=>
 some ((V.tup [.agg u14,.int .i64 x9,.int .i64 x12]),s13)) (
 fillK [(0,1,x5)] [V.nils,.int .i64 (Int.ofNat 0),.str ⟨0,0⟩,.int .i64 (Int.ofNat 0),V.nils,V.nils,V.nils,.int .i64 (Int.ofNat 0),.int .i64 (Int.ofNat 0)] fun l15=>
 rtCons l15 fun x16 l17=>
 xcI .i64 l17 fun x20 l19=>
 xcS l19 fun x23 l22=>
 xcI .i64 l22 fun x26 l25=>
 rtCons l25 fun x27 l28=>
 rtCons l28 fun x29 l30=>
 rtCons l30 fun x31 l32=>
 xcI .i64 l32 fun x35 l34=>
 xcI .i64 l34 fun x38 l37=>
 rtNil l37 (
 nbK [x16,.int .i64 x20,.str x23,.int .i64 x26,x27,x29,x31,.int .i64 x35,.int .i64 x38] s3 fun s39=>
 callK (D 20 [.ptr (H.next s3) 0,.int .i64 (Int.ofNat 1)] s39) fun u40 s41=>
 rtStr u40 fun x42=>
 stK 1 (H.next s3) 2 (V.str x42) s41 fun s43=>
 callK (D 21 [.ptr (H.next s3) 0,.str (BS.mk 11 100710650190388740279911748)] s43) fun u44 s45=>
 rtTup u44 fun l46=>
 rtNil l46 (
 callK (D 22 [.ptr (H.next s3) 0,.str (BS.mk 8 6073459554577832005)] s45) fun u47 s48=>
 rtBool u47 fun x49=>
 condK x49 (
 callK (D 21 [.ptr (H.next s3) 0,.str (BS.mk 4 1397178708)] s48) fun u50 s51=>
 rtTup u50 fun l52=>
 rtNil l52 (
 K1 (H.next σ) 0 (H.next s3) 0 s51)) (
 callK (D 22 [.ptr (H.next s3) 0,.str (BS.mk 8 6073459554577829193)] s48) fun u53 s54=>
 rtBool u53 fun x55=>
 condK x55 (
 stK 1 (H.next s3) 3 (V.int .i64 (Int.ofNat 1)) s54 fun s56=>
 callK (D 21 [.ptr (H.next s3) 0,.str (BS.mk 4 1397178708)] s56) fun u57 s58=>
 rtTup u57 fun l59=>
 rtNil l59 (
 K1 (H.next σ) 0 (H.next s3) 0 s58)) (
 callK (D 22 [.ptr (H.next s3) 0,.str (BS.mk 9 1241215773001651606849)] s54) fun u60 s61=>
 rtBool u60 fun x62=>
 condK x62 (
 stK 1 (H.next s3) 3 (V.int .i64 (Int.ofNat 2)) s61 fun s63=>
 callK (D 21 [.ptr (H.next s3) 0,.str (BS.mk 4 1397178708)] s63) fun u64 s65=>
 rtTup u64 fun l66=>
 rtNil l66 (
 K1 (H.next σ) 0 (H.next s3) 0 s65)) (
 K1 (H.next σ) 0 (H.next s3) 0 s61)))))))
def C13_1 (cc2:XC) (cc3:XC):XC:=(.z (.m 57 8<|
.k 58 y16 21 [(.t 57),(.con (V.str ⟨3,4012602⟩))]<|
.nil)
 (.z (.m 59 8<|
.k 60 y16 21 [(.t 59),(.con (V.str ⟨5,336236856642⟩))]<|
.nil)
 (.seq (.block 1 (.loop q13a [] [] cc3))
 (.keep q13a [] [] cc2))))
def T13_1 (E:List (Nat × Blk)) (D:Den) (W:DrawFn) (K3:Nat→Nat→Nat→Nat→H→Ans) (a b c d:Nat) (σ:H):Ans:=
 callK (D 21 [.ptr c d,.str (BS.mk 3 4012602)] σ) fun u1 s2=>
 rtTup u1 fun l3=>
 rtNil l3 (
 callK (D 21 [.ptr c d,.str (BS.mk 5 336236856642)] s2) fun u4 s5=>
 rtTup u4 fun l6=>
 rtNil l6 (
 K3 a b c d s5))
def C13_2 (cc5:XC):XC:=(.seq (.z (.m 120 8<|
.n 121 120<|
.f 122 7 121<|
.l 123 .i 122<|
.b 124 .eql .none (.t 123) (.i 0)<|
.m 125 124<|
.gA 125 true (.p 126 [8,125] y28<|
.op (some 127) y6 [126,125] (.call 23 [(.t 126)])<|
.op (some 128) .i [127,125] (.field 0 none (.t 127))<|
.p 129 [128,125] (.bin .neq .none (.t 128) (.i 0))<|
.nil) 130 125 129<|
.nil)
 (.cond (.tmp 130) (.ops (.m 131 8<|
.m 132 8<|
.k 133 y6 23 [(.t 132)]<|
.k 134 y16 24 [(.t 131),(.i 7),(.t 133)]<|
.nil))
 .skip))
 (.keep q13a [] [] cc5))
def T13_2 (E:List (Nat × Blk)) (D:Den) (W:DrawFn) (K5:Nat→Nat→Nat→Nat→H→Ans) (a b c d:Nat) (σ:H):Ans:=
 ldK E σ c (Nat.add d 7) fun u1=>
 rtInt .i64 u1 fun x2=>
 joinB (fun c3 s4=>
 condK c3 (
 callK (D 23 [.ptr c d] s4) fun u6 s7=>
 rtAgg u6 fun l8=>
 xcI .i64 l8 fun x11 l10=>
 xcS l10 fun x14 l13=>
 xcI .i64 l13 fun x17 l16=>
 rtNil l16 (
 callK (D 24 [.ptr c d,.int .i64 (Int.ofNat 7),.agg [.int .i64 x11,.str x14,.int .i64 x17]] s7) fun u18 s19=>
 rtTup u18 fun l20=>
 rtNil l20 (
 K5 a b c d s19))) (
 K5 a b c d s4)) fun k5=>
 condK (eqF x2 (Int.ofNat 0)) (
 callK (D 23 [.ptr c d] σ) fun u21 s22=>
 rtAgg u21 fun l23=>
 xcI .i64 l23 fun x26 l25=>
 xcS l25 fun x29 l28=>
 xcI .i64 l28 fun x32 l31=>
 rtNil l31 (
 k5 (not (eqF x26 (Int.ofNat 0))) s22)) (
 k5 false σ)
def C13_3 (cc4:XC):XC:=(.seq (.z (.m 61 8<|
.n 62 61<|
.f 63 7 62<|
.l 64 .i 63<|
.b 65 .eql .none (.t 64) (.i 0)<|
.m 66 65<|
.gA 66 true (.p 67 [8,66] y28<|
.op (some 68) .bool [67,66] (.call 22 [(.t 67),(.con (V.str ⟨3,4476485⟩))])<|
.p 69 [68,66] (.un .not (.t 68))<|
.nil) 70 66 69<|
.nil)
 (.cond (.tmp 70) .skip
 (.exit 1)))
 (.block 2 (.z (.m 71 8<|
.k 72 y6 23 [(.t 71)]<|
.pal 9 [] 73 [y0,y5,y0]<|
.op none y6 [9,72] (.store 3 (.t 9) (.t 72))<|
.nil)
 (.z (.m 73 8<|
.k 74 .str 20 [(.t 73),(.i 1)]<|
.m 10 74<|
.nil)
 (.seq (.z (.m 75 8<|
.n 76 75<|
.f 77 7 76<|
.l 78 .i 77<|
.b 79 .eql .none (.t 78) (.i 0)<|
.m 80 79<|
.gA 80 true (.p 81 [8,80] y28<|
.p 82 [81,80] (.nilck (.t 81))<|
.p 83 [82,80] (.faddr 2 (.t 82))<|
.p 84 [83,80] (.faddr 2 (.t 83))<|
.p 85 [84,80] (.load none (.t 84))<|
.p 86 [85,80] (.len false (.t 85))<|
.p 87 [86,80] (.bin .geq .none (.t 86) (.i 40))<|
.nil) 88 80 87<|
.nil)
 (.cond (.tmp 88) (.ops (.m 89 8<|
.O 90 y6 (.load (some 3) (.t 9))<|
.k 91 y16 24 [(.t 89),(.i 5),(.t 90)]<|
.nil))
 .skip))
 (.keep [(2,.ptr),(8,.ptr),(10,.str)] [] [] cc4))))))
def T13_3 (E:List (Nat × Blk)) (D:Den) (W:DrawFn) (K2:Nat→Nat→Nat→Nat→H→Ans) (K4:Nat→Nat→Nat→Nat→BS→H→Ans) (a b c d:Nat) (σ:H):Ans:=
 ldK E σ c (Nat.add d 7) fun u1=>
 rtInt .i64 u1 fun x2=>
 joinB (fun c3 s4=>
 condK c3 (
 callK (D 23 [.ptr c d] s4) fun u6 s7=>
 rtAgg u6 fun l8=>
 xcI .i64 l8 fun x11 l10=>
 xcS l10 fun x14 l13=>
 xcI .i64 l13 fun x17 l16=>
 rtNil l16 (
 callK (D 20 [.ptr c d,.int .i64 (Int.ofNat 1)] s7) fun u18 s19=>
 rtStr u18 fun x20=>
 ldK E s19 c (Nat.add d 7) fun u21=>
 rtInt .i64 u21 fun x22=>
 joinB (fun c23 s24=>
 condK c23 (
 callK (D 24 [.ptr c d,.int .i64 (Int.ofNat 5),.agg [.int .i64 x11,.str x14,.int .i64 x17]] s24) fun u26 s27=>
 rtTup u26 fun l28=>
 rtNil l28 (
 K4 a b c d x20 s27)) (
 K4 a b c d x20 s24)) fun k25=>
 condK (eqF x22 (Int.ofNat 0)) (
 ldK E s19 c (Nat.add (Nat.add d 2) 2) fun u29=>
 slenK u29 fun n30=>
 k25 (leF (Int.ofNat 40) (Int.ofNat n30)) s19) (
 k25 false s19))) (
 K2 a b c d s4)) fun k5=>
 condK (eqF x2 (Int.ofNat 0)) (
 callK (D 22 [.ptr c d,.str (BS.mk 3 4476485)] σ) fun u31 s32=>
 rtBool u31 fun x33=>
 k5 (not x33) s32) (
 k5 false σ)
def C13_4:XC:=(.z (.m 92 8<|
.k 93 y16 21 [(.t 92),(.con (V.str ⟨3,4012602⟩))]<|
.nil)
 (.z (.m 94 8<|
.k 95 .i 25 [(.t 94),(.i 0)]<|
.m 11 95<|
.nil)
 (.z (.m 96 8<|
.m 97 8<|
.n 98 97<|
.f 99 2 98<|
.f 100 2 99<|
.l 101 .any 100<|
.m 102 10<|
.p 103 [102] (.buildSlice 9 1 [y5] [(0,1,(.t 102))])<|
.O 104 .one (.append 9 1 16 (.t 101) (.t 103))<|
.n 105 96<|
.f 106 2 105<|
.f 107 2 106<|
.w 1 107 104<|
.nil)
 (.ops (.m 108 8<|
.m 109 8<|
.n 110 109<|
.f 111 2 110<|
.f 112 3 111<|
.l 113 .any 112<|
.m 114 11<|
.p 115 [114] (.buildSlice 3 1 [y0] [(0,1,(.t 114))])<|
.O 116 .one (.append 3 1 8 (.t 113) (.t 115))<|
.n 117 108<|
.f 118 2 117<|
.f 119 3 118<|
.w 1 119 116<|
.nil)))))
def T13_4 (E:List (Nat × Blk)) (D:Den) (W:DrawFn) (R3:Nat→Nat→Nat→Nat→H→Ans) (a b c d:Nat) (e:BS) (σ:H):Ans:=
 callK (D 21 [.ptr c d,.str (BS.mk 3 4012602)] σ) fun u1 s2=>
 rtTup u1 fun l3=>
 rtNil l3 (
 callK (D 25 [.ptr c d,.int .i64 (Int.ofNat 0)] s2) fun u4 s5=>
 rtInt .i64 u4 fun x6=>
 ldK E s5 c (Nat.add (Nat.add d 2) 2) fun u7=>
 let s8:=newB s5 (.cells [.str e]);
 appK E 1 16 u7 (V.sl (H.next s5) 0 1 (.ex 1)) s8 fun u9 s10=>
 rtOne u9 (
 stK 1 c (Nat.add (Nat.add d 2) 2) u9 s10 fun s11=>
 ldK E s11 c (Nat.add (Nat.add d 2) 3) fun u12=>
 let s13:=newB s11 (.cells [.int .i64 x6]);
 appK E 1 8 u12 (V.sl (H.next s11) 0 1 (.ex 1)) s13 fun u14 s15=>
 rtOne u14 (
 stK 1 c (Nat.add (Nat.add d 2) 3) u14 s15 fun s16=>
 R3 a b c d s16)))
def C13_5:XC:=(.seq (.z (.m 135 8<|
.n 136 135<|
.f 137 7 136<|
.l 138 .i 137<|
.b 139 .neq .none (.t 138) (.i 0)<|
.nil)
 (.cond (.tmp 139) (.seq (.keep q13a [] [] (.gdraw G13_0 H13_0 [(2,.ptr),(3,.i),(4,.i)]))
 .ret)
 .skip))
 (.z (.m 149 8<|
.n 150 149<|
.f 151 2 150<|
.O 152 y10 (.load (some 5) (.t 151))<|
.op none y10 [2,152] (.store 5 (.t 2) (.t 152))<|
.q 3 0<|
.q 4 0<|
.nil)
 .ret))
def T13_5 (E:List (Nat × Blk)) (D:Den) (W:DrawFn) (a b c d:Nat) (σ:H):Ans:=
 ldK E σ c (Nat.add d 7) fun u1=>
 rtInt .i64 u1 fun x2=>
 condK (not (eqF x2 (Int.ofNat 0))) (
 gdrawK (W G13_0 H13_0 [(2,.ptr a b),(8,.ptr c d)] σ) fun e3 s4=>
 getL e3 2 fun u5=>
 rtPtr u5 fun b6 o7=>
 getL e3 3 fun u8=>
 rtInt .i64 u8 fun x9=>
 getL e3 4 fun u10=>
 rtInt .i64 u10 fun x11=>
 ldnK E s4 b6 o7 5 fun u12=>
 some ((V.tup [.agg u12,.int .i64 x9,.int .i64 x11]),s4)) (
 ldnK E σ c (Nat.add d 2) 5 fun l13=>
 xcS l13 fun x16 l15=>
 xcI .i64 l15 fun x19 l18=>
 rtCons l18 fun x20 l21=>
 rtCons l21 fun x22 l23=>
 rtCons l23 fun x24 l25=>
 rtNil l25 (
 stK 5 a b (V.agg [.str x16,.int .i64 x19,x20,x22,x24]) σ fun s26=>
 ldnK E s26 a b 5 fun u27=>
 some ((V.tup [.agg u27,.int .i64 (Int.ofNat 0),.int .i64 (Int.ofNat 0)]),s26)))
def S13_0 (a:BS) (σ:H):St:=⟨[(0,.str a)],[],[],σ⟩
def S13_1 (a b c d:Nat) (σ:H):St:=⟨[(2,.ptr a b),(8,.ptr c d)],[],[],σ⟩
def S13_4 (a b c d:Nat) (e:BS) (σ:H):St:=⟨[(2,.ptr a b),(8,.ptr c d),(10,.str e)],[],[],σ⟩
theorem P13_0 (cc1:XC) (a:BS) (σ:H) :
 denC E D W N (C13_0 cc1) (S13_0 a σ) (Fin13 E) nX (Fin13 E) =
 T13_0 E D W (fun b c d e σ=>denC E D W N cc1 (S13_1 b c d e σ) (Fin13 E) nX (Fin13 E)) a σ:=by kernel_rfl
theorem P13_1 (cc2:XC) (cc3:XC) (a b c d:Nat) (σ:H) :
 denC E D W N (C13_1 cc2 cc3) (S13_1 a b c d σ) (Fin13 E) nX (Fin13 E) =
 T13_1 E D W (fun a b c d σ=>iterK (fun rec s'=>denC E D W N cc3 s' (kX q13a [] [] rec) (b13a E D W N cc2) (Fin13 E)) N (S13_1 a b c d σ)) a b c d σ:=by kernel_rfl
theorem P13_2 (cc5:XC) (a b c d:Nat) (σ:H) :
 denC E D W N (C13_2 cc5) (S13_1 a b c d σ) (Fin13 E) nX (Fin13 E) =
 T13_2 E D W (fun a b c d σ=>denC E D W N cc5 (S13_1 a b c d σ) (Fin13 E) nX (Fin13 E)) a b c d σ:=by kernel_rfl
theorem P13_3 (cc2:XC) (cc4:XC) (li3:St→Ans) (a b c d:Nat) (σ:H) :
 denC E D W N (C13_3 cc4) (S13_1 a b c d σ) (kX q13a [] [] li3) (b13a E D W N cc2) (Fin13 E) =
 T13_3 E D W (fun a b c d σ=>denC E D W N cc2 (S13_1 a b c d σ) (Fin13 E) nX (Fin13 E)) (fun a b c d e σ=>denC E D W N cc4 (S13_4 a b c d e σ) (kX q13a [] [] li3) (blkK 2 (kX q13a [] [] li3) (b13a E D W N cc2)) (Fin13 E)) a b c d σ:=by kernel_rfl
theorem P13_4 (cc2:XC) (li3:St→Ans) (a b c d:Nat) (e:BS) (σ:H) :
 denC E D W N (C13_4 ) (S13_4 a b c d e σ) (kX q13a [] [] li3) (blkK 2 (kX q13a [] [] li3) (b13a E D W N cc2)) (Fin13 E) =
 T13_4 E D W (fun a b c d σ=>li3 (S13_1 a b c d σ)) a b c d e σ:=by kernel_rfl
def J13_5 (E:List (Nat × Blk)) (D:Den) (W:DrawFn) (N:Nat):=T13_5 E D W
theorem JE13_5 (a b c d:Nat) (σ:H) :
 denC E D W N C13_5 (S13_1 a b c d σ) (Fin13 E) nX (Fin13 E)=J13_5 E D W N a b c d σ:=by kernel_rfl
def J13_2:=T13_2 E D W (J13_5 E D W N )
theorem JE13_2 (a b c d:Nat) (σ:H) :
 denC E D W N (C13_2 C13_5) (S13_1 a b c d σ) (Fin13 E) nX (Fin13 E)=J13_2 E D W N a b c d σ:=by
 refine(P13_2 E D W N C13_5  a b c d σ).trans ?_
 simp only[JE13_5]
 kernel_rfl
def J13_4 (E:List (Nat × Blk)) (D:Den) (W:DrawFn) (N:Nat) (R3:Nat→Nat→Nat→Nat→H→Ans):=T13_4 E D W R3
theorem JE13_4 (li3:St→Ans) (a b c d:Nat) (e:BS) (σ:H) :
 denC E D W N C13_4 (S13_4 a b c d e σ) (kX q13a [] [] li3) (blkK 2 (kX q13a [] [] li3) (b13a E D W N (C13_2 C13_5))) (Fin13 E)=J13_4 E D W N (fun a b c d σ=>li3 (S13_1 a b c d σ)) a b c d e σ:=by
 refine(P13_4 E D W N (C13_2 C13_5) li3 a b c d e σ).trans ?_
 kernel_rfl
def L13_3 (n:Nat):Nat→Nat→Nat→Nat→H→Ans:=
 Nat.rec (fun _ _ _ _ _=>none) (fun _ ih=>T13_3 E D W (J13_2 E D W N ) (J13_4 E D W N ih)) n
theorem LE13_3 (n:Nat):∀(a b c d:Nat) (σ:H),
 iterK (fun rec s'=>denC E D W N (C13_3 C13_4) s' (kX q13a [] [] rec) (b13a E D W N (C13_2 C13_5)) (Fin13 E)) n (S13_1 a b c d σ)=L13_3 E D W N n a b c d σ:=by
 induction n with
 | zero=>intro a b c d σ;rfl
 | succ n ihn=>
  intro a b c d σ
  rw[iterK_succ]
  refine(P13_3 E D W N (C13_2 C13_5) C13_4 (iterK (fun rec s'=>denC E D W N (C13_3 C13_4) s' (kX q13a [] [] rec) (b13a E D W N (C13_2 C13_5)) (Fin13 E)) n) a b c d σ).trans ?_
  simp only[ihn,JE13_2,JE13_4]
  kernel_rfl
def J13_1:=T13_1 E D W (L13_3 E D W N N)
theorem JE13_1 (a b c d:Nat) (σ:H) :
 denC E D W N (C13_1 (C13_2 C13_5) (C13_3 C13_4)) (S13_1 a b c d σ) (Fin13 E) nX (Fin13 E)=J13_1 E D W N a b c d σ:=by
 refine(P13_1 E D W N (C13_2 C13_5) (C13_3 C13_4)  a b c d σ).trans ?_
 simp only[LE13_3]
 kernel_rfl
def J13_0:=T13_0 E D W (J13_1 E D W N )
theorem JE13_0 (a:BS) (σ:H) :
 denC E D W N (C13_0 (C13_1 (C13_2 C13_5) (C13_3 C13_4))) (S13_0 a σ) (Fin13 E) nX (Fin13 E)=J13_0 E D W N a σ:=by
 refine(P13_0 E D W N (C13_1 (C13_2 C13_5) (C13_3 C13_4))  a σ).trans ?_
 simp only[JE13_1]
 kernel_rfl
def F13 (args:List V) (σ:H):Ans:=
 xcS args fun x3 l2=>
 rtNil l2 (
 J13_0 E D W N x3 σ)
def A13:XFn:=⟨153,[.str],[(.cell 2 (some 5)),(.tmp 3),(.tmp 4)],(C13_0 (C13_1 (C13_2 C13_5) (C13_3 C13_4)))⟩
theorem FE13 (args:List V) (σ:H):runX E D W N A13 args σ=F13 E D W N args σ:=by
 unfold F13
 simp only[←JE13_0]
 kernel_rfl
def q14a:List (Nat × XTy):=[(1,.ptr),(2,.ptr),(8,.ptr),(9,.ptr),(10,.i)]
def q14b:List (Nat × XTy):=[(2,.ptr),(8,.ptr),(9,.ptr)]
def G14_0:List AOper:=[⟨(some 25),.faddr 0 (.tmp 1),none⟩,⟨(some 26),.load none (.tmp 25),none⟩,⟨(some 27),.faddr 2 (.tmp 1),none⟩,⟨(some 28),.load none (.tmp 27),none⟩,⟨(some 29),.append 9 1 16 (.con V.nils) (.tmp 28),none⟩,⟨(some 30),.build [(V.str ⟨0,0⟩),V.nils,V.nils,V.nils] [(0,1,(.tmp 26)),(1,1,(.tmp 29))],none⟩,⟨(some 9),.alloc 31 [(V.str ⟨0,0⟩),V.nils,V.nils,V.nils],none⟩,⟨none,.store 4 (.tmp 9) (.tmp 30),none⟩]
def H14_0:List DP:=[⟨0,[1]⟩,⟨1,[25]⟩,⟨0,[1]⟩,⟨4,[27]⟩,⟨12,[28]⟩,⟨31,[26,29]⟩,⟨0,[]⟩,⟨127,[9,30]⟩]
def G14_1:List AOper:=[⟨(some 38),.faddr 2 (.tmp 9),none⟩,⟨(some 39),.load none (.tmp 38),none⟩,⟨(some 40),.mov (.tmp 8),none⟩,⟨(some 41),.faddr 3 (.tmp 1),none⟩,⟨(some 42),.load none (.tmp 41),none⟩,⟨(some 43),.mov (.tmp 10),none⟩,⟨(some 44),.iaddrS 1 (.tmp 42) (.tmp 43),none⟩,⟨(some 45),.load none (.tmp 44),none⟩,⟨(some 46),.call 27 [(.tmp 40),(.tmp 45),(.con (V.int .i64 (Int.ofNat 0)))],none⟩,⟨(some 47),.buildSlice 3 1 [(V.int .i64 (Int.ofNat 0))] [(0,1,(.tmp 46))],none⟩,⟨(some 48),.append 3 1 8 (.tmp 39) (.tmp 47),none⟩,⟨(some 49),.faddr 2 (.tmp 9),none⟩,⟨none,.store 1 (.tmp 49) (.tmp 48),none⟩]
def H14_1:List DP:=[⟨0,[9]⟩,⟨1,[38]⟩,⟨0,[8]⟩,⟨0,[1]⟩,⟨8,[41]⟩,⟨0,[10]⟩,⟨56,[42,43]⟩,⟨120,[44]⟩,⟨252,[40,45]⟩,⟨508,[46]⟩,⟨1023,[39,47]⟩,⟨2047,[9]⟩,⟨4095,[49,48]⟩]
def G14_2:List AOper:=[⟨(some 55),.build [(V.str ⟨0,0⟩),V.nils,V.nils,V.nils] [],none⟩,⟨(some 56),.mov (.tmp 10),none⟩,⟨(some 57),.mov (.tmp 8),none⟩,⟨(some 58),.nilck (.tmp 57),none⟩,⟨(some 59),.faddr 6 (.tmp 58),none⟩,⟨(some 60),.load none (.tmp 59),none⟩,⟨none,.store 4 (.tmp 2) (.tmp 55),none⟩,⟨(some 3),.mov (.tmp 56),none⟩,⟨(some 4),.mov (.tmp 60),none⟩]
def H14_2:List DP:=[⟨0,[]⟩,⟨0,[10]⟩,⟨0,[8]⟩,⟨4,[57]⟩,⟨12,[58]⟩,⟨28,[59]⟩,⟨1,[2,55]⟩,⟨67,[56]⟩,⟨255,[60]⟩]
def Fin14 (E:List (Nat × Blk)):St→Ans:=fun s=>resK E s [(.cell 2 (some 4)),(.tmp 3),(.tmp 4)] fun l=>some (oneV l,s.σ)
def b14a (c0:XC):Nat→St→Ans:=blkK 0 (dX E D W N (.keep q14b [] [] c0) (Fin14 E) nX (Fin14 E)) nX
def C14_0 (cc1:XC) (cc2:XC):XC:=(.z (.P 1 (.box 51 (.t 0))<|
.p 2 [] y27<|
.q 3 0<|
.q 4 0<|
.nil)
 (.z (.O 12 y10 (.load (some 5) (.t 1))<|
.k 13 (.tup [.any,.i,.i]) 26 [(.t 12)]<|
.m 11 13<|
.P 14 (.extract 0 (.t 11))<|
.P 15 (.extract 1 (.t 11))<|
.P 16 (.extract 2 (.t 11))<|
.m 5 14<|
.m 6 15<|
.m 7 16<|
.nil)
 (.seq (.z (.m 17 7<|
.b 18 .neq .none (.t 17) (.i 0)<|
.nil)
 (.cond (.tmp 18) (.z (.op (some 19) y9 [] (.build [y5,V.nils,V.nils,V.nils] [])<|
.m 20 6<|
.m 21 7<|
.op none y9 [2,19] (.store 4 (.t 2) (.t 19))<|
.m 3 20<|
.m 4 21<|
.nil)
 .ret)
 .skip))
 (.z (.O 22 y10 (.load (some 5) (.t 1))<|
.op (some 23) (.agg [.str,.i,.any,.any,.any,.any,.i]) [22] (.build [y5,y0,V.nils,V.nils,V.nils,V.nils,y0] [(0,5,(.t 22))])<|
.P 24 (.box 81 (.t 23))<|
.m 8 24<|
.nil)
 (.seq (.keep [(1,.ptr),(2,.ptr),(8,.ptr)] [] [] (.gdraw G14_0 H14_0 [(1,.ptr),(2,.ptr),(8,.ptr),(9,.ptr)]))
 (.seq (.z (.q 10 0<|
.nil)
 (.block 0 (.loop q14a [] [] cc2)))
 (.keep q14b [] [] cc1)))))))
def T14_0 (K2:Nat→Nat→Nat→Nat→Nat→Nat→Nat→Nat→Int→H→Ans) (a:BS) (b:Int) (c d e:V) (σ:H):Ans:=
 nbK [.str a,.int .i64 b,c,d,e] σ fun s1=>
 let s2:=newB s1 (.cells [.str ⟨0,0⟩,V.nils,V.nils,V.nils]);
 ldnK E s2 (H.next σ) 0 5 fun l3=>
 xcS l3 fun x6 l5=>
 xcI .i64 l5 fun x9 l8=>
 rtCons l8 fun x10 l11=>
 rtCons l11 fun x12 l13=>
 rtCons l13 fun x14 l15=>
 rtNil l15 (
 callK (D 26 [.agg [.str x6,.int .i64 x9,x10,x12,x14]] s2) fun u16 s17=>
 rtTup u16 fun l18=>
 rtCons l18 fun x19 l20=>
 xcI .i64 l20 fun x23 l22=>
 xcI .i64 l22 fun x26 l25=>
 rtNil l25 (
 condK (not (eqF x26 (Int.ofNat 0))) (
 stK 4 (H.next s1) 0 (V.agg [.str (BS.mk 0 0),V.nils,V.nils,V.nils]) s17 fun s27=>
 ldnK E s27 (H.next s1) 0 4 fun u28=>
 some ((V.tup [.agg u28,.int .i64 x23,.int .i64 x26]),s27)) (
 ldnK E s17 (H.next σ) 0 5 fun l29=>
 xcS l29 fun x32 l31=>
 xcI .i64 l31 fun x35 l34=>
 rtCons l34 fun x36 l37=>
 rtCons l37 fun x38 l39=>
 rtCons l39 fun x40 l41=>
 rtNil l41 (
 nbK [.str x32,.int .i64 x35,x36,x38,x40,V.nils,.int .i64 (Int.ofNat 0)] s17 fun s42=>
 gdrawK (W G14_0 H14_0 [(1,.ptr (H.next σ) 0),(2,.ptr (H.next s1) 0),(8,.ptr (H.next s17) 0)] s42) fun e43 s44=>
 getL e43 1 fun u45=>
 rtPtr u45 fun b46 o47=>
 getL e43 2 fun u48=>
 rtPtr u48 fun b49 o50=>
 getL e43 8 fun u51=>
 rtPtr u51 fun b52 o53=>
 getL e43 9 fun u54=>
 rtPtr u54 fun b55 o56=>
 K2 b46 o47 b49 o50 b52 o53 b55 o56 (Int.ofNat 0) s44))))
def C14_1:XC:=(.z (.m 61 8<|
.n 62 61<|
.f 63 5 62<|
.l 64 .any 63<|
.f 65 3 9<|
.w 1 65 64<|
.nil)
 (.z (.O 66 y9 (.load (some 4) (.t 9))<|
.op none y9 [2,66] (.store 4 (.t 2) (.t 66))<|
.q 3 0<|
.q 4 0<|
.nil)
 .ret))
def T14_1 (E:List (Nat × Blk)) (D:Den) (W:DrawFn) (a b c d e f:Nat) (σ:H):Ans:=
 ldK E σ c (Nat.add d 5) fun u1=>
 stK 1 e (Nat.add f 3) u1 σ fun s2=>
 ldnK E s2 e f 4 fun l3=>
 xcS l3 fun x6 l5=>
 rtCons l5 fun x7 l8=>
 rtCons l8 fun x9 l10=>
 rtCons l10 fun x11 l12=>
 rtNil l12 (
 stK 4 a b (V.agg [.str x6,x7,x9,x11]) s2 fun s13=>
 ldnK E s13 a b 4 fun u14=>
 some ((V.tup [.agg u14,.int .i64 (Int.ofNat 0),.int .i64 (Int.ofNat 0)]),s13))
def C14_2:XC:=(.seq (.z (.m 31 10<|
.f 32 2 1<|
.l 33 .any 32<|
.u 34 33<|
.b 35 .lss .none (.t 31) (.t 34)<|
.nil)
 (.cond (.tmp 35) .skip
 y21))
 (.seq (.block 1 (.seq (.keep q14a [] [] (.gdraw G14_1 H14_1 q14a))
 (.z (.m 50 8<|
.n 51 50<|
.f 52 6 51<|
.l 53 .i 52<|
.b 54 .neq .none (.t 53) (.i 0)<|
.nil)
 (.cond (.tmp 54) (.seq (.keep [(2,.ptr),(8,.ptr),(10,.i)] [] [] (.gdraw G14_2 H14_2 [(2,.ptr),(3,.i),(4,.i)]))
 .ret)
 .skip))))
 (.ops (.m 36 10<|
.b 37 .add .none (.t 36) (.i 1)<|
.m 10 37<|
.nil))))
def T14_2 (E:List (Nat × Blk)) (D:Den) (W:DrawFn) (K1:Nat→Nat→Nat→Nat→Nat→Nat→H→Ans) (R2:Nat→Nat→Nat→Nat→Nat→Nat→Nat→Nat→Int→H→Ans) (a b c d e f g h:Nat) (i:Int) (σ:H):Ans:=
 ldK E σ a (Nat.add b 2) fun u1=>
 slenK u1 fun n2=>
 condK (ltF i (Int.ofNat n2)) (
 gdrawK (W G14_1 H14_1 [(1,.ptr a b),(2,.ptr c d),(8,.ptr e f),(9,.ptr g h),(10,.int .i64 i)] σ) fun e3 s4=>
 getL e3 1 fun u5=>
 rtPtr u5 fun b6 o7=>
 getL e3 2 fun u8=>
 rtPtr u8 fun b9 o10=>
 getL e3 8 fun u11=>
 rtPtr u11 fun b12 o13=>
 getL e3 9 fun u14=>
 rtPtr u14 fun b15 o16=>
 getL e3 10 fun u17=>
 rtInt .i64 u17 fun x18=>
 ldK E s4 b12 (Nat.add o13 6) fun u19=>
 rtInt .i64 u19 fun x20=>
 condK (not (eqF x20 (Int.ofNat 0))) (
 gdrawK (W G14_2 H14_2 [(2,.ptr b9 o10),(8,.ptr b12 o13),(10,.int .i64 x18)] s4) fun e21 s22=>
 getL e21 2 fun u23=>
 rtPtr u23 fun b24 o25=>
 getL e21 3 fun u26=>
 rtInt .i64 u26 fun x27=>
 getL e21 4 fun u28=>
 rtInt .i64 u28 fun x29=>
 ldnK E s22 b24 o25 4 fun u30=>
 some ((V.tup [.agg u30,.int .i64 x27,.int .i64 x29]),s22)) (
 R2 b6 o7 b9 o10 b12 o13 b15 o16 (addF .i64 x18 (Int.ofNat 1)) s4)) (
 K1 c d e f g h σ)
def S14_0 (a:BS) (b:Int) (c d e:V) (σ:H):St:=⟨[(0,.agg [.str a,.int .i64 b,c,d,e])],[],[],σ⟩
def S14_1 (a b c d e f:Nat) (σ:H):St:=⟨[(2,.ptr a b),(8,.ptr c d),(9,.ptr e f)],[],[],σ⟩
def S14_2 (a b c d e f g h:Nat) (i:Int) (σ:H):St:=⟨[(1,.ptr a b),(2,.ptr c d),(8,.ptr e f),(9,.ptr g h),(10,.int .i64 i)],[],[],σ⟩
theorem P14_0 (cc1:XC) (cc2:XC) (a:BS) (b:Int) (c d e:V) (σ:H) :
 denC E D W N (C14_0 cc1 cc2) (S14_0 a b c d e σ) (Fin14 E) nX (Fin14 E) =
 T14_0 E D W (fun f g h i j k l m o σ=>iterK (fun rec s'=>denC E D W N cc2 s' (kX q14a [] [] rec) (b14a E D W N cc1) (Fin14 E)) N (S14_2 f g h i j k l m o σ)) a b c d e σ:=by kernel_rfl
theorem P14_2 (cc1:XC) (li2:St→Ans) (a b c d e f g h:Nat) (i:Int) (σ:H) :
 denC E D W N (C14_2 ) (S14_2 a b c d e f g h i σ) (kX q14a [] [] li2) (b14a E D W N cc1) (Fin14 E) =
 T14_2 E D W (fun c d e f g h σ=>denC E D W N cc1 (S14_1 c d e f g h σ) (Fin14 E) nX (Fin14 E)) (fun a b c d e f g h i σ=>li2 (S14_2 a b c d e f g h i σ)) a b c d e f g h i σ:=by kernel_rfl
def J14_1 (E:List (Nat × Blk)) (D:Den) (W:DrawFn) (N:Nat):=T14_1 E D W
theorem JE14_1 (a b c d e f:Nat) (σ:H) :
 denC E D W N C14_1 (S14_1 a b c d e f σ) (Fin14 E) nX (Fin14 E)=J14_1 E D W N a b c d e f σ:=by kernel_rfl
def L14_2 (n:Nat):Nat→Nat→Nat→Nat→Nat→Nat→Nat→Nat→Int→H→Ans:=
 Nat.rec (fun _ _ _ _ _ _ _ _ _ _=>none) (fun _ ih=>T14_2 E D W (J14_1 E D W N ) ih) n
theorem LE14_2 (n:Nat):∀(a b c d e f g h:Nat) (i:Int) (σ:H),
 iterK (fun rec s'=>denC E D W N C14_2 s' (kX q14a [] [] rec) (b14a E D W N C14_1) (Fin14 E)) n (S14_2 a b c d e f g h i σ)=L14_2 E D W N n a b c d e f g h i σ:=by
 induction n with
 | zero=>intro a b c d e f g h i σ;rfl
 | succ n ihn=>
  intro a b c d e f g h i σ
  rw[iterK_succ]
  refine(P14_2 E D W N C14_1 (iterK (fun rec s'=>denC E D W N C14_2 s' (kX q14a [] [] rec) (b14a E D W N C14_1) (Fin14 E)) n) a b c d e f g h i σ).trans ?_
  simp only[ihn,JE14_1]
  kernel_rfl
def J14_0:=T14_0 E D W (L14_2 E D W N N)
theorem JE14_0 (a:BS) (b:Int) (c d e:V) (σ:H) :
 denC E D W N (C14_0 C14_1 C14_2) (S14_0 a b c d e σ) (Fin14 E) nX (Fin14 E)=J14_0 E D W N a b c d e σ:=by
 refine(P14_0 E D W N C14_1 C14_2  a b c d e σ).trans ?_
 simp only[LE14_2]
 kernel_rfl
def F14 (args:List V) (σ:H):Ans:=
 rtCons args fun x1 l2=>
 rtAgg x1 fun l3=>
 xcS l3 fun x6 l5=>
 xcI .i64 l5 fun x9 l8=>
 rtCons l8 fun x10 l11=>
 rtCons l11 fun x12 l13=>
 rtCons l13 fun x14 l15=>
 rtNil l15 (
 rtNil l2 (
 J14_0 E D W N x6 x9 x10 x12 x14 σ))
def A14:XFn:=⟨67,[y10],[(.cell 2 (some 4)),(.tmp 3),(.tmp 4)],(C14_0 C14_1 C14_2)⟩
theorem FE14 (args:List V) (σ:H):runX E D W N A14 args σ=F14 E D W N args σ:=by
 unfold F14
 simp only[←JE14_0]
 kernel_rfl
def C15_0 (cc1:XC):XC:=(.z (.P 3 (.box 42 (.t 0))<|
.c 6 V.nils<|
.nil)
 (.z (.f 12 0 3<|
.l 13 .i 12<|
.b 14 .and .none (.t 13) (.i 3)<|
.P 15 (.conv (.toInt .u8) (.t 14))<|
.b 16 .shl .none (.t 15) (.con (V.int .u64 (Int.ofNat 6)))<|
.m 7 16<|
.nil)
 (.seq (.z (.m 17 1<|
.nil)
 (.cond (.tmp 17) (.ops (.m 18 7<|
.b 19 .or .none (.t 18) (.con (V.int .u8 (Int.ofNat 32)))<|
.m 7 19<|
.nil))
 .skip))
 (.keep [(2,.i),(3,.ptr),(7,(.int .u8))] [] [] cc1))))
def T15_0 (E:List (Nat × Blk)) (D:Den) (W:DrawFn) (K1:Int→Nat→Nat→Int→H→Ans) (a b:Int) (c:Bool) (d:Int) (σ:H):Ans:=
 nbK [.int .i64 a,.int .i64 b] σ fun s1=>
 ldK E s1 (H.next σ) 0 fun u2=>
 rtInt .i64 u2 fun x3=>
 condK c (
 K1 d (H.next σ) 0 (orF .u8 (shlF .u8 (wrapF .u8 (andF .i64 x3 (Int.ofNat 3))) 6) (Int.ofNat 32)) s1) (
 K1 d (H.next σ) 0 (shlF .u8 (wrapF .u8 (andF .i64 x3 (Int.ofNat 3))) 6) s1)
def C15_1 (cc2:XC):XC:=(.z (.f 20 1 3<|
.l 21 .i 20<|
.p 22 [21] (.max (.i 0) [(.t 21)])<|
.m 8 22<|
.nil)
 (.z (.c 9 V.nils<|
.nil)
 (.seq (.z (.m 23 8<|
.b 24 .lss .none (.t 23) (.i 31)<|
.nil)
 (.cond (.tmp 24) (.ops (.m 25 7<|
.m 26 8<|
.P 27 (.conv (.toInt .u8) (.t 26))<|
.b 28 .or .none (.t 25) (.t 27)<|
.p 29 [28] (.buildSlice 5 1 [y8] [(0,1,(.t 28))])<|
.m 9 29<|
.nil))
 (.ops (.m 30 7<|
.b 31 .or .none (.t 30) (.con (V.int .u8 (Int.ofNat 31)))<|
.p 32 [31] (.buildSlice 5 1 [y8] [(0,1,(.t 31))])<|
.m 33 8<|
.P 34 (.conv (.toInt .u64) (.t 33))<|
.k 35 .one 28 [(.t 34)]<|
.O 36 .one (.append 5 1 1 (.t 32) (.t 35))<|
.m 9 36<|
.nil))))
 (.keep [(2,.i),(9,.any)] [] [] cc2))))
def T15_1 (E:List (Nat × Blk)) (D:Den) (W:DrawFn) (K2:Int→V→H→Ans) (a:Int) (b c:Nat) (d:Int) (σ:H):Ans:=
 ldK E σ b (Nat.add c 1) fun u1=>
 rtInt .i64 u1 fun x2=>
 condK (ltF (maxF (Int.ofNat 0) x2) (Int.ofNat 31)) (
 let s3:=newB σ (.cells [.int .u8 (orF .u8 d (wrapF .u8 (maxF (Int.ofNat 0) x2)))]);
 K2 a (V.sl (H.next σ) 0 1 (.ex 1)) s3) (
 let s4:=newB σ (.cells [.int .u8 (orF .u8 d (Int.ofNat 31))]);
 callK (D 28 [.int .u64 (wrapF .u64 (maxF (Int.ofNat 0) x2))] s4) fun u5 s6=>
 rtOne u5 (
 appK E 1 1 (V.sl (H.next σ) 0 1 (.ex 1)) u5 s6 fun u7 s8=>
 rtOne u7 (
 K2 a u7 s8)))
def C15_2:XC:=(.z (.m 37 2<|
.p 38 [37] (.max (.i 0) [(.t 37)])<|
.m 10 38<|
.nil)
 (.seq (.z (.m 39 10<|
.b 40 .lss .none (.t 39) (.i 128)<|
.nil)
 (.cond (.tmp 40) (.z (.m 41 9<|
.m 42 10<|
.P 43 (.conv (.toInt .u8) (.t 42))<|
.p 44 [43] (.buildSlice 5 1 [y8] [(0,1,(.t 43))])<|
.O 45 .one (.append 5 1 1 (.t 41) (.t 44))<|
.m 6 45<|
.nil)
 .ret)
 .skip))
 (.z (.m 46 10<|
.P 47 (.conv (.toInt .u64) (.t 46))<|
.k 48 .one 29 [(.t 47)]<|
.m 11 48<|
.nil)
 (.z (.m 49 9<|
.m 50 11<|
.u 51 50<|
.P 52 (.conv (.toInt .u8) (.t 51))<|
.b 53 .or .none y20 (.t 52)<|
.p 54 [53] (.buildSlice 5 1 [y8] [(0,1,(.t 53))])<|
.O 55 .one (.append 5 1 1 (.t 49) (.t 54))<|
.m 9 55<|
.nil)
 (.z (.m 56 9<|
.m 57 11<|
.O 58 .one (.append 5 1 1 (.t 56) (.t 57))<|
.m 6 58<|
.nil)
 .ret)))))
def T15_2 (E:List (Nat × Blk)) (D:Den) (W:DrawFn) (a:Int) (b:V) (σ:H):Ans:=
 condK (ltF (maxF (Int.ofNat 0) a) (Int.ofNat 128)) (
 let s1:=newB σ (.cells [.int .u8 (wrapF .u8 (maxF (Int.ofNat 0) a))]);
 appK E 1 1 b (V.sl (H.next σ) 0 1 (.ex 1)) s1 fun u2 s3=>
 rtOne u2 (
 some (u2,s3))) (
 callK (D 29 [.int .u64 (wrapF .u64 (maxF (Int.ofNat 0) a))] σ) fun u4 s5=>
 rtOne u4 (
 slenK u4 fun n6=>
 let s7:=newB s5 (.cells [.int .u8 (orF .u8 (Int.ofNat 128) (wrapF .u8 (Int.ofNat n6)))]);
 appK E 1 1 b (V.sl (H.next s5) 0 1 (.ex 1)) s7 fun u8 s9=>
 rtOne u8 (
 appK E 1 1 u8 u4 s9 fun u10 s11=>
 rtOne u10 (
 some (u10,s11)))))
def J15_2 (E:List (Nat × Blk)) (D:Den) (W:DrawFn) (N:Nat):=T15_2 E D W
def J15_1:=T15_1 E D W (J15_2 E D W N )
def F15 (args:List V) (σ:H):Ans:=
 rtCons args fun x1 l2=>
 rtAgg x1 fun l3=>
 xcI .i64 l3 fun x6 l5=>
 xcI .i64 l5 fun x9 l8=>
 rtNil l8 (
 xcB l2 fun x12 l11=>
 xcI .i64 l11 fun x15 l14=>
 rtNil l14 (
 T15_0 E D W (J15_1 E D W N ) x6 x9 x12 x15 σ))
def A15:XFn:=⟨59,[y12,.bool,.i],[(.tmp 6)],(C15_0 (C15_1 C15_2))⟩
theorem FE15 (args:List V) (σ:H):runX E D W N A15 args σ=F15 E D W N args σ:=by kernel_rfl
def C16_0:XC:=(.z (.P 3 (.box 31 (.t 0))<|
.P 5 (.box 37 (.t 2))<|
.c 6 y1<|
.nil)
 (.z (.O 8 y9 (.load (some 4) (.t 3))<|
.op (some 9) y9 [8] (.build [y5,V.nils,V.nils,V.nils] [(0,4,(.t 8))])<|
.op (some 10) (.agg [.str,.any,.any,.any,.bool]) [9] (.build [y5,V.nils,V.nils,V.nils,y1] [(0,4,(.t 9))])<|
.P 11 (.box 88 (.t 10))<|
.m 7 11<|
.nil)
 (.z (.m 12 7<|
.m 13 1<|
.O 14 y2 (.load (some 6) (.t 5))<|
.k 15 .bool 30 [(.t 12),(.t 13),(.t 14),(.i 1)]<|
.m 16 15<|
.gA 16 true (.op (some 17) y2 [5,16] (.load (some 6) (.t 5))<|
.op (some 18) .i [17,16] (.call 31 [(.t 17)])<|
.p 19 [18,16] (.bin .leq .none (.t 18) (.i 5000))<|
.nil) 20 16 19<|
.m 6 20<|
.nil)
 .ret)))
def T16_0 (E:List (Nat × Blk)) (D:Den) (W:DrawFn) (a:BS) (b c d:V) (e f g:Int) (h i:V) (j:Int) (k:V) (σ:H):Ans:=
 nbK [.str a,b,c,d] σ fun s1=>
 nbK [.int .i64 f,.int .i64 g,h,i,.int .i64 j,k] s1 fun s2=>
 ldnK E s2 (H.next σ) 0 4 fun l3=>
 xcS l3 fun x6 l5=>
 rtCons l5 fun x7 l8=>
 rtCons l8 fun x9 l10=>
 rtCons l10 fun x11 l12=>
 rtNil l12 (
 nbK [.str x6,x7,x9,x11,.bool false] s2 fun s13=>
 ldnK E s13 (H.next s1) 0 6 fun l14=>
 xcI .i64 l14 fun x17 l16=>
 xcI .i64 l16 fun x20 l19=>
 rtCons l19 fun x21 l22=>
 rtCons l22 fun x23 l24=>
 xcI .i64 l24 fun x27 l26=>
 rtCons l26 fun x28 l29=>
 rtNil l29 (
 callK (D 30 [.ptr (H.next s2) 0,.int .i64 e,.agg [.int .i64 x17,.int .i64 x20,x21,x23,.int .i64 x27,x28],.int .i64 (Int.ofNat 1)] s13) fun u30 s31=>
 rtBool u30 fun x32=>
 joinB (fun c33 s34=>
 some ((V.bool c33),s34)) fun k35=>
 condK x32 (
 ldnK E s31 (H.next s1) 0 6 fun l36=>
 xcI .i64 l36 fun x39 l38=>
 xcI .i64 l38 fun x42 l41=>
 rtCons l41 fun x43 l44=>
 rtCons l44 fun x45 l46=>
 xcI .i64 l46 fun x49 l48=>
 rtCons l48 fun x50 l51=>
 rtNil l51 (
 callK (D 31 [.agg [.int .i64 x39,.int .i64 x42,x43,x45,.int .i64 x49,x50]] s31) fun u52 s53=>
 rtInt .i64 u52 fun x54=>
 k35 (leF x54 (Int.ofNat 5000)) s53)) (
 k35 false s31)))
def F16 (N:Nat) (args:List V) (σ:H):Ans:=
 rtCons args fun x1 l2=>
 rtAgg x1 fun l3=>
 xcS l3 fun x6 l5=>
 rtCons l5 fun x7 l8=>
 rtCons l8 fun x9 l10=>
 rtCons l10 fun x11 l12=>
 rtNil l12 (
 xcI .i64 l2 fun x15 l14=>
 rtCons l14 fun x16 l17=>
 rtAgg x16 fun l18=>
 xcI .i64 l18 fun x21 l20=>
 xcI .i64 l20 fun x24 l23=>
 rtCons l23 fun x25 l26=>
 rtCons l26 fun x27 l28=>
 xcI .i64 l28 fun x31 l30=>
 rtCons l30 fun x32 l33=>
 rtNil l33 (
 rtNil l17 (
 T16_0 E D W x6 x7 x9 x11 x15 x21 x24 x25 x27 x31 x32 σ)))
def A16:XFn:=⟨21,[y9,.i,y2],[(.tmp 6)],C16_0⟩
theorem FE16 (args:List V) (σ:H):runX E D W N A16 args σ=F16 E D W N args σ:=by kernel_rfl
def C17_0:XC:=(.z (.P 2 (.box 37 (.t 0))<|
.P 3 (.box 3 (.t 1))<|
.c 4 y1<|
.nil)
 (.z (.f 5 4 2<|
.l 6 .i 5<|
.b 7 .eql .none (.t 6) (.i 0)<|
.m 8 7<|
.gO 8 false (.p 9 [2,8] (.faddr 4 (.t 2))<|
.op (some 10) .i [9,8] (.load none (.t 9))<|
.op (some 11) .i [3,8] (.load none (.t 3))<|
.p 12 [10,11,8] (.bin .eql .none (.t 10) (.t 11))<|
.nil) 13 8 12<|
.m 14 13<|
.gA 14 true (.p 15 [2,14] (.faddr 3 (.t 2))<|
.p 16 [15,14] (.load none (.t 15))<|
.p 17 [3,14] (.mkfn 33 [] [(.t 3)])<|
.op (some 18) .bool [16,17,14] (.call 32 [(.t 16),(.t 17)])<|
.p 19 [18,14] (.un .not (.t 18))<|
.nil) 20 14 19<|
.m 4 20<|
.nil)
 .ret))
def T17_0 (E:List (Nat × Blk)) (D:Den) (W:DrawFn) (a b:Int) (c d:V) (e:Int) (f:V) (g:Int) (σ:H):Ans:=
 nbK [.int .i64 a,.int .i64 b,c,d,.int .i64 e,f] σ fun s1=>
 nbK (V.cells (V.int .i64 g)) s1 fun s2=>
 ldK E s2 (H.next σ) 4 fun u3=>
 rtInt .i64 u3 fun x4=>
 joinB (fun c5 s6=>
 joinB (fun c8 s9=>
 some ((V.bool c8),s9)) fun k10=>
 condK c5 (
 ldK E s6 (H.next σ) 3 fun u11=>
 callK (D 32 [u11,.fn 33 [] [.ptr (H.next s1) 0]] s6) fun u12 s13=>
 rtBool u12 fun x14=>
 k10 (not x14) s13) (
 k10 false s6)) fun k7=>
 condK (eqF x4 (Int.ofNat 0)) (
 k7 true s2) (
 ldK E s2 (H.next σ) 4 fun u15=>
 rtInt .i64 u15 fun x16=>
 ldK E s2 (H.next s1) 0 fun u17=>
 rtInt .i64 u17 fun x18=>
 k7 (eqF x16 x18) s2)
def F17 (N:Nat) (args:List V) (σ:H):Ans:=
 rtCons args fun x1 l2=>
 rtAgg x1 fun l3=>
 xcI .i64 l3 fun x6 l5=>
 xcI .i64 l5 fun x9 l8=>
 rtCons l8 fun x10 l11=>
 rtCons l11 fun x12 l13=>
 xcI .i64 l13 fun x16 l15=>
 rtCons l15 fun x17 l18=>
 rtNil l18 (
 xcI .i64 l2 fun x21 l20=>
 rtNil l20 (
 T17_0 E D W x6 x9 x10 x12 x16 x17 x21 σ))
def A17:XFn:=⟨21,[y2,.i],[(.tmp 4)],C17_0⟩
theorem FE17 (args:List V) (σ:H):runX E D W N A17 args σ=F17 E D W N args σ:=by kernel_rfl
def q18a:List (Nat × XTy):=[(0,.ptr),(7,.ptr),(8,.any),(49,.any),(50,.i),(51,.i)]
def q18b:List (Nat × XTy):=[(5,.ptr),(7,.ptr)]
def G18_0:List AOper:=[⟨(some 39),.faddr 1 (.tmp 7),none⟩,⟨(some 40),.load none (.tmp 39),none⟩,⟨(some 41),.faddr 1 (.tmp 5),none⟩,⟨(some 42),.load none (.tmp 41),none⟩,⟨(some 43),.call 35 [(.tmp 42)],none⟩,⟨(some 44),.buildSlice 22 1 [V.nils] [(0,1,(.tmp 43))],none⟩,⟨(some 45),.call 34 [(.tmp 40),(.con (V.bool false)),(.tmp 44)],none⟩,⟨(some 6),.mov (.tmp 45),none⟩]
def H18_0:List DP:=[⟨0,[7]⟩,⟨1,[39]⟩,⟨0,[5]⟩,⟨4,[41]⟩,⟨12,[42]⟩,⟨28,[43]⟩,⟨63,[40,44]⟩,⟨127,[45]⟩]
def G18_1:List AOper:=[⟨(some 79),.faddr 1 (.tmp 7),none⟩,⟨(some 80),.load none (.tmp 79),none⟩,⟨(some 81),.mov (.tmp 0),none⟩,⟨(some 82),.faddr 9 (.tmp 7),none⟩,⟨(some 83),.load none (.tmp 82),none⟩,⟨(some 84),.faddr 1 (.tmp 5),none⟩,⟨(some 85),.load none (.tmp 84),none⟩,⟨(some 86),.iaddrS 11 (.tmp 83) (.tmp 85),none⟩,⟨(some 87),.faddr 1 (.tmp 86),none⟩,⟨(some 88),.load none (.tmp 87),none⟩,⟨(some 89),.faddr 3 (.tmp 5),none⟩,⟨(some 90),.load none (.tmp 89),none⟩,⟨(some 91),.iaddrS 6 (.tmp 90) (.con (V.int .i64 (Int.ofNat 0))),none⟩,⟨(some 92),.load (some 6) (.tmp 91),none⟩,⟨(some 93),.call 18 [(.tmp 81),(.tmp 88),(.tmp 92)],none⟩,⟨(some 94),.buildSlice 22 1 [V.nils] [(0,1,(.tmp 93))],none⟩,⟨(some 95),.call 34 [(.tmp 80),(.con (V.bool true)),(.tmp 94)],none⟩,⟨(some 6),.mov (.tmp 95),none⟩]
def H18_1:List DP:=[⟨0,[7]⟩,⟨1,[79]⟩,⟨0,[0]⟩,⟨0,[7]⟩,⟨8,[82]⟩,⟨0,[5]⟩,⟨32,[84]⟩,⟨120,[83,85]⟩,⟨248,[86]⟩,⟨504,[87]⟩,⟨0,[5]⟩,⟨1024,[89]⟩,⟨3072,[90]⟩,⟨7168,[91]⟩,⟨16380,[81,88,92]⟩,⟨32764,[93]⟩,⟨65535,[80,94]⟩,⟨131071,[95]⟩]
def G18_2:List AOper:=[⟨(some 99),.faddr 1 (.tmp 7),none⟩,⟨(some 100),.load none (.tmp 99),none⟩,⟨(some 101),.mov (.tmp 0),none⟩,⟨(some 102),.load (some 13) (.tmp 7),none⟩,⟨(some 103),.load (some 6) (.tmp 5),none⟩,⟨(some 104),.call 36 [(.tmp 101),(.tmp 102),(.tmp 103)],none⟩,⟨(some 105),.call 34 [(.tmp 100),(.con (V.bool true)),(.tmp 104)],none⟩,⟨(some 6),.mov (.tmp 105),none⟩]
def H18_2:List DP:=[⟨0,[7]⟩,⟨1,[99]⟩,⟨0,[0]⟩,⟨0,[7]⟩,⟨0,[5]⟩,⟨28,[101,102,103]⟩,⟨63,[100,104]⟩,⟨127,[105]⟩]
def Fin18 (E:List (Nat × Blk)):St→Ans:=fun s=>resK E s [(.tmp 6)] fun l=>some (oneV l,s.σ)
def b18a (c0:XC):St→Ans:=dX E D W N (.keep q18b [] [] c0) (Fin18 E) nX (Fin18 E)
def b18b (c0 c1:XC):Nat→St→Ans:=blkK 1 (dX E D W N (.keep [(7,.ptr),(8,.any)] [] [] c0) (b18a E D W N c1) (blkK 0 (b18a E D W N c1) nX) (Fin18 E)) (blkK 0 (b18a E D W N c1) nX)
def C18_0 (cc1:XC) (cc2:XC):XC:=(.z (.P 5 (.box 37 (.t 2))<|
.c 6 V.nils<|
.nil)
 (.z (.m 11 0<|
.n 12 11<|
.f 13 0 12<|
.f 14 3 13<|
.l 15 .any 14<|
.m 16 1<|
.s 17 13 15 16<|
.O 18 (.agg y7) (.load (some 13) (.t 17))<|
.p 7 [] (.alloc 99 [y0,V.nils,y1,y1,y1,y1,y0,y0,V.nils,V.nils,y0,y1,y0])<|
.op none (.agg y7) [7,18] (.store 13 (.t 7) (.t 18))<|
.nil)
 (.seq (.z (.f 19 0 7<|
.l 20 .i 19<|
.nil)
 (.block 0 (.z (.b 22 .eql .none (.t 20) (.i 1)<|
.m 21 22<|
.nil)
 (.cond (.tmp 21) (.seq (.z (.f 23 1 5<|
.l 24 .i 23<|
.b 25 .eql .none (.t 24) (.i 1)<|
.nil)
 (.cond (.tmp 25) (.z (.f 26 1 7<|
.l 27 .any 26<|
.p 28 [] (.buildSlice 5 1 [y8] [(0,1,(.con (V.int .u8 (Int.ofNat 255))))])<|
.p 29 [28] (.buildSlice 22 1 [V.nils] [(0,1,(.t 28))])<|
.k 30 .one 34 [(.t 27),y29,(.t 29)]<|
.m 6 30<|
.nil)
 .ret)
 .skip))
 (.z (.f 31 1 7<|
.l 32 .any 31<|
.p 33 [] (.buildSlice 5 1 [y8] [(0,1,(.con y8))])<|
.p 34 [33] (.buildSlice 22 1 [V.nils] [(0,1,(.t 33))])<|
.k 35 .one 34 [(.t 32),y29,(.t 34)]<|
.m 6 35<|
.nil)
 .ret))
 (.seq (.z (.b 37 .eql .none (.t 20) (.i 2)<|
.m 36 37<|
.nil)
 (.cond (.tmp 36) .skip
 (.ops (.b 38 .eql .none (.t 20) (.i 3)<|
.m 36 38<|
.nil))))
 (.keep [(0,.ptr),(5,.ptr),(7,.ptr),(20,.i),(36,.bool)] [] [] cc2))))))
 (.keep q18b [] [] cc1))))
def T18_0 (E:List (Nat × Blk)) (D:Den) (W:DrawFn) (K2:Nat→Nat→Nat→Nat→Nat→Nat→Int→Bool→H→Ans) (a b:Nat) (c d e:Int) (f g:V) (h:Int) (i:V) (σ:H):Ans:=
 nbK [.int .i64 d,.int .i64 e,f,g,.int .i64 h,i] σ fun s1=>
 ldK E s1 a (Nat.add b 3) fun u2=>
 iaddrSK 13 u2 c fun b3 o4=>
 ldnK E s1 b3 o4 13 fun l5=>
 xcI .i64 l5 fun x8 l7=>
 rtCons l7 fun x9 l10=>
 xcB l10 fun x13 l12=>
 xcB l12 fun x16 l15=>
 xcB l15 fun x19 l18=>
 xcB l18 fun x22 l21=>
 xcI .i64 l21 fun x25 l24=>
 xcI .i64 l24 fun x28 l27=>
 rtCons l27 fun x29 l30=>
 rtCons l30 fun x31 l32=>
 xcI .i64 l32 fun x35 l34=>
 xcB l34 fun x38 l37=>
 xcI .i64 l37 fun x41 l40=>
 rtNil l40 (
 let s42:=newB s1 (.cells [.int .i64 (Int.ofNat 0),V.nils,.bool false,.bool false,.bool false,.bool false,.int .i64 (Int.ofNat 0),.int .i64 (Int.ofNat 0),V.nils,V.nils,.int .i64 (Int.ofNat 0),.bool false,.int .i64 (Int.ofNat 0)]);
 stK 13 (H.next s1) 0 (V.agg [.int .i64 x8,x9,.bool x13,.bool x16,.bool x19,.bool x22,.int .i64 x25,.int .i64 x28,x29,x31,.int .i64 x35,.bool x38,.int .i64 x41]) s42 fun s43=>
 ldK E s43 (H.next s1) 0 fun u44=>
 rtInt .i64 u44 fun x45=>
 condK (eqF x45 (Int.ofNat 1)) (
 ldK E s43 (H.next σ) 1 fun u46=>
 rtInt .i64 u46 fun x47=>
 condK (eqF x47 (Int.ofNat 1)) (
 ldK E s43 (H.next s1) 1 fun u48=>
 let s49:=newB s43 (.cells [.int .u8 (Int.ofNat 255)]);
 let s50:=newB s49 (.cells [.sl (H.next s43) 0 1 (.ex 1)]);
 callK (D 34 [u48,.bool false,.sl (H.next s49) 0 1 (.ex 1)] s50) fun u51 s52=>
 rtOne u51 (
 some (u51,s52))) (
 ldK E s43 (H.next s1) 1 fun u53=>
 let s54:=newB s43 (.cells [.int .u8 (Int.ofNat 0)]);
 let s55:=newB s54 (.cells [.sl (H.next s43) 0 1 (.ex 1)]);
 callK (D 34 [u53,.bool false,.sl (H.next s54) 0 1 (.ex 1)] s55) fun u56 s57=>
 rtOne u56 (
 some (u56,s57)))) (
 condK (eqF x45 (Int.ofNat 2)) (
 K2 a b (H.next σ) 0 (H.next s1) 0 x45 (eqF x45 (Int.ofNat 2)) s43) (
 K2 a b (H.next σ) 0 (H.next s1) 0 x45 (eqF x45 (Int.ofNat 3)) s43)))
def C18_1:XC:=(.z (.f 106 1 7<|
.l 107 .any 106<|
.f 108 2 5<|
.l 109 .any 108<|
.p 110 [109] (.buildSlice 22 1 [V.nils] [(0,1,(.t 109))])<|
.k 111 .one 34 [(.t 107),y29,(.t 110)]<|
.m 6 111<|
.nil)
 .ret)
def T18_1 (E:List (Nat × Blk)) (D:Den) (W:DrawFn) (a b c d:Nat) (σ:H):Ans:=
 ldK E σ c (Nat.add d 1) fun u1=>
 ldK E σ a (Nat.add b 2) fun u2=>
 fillK [(0,1,u2)] [V.nils] fun l3=>
 chk (allOne l3) (
 let s4:=newB σ (.cells l3);
 callK (D 34 [u1,.bool false,.sl (H.next σ) 0 1 (.ex 1)] s4) fun u5 s6=>
 rtOne u5 (
 some (u5,s6)))
def C18_2 (cc3:XC) (cc4:XC) (cc5:XC):XC:=(.cond (.tmp 36) (.seq (.keep q18b [] [] (.gdraw G18_0 H18_0 [(6,.any)]))
 .ret)
 (.z (.b 47 .eql .none (.t 20) (.i 10)<|
.m 46 47<|
.nil)
 (.cond (.tmp 46) (.z (.c 8 V.nils<|
.nil)
 (.seq (.z (.f 48 3 5<|
.l 49 .any 48<|
.u 50 49<|
.q 51 0<|
.nil)
 (.block 1 (.loop q18a [] [] cc4)))
 (.keep [(7,.ptr),(8,.any)] [] [] cc3)))
 (.z (.b 69 .eql .none (.t 20) (.i 9)<|
.m 68 69<|
.nil)
 (.cond (.tmp 68) (.seq (.z (.f 70 0 5<|
.l 71 .i 70<|
.b 72 .eql .none (.t 71) (.i 12)<|
.nil)
 (.cond (.tmp 72) (.z (.f 73 1 7<|
.l 74 .any 73<|
.f 75 2 5<|
.l 76 .any 75<|
.p 77 [76] (.buildSlice 22 1 [V.nils] [(0,1,(.t 76))])<|
.k 78 .one 34 [(.t 74),y11,(.t 77)]<|
.m 6 78<|
.nil)
 .ret)
 .skip))
 (.seq (.keep [(0,.ptr),(5,.ptr),(7,.ptr)] [] [] (.gdraw G18_1 H18_1 [(6,.any)]))
 .ret))
 (.seq (.z (.b 97 .eql .none (.t 20) (.i 7)<|
.m 96 97<|
.nil)
 (.cond (.tmp 96) .skip
 (.ops (.b 98 .eql .none (.t 20) (.i 8)<|
.m 96 98<|
.nil))))
 (.keep [(0,.ptr),(5,.ptr),(7,.ptr),(96,.bool)] [] [] cc5)))))))
def T18_2 (K4:Nat→Nat→Nat→Nat→V→V→Int→Int→H→Ans) (K5:Nat→Nat→Nat→Nat→Nat→Nat→Bool→H→Ans) (a b c d e f:Nat) (g:Int) (h:Bool) (σ:H):Ans:=
 condK h (
 gdrawK (W G18_0 H18_0 [(5,.ptr c d),(7,.ptr e f)] σ) fun e1 s2=>
 getL e1 6 fun u3=>
 some (u3,s2)) (
 condK (eqF g (Int.ofNat 10)) (
 ldK E σ c (Nat.add d 3) fun u4=>
 slenK u4 fun n5=>
 K4 a b e f V.nils u4 (Int.ofNat n5) (Int.ofNat 0) σ) (
 condK (eqF g (Int.ofNat 9)) (
 ldK E σ c d fun u6=>
 rtInt .i64 u6 fun x7=>
 condK (eqF x7 (Int.ofNat 12)) (
 ldK E σ e (Nat.add f 1) fun u8=>
 ldK E σ c (Nat.add d 2) fun u9=>
 fillK [(0,1,u9)] [V.nils] fun l10=>
 chk (allOne l10) (
 let s11:=newB σ (.cells l10);
 callK (D 34 [u8,.bool true,.sl (H.next σ) 0 1 (.ex 1)] s11) fun u12 s13=>
 rtOne u12 (
 some (u12,s13)))) (
 gdrawK (W G18_1 H18_1 [(0,.ptr a b),(5,.ptr c d),(7,.ptr e f)] σ) fun e14 s15=>
 getL e14 6 fun u16=>
 some (u16,s15))) (
 condK (eqF g (Int.ofNat 7)) (
 K5 a b c d e f (eqF g (Int.ofNat 7)) σ) (
 K5 a b c d e f (eqF g (Int.ofNat 8)) σ))))
def C18_3:XC:=(.z (.f 64 1 7<|
.l 65 .any 64<|
.m 66 8<|
.k 67 .one 34 [(.t 65),y11,(.t 66)]<|
.m 6 67<|
.nil)
 .ret)
def T18_3 (E:List (Nat × Blk)) (D:Den) (W:DrawFn) (a b:Nat) (c:V) (σ:H):Ans:=
 ldK E σ a (Nat.add b 1) fun u1=>
 callK (D 34 [u1,.bool true,c] σ) fun u2 s3=>
 rtOne u2 (
 some (u2,s3))
def C18_4:XC:=(.z (.b 52 .lss .none (.t 51) (.t 50)<|
.nil)
 (.seq (.cond (.tmp 52) .skip
 (.exit 1))
 (.seq (.block 2 (.z (.s 53 6 49 51<|
.O 54 y2 (.load (some 6) (.t 53))<|
.pal 10 [] 37 [y0,y0,V.nils,V.nils,y0,V.nils]<|
.op none y2 [10,54] (.store 6 (.t 10) (.t 54))<|
.nil)
 (.ops (.m 55 8<|
.m 56 0<|
.f 57 12 7<|
.l 58 .i 57<|
.O 59 y2 (.load (some 6) (.t 10))<|
.k 60 .one 18 [(.t 56),(.t 58),(.t 59)]<|
.p 61 [60] (.buildSlice 22 1 [V.nils] [(0,1,(.t 60))])<|
.O 62 .one (.append 22 1 24 (.t 55) (.t 61))<|
.m 8 62<|
.nil))))
 (.ops (.b 63 .add .none (.t 51) (.i 1)<|
.m 51 63<|
.nil)))))
def T18_4 (E:List (Nat × Blk)) (D:Den) (W:DrawFn) (K3:Nat→Nat→V→H→Ans) (R4:Nat→Nat→Nat→Nat→V→V→Int→Int→H→Ans) (a b c d:Nat) (e f:V) (g h:Int) (σ:H):Ans:=
 condK (ltF h g) (
 iaddrSK 6 f h fun b1 o2=>
 ldnK E σ b1 o2 6 fun l3=>
 xcI .i64 l3 fun x6 l5=>
 xcI .i64 l5 fun x9 l8=>
 rtCons l8 fun x10 l11=>
 rtCons l11 fun x12 l13=>
 xcI .i64 l13 fun x16 l15=>
 rtCons l15 fun x17 l18=>
 rtNil l18 (
 chk (allOne [.int .i64 x6,.int .i64 x9,x10,x12,.int .i64 x16,x17]) (
 ldK E σ c (Nat.add d 12) fun u19=>
 rtInt .i64 u19 fun x20=>
 callK (D 18 [.ptr a b,.int .i64 x20,.agg [.int .i64 x6,.int .i64 x9,x10,x12,.int .i64 x16,x17]] σ) fun u21 s22=>
 rtOne u21 (
 fillK [(0,1,u21)] [V.nils] fun l23=>
 chk (allOne l23) (
 let s24:=newB s22 (.cells l23);
 appK E 1 24 e (V.sl (H.next s22) 0 1 (.ex 1)) s24 fun u25 s26=>
 rtOne u25 (
 R4 a b c d u25 f g (addF .i64 h (Int.ofNat 1)) s26)))))) (
 K3 c d e σ)
def C18_5:XC:=(.cond (.tmp 96) (.seq (.keep [(0,.ptr),(5,.ptr),(7,.ptr)] [] [] (.gdraw G18_2 H18_2 [(6,.any)]))
 .ret)
 .skip)
def T18_5 (E:List (Nat × Blk)) (D:Den) (W:DrawFn) (K1:Nat→Nat→Nat→Nat→H→Ans) (a b c d e f:Nat) (g:Bool) (σ:H):Ans:=
 condK g (
 gdrawK (W G18_2 H18_2 [(0,.ptr a b),(5,.ptr c d),(7,.ptr e f)] σ) fun e1 s2=>
 getL e1 6 fun u3=>
 some (u3,s2)) (
 K1 c d e f σ)
def S18_0 (a b:Nat) (c d e:Int) (f g:V) (h:Int) (i:V) (σ:H):St:=⟨[(0,.ptr a b),(1,.int .i64 c),(2,.agg [.int .i64 d,.int .i64 e,f,g,.int .i64 h,i])],[],[],σ⟩
def S18_1 (a b c d:Nat) (σ:H):St:=⟨[(5,.ptr a b),(7,.ptr c d)],[],[],σ⟩
def S18_2 (a b c d e f:Nat) (g:Int) (h:Bool) (σ:H):St:=⟨[(0,.ptr a b),(5,.ptr c d),(7,.ptr e f),(20,.int .i64 g),(36,.bool h)],[],[],σ⟩
def S18_3 (a b:Nat) (c:V) (σ:H):St:=⟨[(7,.ptr a b),(8,c)],[],[],σ⟩
def S18_4 (a b c d:Nat) (e f:V) (g h:Int) (σ:H):St:=⟨[(0,.ptr a b),(7,.ptr c d),(8,e),(49,f),(50,.int .i64 g),(51,.int .i64 h)],[],[],σ⟩
def S18_5 (a b c d e f:Nat) (g:Bool) (σ:H):St:=⟨[(0,.ptr a b),(5,.ptr c d),(7,.ptr e f),(96,.bool g)],[],[],σ⟩
theorem P18_0 (cc1:XC) (cc2:XC) (a b:Nat) (c d e:Int) (f g:V) (h:Int) (i:V) (σ:H) :
 denC E D W N (C18_0 cc1 cc2) (S18_0 a b c d e f g h i σ) (Fin18 E) nX (Fin18 E) =
 T18_0 E D W (fun a b j k l m o p σ=>denC E D W N cc2 (S18_2 a b j k l m o p σ) (b18a E D W N cc1) (blkK 0 (b18a E D W N cc1) nX) (Fin18 E)) a b c d e f g h i σ:=by kernel_rfl
theorem P18_2 (cc1:XC) (cc3:XC) (cc4:XC) (cc5:XC) (a b c d e f:Nat) (g:Int) (h:Bool) (σ:H) :
 denC E D W N (C18_2 cc3 cc4 cc5) (S18_2 a b c d e f g h σ) (b18a E D W N cc1) (blkK 0 (b18a E D W N cc1) nX) (Fin18 E) =
 T18_2 E D W (fun a b e f i j k l σ=>iterK (fun rec s'=>denC E D W N cc4 s' (kX q18a [] [] rec) (b18b E D W N cc3 cc1) (Fin18 E)) N (S18_4 a b e f i j k l σ)) (fun a b c d e f m σ=>denC E D W N cc5 (S18_5 a b c d e f m σ) (b18a E D W N cc1) (blkK 0 (b18a E D W N cc1) nX) (Fin18 E)) a b c d e f g h σ:=by kernel_rfl
theorem P18_3 (cc1:XC) (a b:Nat) (c:V) (σ:H) :
 denC E D W N (C18_3 ) (S18_3 a b c σ) (b18a E D W N cc1) (blkK 0 (b18a E D W N cc1) nX) (Fin18 E) =
 T18_3 E D W  a b c σ:=by kernel_rfl
theorem P18_4 (cc1:XC) (cc3:XC) (li4:St→Ans) (a b c d:Nat) (e f:V) (g h:Int) (σ:H) :
 denC E D W N (C18_4 ) (S18_4 a b c d e f g h σ) (kX q18a [] [] li4) (b18b E D W N cc3 cc1) (Fin18 E) =
 T18_4 E D W (fun c d e σ=>denC E D W N cc3 (S18_3 c d e σ) (b18a E D W N cc1) (blkK 0 (b18a E D W N cc1) nX) (Fin18 E)) (fun a b c d e f g h σ=>li4 (S18_4 a b c d e f g h σ)) a b c d e f g h σ:=by kernel_rfl
theorem P18_5 (cc1:XC) (a b c d e f:Nat) (g:Bool) (σ:H) :
 denC E D W N (C18_5 ) (S18_5 a b c d e f g σ) (b18a E D W N cc1) (blkK 0 (b18a E D W N cc1) nX) (Fin18 E) =
 T18_5 E D W (fun c d e f σ=>denC E D W N cc1 (S18_1 c d e f σ) (Fin18 E) nX (Fin18 E)) a b c d e f g σ:=by kernel_rfl
def J18_3 (E:List (Nat × Blk)) (D:Den) (W:DrawFn) (N:Nat):=T18_3 E D W
theorem JE18_3 (a b:Nat) (c:V) (σ:H) :
 denC E D W N C18_3 (S18_3 a b c σ) (b18a E D W N C18_1) (blkK 0 (b18a E D W N C18_1) nX) (Fin18 E)=J18_3 E D W N a b c σ:=by
 refine(P18_3 E D W N C18_1  a b c σ).trans ?_
 kernel_rfl
def L18_4 (n:Nat):Nat→Nat→Nat→Nat→V→V→Int→Int→H→Ans:=
 Nat.rec (fun _ _ _ _ _ _ _ _ _=>none) (fun _ ih=>T18_4 E D W (J18_3 E D W N ) ih) n
theorem LE18_4 (n:Nat):∀(a b c d:Nat) (e f:V) (g h:Int) (σ:H),
 iterK (fun rec s'=>denC E D W N C18_4 s' (kX q18a [] [] rec) (b18b E D W N C18_3 C18_1) (Fin18 E)) n (S18_4 a b c d e f g h σ)=L18_4 E D W N n a b c d e f g h σ:=by
 induction n with
 | zero=>intro a b c d e f g h σ;rfl
 | succ n ihn=>
  intro a b c d e f g h σ
  rw[iterK_succ]
  refine(P18_4 E D W N C18_1 C18_3 (iterK (fun rec s'=>denC E D W N C18_4 s' (kX q18a [] [] rec) (b18b E D W N C18_3 C18_1) (Fin18 E)) n) a b c d e f g h σ).trans ?_
  simp only[ihn,JE18_3]
  kernel_rfl
def J18_1 (E:List (Nat × Blk)) (D:Den) (W:DrawFn) (N:Nat):=T18_1 E D W
theorem JE18_1 (a b c d:Nat) (σ:H) :
 denC E D W N C18_1 (S18_1 a b c d σ) (Fin18 E) nX (Fin18 E)=J18_1 E D W N a b c d σ:=by kernel_rfl
def J18_5:=T18_5 E D W (J18_1 E D W N )
theorem JE18_5 (a b c d e f:Nat) (g:Bool) (σ:H) :
 denC E D W N C18_5 (S18_5 a b c d e f g σ) (b18a E D W N C18_1) (blkK 0 (b18a E D W N C18_1) nX) (Fin18 E)=J18_5 E D W N a b c d e f g σ:=by
 refine(P18_5 E D W N C18_1  a b c d e f g σ).trans ?_
 simp only[JE18_1]
 kernel_rfl
def J18_2:=T18_2 E D W (L18_4 E D W N N) (J18_5 E D W N )
theorem JE18_2 (a b c d e f:Nat) (g:Int) (h:Bool) (σ:H) :
 denC E D W N (C18_2 C18_3 C18_4 C18_5) (S18_2 a b c d e f g h σ) (b18a E D W N C18_1) (blkK 0 (b18a E D W N C18_1) nX) (Fin18 E)=J18_2 E D W N a b c d e f g h σ:=by
 refine(P18_2 E D W N C18_1 C18_3 C18_4 C18_5  a b c d e f g h σ).trans ?_
 simp only[LE18_4,JE18_5]
 kernel_rfl
def J18_0:=T18_0 E D W (J18_2 E D W N )
theorem JE18_0 (a b:Nat) (c d e:Int) (f g:V) (h:Int) (i:V) (σ:H) :
 denC E D W N (C18_0 C18_1 (C18_2 C18_3 C18_4 C18_5)) (S18_0 a b c d e f g h i σ) (Fin18 E) nX (Fin18 E)=J18_0 E D W N a b c d e f g h i σ:=by
 refine(P18_0 E D W N C18_1 (C18_2 C18_3 C18_4 C18_5)  a b c d e f g h i σ).trans ?_
 simp only[JE18_2]
 kernel_rfl
def F18 (args:List V) (σ:H):Ans:=
 rtCons args fun x1 l2=>
 rtPtr x1 fun b3 o4=>
 xcI .i64 l2 fun x7 l6=>
 rtCons l6 fun x8 l9=>
 rtAgg x8 fun l10=>
 xcI .i64 l10 fun x13 l12=>
 xcI .i64 l12 fun x16 l15=>
 rtCons l15 fun x17 l18=>
 rtCons l18 fun x19 l20=>
 xcI .i64 l20 fun x23 l22=>
 rtCons l22 fun x24 l25=>
 rtNil l25 (
 rtNil l9 (
 J18_0 E D W N b3 o4 x7 x13 x16 x17 x19 x23 x24 σ))
def A18:XFn:=⟨112,[.ptr,.i,y2],[(.tmp 6)],(C18_0 C18_1 (C18_2 C18_3 C18_4 C18_5))⟩
theorem FE18 (args:List V) (σ:H):runX E D W N A18 args σ=F18 E D W N args σ:=by
 unfold F18
 simp only[←JE18_0]
 kernel_rfl
def q19a:List (Nat × XTy):=[(0,.str),(5,.any),(6,.i)]
def Fin19 (E:List (Nat × Blk)):St→Ans:=fun s=>resK E s [(.tmp 2),(.tmp 3),(.tmp 4)] fun l=>some (oneV l,s.σ)
def C19_0 (cc1:XC):XC:=(.z (.c 2 V.nils<|
.q 3 0<|
.q 4 0<|
.nil)
 (.seq (.z (.m 9 0<|
.P 10 (.len true (.t 9))<|
.b 11 .gtr .none (.t 10) (.i 8000)<|
.nil)
 (.cond (.tmp 11) (.z (.c 2 V.nils<|
.q 3 0<|
.q 4 5<|
.nil)
 .ret)
 .skip))
 (.z (.c 5 V.nils<|
.nil)
 (.z (.q 6 0<|
.nil)
 (.block 0 (.loop q19a [] [] cc1))))))
def T19_0 (E:List (Nat × Blk)) (D:Den) (W:DrawFn) (K1:BS→V→Int→H→Ans) (a:BS) (σ:H):Ans:=
 condK (ltF (Int.ofNat 8000) (Int.ofNat (BS.len a))) (
 some ((V.tup [V.nils,.int .i64 (Int.ofNat 0),.int .i64 (Int.ofNat 5)]),σ)) (
 K1 a V.nils (Int.ofNat 0) σ)
def C19_1:XC:=(.block 1 (.z (.m 12 0<|
.m 13 6<|
.k 14 .i 37 [(.t 12),(.t 13)]<|
.m 6 14<|
.nil)
 (.seq (.z (.m 15 6<|
.m 16 0<|
.P 17 (.len true (.t 16))<|
.b 18 .geq .none (.t 15) (.t 17)<|
.nil)
 (.cond (.tmp 18) (.z (.m 19 5<|
.m 20 0<|
.P 21 (.len true (.t 20))<|
.op (some 22) y6 [21] (.build [y0,y5,y0] [(2,1,(.t 21))])<|
.p 23 [22] (.buildSlice 73 1 [y0,y5,y0] [(0,3,(.t 22))])<|
.O 24 .one (.append 73 3 32 (.t 19) (.t 23))<|
.m 2 24<|
.q 3 0<|
.q 4 0<|
.nil)
 .ret)
 .skip))
 (.z (.m 26 0<|
.m 27 6<|
.k 28 (.tup [y6,.i]) 38 [(.t 26),(.t 27)]<|
.m 25 28<|
.P 29 (.extract 0 (.t 25))<|
.P 30 (.extract 1 (.t 25))<|
.pal 7 [] 73 [y0,y5,y0]<|
.op none y6 [7,29] (.store 3 (.t 7) (.t 29))<|
.m 8 30<|
.nil)
 (.seq (.z (.m 31 8<|
.b 32 .lss .none (.t 31) (.i 0)<|
.nil)
 (.cond (.tmp 32) (.z (.m 33 6<|
.c 2 V.nils<|
.m 3 33<|
.q 4 6<|
.nil)
 .ret)
 .skip))
 (.z (.m 34 5<|
.O 35 y6 (.load (some 3) (.t 7))<|
.p 36 [35] (.buildSlice 73 1 [y0,y5,y0] [(0,3,(.t 35))])<|
.O 37 .one (.append 73 3 32 (.t 34) (.t 36))<|
.m 5 37<|
.nil)
 (.ops (.m 38 8<|
.m 6 38<|
.nil))))))))
def T19_1 (E:List (Nat × Blk)) (D:Den) (W:DrawFn) (R1:BS→V→Int→H→Ans) (a:BS) (b:V) (c:Int) (σ:H):Ans:=
 callK (D 37 [.str a,.int .i64 c] σ) fun u1 s2=>
 rtInt .i64 u1 fun x3=>
 condK (leF (Int.ofNat (BS.len a)) x3) (
 let s4:=newB s2 (.cells [.int .i64 (Int.ofNat 0),.str (BS.mk 0 0),.int .i64 (Int.ofNat (BS.len a))]);
 appK E 3 32 b (V.sl (H.next s2) 0 1 (.ex 1)) s4 fun u5 s6=>
 rtOne u5 (
 some ((V.tup [u5,.int .i64 (Int.ofNat 0),.int .i64 (Int.ofNat 0)]),s6))) (
 callK (D 38 [.str a,.int .i64 x3] s2) fun u7 s8=>
 rtTup u7 fun l9=>
 rtCons l9 fun x10 l11=>
 rtAgg x10 fun l12=>
 xcI .i64 l12 fun x15 l14=>
 xcS l14 fun x18 l17=>
 xcI .i64 l17 fun x21 l20=>
 rtNil l20 (
 xcI .i64 l11 fun x24 l23=>
 rtNil l23 (
 condK (ltF x24 (Int.ofNat 0)) (
 some ((V.tup [V.nils,.int .i64 x3,.int .i64 (Int.ofNat 6)]),s8)) (
 let s25:=newB s8 (.cells [.int .i64 x15,.str x18,.int .i64 x21]);
 appK E 3 32 b (V.sl (H.next s8) 0 1 (.ex 1)) s25 fun u26 s27=>
 rtOne u26 (
 R1 a u26 x24 s27)))))
def S19_0 (a:BS) (σ:H):St:=⟨[(0,.str a)],[],[],σ⟩
def S19_1 (a:BS) (b:V) (c:Int) (σ:H):St:=⟨[(0,.str a),(5,b),(6,.int .i64 c)],[],[],σ⟩
theorem P19_0 (cc1:XC) (a:BS) (σ:H) :
 denC E D W N (C19_0 cc1) (S19_0 a σ) (Fin19 E) nX (Fin19 E) =
 T19_0 E D W (fun a b c σ=>iterK (fun rec s'=>denC E D W N cc1 s' (kX q19a [] [] rec) (blkK 0 (Fin19 E) nX) (Fin19 E)) N (S19_1 a b c σ)) a σ:=by kernel_rfl
theorem P19_1 (li1:St→Ans) (a:BS) (b:V) (c:Int) (σ:H) :
 denC E D W N (C19_1 ) (S19_1 a b c σ) (kX q19a [] [] li1) (blkK 0 (Fin19 E) nX) (Fin19 E) =
 T19_1 E D W (fun a b c σ=>li1 (S19_1 a b c σ)) a b c σ:=by kernel_rfl
def L19_1 (E:List (Nat × Blk)) (D:Den) (W:DrawFn) (N:Nat) (n:Nat):BS→V→Int→H→Ans:=
 Nat.rec (fun _ _ _ _=>none) (fun _ ih=>T19_1 E D W ih) n
theorem LE19_1 (n:Nat):∀(a:BS) (b:V) (c:Int) (σ:H),
 iterK (fun rec s'=>denC E D W N C19_1 s' (kX q19a [] [] rec) (blkK 0 (Fin19 E) nX) (Fin19 E)) n (S19_1 a b c σ)=L19_1 E D W N n a b c σ:=by
 induction n with
 | zero=>intro a b c σ;rfl
 | succ n ihn=>
  intro a b c σ
  rw[iterK_succ]
  refine(P19_1 E D W N  (iterK (fun rec s'=>denC E D W N C19_1 s' (kX q19a [] [] rec) (blkK 0 (Fin19 E) nX) (Fin19 E)) n) a b c σ).trans ?_
  simp only[ihn]
  kernel_rfl
def J19_0:=T19_0 E D W (L19_1 E D W N N)
theorem JE19_0 (a:BS) (σ:H) :
 denC E D W N (C19_0 C19_1) (S19_0 a σ) (Fin19 E) nX (Fin19 E)=J19_0 E D W N a σ:=by
 refine(P19_0 E D W N C19_1  a σ).trans ?_
 simp only[LE19_1]
 kernel_rfl
def F19 (args:List V) (σ:H):Ans:=
 xcS args fun x3 l2=>
 rtNil l2 (
 J19_0 E D W N x3 σ)
def A19:XFn:=⟨39,[.str],[(.tmp 2),(.tmp 3),(.tmp 4)],(C19_0 C19_1)⟩
theorem FE19 (args:List V) (σ:H):runX E D W N A19 args σ=F19 E D W N args σ:=by
 unfold F19
 simp only[←JE19_0]
 kernel_rfl
def C20_0:XC:=(.z (.c 4 y5<|
.nil)
 (.z (.m 6 0<|
.k 7 y6 23 [(.t 6)]<|
.pal 5 [] 73 [y0,y5,y0]<|
.op none y6 [5,7] (.store 3 (.t 5) (.t 7))<|
.nil)
 (.seq (.z (.m 8 0<|
.n 9 8<|
.f 10 7 9<|
.l 11 .i 10<|
.b 12 .neq .none (.t 11) (.i 0)<|
.m 13 12<|
.gO 13 false (.p 14 [5,13] (.faddr 0 (.t 5))<|
.op (some 15) .i [14,13] (.load none (.t 14))<|
.p 16 [1,13] y15<|
.p 17 [15,16,13] (.bin .neq .none (.t 15) (.t 16))<|
.nil) 18 13 17<|
.nil)
 (.cond (.tmp 18) (.z (.m 19 0<|
.O 20 y6 (.load (some 3) (.t 5))<|
.k 21 y16 24 [(.t 19),(.i 7),(.t 20)]<|
.nil)
 (.z (.c 4 y5<|
.nil)
 .ret))
 .skip))
 (.z (.m 22 0<|
.k 23 y6 39 [(.t 22)]<|
.O 24 .str (.field 1 none (.t 23))<|
.m 4 24<|
.nil)
 .ret))))
def T20_0 (E:List (Nat × Blk)) (D:Den) (W:DrawFn) (a b:Nat) (c:Int) (σ:H):Ans:=
 callK (D 23 [.ptr a b] σ) fun u1 s2=>
 rtAgg u1 fun l3=>
 xcI .i64 l3 fun x6 l5=>
 xcS l5 fun x9 l8=>
 xcI .i64 l8 fun x12 l11=>
 rtNil l11 (
 ldK E s2 a (Nat.add b 7) fun u13=>
 rtInt .i64 u13 fun x14=>
 joinB (fun c15 s16=>
 condK c15 (
 callK (D 24 [.ptr a b,.int .i64 (Int.ofNat 7),.agg [.int .i64 x6,.str x9,.int .i64 x12]] s16) fun u18 s19=>
 rtTup u18 fun l20=>
 rtNil l20 (
 some ((V.str (BS.mk 0 0)),s19))) (
 callK (D 39 [.ptr a b] s16) fun u21 s22=>
 rtAgg u21 fun l23=>
 xcI .i64 l23 fun x26 l25=>
 xcS l25 fun x29 l28=>
 xcI .i64 l28 fun x32 l31=>
 rtNil l31 (
 some ((V.str x29),s22)))) fun k17=>
 condK (not (eqF x14 (Int.ofNat 0))) (
 k17 true s2) (
 k17 (not (eqF x6 c)) s2))
def F20 (N:Nat) (args:List V) (σ:H):Ans:=
 rtCons args fun x1 l2=>
 rtPtr x1 fun b3 o4=>
 xcI .i64 l2 fun x7 l6=>
 rtNil l6 (
 T20_0 E D W b3 o4 x7 σ)
def A20:XFn:=⟨25,[.ptr,.i],[(.tmp 4)],C20_0⟩
theorem FE20 (args:List V) (σ:H):runX E D W N A20 args σ=F20 E D W N args σ:=by kernel_rfl
def C21_0:XC:=(.z (.m 4 0<|
.n 5 4<|
.f 6 7 5<|
.l 7 .i 6<|
.b 8 .eql .none (.t 7) (.i 0)<|
.m 9 8<|
.gA 9 true (.p 10 [0,9] y13<|
.p 11 [1,9] y15<|
.op (some 12) .bool [10,11,9] (.call 22 [(.t 10),(.t 11)])<|
.p 13 [12,9] (.un .not (.t 12))<|
.nil) 14 9 13<|
.nil)
 (.cond (.tmp 14) (.ops (.m 15 0<|
.m 16 0<|
.k 17 y6 23 [(.t 16)]<|
.k 18 y16 24 [(.t 15),(.i 7),(.t 17)]<|
.nil))
 .skip))
def T21_0 (E:List (Nat × Blk)) (D:Den) (W:DrawFn) (a b:Nat) (c:BS) (σ:H):Ans:=
 ldK E σ a (Nat.add b 7) fun u1=>
 rtInt .i64 u1 fun x2=>
 joinB (fun c3 s4=>
 condK c3 (
 callK (D 23 [.ptr a b] s4) fun u6 s7=>
 rtAgg u6 fun l8=>
 xcI .i64 l8 fun x11 l10=>
 xcS l10 fun x14 l13=>
 xcI .i64 l13 fun x17 l16=>
 rtNil l16 (
 callK (D 24 [.ptr a b,.int .i64 (Int.ofNat 7),.agg [.int .i64 x11,.str x14,.int .i64 x17]] s7) fun u18 s19=>
 rtTup u18 fun l20=>
 rtNil l20 (
 some ((V.tup []),s19)))) (
 some ((V.tup []),s4))) fun k5=>
 condK (eqF x2 (Int.ofNat 0)) (
 callK (D 22 [.ptr a b,.str c] σ) fun u21 s22=>
 rtBool u21 fun x23=>
 k5 (not x23) s22) (
 k5 false σ)
def F21 (N:Nat) (args:List V) (σ:H):Ans:=
 rtCons args fun x1 l2=>
 rtPtr x1 fun b3 o4=>
 xcS l2 fun x7 l6=>
 rtNil l6 (
 T21_0 E D W b3 o4 x7 σ)
def A21:XFn:=⟨19,[.ptr,.str],[],C21_0⟩
theorem FE21 (args:List V) (σ:H):runX E D W N A21 args σ=F21 E D W N args σ:=by kernel_rfl
def C22_0:XC:=(.z (.c 4 y1<|
.nil)
 (.z (.m 6 0<|
.k 7 y6 23 [(.t 6)]<|
.pal 5 [] 73 [y0,y5,y0]<|
.op none y6 [5,7] (.store 3 (.t 5) (.t 7))<|
.nil)
 (.seq (.z (.m 8 0<|
.n 9 8<|
.f 10 7 9<|
.l 11 .i 10<|
.b 12 .eql .none (.t 11) (.i 0)<|
.m 13 12<|
.gA 13 true (.p 14 [5,13] (.faddr 0 (.t 5))<|
.op (some 15) .i [14,13] (.load none (.t 14))<|
.p 16 [15,13] (.bin .eql .none (.t 15) (.i 5))<|
.p 17 [16,13] (.mov (.t 16))<|
.grp 17 false (.p 18 [5,17] (.faddr 0 (.t 5))<|
.op (some 19) .i [18,17] (.load none (.t 18))<|
.p 20 [19,17] (.bin .eql .none (.t 19) (.i 6))<|
.nil) 21 [17,20,13] (.t 17) y11 (.t 20)<|
.nil) 22 13 21<|
.m 23 22<|
.gA 23 true (.p 24 [5,23] (.faddr 1 (.t 5))<|
.op (some 25) .str [24,23] (.load none (.t 24))<|
.p 26 [1,23] y15<|
.p 27 [25,26,23] (.bin .eql .none (.t 25) (.t 26))<|
.nil) 28 23 27<|
.nil)
 (.cond (.tmp 28) (.z (.m 29 0<|
.k 30 y6 39 [(.t 29)]<|
.nil)
 (.z (.c 4 (V.bool true)<|
.nil)
 .ret))
 .skip))
 (.z (.c 4 y1<|
.nil)
 .ret))))
def T22_0 (E:List (Nat × Blk)) (D:Den) (W:DrawFn) (a b:Nat) (c:BS) (σ:H):Ans:=
 callK (D 23 [.ptr a b] σ) fun u1 s2=>
 rtAgg u1 fun l3=>
 xcI .i64 l3 fun x6 l5=>
 xcS l5 fun x9 l8=>
 xcI .i64 l8 fun x12 l11=>
 rtNil l11 (
 ldK E s2 a (Nat.add b 7) fun u13=>
 rtInt .i64 u13 fun x14=>
 joinB (fun c15 s16=>
 joinB (fun c18 s19=>
 condK c18 (
 callK (D 39 [.ptr a b] s19) fun u21 s22=>
 rtAgg u21 fun l23=>
 xcI .i64 l23 fun x26 l25=>
 xcS l25 fun x29 l28=>
 xcI .i64 l28 fun x32 l31=>
 rtNil l31 (
 some ((V.bool true),s22))) (
 some ((V.bool false),s19))) fun k20=>
 condK c15 (
 k20 (BS.beq x9 c) s16) (
 k20 false s16)) fun k17=>
 condK (eqF x14 (Int.ofNat 0)) (
 joinB (fun c33 s34=>
 k17 c33 s34) fun k35=>
 condK (eqF x6 (Int.ofNat 5)) (
 k35 true s2) (
 k35 (eqF x6 (Int.ofNat 6)) s2)) (
 k17 false s2))
def F22 (N:Nat) (args:List V) (σ:H):Ans:=
 rtCons args fun x1 l2=>
 rtPtr x1 fun b3 o4=>
 xcS l2 fun x7 l6=>
 rtNil l6 (
 T22_0 E D W b3 o4 x7 σ)
def A22:XFn:=⟨31,[.ptr,.str],[(.tmp 4)],C22_0⟩
theorem FE22 (args:List V) (σ:H):runX E D W N A22 args σ=F22 E D W N args σ:=by kernel_rfl
def C23_0:XC:=(.z (.pal 2 [] 73 [y0,y5,y0]<|
.nil)
 (.seq (.draw (.m 3 0<|
.n 4 3<|
.f 5 0 4<|
.l 6 .any 5<|
.m 7 0<|
.n 8 7<|
.f 9 1 8<|
.l 10 .i 9<|
.s 11 3 6 10<|
.O 12 y6 (.load (some 3) (.t 11))<|
.op none y6 [2,12] (.store 3 (.t 2) (.t 12))<|
.nil) [0,1,3,7,0,16,48,112,255,511,1023])
 .ret))
def T23_0 (E:List (Nat × Blk)) (D:Den) (W:DrawFn) (a b:Nat) (σ:H):Ans:=
 ldK E σ a b fun u1=>
 ldK E σ a (Nat.add b 1) fun u2=>
 rtInt .i64 u2 fun x3=>
 iaddrSK 3 u1 x3 fun b4 o5=>
 ldnK E σ b4 o5 3 fun l6=>
 xcI .i64 l6 fun x9 l8=>
 xcS l8 fun x12 l11=>
 xcI .i64 l11 fun x15 l14=>
 rtNil l14 (
 some ((V.agg [.int .i64 x9,.str x12,.int .i64 x15]),σ))
def F23 (N:Nat) (args:List V) (σ:H):Ans:=
 rtCons args fun x1 l2=>
 rtPtr x1 fun b3 o4=>
 rtNil l2 (
 T23_0 E D W b3 o4 σ)
def A23:XFn:=⟨13,[.ptr],[(.cell 2 (some 3))],C23_0⟩
theorem FE23 (args:List V) (σ:H):runX E D W N A23 args σ=F23 E D W N args σ:=by kernel_rfl
def q25a:List (Nat × XTy):=[(0,.ptr),(1,.i),(5,.i),(6,.ptr)]
def C25_0 (cc1:XC) (cc2:XC):XC:=(.z (.q 4 0<|
.nil)
 (.seq (.z (.m 9 0<|
.n 10 9<|
.f 11 7 10<|
.l 12 .i 11<|
.b 13 .neq .none (.t 12) (.i 0)<|
.nil)
 (.cond (.tmp 13) (.z (.q 4 0<|
.nil)
 .ret)
 .skip))
 (.seq (.z (.m 14 0<|
.k 15 y6 23 [(.t 14)]<|
.k 16 .bool 40 [(.t 15)]<|
.P 17 (.un .not (.t 16))<|
.nil)
 (.cond (.tmp 17) (.z (.m 18 0<|
.m 19 0<|
.k 20 y6 23 [(.t 19)]<|
.k 21 y16 24 [(.t 18),(.i 7),(.t 20)]<|
.nil)
 (.z (.q 4 0<|
.nil)
 .ret))
 .skip))
 (.seq (.z (.m 22 1<|
.b 23 .gtr .none (.t 22) (.i 16)<|
.m 24 23<|
.gO 24 false (.p 25 [0,24] y13<|
.p 26 [25,24] (.nilck (.t 25))<|
.p 27 [26,24] (.faddr 2 (.t 26))<|
.p 28 [27,24] (.faddr 4 (.t 27))<|
.p 29 [28,24] (.load none (.t 28))<|
.p 30 [29,24] (.len false (.t 29))<|
.p 31 [30,24] (.bin .geq .none (.t 30) (.i 300))<|
.nil) 32 24 31<|
.nil)
 (.cond (.tmp 32) (.z (.m 33 0<|
.m 34 0<|
.k 35 y6 23 [(.t 34)]<|
.k 36 y16 24 [(.t 33),(.i 5),(.t 35)]<|
.nil)
 (.z (.q 4 0<|
.nil)
 .ret))
 .skip))
 (.z (.m 37 0<|
.n 38 37<|
.f 39 2 38<|
.f 40 4 39<|
.l 41 .any 40<|
.u 42 41<|
.m 5 42<|
.nil)
 (.z (.m 43 0<|
.m 44 0<|
.n 45 44<|
.f 46 2 45<|
.f 47 4 46<|
.l 48 .any 47<|
.op (some 49) y3 [] (.build [y0,y5,y1,y0,y0,y1,y1,y1,y1,y0,y0,V.nils,V.nils,y0,y1,y0] [])<|
.p 50 [49] (.buildSlice 111 1 [y0,y5,y1,y0,y0,y1,y1,y1,y1,y0,y0,V.nils,V.nils,y0,y1,y0] [(0,16,(.t 49))])<|
.O 51 .one (.append 111 16 144 (.t 48) (.t 50))<|
.n 52 43<|
.f 53 2 52<|
.f 54 4 53<|
.w 1 54 51<|
.nil)
 (.z (.op (some 55) y3 [] (.build [y0,y5,y1,y0,y0,y1,y1,y1,y1,y0,y0,V.nils,V.nils,y0,y1,y0] [])<|
.p 6 [] (.alloc 111 [y0,y5,y1,y0,y0,y1,y1,y1,y1,y0,y0,V.nils,V.nils,y0,y1,y0])<|
.op none y3 [6,55] (.store 16 (.t 6) (.t 55))<|
.nil)
 (.seq (.z (.m 56 0<|
.k 57 .bool 22 [(.t 56),(.con (V.str ⟨1,91⟩))]<|
.nil)
 (.cond (.tmp 57) (.z (.m 58 0<|
.k 59 y6 23 [(.t 58)]<|
.pal 7 [] 73 [y0,y5,y0]<|
.op none y6 [7,59] (.store 3 (.t 7) (.t 59))<|
.nil)
 (.z (.m 60 0<|
.k 61 .i 41 [(.t 60)]<|
.m 8 61<|
.nil)
 (.seq (.z (.m 62 0<|
.n 63 62<|
.f 64 7 63<|
.l 65 .i 64<|
.b 66 .eql .none (.t 65) (.i 0)<|
.m 67 66<|
.gA 67 true (.p 68 [8,67] y28<|
.p 69 [68,67] (.bin .lss .none (.t 68) (.i 0))<|
.p 70 [69,67] (.mov (.t 69))<|
.grp 70 false (.p 71 [8,70] y28<|
.p 72 [71,70] (.bin .gtr .none (.t 71) (.i 268435456))<|
.nil) 73 [70,72,67] (.t 70) y11 (.t 72)<|
.nil) 74 67 73<|
.nil)
 (.cond (.tmp 74) (.ops (.m 75 0<|
.O 76 y6 (.load (some 3) (.t 7))<|
.k 77 y16 24 [(.t 75),(.i 12),(.t 76)]<|
.nil))
 .skip))
 (.keep [(0,.ptr),(1,.i),(5,.i),(6,.ptr),(8,.i)] [] [] cc2))))
 .skip))
 (.keep q25a [] [] cc1)))))))))
def T25_0 (E:List (Nat × Blk)) (D:Den) (W:DrawFn) (K1:Nat→Nat→Int→Int→Nat→Nat→H→Ans) (K2:Nat→Nat→Int→Int→Nat→Nat→Int→H→Ans) (a b:Nat) (c:Int) (σ:H):Ans:=
 ldK E σ a (Nat.add b 7) fun u1=>
 rtInt .i64 u1 fun x2=>
 condK (not (eqF x2 (Int.ofNat 0))) (
 some ((V.int .i64 (Int.ofNat 0)),σ)) (
 callK (D 23 [.ptr a b] σ) fun u3 s4=>
 rtAgg u3 fun l5=>
 xcI .i64 l5 fun x8 l7=>
 xcS l7 fun x11 l10=>
 xcI .i64 l10 fun x14 l13=>
 rtNil l13 (
 callK (D 40 [.agg [.int .i64 x8,.str x11,.int .i64 x14]] s4) fun u15 s16=>
 rtBool u15 fun x17=>
 condK (not x17) (
 callK (D 23 [.ptr a b] s16) fun u18 s19=>
 rtAgg u18 fun l20=>
 xcI .i64 l20 fun x23 l22=>
 xcS l22 fun x26 l25=>
 xcI .i64 l25 fun x29 l28=>
 rtNil l28 (
 callK (D 24 [.ptr a b,.int .i64 (Int.ofNat 7),.agg [.int .i64 x23,.str x26,.int .i64 x29]] s19) fun u30 s31=>
 rtTup u30 fun l32=>
 rtNil l32 (
 some ((V.int .i64 (Int.ofNat 0)),s31)))) (
 joinB (fun c33 s34=>
 condK c33 (
 callK (D 23 [.ptr a b] s34) fun u36 s37=>
 rtAgg u36 fun l38=>
 xcI .i64 l38 fun x41 l40=>
 xcS l40 fun x44 l43=>
 xcI .i64 l43 fun x47 l46=>
 rtNil l46 (
 callK (D 24 [.ptr a b,.int .i64 (Int.ofNat 5),.agg [.int .i64 x41,.str x44,.int .i64 x47]] s37) fun u48 s49=>
 rtTup u48 fun l50=>
 rtNil l50 (
 some ((V.int .i64 (Int.ofNat 0)),s49)))) (
 ldK E s34 a (Nat.add (Nat.add b 2) 4) fun u51=>
 slenK u51 fun n52=>
 ldK E s34 a (Nat.add (Nat.add b 2) 4) fun u53=>
 let s54:=newB s34 (.cells [.int .i64 (Int.ofNat 0),.str (BS.mk 0 0),.bool false,.int .i64 (Int.ofNat 0),.int .i64 (Int.ofNat 0),.bool false,.bool false,.bool false,.bool false,.int .i64 (Int.ofNat 0),.int .i64 (Int.ofNat 0),V.nils,V.nils,.int .i64 (Int.ofNat 0),.bool false,.int .i64 (Int.ofNat 0)]);
 appK E 16 144 u53 (V.sl (H.next s34) 0 1 (.ex 1)) s54 fun u55 s56=>
 rtOne u55 (
 stK 1 a (Nat.add (Nat.add b 2) 4) u55 s56 fun s57=>
 let s58:=newB s57 (.cells [.int .i64 (Int.ofNat 0),.str ⟨0,0⟩,.bool false,.int .i64 (Int.ofNat 0),.int .i64 (Int.ofNat 0),.bool false,.bool false,.bool false,.bool false,.int .i64 (Int.ofNat 0),.int .i64 (Int.ofNat 0),V.nils,V.nils,.int .i64 (Int.ofNat 0),.bool false,.int .i64 (Int.ofNat 0)]);
 stK 16 (H.next s57) 0 (V.agg [.int .i64 (Int.ofNat 0),.str (BS.mk 0 0),.bool false,.int .i64 (Int.ofNat 0),.int .i64 (Int.ofNat 0),.bool false,.bool false,.bool false,.bool false,.int .i64 (Int.ofNat 0),.int .i64 (Int.ofNat 0),V.nils,V.nils,.int .i64 (Int.ofNat 0),.bool false,.int .i64 (Int.ofNat 0)]) s58 fun s59=>
 callK (D 22 [.ptr a b,.str (BS.mk 1 91)] s59) fun u60 s61=>
 rtBool u60 fun x62=>
 condK x62 (
 callK (D 23 [.ptr a b] s61) fun u63 s64=>
 rtAgg u63 fun l65=>
 xcI .i64 l65 fun x68 l67=>
 xcS l67 fun x71 l70=>
 xcI .i64 l70 fun x74 l73=>
 rtNil l73 (
 callK (D 41 [.ptr a b] s64) fun u75 s76=>
 rtInt .i64 u75 fun x77=>
 ldK E s76 a (Nat.add b 7) fun u78=>
 rtInt .i64 u78 fun x79=>
 joinB (fun c80 s81=>
 condK c80 (
 callK (D 24 [.ptr a b,.int .i64 (Int.ofNat 12),.agg [.int .i64 x68,.str x71,.int .i64 x74]] s81) fun u83 s84=>
 rtTup u83 fun l85=>
 rtNil l85 (
 K2 a b c (Int.ofNat n52) (H.next s57) 0 x77 s84)) (
 K2 a b c (Int.ofNat n52) (H.next s57) 0 x77 s81)) fun k82=>
 condK (eqF x79 (Int.ofNat 0)) (
 joinB (fun c86 s87=>
 k82 c86 s87) fun k88=>
 condK (ltF x77 (Int.ofNat 0)) (
 k88 true s76) (
 k88 (ltF (Int.ofNat 268435456) x77) s76)) (
 k82 false s76))) (
 K1 a b c (Int.ofNat n52) (H.next s57) 0 s61)))) fun k35=>
 condK (ltF (Int.ofNat 16) c) (
 k35 true s16) (
 ldK E s16 a (Nat.add (Nat.add b 2) 4) fun u89=>
 slenK u89 fun n90=>
 k35 (leF (Int.ofNat 300) (Int.ofNat n90)) s16))))
def C25_1:XC:=(.z (.m 91 0<|
.m 92 1<|
.k 93 y16 42 [(.t 91),(.t 6),(.t 92)]<|
.nil)
 (.seq (.z (.m 94 0<|
.n 95 94<|
.f 96 7 95<|
.l 97 .i 96<|
.b 98 .neq .none (.t 97) (.i 0)<|
.nil)
 (.cond (.tmp 98) (.z (.q 4 0<|
.nil)
 .ret)
 .skip))
 (.seq (.draw (.m 99 0<|
.n 100 99<|
.f 101 2 100<|
.f 102 4 101<|
.l 103 .any 102<|
.m 104 5<|
.O 105 y3 (.load (some 16) (.t 6))<|
.s 106 16 103 104<|
.op none y3 [106,105] (.store 16 (.t 106) (.t 105))<|
.nil) [0,1,3,7,15,0,0,127,255])
 (.z (.m 107 5<|
.m 4 107<|
.nil)
 .ret))))
def T25_1 (E:List (Nat × Blk)) (D:Den) (W:DrawFn) (a b:Nat) (c d:Int) (e f:Nat) (σ:H):Ans:=
 callK (D 42 [.ptr a b,.ptr e f,.int .i64 c] σ) fun u1 s2=>
 rtTup u1 fun l3=>
 rtNil l3 (
 ldK E s2 a (Nat.add b 7) fun u4=>
 rtInt .i64 u4 fun x5=>
 condK (not (eqF x5 (Int.ofNat 0))) (
 some ((V.int .i64 (Int.ofNat 0)),s2)) (
 ldK E s2 a (Nat.add (Nat.add b 2) 4) fun u6=>
 ldnK E s2 e f 16 fun l7=>
 xcI .i64 l7 fun x10 l9=>
 xcS l9 fun x13 l12=>
 xcB l12 fun x16 l15=>
 xcI .i64 l15 fun x19 l18=>
 xcI .i64 l18 fun x22 l21=>
 xcB l21 fun x25 l24=>
 xcB l24 fun x28 l27=>
 xcB l27 fun x31 l30=>
 xcB l30 fun x34 l33=>
 xcI .i64 l33 fun x37 l36=>
 xcI .i64 l36 fun x40 l39=>
 rtCons l39 fun x41 l42=>
 rtCons l42 fun x43 l44=>
 xcI .i64 l44 fun x47 l46=>
 xcB l46 fun x50 l49=>
 xcI .i64 l49 fun x53 l52=>
 rtNil l52 (
 iaddrSK 16 u6 d fun b54 o55=>
 stK 16 b54 o55 (V.agg [.int .i64 x10,.str x13,.bool x16,.int .i64 x19,.int .i64 x22,.bool x25,.bool x28,.bool x31,.bool x34,.int .i64 x37,.int .i64 x40,x41,x43,.int .i64 x47,.bool x50,.int .i64 x53]) s2 fun s56=>
 some ((V.int .i64 d),s56))))
def C25_2:XC:=(.z (.m 78 0<|
.k 79 y16 21 [(.t 78),(.con (V.str ⟨1,93⟩))]<|
.nil)
 (.z (.m 80 8<|
.op (some 81) (.agg [.bool,.i,.i]) [80] (.build [y1,y0,y0] [(0,1,y11),(1,1,(.t 80))])<|
.f 82 2 6<|
.op none (.agg [.bool,.i,.i]) [82,81] (.store 3 (.t 82) (.t 81))<|
.nil)
 (.z (.m 83 0<|
.k 84 .bool 22 [(.t 83),y30]<|
.nil)
 (.cond (.tmp 84) (.ops (.f 85 2 6<|
.f 86 2 85<|
.op none .any [86] (.store 1 (.t 86) (.i 1))<|
.nil))
 (.z (.m 87 0<|
.k 88 .bool 22 [(.t 87),y31]<|
.nil)
 (.cond (.tmp 88) (.ops (.f 89 2 6<|
.f 90 2 89<|
.op none .any [90] (.store 1 (.t 90) (.i 2))<|
.nil))
 .skip))))))
def T25_2 (E:List (Nat × Blk)) (D:Den) (W:DrawFn) (K1:Nat→Nat→Int→Int→Nat→Nat→H→Ans) (a b:Nat) (c d:Int) (e f:Nat) (g:Int) (σ:H):Ans:=
 callK (D 21 [.ptr a b,.str (BS.mk 1 93)] σ) fun u1 s2=>
 rtTup u1 fun l3=>
 rtNil l3 (
 stK 3 e (Nat.add f 2) (V.agg [.bool true,.int .i64 g,.int .i64 (Int.ofNat 0)]) s2 fun s4=>
 callK (D 22 [.ptr a b,.str (BS.mk 8 6073459554577832005)] s4) fun u5 s6=>
 rtBool u5 fun x7=>
 condK x7 (
 stK 1 e (Nat.add (Nat.add f 2) 2) (V.int .i64 (Int.ofNat 1)) s6 fun s8=>
 K1 a b c d e f s8) (
 callK (D 22 [.ptr a b,.str (BS.mk 8 6073459554577829193)] s6) fun u9 s10=>
 rtBool u9 fun x11=>
 condK x11 (
 stK 1 e (Nat.add (Nat.add f 2) 2) (V.int .i64 (Int.ofNat 2)) s10 fun s12=>
 K1 a b c d e f s12) (
 K1 a b c d e f s10)))
def J25_1 (E:List (Nat × Blk)) (D:Den) (W:DrawFn) (N:Nat):=T25_1 E D W
def J25_2:=T25_2 E D W (J25_1 E D W N )
def F25 (args:List V) (σ:H):Ans:=
 rtCons args fun x1 l2=>
 rtPtr x1 fun b3 o4=>
 xcI .i64 l2 fun x7 l6=>
 rtNil l6 (
 T25_0 E D W (J25_1 E D W N ) (J25_2 E D W N ) b3 o4 x7 σ)
def A25:XFn:=⟨108,[.ptr,.i],[(.tmp 4)],(C25_0 C25_1 C25_2)⟩
theorem FE25 (args:List V) (σ:H):runX E D W N A25 args σ=F25 E D W N args σ:=by kernel_rfl
def q26a:List (Nat × XTy):=[(1,.ptr),(5,.any),(12,.any),(13,.i),(14,.bool),(15,.i)]
def q26b:List (Nat × XTy):=[(1,.ptr),(5,.any),(12,.any),(13,.i),(14,.bool)]
def q26c:List (Nat × XTy):=[(1,.ptr),(5,.any),(12,.any),(13,.i)]
def q26d:List (Nat × XTy):=[(1,.ptr),(5,.any),(6,.i),(7,.i)]
def q26e:List (Nat × XTy):=[(1,.ptr),(5,.any),(6,.i),(8,.i)]
def q26f:List (Nat × XTy):=[(1,.ptr),(5,.any),(12,.any)]
def q26g:List (Nat × XTy):=[(1,.ptr),(5,.any),(11,.i)]
def q26h:List (Nat × XTy):=[(1,.ptr),(5,.any),(6,.i)]
def Fin26 (E:List (Nat × Blk)):St→Ans:=fun s=>resK E s [(.tmp 2),(.tmp 3),(.tmp 4)] fun l=>some (oneV l,s.σ)
def b26a (c0:XC) (l0:St→Ans):Nat→St→Ans:=blkK 8 (kX q26f [] [] l0) (blkK 7 (kX q26f [] [] l0) (blkK 6 (dX E D W N (.keep [(12,.any)] [] [] c0) (Fin26 E) nX (Fin26 E)) nX))
def b26b (c0 c1:XC) (l0 l1:St→Ans):St→Ans:=dX E D W N (.keep q26c [] [] c0) (kX q26c [] [] l0) (b26a E D W N c1 l1) (Fin26 E)
def b26c (c0:XC):St→Ans:=dX E D W N (.keep q26h [] [] c0) (Fin26 E) nX (Fin26 E)
def b26d (c0 c1 c2:XC) (l0 l1:St→Ans):Nat→St→Ans:=blkK 10 (dX E D W N (.keep q26b [] [] c0) (b26b E D W N c1 c2 l0 l1) (blkK 9 (b26b E D W N c1 c2 l0 l1) (b26a E D W N c2 l1)) (Fin26 E)) (blkK 9 (b26b E D W N c1 c2 l0 l1) (b26a E D W N c2 l1))
def b26e (c0:XC):Nat→St→Ans:=blkK 4 (dX E D W N (.keep [(1,.ptr),(5,.any)] [] [] c0) (Fin26 E) nX (Fin26 E)) nX
def b26f (c0:XC):Nat→St→Ans:=blkK 6 (dX E D W N (.keep [(12,.any)] [] [] c0) (Fin26 E) nX (Fin26 E)) nX
def C26_0 (cc1:XC) (cc2:XC):XC:=(.z (.P 1 (.box 51 (.t 0))<|
.c 2 V.nils<|
.q 3 0<|
.q 4 0<|
.nil)
 (.z (.c 5 V.nils<|
.nil)
 (.z (.c 6 y17<|
.nil)
 (.seq (.z (.q 7 0<|
.nil)
 (.block 0 (.loop q26d [] [] cc2)))
 (.keep q26h [] [] cc1)))))
def T26_0 (E:List (Nat × Blk)) (D:Den) (W:DrawFn) (K2:Nat→Nat→V→Int→Int→H→Ans) (a:BS) (b:Int) (c d e:V) (σ:H):Ans:=
 nbK [.str a,.int .i64 b,c,d,e] σ fun s1=>
 K2 (H.next σ) 0 V.nils (Int.negSucc 0) (Int.ofNat 0) s1
def C26_1 (cc3:XC) (cc4:XC):XC:=(.seq (.z (.q 8 0<|
.nil)
 (.block 2 (.loop q26e [] [] cc4)))
 (.keep q26h [] [] cc3))
def T26_1 (E:List (Nat × Blk)) (D:Den) (W:DrawFn) (K4:Nat→Nat→V→Int→Int→H→Ans) (a b:Nat) (c:V) (d:Int) (σ:H):Ans:=
 K4 a b c d (Int.ofNat 0) σ
def C26_2:XC:=(.seq (.z (.m 16 7<|
.f 17 2 1<|
.l 18 .any 17<|
.u 19 18<|
.b 20 .lss .none (.t 16) (.t 19)<|
.nil)
 (.cond (.tmp 20) .skip
 y21))
 (.seq (.block 1 (.seq (.draw (.f 23 2 1<|
.l 24 .any 23<|
.m 25 7<|
.p 26 [24,25] (.sliceSl 1 (.t 24) none (some (.t 25)) none)<|
.f 27 2 1<|
.l 28 .any 27<|
.m 29 7<|
.s 30 1 28 29<|
.l 31 .str 30<|
.k 32 .bool 43 [(.t 26),(.t 31)]<|
.nil) [0,1,0,7,0,16,0,112,240,511])
 (.cond (.tmp 32) (.z (.m 33 7<|
.c 2 V.nils<|
.m 3 33<|
.q 4 8<|
.nil)
 .ret)
 .skip)))
 (.ops (.m 21 7<|
.b 22 .add .none (.t 21) (.i 1)<|
.m 7 22<|
.nil))))
def T26_2 (E:List (Nat × Blk)) (D:Den) (W:DrawFn) (K1:Nat→Nat→V→Int→H→Ans) (R2:Nat→Nat→V→Int→Int→H→Ans) (a b:Nat) (c:V) (d e:Int) (σ:H):Ans:=
 ldK E σ a (Nat.add b 2) fun u1=>
 slenK u1 fun n2=>
 condK (ltF e (Int.ofNat n2)) (
 ldK E σ a (Nat.add b 2) fun u3=>
 gK (sliceV 1 u3 none (some (V.int .i64 e)) none) fun u4=>
 ldK E σ a (Nat.add b 2) fun u5=>
 iaddrSK 1 u5 e fun b6 o7=>
 ldK E σ b6 o7 fun u8=>
 rtStr u8 fun x9=>
 callK (D 43 [u4,.str x9] σ) fun u10 s11=>
 rtBool u10 fun x12=>
 condK x12 (
 some ((V.tup [V.nils,.int .i64 e,.int .i64 (Int.ofNat 8)]),s11)) (
 R2 a b c d (addF .i64 e (Int.ofNat 1)) s11)) (
 K1 a b c d σ)
def C26_3 (cc6:XC) (cc7:XC):XC:=(.seq (.z (.m 61 6<|
.b 62 .geq .none (.t 61) (.i 0)<|
.nil)
 (.cond (.tmp 62) (.z (.m 63 6<|
.c 2 V.nils<|
.m 3 63<|
.q 4 9<|
.nil)
 .ret)
 .skip))
 (.seq (.z (.q 11 0<|
.nil)
 (.block 4 (.loop q26g [] [] cc7)))
 (.keep [(1,.ptr),(5,.any)] [] [] cc6)))
def T26_3 (E:List (Nat × Blk)) (D:Den) (W:DrawFn) (K7:Nat→Nat→V→Int→H→Ans) (a b:Nat) (c:V) (d:Int) (σ:H):Ans:=
 condK (leF (Int.ofNat 0) d) (
 some ((V.tup [V.nils,.int .i64 d,.int .i64 (Int.ofNat 9)]),σ)) (
 K7 a b c (Int.ofNat 0) σ)
def C26_4 (cc5:XC):XC:=(.seq (.z (.m 34 8<|
.f 35 2 1<|
.l 36 .any 35<|
.u 37 36<|
.b 38 .lss .none (.t 34) (.t 37)<|
.nil)
 (.cond (.tmp 38) .skip
 (.exit 2)))
 (.seq (.block 3 (.seq (.draw (.O 42 y10 (.load (some 5) (.t 1))<|
.f 43 3 1<|
.l 44 .any 43<|
.m 45 8<|
.s 46 1 44 45<|
.l 47 .i 46<|
.k 48 (.tup [.any,.bool]) 44 [(.t 42),(.t 47),(.i 0),(.con V.nils)]<|
.m 41 48<|
.P 49 (.extract 0 (.t 41))<|
.P 50 (.extract 1 (.t 41))<|
.m 9 49<|
.m 10 50<|
.nil) [0,0,2,0,14,30,63,127,255,255,511,2047])
 (.z (.m 51 5<|
.m 52 9<|
.p 53 [52] (.buildSlice 28 1 [V.nils] [(0,1,(.t 52))])<|
.O 54 .one (.append 28 1 24 (.t 51) (.t 53))<|
.m 5 54<|
.nil)
 (.z (.m 55 10<|
.m 56 55<|
.gA 56 true (.p 57 [6,56] (.mov (.t 6))<|
.p 58 [57,56] (.bin .lss .none (.t 57) (.i 0))<|
.nil) 59 56 58<|
.nil)
 (.cond (.tmp 59) (.ops (.m 60 8<|
.m 6 60<|
.nil))
 .skip)))))
 (.keep q26e [] [] cc5)))
def T26_4 (E:List (Nat × Blk)) (D:Den) (W:DrawFn) (K3:Nat→Nat→V→Int→H→Ans) (K5:Nat→Nat→V→Int→Int→H→Ans) (a b:Nat) (c:V) (d e:Int) (σ:H):Ans:=
 ldK E σ a (Nat.add b 2) fun u1=>
 slenK u1 fun n2=>
 condK (ltF e (Int.ofNat n2)) (
 ldnK E σ a b 5 fun l3=>
 xcS l3 fun x6 l5=>
 xcI .i64 l5 fun x9 l8=>
 rtCons l8 fun x10 l11=>
 rtCons l11 fun x12 l13=>
 rtCons l13 fun x14 l15=>
 rtNil l15 (
 ldK E σ a (Nat.add b 3) fun u16=>
 iaddrSK 1 u16 e fun b17 o18=>
 ldK E σ b17 o18 fun u19=>
 rtInt .i64 u19 fun x20=>
 callK (D 44 [.agg [.str x6,.int .i64 x9,x10,x12,x14],.int .i64 x20,.int .i64 (Int.ofNat 0),V.nils] σ) fun u21 s22=>
 rtTup u21 fun l23=>
 rtCons l23 fun x24 l25=>
 xcB l25 fun x28 l27=>
 rtNil l27 (
 fillK [(0,1,x24)] [V.nils] fun l29=>
 chk (allOne l29) (
 let s30:=newB s22 (.cells l29);
 appK E 1 24 c (V.sl (H.next s22) 0 1 (.ex 1)) s30 fun u31 s32=>
 rtOne u31 (
 joinB (fun c33 s34=>
 condK c33 (
 K5 a b u31 e e s34) (
 K5 a b u31 d e s34)) fun k35=>
 condK x28 (
 k35 (ltF d (Int.ofNat 0)) s32) (
 k35 false s32)))))) (
 K3 a b c d σ)
def C26_5:XC:=(.ops (.m 39 8<|
.b 40 .add .none (.t 39) (.i 1)<|
.m 8 40<|
.nil))
def T26_5 (E:List (Nat × Blk)) (D:Den) (W:DrawFn) (R4:Nat→Nat→V→Int→Int→H→Ans) (a b:Nat) (c:V) (d e:Int) (σ:H):Ans:=
 R4 a b c d (addF .i64 e (Int.ofNat 1)) σ
def C26_6 (cc8:XC) (cc9:XC):XC:=(.z (.c 12 V.nils<|
.nil)
 (.seq (.block 6 (.loop q26f [] [] cc9))
 (.keep [(12,.any)] [] [] cc8)))
def T26_6 (E:List (Nat × Blk)) (D:Den) (W:DrawFn) (K9:Nat→Nat→V→V→H→Ans) (a b:Nat) (c:V) (σ:H):Ans:=
 K9 a b c V.nils σ
def C26_7:XC:=(.seq (.z (.m 64 11<|
.f 65 2 1<|
.l 66 .any 65<|
.u 67 66<|
.b 68 .lss .none (.t 64) (.t 67)<|
.nil)
 (.cond (.tmp 68) .skip
 (.exit 4)))
 (.seq (.block 5 (.z (.m 71 5<|
.m 72 11<|
.m 73 11<|
.k 74 .bool 45 [(.t 71),(.t 72),(.t 73)]<|
.nil)
 (.cond (.tmp 74) (.z (.m 75 11<|
.c 2 V.nils<|
.m 3 75<|
.q 4 10<|
.nil)
 .ret)
 .skip)))
 (.ops (.m 69 11<|
.b 70 .add .none (.t 69) (.i 1)<|
.m 11 70<|
.nil))))
def T26_7 (E:List (Nat × Blk)) (D:Den) (W:DrawFn) (K6:Nat→Nat→V→H→Ans) (R7:Nat→Nat→V→Int→H→Ans) (a b:Nat) (c:V) (d:Int) (σ:H):Ans:=
 ldK E σ a (Nat.add b 2) fun u1=>
 slenK u1 fun n2=>
 condK (ltF d (Int.ofNat n2)) (
 callK (D 45 [c,.int .i64 d,.int .i64 d] σ) fun u3 s4=>
 rtBool u3 fun x5=>
 condK x5 (
 some ((V.tup [V.nils,.int .i64 d,.int .i64 (Int.ofNat 10)]),s4)) (
 R7 a b c (addF .i64 d (Int.ofNat 1)) s4)) (
 K6 a b c σ)
def C26_8:XC:=(.z (.m 119 12<|
.m 2 119<|
.q 3 0<|
.q 4 0<|
.nil)
 .ret)
def T26_8 (E:List (Nat × Blk)) (D:Den) (W:DrawFn) (a:V) (σ:H):Ans:=
 some ((V.tup [a,.int .i64 (Int.ofNat 0),.int .i64 (Int.ofNat 0)]),σ)
def C26_9 (cc10:XC):XC:=(.seq (.z (.m 76 12<|
.u 77 76<|
.f 78 2 1<|
.l 79 .any 78<|
.u 80 79<|
.b 81 .lss .none (.t 77) (.t 80)<|
.nil)
 (.cond (.tmp 81) .skip
 (.exit 6)))
 (.block 7 (.z (.q 13 0<|
.nil)
 (.block 8 (.loop q26c [] [] cc10)))))
def T26_9 (E:List (Nat × Blk)) (D:Den) (W:DrawFn) (K8:V→H→Ans) (K10:Nat→Nat→V→V→Int→H→Ans) (a b:Nat) (c d:V) (σ:H):Ans:=
 slenK d fun n1=>
 ldK E σ a (Nat.add b 2) fun u2=>
 slenK u2 fun n3=>
 condK (ltF (Int.ofNat n1) (Int.ofNat n3)) (
 K10 a b c d (Int.ofNat 0) σ) (
 K8 d σ)
def C26_10 (cc11:XC) (cc12:XC) (cc13:XC):XC:=(.seq (.z (.m 82 13<|
.f 83 2 1<|
.l 84 .any 83<|
.u 85 84<|
.b 86 .lss .none (.t 82) (.t 85)<|
.nil)
 (.cond (.tmp 86) .skip
 (.exit 8)))
 (.seq (.block 9 (.z (.m 89 12<|
.m 90 13<|
.k 91 .bool 12 [(.t 89),(.t 90)]<|
.P 92 (.un .not (.t 91))<|
.m 14 92<|
.nil)
 (.seq (.z (.q 15 0<|
.nil)
 (.block 10 (.loop q26a [] [] cc13)))
 (.keep q26b [] [] cc12))))
 (.keep q26c [] [] cc11)))
def T26_10 (E:List (Nat × Blk)) (D:Den) (W:DrawFn) (K13:Nat→Nat→V→V→Int→Bool→Int→H→Ans) (R9:Nat→Nat→V→V→H→Ans) (a b:Nat) (c d:V) (e:Int) (σ:H):Ans:=
 ldK E σ a (Nat.add b 2) fun u1=>
 slenK u1 fun n2=>
 condK (ltF e (Int.ofNat n2)) (
 callK (D 12 [d,.int .i64 e] σ) fun u3 s4=>
 rtBool u3 fun x5=>
 K13 a b c d e (not x5) (Int.ofNat 0) s4) (
 R9 a b c d σ)
def C26_11:XC:=(.ops (.m 87 13<|
.b 88 .add .none (.t 87) (.i 1)<|
.m 13 88<|
.nil))
def T26_11 (E:List (Nat × Blk)) (D:Den) (W:DrawFn) (R10:Nat→Nat→V→V→Int→H→Ans) (a b:Nat) (c d:V) (e:Int) (σ:H):Ans:=
 R10 a b c d (addF .i64 e (Int.ofNat 1)) σ
def C26_12:XC:=(.z (.m 114 14<|
.nil)
 (.cond (.tmp 114) (.z (.m 115 12<|
.m 116 13<|
.p 117 [116] (.buildSlice 3 1 [y0] [(0,1,(.t 116))])<|
.O 118 .one (.append 3 1 8 (.t 115) (.t 117))<|
.m 12 118<|
.nil)
 (.exit 8))
 .skip))
def T26_12 (E:List (Nat × Blk)) (D:Den) (W:DrawFn) (K11:Nat→Nat→V→V→Int→H→Ans) (R9:Nat→Nat→V→V→H→Ans) (a b:Nat) (c d:V) (e:Int) (f:Bool) (σ:H):Ans:=
 condK f (
 let s1:=newB σ (.cells [.int .i64 e]);
 appK E 1 8 d (V.sl (H.next σ) 0 1 (.ex 1)) s1 fun u2 s3=>
 rtOne u2 (
 R9 a b c u2 s3)) (
 K11 a b c d e σ)
def C26_13:XC:=(.seq (.z (.m 93 15<|
.m 94 5<|
.m 95 13<|
.s 96 1 94 95<|
.l 97 .any 96<|
.u 98 97<|
.b 99 .lss .none (.t 93) (.t 98)<|
.nil)
 (.cond (.tmp 99) .skip
 (.exit 10)))
 (.seq (.block 11 (.ops (.m 102 14<|
.m 103 102<|
.gA 103 true (.p 104 [12,103] (.mov (.t 12))<|
.p 105 [5,103] (.mov (.t 5))<|
.p 106 [13,103] (.mov (.t 13))<|
.p 107 [105,106,103] (.iaddrS 1 (.t 105) (.t 106))<|
.p 108 [107,103] (.load none (.t 107))<|
.p 109 [15,103] (.mov (.t 15))<|
.p 110 [108,109,103] (.iaddrS 1 (.t 108) (.t 109))<|
.op (some 111) .i [110,103] (.load none (.t 110))<|
.op (some 112) .bool [104,111,103] (.call 12 [(.t 104),(.t 111)])<|
.nil) 113 103 112<|
.m 14 113<|
.nil)))
 (.ops (.m 100 15<|
.b 101 .add .none (.t 100) (.i 1)<|
.m 15 101<|
.nil))))
def T26_13 (E:List (Nat × Blk)) (D:Den) (W:DrawFn) (K12:Nat→Nat→V→V→Int→Bool→H→Ans) (R13:Nat→Nat→V→V→Int→Bool→Int→H→Ans) (a b:Nat) (c d:V) (e:Int) (f:Bool) (g:Int) (σ:H):Ans:=
 iaddrSK 1 c e fun b1 o2=>
 ldK E σ b1 o2 fun u3=>
 slenK u3 fun n4=>
 condK (ltF g (Int.ofNat n4)) (
 joinB (fun c5 s6=>
 R13 a b c d e c5 (addF .i64 g (Int.ofNat 1)) s6) fun k7=>
 condK f (
 iaddrSK 1 c e fun b8 o9=>
 ldK E σ b8 o9 fun u10=>
 iaddrSK 1 u10 g fun b11 o12=>
 ldK E σ b11 o12 fun u13=>
 rtInt .i64 u13 fun x14=>
 callK (D 12 [d,.int .i64 x14] σ) fun u15 s16=>
 rtBool u15 fun x17=>
 k7 x17 s16) (
 k7 false σ)) (
 K12 a b c d e f σ)
def S26_0 (a:BS) (b:Int) (c d e:V) (σ:H):St:=⟨[(0,.agg [.str a,.int .i64 b,c,d,e])],[],[],σ⟩
def S26_1 (a b:Nat) (c:V) (d:Int) (σ:H):St:=⟨[(1,.ptr a b),(5,c),(6,.int .i64 d)],[],[],σ⟩
def S26_2 (a b:Nat) (c:V) (d e:Int) (σ:H):St:=⟨[(1,.ptr a b),(5,c),(6,.int .i64 d),(7,.int .i64 e)],[],[],σ⟩
def S26_4 (a b:Nat) (c:V) (d e:Int) (σ:H):St:=⟨[(1,.ptr a b),(5,c),(6,.int .i64 d),(8,.int .i64 e)],[],[],σ⟩
def S26_6 (a b:Nat) (c:V) (σ:H):St:=⟨[(1,.ptr a b),(5,c)],[],[],σ⟩
def S26_7 (a b:Nat) (c:V) (d:Int) (σ:H):St:=⟨[(1,.ptr a b),(5,c),(11,.int .i64 d)],[],[],σ⟩
def S26_8 (a:V) (σ:H):St:=⟨[(12,a)],[],[],σ⟩
def S26_9 (a b:Nat) (c d:V) (σ:H):St:=⟨[(1,.ptr a b),(5,c),(12,d)],[],[],σ⟩
def S26_10 (a b:Nat) (c d:V) (e:Int) (σ:H):St:=⟨[(1,.ptr a b),(5,c),(12,d),(13,.int .i64 e)],[],[],σ⟩
def S26_12 (a b:Nat) (c d:V) (e:Int) (f:Bool) (σ:H):St:=⟨[(1,.ptr a b),(5,c),(12,d),(13,.int .i64 e),(14,.bool f)],[],[],σ⟩
def S26_13 (a b:Nat) (c d:V) (e:Int) (f:Bool) (g:Int) (σ:H):St:=⟨[(1,.ptr a b),(5,c),(12,d),(13,.int .i64 e),(14,.bool f),(15,.int .i64 g)],[],[],σ⟩
theorem P26_0 (cc1:XC) (cc2:XC) (a:BS) (b:Int) (c d e:V) (σ:H) :
 denC E D W N (C26_0 cc1 cc2) (S26_0 a b c d e σ) (Fin26 E) nX (Fin26 E) =
 T26_0 E D W (fun f g h i j σ=>iterK (fun rec s'=>denC E D W N cc2 s' (kX q26d [] [] rec) (blkK 0 (b26c E D W N cc1) nX) (Fin26 E)) N (S26_2 f g h i j σ)) a b c d e σ:=by kernel_rfl
theorem P26_1 (cc3:XC) (cc4:XC) (a b:Nat) (c:V) (d:Int) (σ:H) :
 denC E D W N (C26_1 cc3 cc4) (S26_1 a b c d σ) (Fin26 E) nX (Fin26 E) =
 T26_1 E D W (fun a b c d e σ=>iterK (fun rec s'=>denC E D W N cc4 s' (kX q26e [] [] rec) (blkK 2 (b26c E D W N cc3) nX) (Fin26 E)) N (S26_4 a b c d e σ)) a b c d σ:=by kernel_rfl
theorem P26_2 (cc1:XC) (li2:St→Ans) (a b:Nat) (c:V) (d e:Int) (σ:H) :
 denC E D W N (C26_2 ) (S26_2 a b c d e σ) (kX q26d [] [] li2) (blkK 0 (b26c E D W N cc1) nX) (Fin26 E) =
 T26_2 E D W (fun a b c d σ=>denC E D W N cc1 (S26_1 a b c d σ) (Fin26 E) nX (Fin26 E)) (fun a b c d e σ=>li2 (S26_2 a b c d e σ)) a b c d e σ:=by kernel_rfl
theorem P26_3 (cc6:XC) (cc7:XC) (a b:Nat) (c:V) (d:Int) (σ:H) :
 denC E D W N (C26_3 cc6 cc7) (S26_1 a b c d σ) (Fin26 E) nX (Fin26 E) =
 T26_3 E D W (fun a b c e σ=>iterK (fun rec s'=>denC E D W N cc7 s' (kX q26g [] [] rec) (b26e E D W N cc6) (Fin26 E)) N (S26_7 a b c e σ)) a b c d σ:=by kernel_rfl
theorem P26_4 (cc3:XC) (cc5:XC) (li4:St→Ans) (a b:Nat) (c:V) (d e:Int) (σ:H) :
 denC E D W N (C26_4 cc5) (S26_4 a b c d e σ) (kX q26e [] [] li4) (blkK 2 (b26c E D W N cc3) nX) (Fin26 E) =
 T26_4 E D W (fun a b c d σ=>denC E D W N cc3 (S26_1 a b c d σ) (Fin26 E) nX (Fin26 E)) (fun a b c d e σ=>denC E D W N cc5 (S26_4 a b c d e σ) (kX q26e [] [] li4) (blkK 2 (b26c E D W N cc3) nX) (Fin26 E)) a b c d e σ:=by kernel_rfl
theorem P26_5 (cc3:XC) (li4:St→Ans) (a b:Nat) (c:V) (d e:Int) (σ:H) :
 denC E D W N (C26_5 ) (S26_4 a b c d e σ) (kX q26e [] [] li4) (blkK 2 (b26c E D W N cc3) nX) (Fin26 E) =
 T26_5 E D W (fun a b c d e σ=>li4 (S26_4 a b c d e σ)) a b c d e σ:=by kernel_rfl
theorem P26_6 (cc8:XC) (cc9:XC) (a b:Nat) (c:V) (σ:H) :
 denC E D W N (C26_6 cc8 cc9) (S26_6 a b c σ) (Fin26 E) nX (Fin26 E) =
 T26_6 E D W (fun a b c d σ=>iterK (fun rec s'=>denC E D W N cc9 s' (kX q26f [] [] rec) (b26f E D W N cc8) (Fin26 E)) N (S26_9 a b c d σ)) a b c σ:=by kernel_rfl
theorem P26_7 (cc6:XC) (li7:St→Ans) (a b:Nat) (c:V) (d:Int) (σ:H) :
 denC E D W N (C26_7 ) (S26_7 a b c d σ) (kX q26g [] [] li7) (b26e E D W N cc6) (Fin26 E) =
 T26_7 E D W (fun a b c σ=>denC E D W N cc6 (S26_6 a b c σ) (Fin26 E) nX (Fin26 E)) (fun a b c d σ=>li7 (S26_7 a b c d σ)) a b c d σ:=by kernel_rfl
theorem P26_9 (cc8:XC) (cc10:XC) (li9:St→Ans) (a b:Nat) (c d:V) (σ:H) :
 denC E D W N (C26_9 cc10) (S26_9 a b c d σ) (kX q26f [] [] li9) (b26f E D W N cc8) (Fin26 E) =
 T26_9 E D W (fun d σ=>denC E D W N cc8 (S26_8 d σ) (Fin26 E) nX (Fin26 E)) (fun a b c d e σ=>iterK (fun rec s'=>denC E D W N cc10 s' (kX q26c [] [] rec) (b26a E D W N cc8 li9) (Fin26 E)) N (S26_10 a b c d e σ)) a b c d σ:=by kernel_rfl
theorem P26_10 (cc8:XC) (cc11:XC) (cc12:XC) (cc13:XC) (li9:St→Ans) (li10:St→Ans) (a b:Nat) (c d:V) (e:Int) (σ:H) :
 denC E D W N (C26_10 cc11 cc12 cc13) (S26_10 a b c d e σ) (kX q26c [] [] li10) (b26a E D W N cc8 li9) (Fin26 E) =
 T26_10 E D W (fun a b c d e f g σ=>iterK (fun rec s'=>denC E D W N cc13 s' (kX q26a [] [] rec) (b26d E D W N cc12 cc11 cc8 li10 li9) (Fin26 E)) N (S26_13 a b c d e f g σ)) (fun a b c d σ=>li9 (S26_9 a b c d σ)) a b c d e σ:=by kernel_rfl
theorem P26_11 (cc8:XC) (li9:St→Ans) (li10:St→Ans) (a b:Nat) (c d:V) (e:Int) (σ:H) :
 denC E D W N (C26_11 ) (S26_10 a b c d e σ) (kX q26c [] [] li10) (b26a E D W N cc8 li9) (Fin26 E) =
 T26_11 E D W (fun a b c d e σ=>li10 (S26_10 a b c d e σ)) a b c d e σ:=by kernel_rfl
theorem P26_12 (cc8:XC) (cc11:XC) (li9:St→Ans) (li10:St→Ans) (a b:Nat) (c d:V) (e:Int) (f:Bool) (σ:H) :
 denC E D W N (C26_12 ) (S26_12 a b c d e f σ) (b26b E D W N cc11 cc8 li10 li9) (blkK 9 (b26b E D W N cc11 cc8 li10 li9) (b26a E D W N cc8 li9)) (Fin26 E) =
 T26_12 E D W (fun a b c d e σ=>denC E D W N cc11 (S26_10 a b c d e σ) (kX q26c [] [] li10) (b26a E D W N cc8 li9) (Fin26 E)) (fun a b c d σ=>li9 (S26_9 a b c d σ)) a b c d e f σ:=by kernel_rfl
theorem P26_13 (cc8:XC) (cc11:XC) (cc12:XC) (li9:St→Ans) (li10:St→Ans) (li13:St→Ans) (a b:Nat) (c d:V) (e:Int) (f:Bool) (g:Int) (σ:H) :
 denC E D W N (C26_13 ) (S26_13 a b c d e f g σ) (kX q26a [] [] li13) (b26d E D W N cc12 cc11 cc8 li10 li9) (Fin26 E) =
 T26_13 E D W (fun a b c d e f σ=>denC E D W N cc12 (S26_12 a b c d e f σ) (b26b E D W N cc11 cc8 li10 li9) (blkK 9 (b26b E D W N cc11 cc8 li10 li9) (b26a E D W N cc8 li9)) (Fin26 E)) (fun a b c d e f g σ=>li13 (S26_13 a b c d e f g σ)) a b c d e f g σ:=by kernel_rfl
def J26_8 (E:List (Nat × Blk)) (D:Den) (W:DrawFn) (N:Nat):=T26_8 E D W
theorem JE26_8 (a:V) (σ:H) :
 denC E D W N C26_8 (S26_8 a σ) (Fin26 E) nX (Fin26 E)=J26_8 E D W N a σ:=by kernel_rfl
def J26_11 (E:List (Nat × Blk)) (D:Den) (W:DrawFn) (N:Nat) (R10:Nat→Nat→V→V→Int→H→Ans):=T26_11 E D W R10
theorem JE26_11 (li9:St→Ans) (li10:St→Ans) (a b:Nat) (c d:V) (e:Int) (σ:H) :
 denC E D W N C26_11 (S26_10 a b c d e σ) (kX q26c [] [] li10) (b26a E D W N C26_8 li9) (Fin26 E)=J26_11 E D W N (fun a b c d e σ=>li10 (S26_10 a b c d e σ)) a b c d e σ:=by
 refine(P26_11 E D W N C26_8 li9 li10 a b c d e σ).trans ?_
 kernel_rfl
def J26_12 (R9:Nat→Nat→V→V→H→Ans) (R10:Nat→Nat→V→V→Int→H→Ans):=T26_12 E D W (J26_11 E D W N R10) R9
theorem JE26_12 (li9:St→Ans) (li10:St→Ans) (a b:Nat) (c d:V) (e:Int) (f:Bool) (σ:H) :
 denC E D W N C26_12 (S26_12 a b c d e f σ) (b26b E D W N C26_11 C26_8 li10 li9) (blkK 9 (b26b E D W N C26_11 C26_8 li10 li9) (b26a E D W N C26_8 li9)) (Fin26 E)=J26_12 E D W N (fun a b c d σ=>li9 (S26_9 a b c d σ)) (fun a b c d e σ=>li10 (S26_10 a b c d e σ)) a b c d e f σ:=by
 refine(P26_12 E D W N C26_8 C26_11 li9 li10 a b c d e f σ).trans ?_
 simp only[JE26_11]
 kernel_rfl
def L26_13 (R9:Nat→Nat→V→V→H→Ans) (R10:Nat→Nat→V→V→Int→H→Ans) (n:Nat):Nat→Nat→V→V→Int→Bool→Int→H→Ans:=
 Nat.rec (fun _ _ _ _ _ _ _ _=>none) (fun _ ih=>T26_13 E D W (J26_12 E D W N R9 R10) ih) n
theorem LE26_13 (li9:St→Ans) (li10:St→Ans) (n:Nat):∀(a b:Nat) (c d:V) (e:Int) (f:Bool) (g:Int) (σ:H),
 iterK (fun rec s'=>denC E D W N C26_13 s' (kX q26a [] [] rec) (b26d E D W N C26_12 C26_11 C26_8 li10 li9) (Fin26 E)) n (S26_13 a b c d e f g σ)=L26_13 E D W N (fun a b c d σ=>li9 (S26_9 a b c d σ)) (fun a b c d e σ=>li10 (S26_10 a b c d e σ)) n a b c d e f g σ:=by
 induction n with
 | zero=>intro a b c d e f g σ;rfl
 | succ n ihn=>
  intro a b c d e f g σ
  rw[iterK_succ]
  refine(P26_13 E D W N C26_8 C26_11 C26_12 li9 li10 (iterK (fun rec s'=>denC E D W N C26_13 s' (kX q26a [] [] rec) (b26d E D W N C26_12 C26_11 C26_8 li10 li9) (Fin26 E)) n) a b c d e f g σ).trans ?_
  simp only[ihn,JE26_12]
  kernel_rfl
def L26_10 (R9:Nat→Nat→V→V→H→Ans) (n:Nat):Nat→Nat→V→V→Int→H→Ans:=
 Nat.rec (fun _ _ _ _ _ _=>none) (fun _ ih=>T26_10 E D W (L26_13 E D W N R9 ih N) R9) n
theorem LE26_10 (li9:St→Ans) (n:Nat):∀(a b:Nat) (c d:V) (e:Int) (σ:H),
 iterK (fun rec s'=>denC E D W N (C26_10 C26_11 C26_12 C26_13) s' (kX q26c [] [] rec) (b26a E D W N C26_8 li9) (Fin26 E)) n (S26_10 a b c d e σ)=L26_10 E D W N (fun a b c d σ=>li9 (S26_9 a b c d σ)) n a b c d e σ:=by
 induction n with
 | zero=>intro a b c d e σ;rfl
 | succ n ihn=>
  intro a b c d e σ
  rw[iterK_succ]
  refine(P26_10 E D W N C26_8 C26_11 C26_12 C26_13 li9 (iterK (fun rec s'=>denC E D W N (C26_10 C26_11 C26_12 C26_13) s' (kX q26c [] [] rec) (b26a E D W N C26_8 li9) (Fin26 E)) n) a b c d e σ).trans ?_
  simp only[ihn,LE26_13]
  kernel_rfl
def L26_9 (n:Nat):Nat→Nat→V→V→H→Ans:=
 Nat.rec (fun _ _ _ _ _=>none) (fun _ ih=>T26_9 E D W (J26_8 E D W N ) (L26_10 E D W N ih N)) n
theorem LE26_9 (n:Nat):∀(a b:Nat) (c d:V) (σ:H),
 iterK (fun rec s'=>denC E D W N (C26_9 (C26_10 C26_11 C26_12 C26_13)) s' (kX q26f [] [] rec) (b26f E D W N C26_8) (Fin26 E)) n (S26_9 a b c d σ)=L26_9 E D W N n a b c d σ:=by
 induction n with
 | zero=>intro a b c d σ;rfl
 | succ n ihn=>
  intro a b c d σ
  rw[iterK_succ]
  refine(P26_9 E D W N C26_8 (C26_10 C26_11 C26_12 C26_13) (iterK (fun rec s'=>denC E D W N (C26_9 (C26_10 C26_11 C26_12 C26_13)) s' (kX q26f [] [] rec) (b26f E D W N C26_8) (Fin26 E)) n) a b c d σ).trans ?_
  simp only[ihn,JE26_8,LE26_10]
  kernel_rfl
def J26_6:=T26_6 E D W (L26_9 E D W N N)
theorem JE26_6 (a b:Nat) (c:V) (σ:H) :
 denC E D W N (C26_6 C26_8 (C26_9 (C26_10 C26_11 C26_12 C26_13))) (S26_6 a b c σ) (Fin26 E) nX (Fin26 E)=J26_6 E D W N a b c σ:=by
 refine(P26_6 E D W N C26_8 (C26_9 (C26_10 C26_11 C26_12 C26_13))  a b c σ).trans ?_
 simp only[LE26_9]
 kernel_rfl
def L26_7 (n:Nat):Nat→Nat→V→Int→H→Ans:=
 Nat.rec (fun _ _ _ _ _=>none) (fun _ ih=>T26_7 E D W (J26_6 E D W N ) ih) n
theorem LE26_7 (n:Nat):∀(a b:Nat) (c:V) (d:Int) (σ:H),
 iterK (fun rec s'=>denC E D W N C26_7 s' (kX q26g [] [] rec) (b26e E D W N (C26_6 C26_8 (C26_9 (C26_10 C26_11 C26_12 C26_13)))) (Fin26 E)) n (S26_7 a b c d σ)=L26_7 E D W N n a b c d σ:=by
 induction n with
 | zero=>intro a b c d σ;rfl
 | succ n ihn=>
  intro a b c d σ
  rw[iterK_succ]
  refine(P26_7 E D W N (C26_6 C26_8 (C26_9 (C26_10 C26_11 C26_12 C26_13))) (iterK (fun rec s'=>denC E D W N C26_7 s' (kX q26g [] [] rec) (b26e E D W N (C26_6 C26_8 (C26_9 (C26_10 C26_11 C26_12 C26_13)))) (Fin26 E)) n) a b c d σ).trans ?_
  simp only[ihn,JE26_6]
  kernel_rfl
def J26_3:=T26_3 E D W (L26_7 E D W N N)
theorem JE26_3 (a b:Nat) (c:V) (d:Int) (σ:H) :
 denC E D W N (C26_3 (C26_6 C26_8 (C26_9 (C26_10 C26_11 C26_12 C26_13))) C26_7) (S26_1 a b c d σ) (Fin26 E) nX (Fin26 E)=J26_3 E D W N a b c d σ:=by
 refine(P26_3 E D W N (C26_6 C26_8 (C26_9 (C26_10 C26_11 C26_12 C26_13))) C26_7  a b c d σ).trans ?_
 simp only[LE26_7]
 kernel_rfl
def J26_5 (E:List (Nat × Blk)) (D:Den) (W:DrawFn) (N:Nat) (R4:Nat→Nat→V→Int→Int→H→Ans):=T26_5 E D W R4
theorem JE26_5 (li4:St→Ans) (a b:Nat) (c:V) (d e:Int) (σ:H) :
 denC E D W N C26_5 (S26_4 a b c d e σ) (kX q26e [] [] li4) (blkK 2 (b26c E D W N (C26_3 (C26_6 C26_8 (C26_9 (C26_10 C26_11 C26_12 C26_13))) C26_7)) nX) (Fin26 E)=J26_5 E D W N (fun a b c d e σ=>li4 (S26_4 a b c d e σ)) a b c d e σ:=by
 refine(P26_5 E D W N (C26_3 (C26_6 C26_8 (C26_9 (C26_10 C26_11 C26_12 C26_13))) C26_7) li4 a b c d e σ).trans ?_
 kernel_rfl
def L26_4 (n:Nat):Nat→Nat→V→Int→Int→H→Ans:=
 Nat.rec (fun _ _ _ _ _ _=>none) (fun _ ih=>T26_4 E D W (J26_3 E D W N ) (J26_5 E D W N ih)) n
theorem LE26_4 (n:Nat):∀(a b:Nat) (c:V) (d e:Int) (σ:H),
 iterK (fun rec s'=>denC E D W N (C26_4 C26_5) s' (kX q26e [] [] rec) (blkK 2 (b26c E D W N (C26_3 (C26_6 C26_8 (C26_9 (C26_10 C26_11 C26_12 C26_13))) C26_7)) nX) (Fin26 E)) n (S26_4 a b c d e σ)=L26_4 E D W N n a b c d e σ:=by
 induction n with
 | zero=>intro a b c d e σ;rfl
 | succ n ihn=>
  intro a b c d e σ
  rw[iterK_succ]
  refine(P26_4 E D W N (C26_3 (C26_6 C26_8 (C26_9 (C26_10 C26_11 C26_12 C26_13))) C26_7) C26_5 (iterK (fun rec s'=>denC E D W N (C26_4 C26_5) s' (kX q26e [] [] rec) (blkK 2 (b26c E D W N (C26_3 (C26_6 C26_8 (C26_9 (C26_10 C26_11 C26_12 C26_13))) C26_7)) nX) (Fin26 E)) n) a b c d e σ).trans ?_
  simp only[ihn,JE26_3,JE26_5]
  kernel_rfl
def J26_1:=T26_1 E D W (L26_4 E D W N N)
theorem JE26_1 (a b:Nat) (c:V) (d:Int) (σ:H) :
 denC E D W N (C26_1 (C26_3 (C26_6 C26_8 (C26_9 (C26_10 C26_11 C26_12 C26_13))) C26_7) (C26_4 C26_5)) (S26_1 a b c d σ) (Fin26 E) nX (Fin26 E)=J26_1 E D W N a b c d σ:=by
 refine(P26_1 E D W N (C26_3 (C26_6 C26_8 (C26_9 (C26_10 C26_11 C26_12 C26_13))) C26_7) (C26_4 C26_5)  a b c d σ).trans ?_
 simp only[LE26_4]
 kernel_rfl
def L26_2 (n:Nat):Nat→Nat→V→Int→Int→H→Ans:=
 Nat.rec (fun _ _ _ _ _ _=>none) (fun _ ih=>T26_2 E D W (J26_1 E D W N ) ih) n
theorem LE26_2 (n:Nat):∀(a b:Nat) (c:V) (d e:Int) (σ:H),
 iterK (fun rec s'=>denC E D W N C26_2 s' (kX q26d [] [] rec) (blkK 0 (b26c E D W N (C26_1 (C26_3 (C26_6 C26_8 (C26_9 (C26_10 C26_11 C26_12 C26_13))) C26_7) (C26_4 C26_5))) nX) (Fin26 E)) n (S26_2 a b c d e σ)=L26_2 E D W N n a b c d e σ:=by
 induction n with
 | zero=>intro a b c d e σ;rfl
 | succ n ihn=>
  intro a b c d e σ
  rw[iterK_succ]
  refine(P26_2 E D W N (C26_1 (C26_3 (C26_6 C26_8 (C26_9 (C26_10 C26_11 C26_12 C26_13))) C26_7) (C26_4 C26_5)) (iterK (fun rec s'=>denC E D W N C26_2 s' (kX q26d [] [] rec) (blkK 0 (b26c E D W N (C26_1 (C26_3 (C26_6 C26_8 (C26_9 (C26_10 C26_11 C26_12 C26_13))) C26_7) (C26_4 C26_5))) nX) (Fin26 E)) n) a b c d e σ).trans ?_
  simp only[ihn,JE26_1]
  kernel_rfl
def J26_0:=T26_0 E D W (L26_2 E D W N N)
theorem JE26_0 (a:BS) (b:Int) (c d e:V) (σ:H) :
 denC E D W N (C26_0 (C26_1 (C26_3 (C26_6 C26_8 (C26_9 (C26_10 C26_11 C26_12 C26_13))) C26_7) (C26_4 C26_5)) C26_2) (S26_0 a b c d e σ) (Fin26 E) nX (Fin26 E)=J26_0 E D W N a b c d e σ:=by
 refine(P26_0 E D W N (C26_1 (C26_3 (C26_6 C26_8 (C26_9 (C26_10 C26_11 C26_12 C26_13))) C26_7) (C26_4 C26_5)) C26_2  a b c d e σ).trans ?_
 simp only[LE26_2]
 kernel_rfl
def F26 (args:List V) (σ:H):Ans:=
 rtCons args fun x1 l2=>
 rtAgg x1 fun l3=>
 xcS l3 fun x6 l5=>
 xcI .i64 l5 fun x9 l8=>
 rtCons l8 fun x10 l11=>
 rtCons l11 fun x12 l13=>
 rtCons l13 fun x14 l15=>
 rtNil l15 (
 rtNil l2 (
 J26_0 E D W N x6 x9 x10 x12 x14 σ))
def A26:XFn:=⟨120,[y10],[(.tmp 2),(.tmp 3),(.tmp 4)],(C26_0 (C26_1 (C26_3 (C26_6 C26_8 (C26_9 (C26_10 C26_11 C26_12 C26_13))) C26_7) (C26_4 C26_5)) C26_2)⟩
theorem FE26 (args:List V) (σ:H):runX E D W N A26 args σ=F26 E D W N args σ:=by
 unfold F26
 simp only[←JE26_0]
 kernel_rfl
def G27_0:List AOper:=[⟨(some 26),.mov (.tmp 0),none⟩,⟨(some 27),.mov (.tmp 0),none⟩,⟨(some 28),.nilck (.tmp 27),none⟩,⟨(some 29),.faddr 0 (.tmp 28),none⟩,⟨(some 30),.faddr 3 (.tmp 29),none⟩,⟨(some 31),.load none (.tmp 30),none⟩,⟨(some 32),.mov (.tmp 0),none⟩,⟨(some 33),.nilck (.tmp 32),none⟩,⟨(some 34),.faddr 0 (.tmp 33),none⟩,⟨(some 35),.load (some 5) (.tmp 34),none⟩,⟨(some 36),.faddr 1 (.tmp 7),none⟩,⟨(some 37),.load none (.tmp 36),none⟩,⟨(some 38),.call 46 [(.tmp 35),(.tmp 37)],none⟩,⟨(some 39),.iaddrS 1 (.tmp 31) (.tmp 38),none⟩,⟨(some 40),.load none (.tmp 39),none⟩,⟨(some 41),.mov (.tmp 2),none⟩,⟨(some 42),.call 27 [(.tmp 26),(.tmp 40),(.tmp 41)],none⟩,⟨(some 8),.mov (.tmp 42),none⟩]
def H27_0:List DP:=[⟨0,[0]⟩,⟨0,[0]⟩,⟨2,[27]⟩,⟨6,[28]⟩,⟨14,[29]⟩,⟨30,[30]⟩,⟨0,[0]⟩,⟨64,[32]⟩,⟨192,[33]⟩,⟨448,[34]⟩,⟨0,[7]⟩,⟨1024,[36]⟩,⟨4032,[35,37]⟩,⟨8190,[31,38]⟩,⟨16382,[39]⟩,⟨0,[2]⟩,⟨65535,[26,40,41]⟩,⟨131071,[42]⟩]
def C27_0 (cc1:XC):XC:=(.z (.q 6 0<|
.nil)
 (.seq (.z (.m 10 0<|
.n 11 10<|
.f 12 6 11<|
.l 13 .i 12<|
.b 14 .neq .none (.t 13) (.i 0)<|
.nil)
 (.cond (.tmp 14) (.z (.q 6 0<|
.nil)
 .ret)
 .skip))
 (.z (.m 15 0<|
.n 16 15<|
.f 17 0 16<|
.f 18 4 17<|
.l 19 .any 18<|
.m 20 1<|
.s 21 16 19 20<|
.O 22 y3 (.load (some 16) (.t 21))<|
.p 7 [] (.alloc 111 [y0,y5,y1,y0,y0,y1,y1,y1,y1,y0,y0,V.nils,V.nils,y0,y1,y0])<|
.op none y3 [7,22] (.store 16 (.t 7) (.t 22))<|
.nil)
 (.z (.q 8 0<|
.nil)
 (.seq (.z (.f 23 0 7<|
.l 24 .i 23<|
.b 25 .eql .none (.t 24) (.i 11)<|
.nil)
 (.cond (.tmp 25) (.keep [(0,.ptr),(2,.i),(7,.ptr)] [] [] (.gdraw G27_0 H27_0 [(0,.ptr),(7,.ptr),(8,.i)]))
 (.ops (.m 43 0<|
.O 44 y3 (.load (some 16) (.t 7))<|
.m 45 2<|
.k 46 .i 47 [(.t 43),(.t 44),(.t 45)]<|
.m 8 46<|
.nil))))
 (.keep [(0,.ptr),(7,.ptr),(8,.i)] [] [] cc1))))))
def T27_0 (K1:Nat→Nat→Nat→Nat→Int→H→Ans) (a b:Nat) (c d:Int) (σ:H):Ans:=
 ldK E σ a (Nat.add b 6) fun u1=>
 rtInt .i64 u1 fun x2=>
 condK (not (eqF x2 (Int.ofNat 0))) (
 some ((V.int .i64 (Int.ofNat 0)),σ)) (
 ldK E σ a (Nat.add b 4) fun u3=>
 iaddrSK 16 u3 c fun b4 o5=>
 ldnK E σ b4 o5 16 fun l6=>
 xcI .i64 l6 fun x9 l8=>
 xcS l8 fun x12 l11=>
 xcB l11 fun x15 l14=>
 xcI .i64 l14 fun x18 l17=>
 xcI .i64 l17 fun x21 l20=>
 xcB l20 fun x24 l23=>
 xcB l23 fun x27 l26=>
 xcB l26 fun x30 l29=>
 xcB l29 fun x33 l32=>
 xcI .i64 l32 fun x36 l35=>
 xcI .i64 l35 fun x39 l38=>
 rtCons l38 fun x40 l41=>
 rtCons l41 fun x42 l43=>
 xcI .i64 l43 fun x46 l45=>
 xcB l45 fun x49 l48=>
 xcI .i64 l48 fun x52 l51=>
 rtNil l51 (
 let s53:=newB σ (.cells [.int .i64 (Int.ofNat 0),.str ⟨0,0⟩,.bool false,.int .i64 (Int.ofNat 0),.int .i64 (Int.ofNat 0),.bool false,.bool false,.bool false,.bool false,.int .i64 (Int.ofNat 0),.int .i64 (Int.ofNat 0),V.nils,V.nils,.int .i64 (Int.ofNat 0),.bool false,.int .i64 (Int.ofNat 0)]);
 stK 16 (H.next σ) 0 (V.agg [.int .i64 x9,.str x12,.bool x15,.int .i64 x18,.int .i64 x21,.bool x24,.bool x27,.bool x30,.bool x33,.int .i64 x36,.int .i64 x39,x40,x42,.int .i64 x46,.bool x49,.int .i64 x52]) s53 fun s54=>
 ldK E s54 (H.next σ) 0 fun u55=>
 rtInt .i64 u55 fun x56=>
 condK (eqF x56 (Int.ofNat 11)) (
 gdrawK (W G27_0 H27_0 [(0,.ptr a b),(2,.int .i64 d),(7,.ptr (H.next σ) 0)] s54) fun e57 s58=>
 getL e57 0 fun u59=>
 rtPtr u59 fun b60 o61=>
 getL e57 7 fun u62=>
 rtPtr u62 fun b63 o64=>
 getL e57 8 fun u65=>
 rtInt .i64 u65 fun x66=>
 K1 b60 o61 b63 o64 x66 s58) (
 ldnK E s54 (H.next σ) 0 16 fun l67=>
 xcI .i64 l67 fun x70 l69=>
 xcS l69 fun x73 l72=>
 xcB l72 fun x76 l75=>
 xcI .i64 l75 fun x79 l78=>
 xcI .i64 l78 fun x82 l81=>
 xcB l81 fun x85 l84=>
 xcB l84 fun x88 l87=>
 xcB l87 fun x91 l90=>
 xcB l90 fun x94 l93=>
 xcI .i64 l93 fun x97 l96=>
 xcI .i64 l96 fun x100 l99=>
 rtCons l99 fun x101 l102=>
 rtCons l102 fun x103 l104=>
 xcI .i64 l104 fun x107 l106=>
 xcB l106 fun x110 l109=>
 xcI .i64 l109 fun x113 l112=>
 rtNil l112 (
 callK (D 47 [.ptr a b,.agg [.int .i64 x70,.str x73,.bool x76,.int .i64 x79,.int .i64 x82,.bool x85,.bool x88,.bool x91,.bool x94,.int .i64 x97,.int .i64 x100,x101,x103,.int .i64 x107,.bool x110,.int .i64 x113],.int .i64 d] s54) fun u114 s115=>
 rtInt .i64 u114 fun x116=>
 K1 a b (H.next σ) 0 x116 s115))))
def C27_1 (cc2:XC) (cc3:XC):XC:=(.seq (.z (.m 47 0<|
.n 48 47<|
.f 49 6 48<|
.l 50 .i 49<|
.b 51 .eql .none (.t 50) (.i 0)<|
.m 52 51<|
.gA 52 true (.p 53 [7,52] (.faddr 2 (.t 7))<|
.p 54 [53,52] (.faddr 0 (.t 53))<|
.op (some 55) .bool [54,52] (.load none (.t 54))<|
.nil) 56 52 55<|
.nil)
 (.cond (.tmp 56) (.z (.q 9 0<|
.nil)
 (.seq (.block 0 (.z (.f 58 2 7<|
.f 59 2 58<|
.l 60 .i 59<|
.b 61 .eql .none (.t 60) (.i 2)<|
.m 57 61<|
.nil)
 (.cond (.tmp 57) (.ops (.q 9 1<|
.nil))
 (.z (.f 63 2 7<|
.f 64 2 63<|
.l 65 .i 64<|
.b 66 .eql .none (.t 65) (.i 0)<|
.m 67 66<|
.gA 67 true (.p 68 [0,67] y13<|
.p 69 [68,67] (.nilck (.t 68))<|
.p 70 [69,67] (.faddr 0 (.t 69))<|
.p 71 [70,67] (.faddr 1 (.t 70))<|
.op (some 72) .i [71,67] (.load none (.t 71))<|
.p 73 [72,67] (.bin .neq .none (.t 72) (.i 0))<|
.nil) 74 67 73<|
.m 62 74<|
.nil)
 (.cond (.tmp 62) (.ops (.m 75 0<|
.m 76 8<|
.k 77 .i 48 [(.t 75),(.t 76)]<|
.m 9 77<|
.nil))
 .skip)))))
 (.keep [(0,.ptr),(7,.ptr),(8,.i),(9,.i)] [] [] cc3)))
 .skip))
 (.keep [(8,.i)] [] [] cc2))
def T27_1 (E:List (Nat × Blk)) (D:Den) (W:DrawFn) (K2:Int→H→Ans) (K3:Nat→Nat→Nat→Nat→Int→Int→H→Ans) (a b c d:Nat) (e:Int) (σ:H):Ans:=
 ldK E σ a (Nat.add b 6) fun u1=>
 rtInt .i64 u1 fun x2=>
 joinB (fun c3 s4=>
 condK c3 (
 ldK E s4 c (Nat.add (Nat.add d 2) 2) fun u6=>
 rtInt .i64 u6 fun x7=>
 condK (eqF x7 (Int.ofNat 2)) (
 K3 a b c d e (Int.ofNat 1) s4) (
 ldK E s4 c (Nat.add (Nat.add d 2) 2) fun u8=>
 rtInt .i64 u8 fun x9=>
 joinB (fun c10 s11=>
 condK c10 (
 callK (D 48 [.ptr a b,.int .i64 e] s11) fun u13 s14=>
 rtInt .i64 u13 fun x15=>
 K3 a b c d e x15 s14) (
 K3 a b c d e (Int.ofNat 0) s11)) fun k12=>
 condK (eqF x9 (Int.ofNat 0)) (
 ldK E s4 a (Nat.add b 1) fun u16=>
 rtInt .i64 u16 fun x17=>
 k12 (not (eqF x17 (Int.ofNat 0))) s4) (
 k12 false s4))) (
 K2 e s4)) fun k5=>
 condK (eqF x2 (Int.ofNat 0)) (
 ldK E σ c (Nat.add d 2) fun u18=>
 rtBool u18 fun x19=>
 k5 x19 σ) (
 k5 false σ)
def C27_2:XC:=(.z (.m 85 8<|
.m 6 85<|
.nil)
 .ret)
def T27_2 (E:List (Nat × Blk)) (D:Den) (W:DrawFn) (a:Int) (σ:H):Ans:=
 some ((V.int .i64 a),σ)
def C27_3:XC:=(.ops (.m 78 0<|
.m 79 8<|
.f 80 2 7<|
.f 81 1 80<|
.l 82 .i 81<|
.m 83 9<|
.k 84 y16 49 [(.t 78),(.t 79),(.t 82),(.t 83)]<|
.nil))
def T27_3 (E:List (Nat × Blk)) (D:Den) (W:DrawFn) (K2:Int→H→Ans) (a b c d:Nat) (e f:Int) (σ:H):Ans:=
 ldK E σ c (Nat.add (Nat.add d 2) 1) fun u1=>
 rtInt .i64 u1 fun x2=>
 callK (D 49 [.ptr a b,.int .i64 e,.int .i64 x2,.int .i64 f] σ) fun u3 s4=>
 rtTup u3 fun l5=>
 rtNil l5 (
 K2 e s4)
def J27_2 (E:List (Nat × Blk)) (D:Den) (W:DrawFn) (N:Nat):=T27_2 E D W
def J27_3:=T27_3 E D W (J27_2 E D W N )
def J27_1:=T27_1 E D W (J27_2 E D W N ) (J27_3 E D W N )
def F27 (args:List V) (σ:H):Ans:=
 rtCons args fun x1 l2=>
 rtPtr x1 fun b3 o4=>
 xcI .i64 l2 fun x7 l6=>
 xcI .i64 l6 fun x10 l9=>
 rtNil l9 (
 T27_0 E D W (J27_1 E D W N ) b3 o4 x7 x10 σ)
def A27:XFn:=⟨86,[.ptr,.i,.i],[(.tmp 6)],(C27_0 (C27_1 C27_2 C27_3))⟩
theorem FE27 (args:List V) (σ:H):runX E D W N A27 args σ=F27 E D W N args σ:=by kernel_rfl
def q28a:List (Nat × XTy):=[(0,(.int .u64)),(3,.any)]
def Fin28 (E:List (Nat × Blk)):St→Ans:=fun s=>resK E s [(.tmp 2)] fun l=>some (oneV l,s.σ)
def b28a (c0:XC):Nat→St→Ans:=blkK 0 (dX E D W N (.keep [(3,.any)] [] [] c0) (Fin28 E) nX (Fin28 E)) nX
def C28_0 (cc1:XC) (cc2:XC):XC:=(.z (.c 2 V.nils<|
.nil)
 (.z (.m 4 0<|
.b 5 .and .none (.t 4) (.con (V.int .u64 (Int.ofNat 127)))<|
.P 6 (.conv (.toInt .u8) (.t 5))<|
.p 7 [6] (.buildSlice 5 1 [y8] [(0,1,(.t 6))])<|
.m 3 7<|
.nil)
 (.seq (.block 0 (.loop q28a [] [] cc2))
 (.keep [(3,.any)] [] [] cc1))))
def T28_0 (E:List (Nat × Blk)) (D:Den) (W:DrawFn) (K2:Int→V→H→Ans) (a:Int) (σ:H):Ans:=
 let s1:=newB σ (.cells [.int .u8 (wrapF .u8 (andF .u64 a (Int.ofNat 127)))]);
 K2 a (V.sl (H.next σ) 0 1 (.ex 1)) s1
def C28_1:XC:=(.z (.m 19 3<|
.m 2 19<|
.nil)
 .ret)
def T28_1 (E:List (Nat × Blk)) (D:Den) (W:DrawFn) (a:V) (σ:H):Ans:=
 some (a,σ)
def C28_2:XC:=(.seq (.z (.m 8 0<|
.b 9 .gtr .none (.t 8) (.con (V.int .u64 (Int.ofNat 127)))<|
.nil)
 y18)
 (.block 1 (.z (.m 10 0<|
.b 11 .shr .none (.t 10) (.con (V.int .u64 (Int.ofNat 7)))<|
.m 0 11<|
.nil)
 (.ops (.m 12 0<|
.b 13 .and .none (.t 12) (.con (V.int .u64 (Int.ofNat 127)))<|
.P 14 (.conv (.toInt .u8) (.t 13))<|
.b 15 .or .none (.t 14) y20<|
.p 16 [15] (.buildSlice 5 1 [y8] [(0,1,(.t 15))])<|
.m 17 3<|
.O 18 .one (.append 5 1 1 (.t 16) (.t 17))<|
.m 3 18<|
.nil)))))
def T28_2 (E:List (Nat × Blk)) (D:Den) (W:DrawFn) (K1:V→H→Ans) (R2:Int→V→H→Ans) (a:Int) (b:V) (σ:H):Ans:=
 condK (ltF (Int.ofNat 127) a) (
 let s1:=newB σ (.cells [.int .u8 (orF .u8 (wrapF .u8 (andF .u64 (shrF .u64 a 7) (Int.ofNat 127))) (Int.ofNat 128))]);
 appK E 1 1 (V.sl (H.next σ) 0 1 (.ex 1)) b s1 fun u2 s3=>
 rtOne u2 (
 R2 (shrF .u64 a 7) u2 s3)) (
 K1 b σ)
def S28_0 (a:Int) (σ:H):St:=⟨[(0,.int .u64 a)],[],[],σ⟩
def S28_1 (a:V) (σ:H):St:=⟨[(3,a)],[],[],σ⟩
def S28_2 (a:Int) (b:V) (σ:H):St:=⟨[(0,.int .u64 a),(3,b)],[],[],σ⟩
theorem P28_0 (cc1:XC) (cc2:XC) (a:Int) (σ:H) :
 denC E D W N (C28_0 cc1 cc2) (S28_0 a σ) (Fin28 E) nX (Fin28 E) =
 T28_0 E D W (fun a b σ=>iterK (fun rec s'=>denC E D W N cc2 s' (kX q28a [] [] rec) (b28a E D W N cc1) (Fin28 E)) N (S28_2 a b σ)) a σ:=by kernel_rfl
theorem P28_2 (cc1:XC) (li2:St→Ans) (a:Int) (b:V) (σ:H) :
 denC E D W N (C28_2 ) (S28_2 a b σ) (kX q28a [] [] li2) (b28a E D W N cc1) (Fin28 E) =
 T28_2 E D W (fun b σ=>denC E D W N cc1 (S28_1 b σ) (Fin28 E) nX (Fin28 E)) (fun a b σ=>li2 (S28_2 a b σ)) a b σ:=by kernel_rfl
def J28_1 (E:List (Nat × Blk)) (D:Den) (W:DrawFn) (N:Nat):=T28_1 E D W
theorem JE28_1 (a:V) (σ:H) :
 denC E D W N C28_1 (S28_1 a σ) (Fin28 E) nX (Fin28 E)=J28_1 E D W N a σ:=by kernel_rfl
def L28_2 (n:Nat):Int→V→H→Ans:=
 Nat.rec (fun _ _ _=>none) (fun _ ih=>T28_2 E D W (J28_1 E D W N ) ih) n
theorem LE28_2 (n:Nat):∀(a:Int) (b:V) (σ:H),
 iterK (fun rec s'=>denC E D W N C28_2 s' (kX q28a [] [] rec) (b28a E D W N C28_1) (Fin28 E)) n (S28_2 a b σ)=L28_2 E D W N n a b σ:=by
 induction n with
 | zero=>intro a b σ;rfl
 | succ n ihn=>
  intro a b σ
  rw[iterK_succ]
  refine(P28_2 E D W N C28_1 (iterK (fun rec s'=>denC E D W N C28_2 s' (kX q28a [] [] rec) (b28a E D W N C28_1) (Fin28 E)) n) a b σ).trans ?_
  simp only[ihn,JE28_1]
  kernel_rfl
def J28_0:=T28_0 E D W (L28_2 E D W N N)
theorem JE28_0 (a:Int) (σ:H) :
 denC E D W N (C28_0 C28_1 C28_2) (S28_0 a σ) (Fin28 E) nX (Fin28 E)=J28_0 E D W N a σ:=by
 refine(P28_0 E D W N C28_1 C28_2  a σ).trans ?_
 simp only[LE28_2]
 kernel_rfl
def F28 (args:List V) (σ:H):Ans:=
 xcI .u64 args fun x3 l2=>
 rtNil l2 (
 J28_0 E D W N x3 σ)
def A28:XFn:=⟨20,[(.int .u64)],[(.tmp 2)],(C28_0 C28_1 C28_2)⟩
theorem FE28 (args:List V) (σ:H):runX E D W N A28 args σ=F28 E D W N args σ:=by
 unfold F28
 simp only[←JE28_0]
 kernel_rfl
def q29a:List (Nat × XTy):=[(0,(.int .u64)),(3,.any)]
def Fin29 (E:List (Nat × Blk)):St→Ans:=fun s=>resK E s [(.tmp 2)] fun l=>some (oneV l,s.σ)
def b29a (c0:XC):Nat→St→Ans:=blkK 0 (dX E D W N (.keep [(3,.any)] [] [] c0) (Fin29 E) nX (Fin29 E)) nX
def C29_0 (cc1:XC) (cc2:XC):XC:=(.z (.c 2 V.nils<|
.nil)
 (.z (.m 4 0<|
.P 5 (.conv (.toInt .u8) (.t 4))<|
.p 6 [5] (.buildSlice 5 1 [y8] [(0,1,(.t 5))])<|
.m 3 6<|
.nil)
 (.seq (.block 0 (.loop q29a [] [] cc2))
 (.keep [(3,.any)] [] [] cc1))))
def T29_0 (E:List (Nat × Blk)) (D:Den) (W:DrawFn) (K2:Int→V→H→Ans) (a:Int) (σ:H):Ans:=
 let s1:=newB σ (.cells [.int .u8 (wrapF .u8 a)]);
 K2 a (V.sl (H.next σ) 0 1 (.ex 1)) s1
def C29_1:XC:=(.z (.m 16 3<|
.m 2 16<|
.nil)
 .ret)
def T29_1 (E:List (Nat × Blk)) (D:Den) (W:DrawFn) (a:V) (σ:H):Ans:=
 some (a,σ)
def C29_2:XC:=(.seq (.z (.m 7 0<|
.b 8 .gtr .none (.t 7) (.con (V.int .u64 (Int.ofNat 255)))<|
.nil)
 (.cond (.tmp 8) .skip
 y21))
 (.block 1 (.z (.m 9 0<|
.b 10 .shr .none (.t 9) (.con (V.int .u64 (Int.ofNat 8)))<|
.m 0 10<|
.nil)
 (.ops (.m 11 0<|
.P 12 (.conv (.toInt .u8) (.t 11))<|
.p 13 [12] (.buildSlice 5 1 [y8] [(0,1,(.t 12))])<|
.m 14 3<|
.O 15 .one (.append 5 1 1 (.t 13) (.t 14))<|
.m 3 15<|
.nil)))))
def T29_2 (E:List (Nat × Blk)) (D:Den) (W:DrawFn) (K1:V→H→Ans) (R2:Int→V→H→Ans) (a:Int) (b:V) (σ:H):Ans:=
 condK (ltF (Int.ofNat 255) a) (
 let s1:=newB σ (.cells [.int .u8 (wrapF .u8 (shrF .u64 a 8))]);
 appK E 1 1 (V.sl (H.next σ) 0 1 (.ex 1)) b s1 fun u2 s3=>
 rtOne u2 (
 R2 (shrF .u64 a 8) u2 s3)) (
 K1 b σ)
def S29_0 (a:Int) (σ:H):St:=⟨[(0,.int .u64 a)],[],[],σ⟩
def S29_1 (a:V) (σ:H):St:=⟨[(3,a)],[],[],σ⟩
def S29_2 (a:Int) (b:V) (σ:H):St:=⟨[(0,.int .u64 a),(3,b)],[],[],σ⟩
theorem P29_0 (cc1:XC) (cc2:XC) (a:Int) (σ:H) :
 denC E D W N (C29_0 cc1 cc2) (S29_0 a σ) (Fin29 E) nX (Fin29 E) =
 T29_0 E D W (fun a b σ=>iterK (fun rec s'=>denC E D W N cc2 s' (kX q29a [] [] rec) (b29a E D W N cc1) (Fin29 E)) N (S29_2 a b σ)) a σ:=by kernel_rfl
theorem P29_2 (cc1:XC) (li2:St→Ans) (a:Int) (b:V) (σ:H) :
 denC E D W N (C29_2 ) (S29_2 a b σ) (kX q29a [] [] li2) (b29a E D W N cc1) (Fin29 E) =
 T29_2 E D W (fun b σ=>denC E D W N cc1 (S29_1 b σ) (Fin29 E) nX (Fin29 E)) (fun a b σ=>li2 (S29_2 a b σ)) a b σ:=by kernel_rfl
def J29_1 (E:List (Nat × Blk)) (D:Den) (W:DrawFn) (N:Nat):=T29_1 E D W
theorem JE29_1 (a:V) (σ:H) :
 denC E D W N C29_1 (S29_1 a σ) (Fin29 E) nX (Fin29 E)=J29_1 E D W N a σ:=by kernel_rfl
def L29_2 (n:Nat):Int→V→H→Ans:=
 Nat.rec (fun _ _ _=>none) (fun _ ih=>T29_2 E D W (J29_1 E D W N ) ih) n
theorem LE29_2 (n:Nat):∀(a:Int) (b:V) (σ:H),
 iterK (fun rec s'=>denC E D W N C29_2 s' (kX q29a [] [] rec) (b29a E D W N C29_1) (Fin29 E)) n (S29_2 a b σ)=L29_2 E D W N n a b σ:=by
 induction n with
 | zero=>intro a b σ;rfl
 | succ n ihn=>
  intro a b σ
  rw[iterK_succ]
  refine(P29_2 E D W N C29_1 (iterK (fun rec s'=>denC E D W N C29_2 s' (kX q29a [] [] rec) (b29a E D W N C29_1) (Fin29 E)) n) a b σ).trans ?_
  simp only[ihn,JE29_1]
  kernel_rfl
def J29_0:=T29_0 E D W (L29_2 E D W N N)
theorem JE29_0 (a:Int) (σ:H) :
 denC E D W N (C29_0 C29_1 C29_2) (S29_0 a σ) (Fin29 E) nX (Fin29 E)=J29_0 E D W N a σ:=by
 refine(P29_0 E D W N C29_1 C29_2  a σ).trans ?_
 simp only[LE29_2]
 kernel_rfl
def F29 (args:List V) (σ:H):Ans:=
 xcI .u64 args fun x3 l2=>
 rtNil l2 (
 J29_0 E D W N x3 σ)
def A29:XFn:=⟨17,[(.int .u64)],[(.tmp 2)],(C29_0 C29_1 C29_2)⟩
theorem FE29 (args:List V) (σ:H):runX E D W N A29 args σ=F29 E D W N args σ:=by
 unfold F29
 simp only[←JE29_0]
 kernel_rfl
end
end Go.Proofs.YtgblfbajgpboiaaGreatDoor
