/- What the last text leans on, part 7 of 7: merged out of smaller texts. No condition. -/
import Derived.Test.YtgjjnbddbbhloaaGreatDoorChecked
import Derived.Test.YtgjjnbddbbhloaaGreatDoorCards
import Derived.KernelRfl
import Derived.Test.YtgjjnbddbbhloaaGreatDoorQ5
set_option linter.all false
set_option maxRecDepth 100000
namespace Go.Proofs.YtgjjnbddbbhloaaGreatDoor
open Go Go.Og
noncomputable section
def Zo (v:V):Prop:=v = .nils∨∃b n c,v = .sl b 0 n c
theorem Dst.zo {σ:H} {esz k:Nat} {v:V} {l:List V} (h:Dst σ esz k v l):Zo v:=by
 rcases h with (⟨_,e,_⟩|⟨b,e,_⟩)|⟨b,e,_⟩
 ·exact .inl e
 ·exact .inr ⟨_,_,_,e⟩
 ·exact .inr ⟨_,_,_,e⟩
structure TbS (n0:Nat) (σ:H) (az:List (List Nat)) (rs:List Nat) (tl:List TyS) (u rv lv:V):Prop where
 n:Src σ 1 az.length u (stC az)
 r:Src σ 1 rs.length rv (ksC rs)
 t:∃ws:List (V × V × V),Src σ 13 tl.length lv (tyCs tl ws)∧ws.length=tl.length∧∀(k:Nat) (t:TyS) (w:V × V × V),tl[k]? = some t→ws[k]? = some w→Src σ 2 t.tags.length w.1 (tgC t.tags)∧Src σ 3 t.items.length w.2.1 (itC t.items)∧Src σ 11 t.fields.length w.2.2 (fdC t.fields)∧∀b,(Names w.1 b∨Names w.2.1 b∨Names w.2.2 b)→n0≤b
 f:∀b,(Names u b∨Names rv b∨Names lv b)→n0≤b
 z:Zo lv
def rootsP (T:NodT):List Nat→List TyS→List Nat→Option (List Nat × List TyS)
 | [],tl,rs=>some (rs,tl)
 | k::ks,tl,rs=>(T 0 k tl).bind fun r=>rootsP T ks r.2 (rs++[r.1])
def tbC (nm:List Nat) (u rv lv:V):List V:=[.str (ofN nm),u,rv,lv]
def SpMake (m:ModS) (T:NodT) (F:List V→H→Ans):Prop:=∀(σ:H) (nv tv dv:V) (rs:List Nat) (tl:List TyS),Tidy σ→MdS σ m nv tv dv→rootsP T m.ks [] []=some (rs,tl) →
 ∃u rv lv σ',F [.agg (mdC m nv tv dv)] σ=some (.tup [.agg (tbC m.nm u rv lv),.int .i64 (Int.ofNat 0),.int .i64 (Int.ofNat 0)],σ')∧TbS σ.next σ' m.az rs tl u rv lv∧Fr Nowhere σ σ'
section
variable {E:List (Nat × Blk)} {D:Den} {N:Nat}
theorem make_L {m:ModS} {T:NodT} (hm:MdOk m) (hT:SpMnode m T (D 64)) {σ0 σ5:H} {cb rb xb tb:Nat} {nv tv dv u:V} (ht0:Tidy σ0) (hs0:MdS σ0 m nv tv dv) (ht5:Tidy σ5) (hc5:Atc σ5 cb (mdC m nv tv dv)) (hr5:Atc σ5 rb [.str (BS.mk 0 0),.nils,.nils,.nils]) (hu5:Dst σ5 1 m.az.length u (stC m.az)) (l05:σ0.next≤σ5.next)
  (cx:cb≠xb) (ct:cb≠tb) (rx:rb≠xb) (rt:rb≠tb) (ux:∀b,Names u b→b≠xb∧b≠tb∧b≠rb∧σ0.next≤b) (x5:xb<σ5.next) (t5:tb<σ5.next) (t0:σ0.next≤tb) (r0:σ0.next≤rb):∀(ks:List Nat) (i k:Nat) {σ:H} {lv rv:V} {tl tl':List TyS} {rs rs':List Nat},m.ks.drop i=ks→i+ks.length=m.az.length→ks.length<k→rs.length=i →
  Mk σ0 σ xb m nv tv dv tl lv (fun b=>b=tb∨Names rv b∨(b=rb∨b<σ0.next))→Atc σ tb [.str (ofN m.nm),u,rv,.nils]→Dst σ 1 rs.length rv (ksC rs)→(∀b,Names lv b→σ5.next≤b)→(∀b,Names rv b→σ5.next≤b)→Fr (fun b=>b=xb∨b=tb) σ5 σ→rootsP T ks tl rs=some (rs',tl') →
  ∃rv' lv' σ',L35_2 E D (drawW E D) N k cb 0 rb 0 xb 0 tb 0 (Int.ofNat i) σ=some (.tup [.agg (tbC m.nm u rv' lv'),.int .i64 (Int.ofNat 0),.int .i64 (Int.ofNat 0)],σ')∧TbS σ0.next σ' m.az rs' tl' u rv' lv'∧Fr (fun b=>b=xb∨b=tb∨b=rb) σ5 σ':=by
 have hfew:=hm.few.2
 have hc_lt:=hc5.lt ht5
 have hr_lt:=hr5.lt ht5
 intro ks
 induction ks with
 | nil=>
  intro i k σ lv rv tl tl' rs rs' hk hi hn hrs h ht hr ll rl f hp
  obtain⟨k,rfl⟩:∃j,k=j+1:=⟨k-1,by omega⟩
  cases hp
  have hti:=h.ht
  have hc:=f.at_ hc5 ht5 (fun e=>e.elim cx ct)
  have hrb:=f.at_ hr5 ht5 (fun e=>e.elim rx rt)
  have hu:=hu5.fr f ht5 (fun b hb e=>e.elim (ux b hb).1 (ux b hb).2.1)
  have sl:∀κ:Nat→Ans,slenK nv κ=κ m.az.length:=fun κ=>hs0.n.slen
  have d1:decide (i<m.az.length)=false:=decide_eq_false (by simp only[List.length_nil]at hi;omega)
  obtain⟨ws,h1,h2,h3⟩:=h.w
  obtain⟨σa,ga,fa,aa⟩:=stz (off:=3) (y:=lv) hti ht h1.one (show 3<4 by decide)
  have aa:Atc σa tb (tbC m.nm u rv lv):=aa
  have hra:=fa.at_ hrb hti (by omega)
  obtain⟨σb,eb,fb,ab⟩:=mkS fa.tidy hra (tbC m.nm u rv lv)
  have ho:allOne (tbC m.nm u rv lv)=true:=by
   unfold tbC
   simp only[allOne_cons,allOne_nil,one_str,hu.one,hr.one,h1.one,Bool.and_true]
  have gb:∀κ:H→Ans,stK 4 rb 0 (.agg (tbC m.nm u rv lv)) σa κ=κ σb:=fun κ=>by
   rw[stK_at hra (by
    rw[cells_agg,ho]
    rfl),cells_agg]
   show κ (setF σa rb (.cells (tbC m.nm u rv lv)))=_
   rw[eb]
  have hx:=h.a
  have fab:Fr (fun b=>b=tb∨b=rb) σ σb:=(fa.mono (fun _ _ e => .inl e):Fr (fun b=>b=tb∨b=rb) σ σa).trans fb (fun _ _ e => .inr e)
  refine⟨rv,lv,σb,?_,⟨(hu.fr fab hti (fun b hb e=>e.elim (ux b hb).2.1 (ux b hb).2.2.1)).src,(hr.fr fab hti (fun b hb e=>by have:=rl b hb;omega)).src,⟨ws,(h1.fr fab hti (fun b hb e=>by have:=ll b hb;omega)).src,h2,fun j t w hj hw=>?_⟩,fun b hb=>?_,Dst.zo h1⟩,(f.mono (fun _ _ e=>e.imp id .inl):Fr (fun b=>b=xb∨b=tb∨b=rb) σ5 σ).trans fab (fun b _ e => .inr e)⟩
  ·unfold mdC at hc
   unfold mkC at hx
   unfold tbC at aa ab gb ⊢
   have sub:∀κ:List V→Ans,subK [.str (ofN m.nm),u,rv,lv] 0 4 κ=κ [.str (ofN m.nm),u,rv,lv]:=fun κ=>by
    rw[subK_of (by simp)];rfl
   have o1:=hu.one
   have o2:=hr.one
   have o3:=h1.one
   show T35_2 E D (drawW E D) (T35_1 E D (drawW E D)) _ cb 0 rb 0 xb 0 tb 0 (Int.ofNat i) σ=_
   have key:∀R,T35_2 E D (drawW E D) (T35_1 E D (drawW E D)) R cb 0 rb 0 xb 0 tb 0 (Int.ofNat i) σ=some (.tup [.agg [.str (ofN m.nm),u,rv,lv],.int .i64 (Int.ofNat 0),.int .i64 (Int.ofNat 0)],σb):=by
    intro R
    unfold T35_2 T35_1
    simp -implicitDefEqProofs only [↓rP,rA,Nat.reduceEqDiff,Nat.reduceLT,Nat.reduceLeDiff,↓ldK_is hc,↓sl,d1,↓ldK_is hx,↓ga,↓ldnK_is aa,↓sub,↓gb,↓ldnK_is ab]
   exact key _
  ·obtain⟨a,b,c,d⟩:=h3 j t w hj hw
   have nn:∀x,(Names w.1 x∨Names w.2.1 x∨Names w.2.2 x)→¬(x=tb∨x=rb):=fun x hx e=>(d x hx).2.2 (e.elim .inl (fun e => .inr (.inr (.inl e))))
   exact⟨a.fr fab hti (fun x hx e=>nn x (.inl hx) e),b.fr fab hti (fun x hx e=>nn x (.inr (.inl hx)) e),c.fr fab hti (fun x hx e=>nn x (.inr (.inr hx)) e),fun x hx=>Nat.le_of_not_lt fun e=>(d x hx).2.2 (.inr (.inr (.inr e)))⟩
  ·rcases hb with hb|hb|hb
   ·exact(ux b hb).2.2.2
   ·have:=rl b hb;omega
   ·have:=ll b hb;omega
 | cons k0 ks ih=>
  intro i k σ lv rv tl tl' rs rs' hk hi hn hrs h ht hr ll rl f hp
  obtain⟨k,rfl⟩:∃j,k=j+1:=⟨k-1,by omega⟩
  obtain⟨⟨r,tl1⟩,h1,hp⟩:=Option.bind_eq_some_iff.1 hp
  simp only[List.length_cons]at hi hn
  have hti:=h.ht
  have hc:=f.at_ hc5 ht5 (fun e=>e.elim cx ct)
  have le:=f.le
  have hki:m.ks[i]? = some k0:=by
   have:=congrArg (fun l:List Nat=>l[0]?) hk
   simpa using this
  obtain⟨e',lv1,rv1,σ1,g,t1,t2,t8,t9,t10,hm1,ha1,hr1,m1,m2,f1⟩:=make_reg1 (E:=E) (D:=D) (p2 := .ptr rb 0) (P:=fun b=>b=rb∨b<σ0.next) hT (fun b e=>by omega) ht0 hs0 h hc ht hr (by omega) hki cx (fun e=>by have:=ll _ e;omega) (fun e=>by have:=rl _ e;omega) ct (fun e=>by have:=rl _ e;omega) (fun b hb=>by have:=rl b hb;omega) t0 h1
  have F1:Fr (fun b=>b=xb∨b=tb) σ5 σ1:=f.trans f1 (fun b hb e=>by
   rcases e with e|e|e|e
   ·exact .inl e
   ·exact .inr e
   ·have:=ll b e;omega
   ·have:=rl b e;omega)
  have a1:addF .i64 (Int.ofNat i) (Int.ofNat 1)=Int.ofNat (i+1):=addF_nat (by omega)
  obtain⟨rv',lv',σ',g',tb',f'⟩:=ih (i+1) k (by rw[←List.drop_drop,hk];rfl) (by omega) (by omega) (by simp[hrs]) hm1 ha1 (by rw[List.length_append];exact hr1) (fun b hb=>(m1 b hb).elim (ll b) (fun e=>by omega)) (fun b hb=>(m2 b hb).elim (rl b) (fun e=>by omega)) F1 hp
  refine⟨rv',lv',σ',?_,tb',f'⟩
  have sl:∀κ:Nat→Ans,slenK nv κ=κ m.az.length:=fun κ=>hs0.n.slen
  have d1:decide (i<m.az.length)=true:=decide_eq_true (by omega)
  have gd:∀κ:Env→H→Ans,gdrawK (drawW E D G35_1 H35_1 [(1,.ptr cb 0),(2,.ptr rb 0),(8,.ptr xb 0),(9,.ptr tb 0),(10,.int .i64 (Int.ofNat i))] σ) κ=κ e' σ1:=fun κ=>by rw[g];rfl
  have m1':∀κ:V→Ans,getL e' 1 κ=κ (.ptr cb 0):=fun κ=>getL_of t1 rfl
  have m2':∀κ:V→Ans,getL e' 2 κ=κ (.ptr rb 0):=fun κ=>getL_of t2 rfl
  have m8':∀κ:V→Ans,getL e' 8 κ=κ (.ptr xb 0):=fun κ=>getL_of t8 rfl
  have m9':∀κ:V→Ans,getL e' 9 κ=κ (.ptr tb 0):=fun κ=>getL_of t9 rfl
  have m10':∀κ:V→Ans,getL e' 10 κ=κ (.int .i64 (Int.ofNat i)):=fun κ=>getL_of t10 rfl
  have hx1:=hm1.a
  unfold mdC at hc
  unfold mkC at hx1
  show T35_2 E D (drawW E D) (T35_1 E D (drawW E D)) (L35_2 E D (drawW E D) N k) cb 0 rb 0 xb 0 tb 0 (Int.ofNat i) σ=_
  have key:∀R,T35_2 E D (drawW E D) (T35_1 E D (drawW E D)) R cb 0 rb 0 xb 0 tb 0 (Int.ofNat i) σ=R cb 0 rb 0 xb 0 tb 0 (Int.ofNat (i+1)) σ1:=by
   intro R
   unfold T35_2
   simp -implicitDefEqProofs only [↓rP,rA,Nat.reduceEqDiff,Nat.reduceLT,Nat.reduceLeDiff,↓ldK_is hc,↓sl,d1,↓gd,↓m1',↓m2',↓m8',↓m9',↓m10',↓ldK_is hx1,a1]
  rw[key];exact g'
theorem make_F {m:ModS} {T:NodT} (hm:MdOk m) (hO:SpOrder m (D 63)) (hT:SpMnode m T (D 64)) (hN:100<N):SpMake m T (F35 E D (drawW E D) N):=by
 intro σ nv tv dv rs tl ht hs hp
 have hfew:=hm.few.2
 obtain⟨σ1,e1,f1,a1,n1⟩:=mkN ht (mdC m nv tv dv)
 obtain⟨σ2,e2,f2,a2,n2⟩:=mkN f1.tidy [.str (BS.mk 0 0),.nils,.nils,.nils]
 have od:dv.one=true:=by
  obtain⟨ws,h1,_⟩:=hs.d
  exact h1.one
 have f02:=f1.trans f2 (fun _ _ h=>h)
 obtain⟨v3,σ3,g3,o3,f3⟩:=hO σ2 nv tv dv f2.tidy (hs.fr f02 ht)
 have f03:=f02.trans f3 (fun _ _ h=>h)
 obtain⟨σ4,e4,f4,a4,n4⟩:=mkN f3.tidy (mkC m nv tv dv .nils)
 have f04:=f03.trans f4 (fun _ _ h=>h)
 have c2:=f2.at_ a1 f1.tidy (fun h=>h)
 have c3:=f3.at_ c2 f2.tidy (fun h=>h)
 have c4:=f4.at_ c3 f3.tidy (fun h=>h)
 have r4:=f4.at_ (f3.at_ a2 f2.tidy (fun h=>h)) f3.tidy (fun h=>h)
 obtain⟨e',u,σ5,g5,t1,t2,t8,t9,a5,d5,m5,l5,f5⟩:=make_reg0 (E:=E) (D:=D) (p2 := .ptr σ1.next 0) (p8 := .ptr σ3.next 0) f4.tidy c4 (hs.n.fr f04 ht (fun _ _ h=>h)) (by omega)
 have le1:=f1.le
 have le2:=f2.le
 have le3:=f3.le
 have le4:=f4.le
 have x4:=a4.lt f4.tidy
 have r2:=a2.lt f2.tidy
 have f05:=f04.trans f5 (fun _ _ h=>h)
 have mk:Mk σ σ5 σ3.next m nv tv dv [] .nils (fun b=>b=σ4.next+6∨Names .nils b∨(b=σ1.next∨b<σ.next)):=⟨f5.at_ a4 f4.tidy (fun h=>h),⟨[],Dst.nil _ _,rfl,fun k t w h=>by simp at h⟩,fun b hb=>hb.elim,fun q=>by
  rcases q with q|q|q
  ·omega
  ·exact q.elim
  ·omega,by omega,f05⟩
 obtain⟨rv',lv',σ',g',tbs,f'⟩:=make_L (E:=E) (N:=N) (k:=N) (cb:=σ.next) (rb:=σ1.next) hm hT ht hs f5.tidy (f5.at_ c4 f4.tidy (fun h=>h)) (f5.at_ r4 f4.tidy (fun h=>h)) d5 (by omega) (by omega) (by omega) (by omega) (by omega) (fun b hb=>by have:=m5 b hb;omega) (by omega) (by omega) (by omega) (by omega) m.ks 0 (by simp) (by rw[hm.as_many];omega) (by rw[hm.as_many];omega) rfl mk a5 (Dst.nil _ _) (fun b hb=>hb.elim) (fun b hb=>hb.elim) (Fr.refl f5.tidy) hp
 refine⟨u,rv',lv',σ',?_,tbs,f05.trans f' (fun b hb e=>by omega)⟩
 unfold mdC at e1 a1 g3 c2 c3
 unfold mkC at e4
 have sub:∀κ:List V→Ans,subK [.str (ofN m.nm),.int .i64 (Int.ofNat m.tg),nv,tv,dv] 0 5 κ=κ [.str (ofN m.nm),.int .i64 (Int.ofNat m.tg),nv,tv,dv]:=fun κ=>by
  rw[subK_of (by simp)];rfl
 have gd:∀κ:Env→H→Ans,gdrawK (drawW E D G35_0 H35_0 [(1,.ptr σ.next 0),(2,.ptr σ1.next 0),(8,.ptr σ3.next 0)] σ4) κ=κ e' σ5:=fun κ=>by rw[g5];rfl
 have m1':∀κ:V→Ans,getL e' 1 κ=κ (.ptr σ.next 0):=fun κ=>getL_of t1 rfl
 have m2':∀κ:V→Ans,getL e' 2 κ=κ (.ptr σ1.next 0):=fun κ=>getL_of t2 rfl
 have m8':∀κ:V→Ans,getL e' 8 κ=κ (.ptr σ3.next 0):=fun κ=>getL_of t8 rfl
 have m9':∀κ:V→Ans,getL e' 9 κ=κ (.ptr (σ4.next+6) 0):=fun κ=>getL_of t9 rfl
 have o1:=hs.n.one
 have o2:=hs.t.one
 show T35_0 E D (drawW E D) (L35_2 E D (drawW E D) N N) (ofN m.nm) (Int.ofNat m.tg) nv tv dv σ=_
 have key:∀K2,T35_0 E D (drawW E D) K2 (ofN m.nm) (Int.ofNat m.tg) nv tv dv σ=K2 σ.next 0 σ1.next 0 σ3.next 0 (σ4.next+6) 0 (Int.ofNat 0) σ5:=by
  intro K2
  unfold T35_0
  simp -implicitDefEqProofs only [↓rP,rA,Nat.reduceEqDiff,Nat.reduceLT,Nat.reduceLeDiff,o1,o2,od,↓e1,↓e2,↓ldnK_is c2,↓sub,↓g3,↓rtCons,o3,↓ldnK_is c3,↓e4,↓gd,↓m1',↓m2',↓m8',↓m9']
 rw[key];exact g'
end
end
end Go.Proofs.YtgjjnbddbbhloaaGreatDoor
namespace Go.Og
noncomputable section
section
variable {Q:DS→Prop} {E:List (Nat × Blk)} {D:Den} {σ σc σ':H} {n i:Nat} {S:Nat→Prop} {d:Option Nat} {o:AOp} {l:List AOper} {anc:Nat} {lk:List Nat} {pl:List DP} {e env:Env} {nx am:Nat} {ss:List (List (Nat × Blk))} {ks:List Nat} {ls:List (Nat × AOp × Env × V)} {g:Option (Nat × Bool)}
theorem goq_pg (v:V) (hg:wantedA (restr lk e) g=some true) (hc:o.cls = .p) (hv:aopP o (restr lk e)=some v) (k:GoesQ Q E D σ n (i+1) l pl ⟨putE e d v,nx,ss,ks,am,ls⟩):GoesQ Q E D σ n i (⟨d,o,g⟩::l) (⟨anc,lk⟩::pl) ⟨e,nx,ss,ks,am,ls⟩:=by
 obtain⟨s',h1,h2⟩:=k
 have h:dstep E D σ.next n i ⟨d,o,g⟩ ⟨anc,lk⟩ ⟨e,nx,ss,ks,am,ls⟩=some ⟨putE e d v,nx,ss,ks,am,ls⟩:=by
  unfold dstep;simp only[hg,hc,hv]
 refine⟨s',?_,h2⟩
 show (match dstep E D σ.next n i ⟨d,o,g⟩ ⟨anc,lk⟩ ⟨e,nx,ss,ks,am,ls⟩with | none=>none | some s'=>dsteps E D σ.next n (i+1) l pl s')=_
 rw[h];exact h1
theorem goq_lg (v:V) (hr:RegOk E σ n S nx ss am ls σc) (hg:wantedA (restr lk e) g=some true) (hc:o.cls = .l) (hv:OldLd E σ n S o (restr lk e) v) (k:RegOk E σ n S nx ss am ((i,o,restr lk e,v)::ls) σc→GoesQ Q E D σ n (i+1) l pl ⟨putE e d v,nx,ss,ks,am,(i,o,restr lk e,v)::ls⟩) :
  GoesQ Q E D σ n i (⟨d,o,g⟩::l) (⟨anc,lk⟩::pl) ⟨e,nx,ss,ks,am,ls⟩:=by
 obtain⟨⟨hn,r,rfl⟩,h2,h3,h4,h5,h6⟩:=hr
 obtain⟨s',k1,k2⟩:=k ⟨⟨hn,r,rfl⟩,h2,h3,h4,h5,fun x hx=>by
  rcases List.mem_cons.1 hx with rfl|hx
  ·exact hv
  ·exact h6 x hx⟩
 have h:dstep E D σ.next n i ⟨d,o,g⟩ ⟨anc,lk⟩ ⟨e,nx,σc.bl::r,ks,am,ls⟩=some ⟨putE e d v,nx,σc.bl::r,ks,am,(i,o,restr lk e,v)::ls⟩:=by
  unfold dstep;simp only[hg,hc,hv.2 nx σc.bl _ (h4 _ List.mem_cons_self)]
 refine⟨s',?_,k2⟩
 show (match dstep E D σ.next n i ⟨d,o,g⟩ ⟨anc,lk⟩ ⟨e,nx,σc.bl::r,ks,am,ls⟩with | none=>none | some s'=>dsteps E D σ.next n (i+1) l pl s')=_
 rw[h];exact k1
theorem goq_fin {pl0:List DP} (hr:RegOk E σ n S nx ss am ls σc):GoesQ (EndSt E σ n pl0 e σc) E D σ n i [] pl ⟨e,nx,ss,ks,am,ls⟩:=by
 obtain⟨⟨hn,r,rfl⟩,h2,h3,h4,h5,h6⟩:=hr
 refine⟨_,dsteps_nil,rfl,hn,⟨r,rfl⟩,?_,fun j hj hb=>h5 _ List.mem_cons_self j hj hb⟩
 exact List.all_eq_true.2 fun x hx=>check_all (h6 x hx) _ _ _ h4
end
end
end Go.Og
namespace Go.Proofs.YtgjjnbddbbhloaaGreatDoor
open Go Go.Og
noncomputable section
def SpTable (N:Nat) (F:List V→H→Ans):Prop:=∀(σ:H) (s:BS) (ts:List Tok) (m:ModS) (rs:List Nat) (tl:List TyS),Tidy σ→s.len≤3000→Tks N s.len s.nats ts→modP (typP 2) ts=some m→MdOk m→rootsP (nodP m 2) m.ks [] []=some (rs,tl) →
 ∃u rv lv σ',F [.str s] σ=some (.tup [.agg (tbC m.nm u rv lv),.bool (decide (tl.length≤120))],σ')∧TbS σ.next σ' m.az rs tl u rv lv∧Fr Nowhere σ σ'
section
variable {E:List (Nat × Blk)} {D:Den} {N:Nat}
theorem table_reg {σ:H} {rb tb:Nat} {nm:List Nat} {u rv lv:V} {az:List (List Nat)} {rs:List Nat} {tl:List TyS} (ht:Tidy σ) (hr:Atc σ rb [.str (BS.mk 0 0),.nils,.nils,.nils]) (ha:Atc σ tb (tbC nm u rv lv)) {n0:Nat} (hs:TbS n0 σ az rs tl u rv lv) (hne:tb≠rb) (bu:V.beq u u=true) (br:V.beq rv rv=true) (bl:V.beq lv lv=true) :
    ∃e' σ',drawW E D G13_0 H13_0 [(2,.ptr rb 0),(7,.ptr tb 0),(9,.int .i64 (Int.ofNat 0))] σ=some (e',σ')∧Go.Og.look e' 2=some (.ptr rb 0)∧Go.Og.look e' 3=some (.bool (decide (tl.length≤120)))∧Atc σ' rb (tbC nm u rv lv)∧Fr (fun k=>k=rb) σ σ':=by
  obtain⟨ws,h1,h2,h3⟩:=hs.t
  have fw:Fr Nowhere σ ⟨σ.next+11,σ.bl⟩:=(go_start (E:=E) (n:=11) (S:=Nowhere) ht).fr
  have lr:=hr.lt ht
  have ho:allOne (tbC nm u rv lv)=true:=by
    unfold tbC
    simp only[allOne_cons,allOne_nil,one_str,hs.n.one,hs.r.one,h1.one,Bool.and_true]
  have st:∃σ4,den1 E D (.store 4 (.tmp 2) (.tmp 29)) [(2,.ptr rb 0),(29,.agg (tbC nm u rv lv))] ⟨σ.next+11,σ.bl⟩=some (.dead,σ4)∧Fr (fun k=>k=rb) ⟨σ.next+11,σ.bl⟩ σ4∧Atc σ4 rb (tbC nm u rv lv):=by
    obtain⟨σ4,q1,q2,q3⟩:=st_den (E:=E) (D:=D) (n:=4) (x := .tmp 2) (y := .tmp 29) (e:=[(2,.ptr rb 0),(29,.agg (tbC nm u rv lv))]) fw.tidy (fw.at_ hr ht (fun h=>h)) rfl (show (opv [(2,.ptr rb 0),(29,.agg (tbC nm u rv lv))] (.tmp 29)).cells=tbC nm u rv lv from rfl) (by
      rw[ho];rfl)
    exact⟨σ4,q1,q2,q3⟩
  obtain⟨σ4,g4,f4,a4⟩:=st
  have ha':=ha
  unfold tbC at ha'
  have bagg:V.beq (.agg (tbC nm u rv lv)) (.agg (tbC nm u rv lv))=true:=by
    show (V.beq (.str (ofN nm)) (.str (ofN nm))&&(V.beq u u&&(V.beq rv rv&&(V.beq lv lv&&true))))=true
    rw[bu,br,bl]
    show (decide _&&_)=true
    rw[decide_eq_true rfl];rfl
  have hlen:aopP (.len false (.tmp 34)) [(34,lv),(32,.bool true)]=some (.int .i64 (Int.ofNat tl.length)):=by
    rcases h1 with ⟨h0,e,_⟩|⟨b,o,c,L,e,_⟩
    · rw[h0,e];rfl
    · rw[e];rfl
  have hle:aopP (.bin .leq .none (.tmp 35) (.con (.int .i64 (Int.ofNat 120)))) [(35,.int .i64 (Int.ofNat tl.length)),(32,.bool true)]=some (.bool (decide (tl.length≤120))):=by
    show some (V.bool (decide (Int.ofNat tl.length≤Int.ofNat 120)))=_
    rw[show decide (Int.ofNat tl.length≤Int.ofNat 120)=decide (tl.length≤120)from decide_eq_decide.2 Int.ofNat_le]
  have go:GoesQ (EndSt E σ 11 H13_0 _ σ4) E D σ 11 0 G13_0 H13_0 ⟨[(2,.ptr rb 0),(7,.ptr tb 0),(9,.int .i64 (Int.ofNat 0))],σ.next+11,[σ.bl],[],0,[]⟩:=
    goq_l (.agg (tbC nm u rv lv)) (go_start (S:=fun k=>k=rb) ht) rfl (old_ldn (b:=tb) (off:=0) rfl ha rfl rfl ht hne bagg) fun r1=>
    goq_p (.int .i64 (Int.ofNat 0)) rfl rfl <|
    goq_p (.bool true) rfl rfl <|
    goq_p (.bool true) rfl rfl <|
    goq_pg (.ptr tb 3) rfl rfl rfl <|
    goq_lg lv r1 rfl rfl (old_ld1 (b:=tb) (off:=3) rfl ha' rfl ht hne bl) fun r2=>
    goq_pg (.int .i64 (Int.ofNat tl.length)) rfl rfl hlen <|
    goq_pg (.bool (decide (tl.length≤120))) rfl rfl hle <|
    goq_p (.bool (decide (tl.length≤120))) rfl rfl <|
    goq_k .dead r2 rfl (by decide) (S':=fun k=>k=rb) f4 (fun _ _ h=>h) (fun b h h1 _=>by omega) g4 fun _ _ r3=>
    goq_p (.bool (decide (tl.length≤120))) rfl rfl <|
    goq_fin r3
  have d:=goq_draw (ops:=G13_0) go
  exact⟨_,σ4,d,rfl,rfl,a4,(fw.mono (fun _ _ h=>h.elim):Fr (fun k=>k=rb) σ _).trans f4 (fun _ _ h=>h)⟩
theorem src_beq {σ:H} {esz n:Nat} {v:V} {m:List V} (h:Src σ esz n v m):V.beq v v=true:=by
 rcases h with ⟨_,rfl,_⟩|⟨b,o,c,L,rfl,_⟩<;>exact beq_self _ rfl
theorem TbS.fr {n0:Nat} {σ σ':H} {S:Nat→Prop} {az:List (List Nat)} {rs:List Nat} {tl:List TyS} {u rv lv:V} (h:TbS n0 σ az rs tl u rv lv) (f:Fr S σ σ') (ht:Tidy σ) (hS:∀b,n0≤b→b<σ.next→¬S b):TbS n0 σ' az rs tl u rv lv:=by
 obtain⟨ws,h1,h2,h3⟩:=h.t
 refine⟨h.n.fr f ht (fun b hb=>hS b (h.f b (.inl hb)) (h.n.lt ht hb)),h.r.fr f ht (fun b hb=>hS b (h.f b (.inr (.inl hb))) (h.r.lt ht hb)),⟨ws,h1.fr f ht (fun b hb=>hS b (h.f b (.inr (.inr hb))) (h1.lt ht hb)),h2,fun k t w hk hw=>?_⟩,h.f,h.z⟩
 obtain⟨a,b,c,d⟩:=h3 k t w hk hw
 exact⟨a.fr f ht (fun x hx=>hS x (d x (.inl hx)) (a.lt ht hx)),b.fr f ht (fun x hx=>hS x (d x (.inr (.inl hx))) (b.lt ht hx)),c.fr f ht (fun x hx=>hS x (d x (.inr (.inr hx))) (c.lt ht hx)),d⟩
theorem TbS.low {n0 n1:Nat} {σ:H} {az:List (List Nat)} {rs:List Nat} {tl:List TyS} {u rv lv:V} (h:TbS n0 σ az rs tl u rv lv) (hn:n1≤n0):TbS n1 σ az rs tl u rv lv:=by
 obtain⟨ws,h1,h2,h3⟩:=h.t
 exact⟨h.n,h.r,⟨ws,h1,h2,fun k t w hk hw=>⟨(h3 k t w hk hw).1,(h3 k t w hk hw).2.1,(h3 k t w hk hw).2.2.1,fun b hb=>Nat.le_trans hn ((h3 k t w hk hw).2.2.2 b hb)⟩⟩,fun b hb=>Nat.le_trans hn (h.f b hb),h.z⟩
theorem table_F (hP:SpParse N (typP 2) (D 34)) (hM:∀m,MdOk m→SpMake m (nodP m 2) (D 35)):SpTable N (F13 E D (drawW E D) N):=by
 intro σ s ts m rs tl ht hs hts hm hok hr
 obtain⟨σ1,e1,f1,a1,n1⟩:=mkN ht [.str (BS.mk 0 0),.nils,.nils,.nils]
 obtain⟨nv,tv,dv,σ2,g2,s2,f2⟩:=hP σ1 s ts m f1.tidy (by omega) hts hm
 obtain⟨u,rv,lv,σ3,g3,s3,f3⟩:=hM m hok σ2 nv tv dv rs tl f2.tidy s2 hr
 obtain⟨σ4,e4,f4,a4,n4⟩:=mkN f3.tidy [.str (BS.mk 0 0),.nils,.nils,.nils]
 obtain⟨σ5,e5,f5,a5⟩:=mkS f4.tidy a4 (tbC m.nm u rv lv)
 have l3:=s3.t
 obtain⟨ws,h1,h2,h3⟩:=l3
 have ho:allOne (tbC m.nm u rv lv)=true:=by
  unfold tbC
  simp only[allOne_cons,allOne_nil,one_str,s3.n.one,s3.r.one,h1.one,Bool.and_true]
 have g5:∀κ:H→Ans,stK 4 σ3.next 0 (.agg (tbC m.nm u rv lv)) σ4 κ=κ σ5:=fun κ=>by
  rw[stK_at a4 (by
   rw[cells_agg,ho]
   rfl),cells_agg]
  show κ (setF σ4 σ3.next (.cells (tbC m.nm u rv lv)))=_
  rw[e5]
 have le1:=f1.le
 have le2:=f2.le
 have le3:=f3.le
 have le4:=f4.le
 have lr:=a1.lt f1.tidy
 have f25:Fr (fun b=>σ3.next≤b) σ3 σ5:=(f4.mono (fun _ _ h=>h.elim):Fr (fun b=>σ3.next≤b) σ3 σ4).trans f5 (fun b _ e=>by omega)
 have s5:=s3.fr f25 f3.tidy (fun b _ h1 h2=>by omega)
 have r5:=f25.at_ (f3.at_ (f2.at_ a1 f1.tidy (fun h=>h)) f2.tidy (fun h=>h)) f3.tidy (by omega)
 obtain⟨e',σ6,g6,t2,t3,a6,f6⟩:=table_reg (E:=E) (D:=D) f5.tidy r5 a5 s5 (by omega) (src_beq s5.n) (src_beq s5.r) (src_beq h1)
 refine⟨u,rv,lv,σ6,?_,(s5.fr f6 f5.tidy (fun b h1 _ e=>by omega)).low (by omega),((((f1.trans f2 (fun _ _ h=>h)).trans f3 (fun _ _ h=>h)).trans f25 (fun b hb e=>by omega))).trans f6 (fun b hb e=>by omega)⟩
 have d1:decide (3000<s.len)=false:=decide_eq_false (by omega)
 have gd:∀κ:Env→H→Ans,gdrawK (drawW E D G13_0 H13_0 [(2,.ptr σ.next 0),(7,.ptr σ3.next 0),(9,.int .i64 (Int.ofNat 0))] σ5) κ=κ e' σ6:=fun κ=>by rw[g6];rfl
 have m2':∀κ:V→Ans,getL e' 2 κ=κ (.ptr σ.next 0):=fun κ=>getL_of t2 rfl
 have m3':∀κ:V→Ans,getL e' 3 κ=κ (.bool (decide (tl.length≤120))):=fun κ=>getL_of t3 rfl
 have o1:=s2.n.one
 have o2:=s2.t.one
 have o3:dv.one=true:=by
  obtain⟨ws,h1,_⟩:=s2.d
  exact h1.one
 unfold mdC at g2 g3
 unfold tbC at g3 g5 a6 ⊢
 have sub:∀κ:List V→Ans,subK [.str (ofN m.nm),u,rv,lv] 0 4 κ=κ [.str (ofN m.nm),u,rv,lv]:=fun κ=>by
  rw[subK_of (by simp)];rfl
 show T13_0 E D (drawW E D) s σ=_
 unfold T13_0
 simp -implicitDefEqProofs only [↓rP,rA,Nat.reduceEqDiff,Nat.reduceLT,Nat.reduceLeDiff,↓e1,d1,↓g2,o1,o2,o3,allOne_cons,allOne_nil,one_str,one_int,↓g3,↓e4,↓g5,↓gd,↓m2',↓m3',↓ldnK_is a6]
end
theorem cat_canon {a b:BS} (hb:b.canon):(a.cat b).canon:=by
 show a.low ||| b.val <<< (8*a.len)<2 ^ (8*(a.len+b.len))
 have h0:a.low<2 ^ (8*a.len):=Nat.mod_lt _ (Nat.pow_pos (by decide))
 have h1:a.low<2 ^ (8*(a.len+b.len)):=Nat.lt_of_lt_of_le h0 (Nat.pow_le_pow_right (by decide) (by omega))
 have h2:b.val <<< (8*a.len)<2 ^ (8*(a.len+b.len)):=by
  rw[Nat.shiftLeft_eq,Nat.mul_add,Nat.add_comm,Nat.pow_add]
  exact Nat.mul_lt_mul_of_pos_right hb (Nat.pow_pos (by decide))
 exact Nat.or_lt_two_pow h1 h2
theorem ofN_cat {a b:List Nat} (ha:∀c∈a,c<256) (hb:∀c∈b,c<256):(ofN a).cat (ofN b)=ofN (a++b):=by
 have hab:∀c∈a++b,c<256:=fun c hc=>by
  rcases List.mem_append.1 hc with h|h
  ·exact ha c h
  ·exact hb c h
 exact BS.canon_ext (cat_canon (ofN_canon hb)) (ofN_canon hab) (by rw[BS.nats_cat,ofN_nats ha,ofN_nats hb,ofN_nats hab])
theorem catK_ofN {a b:List Nat} (ha:∀c∈a,c<256) (hb:∀c∈b,c<256) (hl:a.length+b.length≤1000000) (κ:BS→Ans):catK (ofN a) (ofN b) κ=κ (ofN (a++b)):=by
 unfold catK
 rw[show Nat.ble (Nat.add (ofN a).len (ofN b).len) 1000000000000=true from ble_of (by rw[ofN_len,ofN_len];show a.length+b.length≤_;omega),ofN_cat ha hb]
def digsF:Nat→Nat→List Nat
 | 0,v=>[48+v]
 | k+1,v=>match Nat.blt v 10 with
  | true=>[48+v]
  | false=>digsF k (v / 10)++[48+v % 10]
def Digs (l:List Nat):Prop:=∀c∈l,48≤c∧c≤57
theorem Digs.bd {l:List Nat} (h:Digs l):∀c∈l,c<256:=fun c hc=>by have:=h c hc;omega
theorem valD_app:∀(l m:List Nat) (a:Nat),valD a (l++m)=valD (valD a l) m
 | [],_,_=>rfl
 | c::l,m,a=>valD_app l m (10*a+(c-48))
theorem dval_snoc (l:List Nat) (c:Nat):valD 0 (l++[c])=10*valD 0 l+(c-48):=by
 rw[valD_app];rfl
theorem digsF_ok:∀(k v:Nat),v<10 ^ (k+1)→Digs (digsF k v)∧valD 0 (digsF k v)=v∧0<(digsF k v).length∧(digsF k v).length≤k+1∧(v<10→(digsF k v).length=1)∧(0<v→(digsF k v).getD 0 0≠48)
 | 0,v,h=>by
  have h:v<10:=by simpa using h
  refine⟨?_,?_,by simp[digsF],by simp[digsF],fun _=>rfl,fun hv=>by simp[digsF];omega⟩
  ·intro c hc
   simp[digsF]at hc;omega
  ·show 10*0+(48+v-48)=v
   omega
 | k+1,v,h=>by
  by_cases hv:v<10
  ·have e:digsF (k+1) v=[48+v]:=by
    show (match Nat.blt v 10 with | true=>_ | false=>_)=_
    rw[show Nat.blt v 10=true by simpa[Nat.blt_eq]using hv]
   rw[e]
   refine⟨?_,?_,by simp,by simp,fun _=>rfl,fun h=>by simp;omega⟩
   ·intro c hc
    simp at hc;omega
   ·show 10*0+(48+v-48)=v
    omega
  ·have e:digsF (k+1) v=digsF k (v / 10)++[48+v % 10]:=by
    show (match Nat.blt v 10 with | true=>_ | false=>_)=_
    rw[show Nat.blt v 10=false by rw[Bool.eq_false_iff];simpa[Nat.blt_eq]using hv]
   have hk:v / 10<10 ^ (k+1):=by
    rw[Nat.div_lt_iff_lt_mul (by decide)]
    rw[Nat.pow_succ]at h;exact h
   obtain⟨h1,h2,h3,h4,h5,h6⟩:=digsF_ok k (v / 10) hk
   rw[e]
   refine⟨?_,?_,by simp,by simp;omega,fun h=>absurd h hv,fun _=>?_⟩
   ·intro c hc
    rcases List.mem_append.1 hc with hc|hc
    ·exact h1 c hc
    ·simp at hc;omega
   ·rw[dval_snoc,h2];omega
   ·have h7:=h6 (by omega)
    cases hd:digsF k (v / 10)with
    | nil=>rw[hd]at h3;simp at h3
    | cons c l=>rw[hd]at h7;exact h7
def SpDigits (k:Nat) (F:List V→H→Ans):Prop:=∀(σ:H) (v:Nat),Tidy σ→v<10 ^ (k+1)→v≤18446744073709551615 →
 ∃σ',F [.int .u64 (Int.ofNat v)] σ=some (.str (ofN (digsF k v)),σ')∧Fr Nowhere σ σ'
theorem bytes_one {m:Nat} (h:m<256):BS.ofList [UInt8.ofNat (Int.ofNat m).toNat]=ofN [m]:=
 (ofN_eq (l:=[m]) (fun c hc=>by simp at hc;omega)).symm
theorem digits_small {k:Nat} (E:List (Nat × Blk)) (D:Den) (W:DrawFn) (N:Nat) (σ:H) (v:Nat) (ht:Tidy σ) (hv:v<10):∃σ',F12 E D W N [.int .u64 (Int.ofNat v)] σ=some (.str (ofN (digsF k v)),σ')∧Fr Nowhere σ σ':=by
 refine⟨newB σ (.cells [.int .u8 (Int.ofNat (48+v))]),?_,Fr.new ht _⟩
 have e:digsF k v=[48+v]:=by
  cases k with
  | zero=>rfl
  | succ k=>
   show (match Nat.blt v 10 with | true=>_ | false=>_)=_
   rw[show Nat.blt v 10=true by simpa[Nat.blt_eq]using hv]
 have h1:wrapF .u8 (addF .u64 (Int.ofNat 48) (Int.ofNat v))=Int.ofNat (48+v):=by
  have:addF .u64 (Int.ofNat 48) (Int.ofNat v)=Int.ofNat (48+v):=wrapF_nat (k := .u64) (m:=48+v) (show _≤18446744073709551615 by omega)
  rw[this]
  exact wrapF_nat (k := .u8) (show _≤255 by omega)
 show T12_0 E D W (Int.ofNat v) σ=_
 simp only[T12_0,ltF_nat,h1]
 rw[decide_eq_true hv,condK_true]
 have ha:Atc (newB σ (.cells [.int .u8 (Int.ofNat (48+v))])) σ.next [.int .u8 (Int.ofNat (48+v))]:=Atc_newB _
 rw[toStrK_sl,srcK_ex ha (by simp)]
 show some (V.str (BS.ofList [UInt8.ofNat (Int.ofNat (48+v)).toNat]),_)=_
 rw[bytes_one (by omega),e]
theorem digits0_F (E:List (Nat × Blk)) (D:Den) (W:DrawFn) (N:Nat):SpDigits 0 (F12 E D W N):=fun σ v ht hv _=>digits_small E D W N σ v ht (by simpa using hv)
theorem digits_F {E:List (Nat × Blk)} {D:Den} {N k:Nat} (h:SpDigits k (D 12)) (hk:k≤30):SpDigits (k+1) (F12 E D (drawW E D) N):=by
 intro σ v ht hv hv2
 by_cases hs:v<10
 ·exact digits_small E D _ N σ v ht hs
 have hk1:v / 10<10 ^ (k+1):=by
  rw[Nat.div_lt_iff_lt_mul (by decide)]
  rw[Nat.pow_succ]at hv;exact hv
 obtain⟨σ1,g1,g2⟩:=h ⟨σ.next+11,σ.bl⟩ (v / 10) (ht.wide 11) hk1 (by omega)
 have hgap:=g2.gap ht (fun b hb=>hb.elim)
 obtain⟨d1,d2,d3,d4,_⟩:=digsF_ok k (v / 10) hk1
 have hle:σ.next+11≤σ1.next:=g2.le
 let c:Blk := .cells [.int .u8 (Int.ofNat (48+v % 10))]
 have e:digsF (k+1) v=digsF k (v / 10)++[48+v % 10]:=by
  show (match Nat.blt v 10 with | true=>_ | false=>_)=_
  rw[show Nat.blt v 10=false by rw[Bool.eq_false_iff];simpa[Nat.blt_eq]using hs]
 have hquo:binV .quo .none (.int .u64 (Int.ofNat v)) (.int .u64 (Int.ofNat 10))=some (.int .u64 (Int.ofNat (v / 10))):=by
  show some (V.int .u64 (IntKind.wrap .u64 (Int.ofNat (v / 10))))=_
  rw[←wrapF_eq,wrapF_nat (k := .u64) (show v / 10≤18446744073709551615 by omega)]
 have hrem:binV .rem .none (.int .u64 (Int.ofNat v)) (.int .u64 (Int.ofNat 10))=some (.int .u64 (Int.ofNat (v % 10))):=rfl
 have hadd:binV .add .none (.int .u64 (Int.ofNat 48)) (.int .u64 (Int.ofNat (v % 10)))=some (.int .u64 (Int.ofNat (48+v % 10))):=by
  show some (V.int .u64 (IntKind.wrap .u64 (Int.ofNat (48+v % 10))))=_
  rw[←wrapF_eq,wrapF_nat (k := .u64) (show 48+v % 10≤18446744073709551615 by omega)]
 have hconv:aopP (.conv (.toInt .u8) (.tmp 15)) [(15,.int .u64 (Int.ofNat (48+v % 10)))]=some (.int .u8 (Int.ofNat (48+v % 10))):=by
  show some (V.int .u8 (IntKind.wrap .u8 (Int.ofNat (48+v % 10))))=_
  rw[←wrapF_eq,wrapF_nat (k := .u8) (show 48+v % 10≤255 by omega)]
 have hcall:den1 E D (.call 12 [.tmp 11]) [(11,.int .u64 (Int.ofNat (v / 10)))] ⟨σ.next+11,σ.bl⟩=some (.str (ofN (digsF k (v / 10))),σ1):=g1
 have hstr:∀(l:List (Nat × Blk)) (nx:Nat),aopL E (.conv .toStr (.tmp 17)) [(17,.sl (σ.next+7) 0 1 (.ex 1))] ⟨nx,hideB σ.next 11 (visK 248 128) ((σ.next+7,c)::l)⟩=some (.str (ofN [48+v % 10])):=fun l nx=>by
  have hl:Go.Og.look (hideB σ.next 11 (visK 248 128) ((σ.next+7,c)::l)) (σ.next+7)=some c:=by
   rw[look_hide_kept (by decide),look_cons_eq]
  show (match (rdN E ⟨nx,hideB σ.next 11 (visK 248 128) ((σ.next+7,c)::l)⟩ (σ.next+7) 0 (1*1)).map (fun l=>(1,l))with
   | some (_,l)=>(match bytesOf l with | some s=>some (V.str (BS.ofList s)) | none=>none)
   | none=>none)=_
  unfold rdN rd
  simp only[hl]
  show some (V.str (BS.ofList [UInt8.ofNat (Int.ofNat (48+v % 10)).toNat]))=_
  rw[bytes_one (by omega)]
 have hcat:binV .add .none (.str (ofN (digsF k (v / 10)))) (.str (ofN [48+v % 10]))=some (.str (ofN (digsF (k+1) v))):=by
  show (match Nat.ble (Nat.add (ofN (digsF k (v / 10))).len (ofN [48+v % 10]).len) 1000000000000 with | true=>some (V.str ((ofN (digsF k (v / 10))).cat (ofN [48+v % 10]))) | false=>none)=_
  rw[show Nat.ble (Nat.add (ofN (digsF k (v / 10))).len (ofN [48+v % 10]).len) 1000000000000=true from ble_of (by rw[ofN_len,ofN_len];show (digsF k (v / 10)).length+1≤_;omega)]
  simp only[]
  rw[ofN_cat d1.bd (fun c hc=>by simp at hc;omega),e]
 have h0:=ht.gap 11
 have hdr:drawW E D G12_0 H12_0 [(0,.int .u64 (Int.ofNat v))] σ=some ((2,.str (ofN (digsF (k+1) v)))::[(19,.str (ofN (digsF (k+1) v))),(18,.str (ofN [48+v % 10])),(17,.sl (σ.next+7) 0 1 (.ex 1)),(16,.int .u8 (Int.ofNat (48+v % 10))),(15,.int .u64 (Int.ofNat (48+v % 10))),(14,.int .u64 (Int.ofNat (v % 10))),(13,.int .u64 (Int.ofNat v)),(12,.str (ofN (digsF k (v / 10)))),(11,.int .u64 (Int.ofNat (v / 10))),(10,.int .u64 (Int.ofNat v)),(0,.int .u64 (Int.ofNat v))],
   ⟨σ1.next,hideB σ.next 11 (fun k=>(128:Nat).testBit k) ((σ.next+7,c)::σ1.bl)⟩):=by
  refine drawW_of (s:=⟨_,σ1.next,[(σ.next+7,c)::σ1.bl,(σ.next+7,c)::σ.bl],[2],128,[(8,.conv .toStr (.tmp 17),[(17,.sl (σ.next+7) 0 1 (.ex 1))],.str (ofN [48+v % 10]))]⟩) ?_ ?_ rfl
  ·refine(dsteps_p rfl rfl rfl).trans ?_
   refine(dsteps_p (v := .int .u64 (Int.ofNat (v / 10))) rfl rfl ?_).trans ?_
   ·exact hquo
   refine(dsteps_k (σ':=σ1) (v := .str (ofN (digsF k (v / 10)))) rfl rfl rfl ?_).trans ?_
   ·show den1 E D (.call 12 [.tmp 11]) [(11,.int .u64 (Int.ofNat (v / 10)))] ⟨σ.next+11,hideB σ.next 11 (visK 3 0) σ.bl⟩=_
    rw[hideB_id h0];exact hcall
   show dsteps E D σ.next 11 3 _ _ ⟨_,σ1.next,[keepB σ.next 11 (visK 3 0) σ.bl++σ1.bl,σ.bl],[2],0,[]⟩=_
   rw[keepB_id h0]
   refine(dsteps_p rfl rfl rfl).trans ?_
   refine(dsteps_p (v := .int .u64 (Int.ofNat (v % 10))) rfl rfl ?_).trans ?_
   ·exact hrem
   refine(dsteps_p (v := .int .u64 (Int.ofNat (48+v % 10))) rfl rfl ?_).trans ?_
   ·exact hadd
   refine(dsteps_p (v := .int .u8 (Int.ofNat (48+v % 10))) rfl rfl ?_).trans ?_
   ·exact hconv
   refine(dsteps_a' (v := .sl (σ.next+7) 0 1 (.ex 1)) (b:=c) (id:=σ.next+7) (am':=128) rfl rfl rfl (show (0:Nat) ||| 2 ^ 7=128 from by decide) rfl).trans ?_
   show dsteps E D σ.next 11 8 _ _ ⟨_,σ1.next,[(σ.next+7,c)::σ1.bl,(σ.next+7,c)::σ.bl],[2],128,[]⟩=_
   refine(dsteps_l (v := .str (ofN [48+v % 10])) rfl rfl rfl ?_).trans ?_
   ·exact hstr σ1.bl σ1.next
   refine(dsteps_p (v := .str (ofN (digsF (k+1) v))) rfl rfl ?_).trans ?_
   ·exact hcat
   refine(dsteps_p rfl rfl rfl).trans ?_
   exact dsteps_nil
  ·simp only[List.all_cons,List.all_nil,Bool.and_true]
   have hs1:=hstr σ1.bl 0
   have hs0:=hstr σ.bl 0
   show (((!legal H12_0 8 [2] []) || (match aopL E (.conv .toStr (.tmp 17)) [(17,.sl (σ.next+7) 0 1 (.ex 1))] ⟨0,hideB σ.next 11 (visK 248 128) ((σ.next+7,c)::σ1.bl)⟩with | some u=>V.beq u (.str (ofN [48+v % 10])) | none=>false)) &&
    (((!legal H12_0 8 [] [2]) || (match aopL E (.conv .toStr (.tmp 17)) [(17,.sl (σ.next+7) 0 1 (.ex 1))] ⟨0,hideB σ.next 11 (visK 248 128) ((σ.next+7,c)::σ.bl)⟩with | some u=>V.beq u (.str (ofN [48+v % 10])) | none=>false))&&true))=true
   rw[hs1,hs0]
   have hb:V.beq (.str (ofN [48+v % 10])) (.str (ofN [48+v % 10]))=true:=by
    show decide _=true
    exact decide_eq_true rfl
   simp only[hb,Bool.or_true,Bool.and_true]
 refine⟨⟨σ1.next,hideB σ.next 11 (fun k=>(128:Nat).testBit k) ((σ.next+7,c)::σ1.bl)⟩,?_,?_⟩
 ·show T12_0 E D (drawW E D) (Int.ofNat v) σ=_
  simp only[T12_0,ltF_nat]
  rw[decide_eq_false hs,condK_false,hdr]
  rfl
 ·refine⟨fun b hb=>?_,show σ.next≤σ1.next by omega,fun b hb hn=>?_⟩
  ·have hb':σ1.next≤b:=hb
   show lookF (hideB _ _ _ _) b=none
   rw[lookF_eq,look_hide_new (by omega),look_cons_ne (by omega),←lookF_eq]
   exact g2.tidy b hb'
  ·show lookF (hideB _ _ _ _) b=_
   rw[lookF_eq,look_hide_old hb,look_cons_ne (by omega),←lookF_eq]
   exact g2.same b (show b<σ.next+11 by omega) hn
def numC (v:Int):List Nat:=match v with
 | .ofNat m=>digsF 19 m
 | .negSucc m=>45::digsF 19 (m+1)
def In64 (v:Int):Prop:=-9223372036854775808≤v∧v≤9223372036854775807
def SpNumber (F:List V→H→Ans):Prop:=∀(σ:H) (v:Int),Tidy σ→In64 v→∃σ',F [.int .i64 v] σ=some (.str (ofN (numC v)),σ')∧Fr Nowhere σ σ'
theorem number_F {E:List (Nat × Blk)} {D:Den} {W:DrawFn} {N:Nat} (h:SpDigits 19 (D 12)):SpNumber (F14 E D W N):=by
 intro σ v ht hv
 obtain⟨h1,h2⟩:=hv
 show ∃σ',T14_0 E D W v σ=_∧_
 unfold T14_0
 cases v with
 | ofNat m=>
  simp only[Int.ofNat_eq_natCast]at h1 h2
  obtain⟨σ',g1,g2⟩:=h σ m ht (by show m<100000000000000000000;omega) (by omega)
  refine⟨σ',?_,g2⟩
  rw[show ltF (Int.ofNat m) (Int.ofNat 0)=false by rw[ltF_nat];exact decide_eq_false (by omega),condK_false,wrapF_nat (k := .u64) (show m≤18446744073709551615 by omega),g1]
  rfl
 | negSucc m=>
  obtain⟨d1,d2,d3,d4,_⟩:=digsF_ok 19 (m+1) (by show m+1<100000000000000000000;omega)
  obtain⟨σ',g1,g2⟩:=h σ (m+1) ht (by show m+1<100000000000000000000;omega) (by omega)
  refine⟨σ',?_,g2⟩
  have e1:addF .i64 (Int.negSucc m) (Int.ofNat 1) = -(m:Int):=by
   show wrapF .i64 (Int.negSucc m+((1:Nat):Int))=_
   rw[wrap64 (by omega) (by omega)];omega
  have e2:negF .i64 (-(m:Int))=Int.ofNat m:=by
   show wrapF .i64 (0-(-(m:Int)))=_
   rw[wrap64 (by omega) (by omega)]
   simp only[Int.ofNat_eq_natCast];omega
  have e3:addF .u64 (Int.ofNat m) (Int.ofNat 1)=Int.ofNat (m+1):=wrapF_nat (k := .u64) (m:=m+1) (show _≤18446744073709551615 by omega)
  rw[show ltF (Int.negSucc m) (Int.ofNat 0)=true from rfl,condK_true,e1,e2,wrapF_nat (k := .u64) (show m≤18446744073709551615 by omega),e3,g1]
  simp only[callK_some_,rtStr_str]
  rw[show (BS.mk 1 45)=ofN [45] from by decide +kernel,catK_ofN (fun c hc=>by simp at hc;omega) d1.bd (by simp;omega)]
  rfl
theorem digB_iff (c:Nat):digB c=true↔48≤c∧c≤57:=by
 unfold digB
 rw[Bool.and_eq_true,decide_eq_true_eq,decide_eq_true_eq]
theorem digsF_len:∀(k v p:Nat),v<10 ^ (p+1)→v<10 ^ (k+1)→(digsF k v).length≤p+1
 | 0,v,p,h,_=>by show 1≤p+1;omega
 | k+1,v,p,h,hk=>by
  by_cases hv:v<10
  ·rw[(digsF_ok (k+1) v hk).2.2.2.2.1 hv];omega
  ·have e:digsF (k+1) v=digsF k (v / 10)++[48+v % 10]:=by
    show (match Nat.blt v 10 with | true=>_ | false=>_)=_
    rw[show Nat.blt v 10=false by rw[Bool.eq_false_iff];simpa[Nat.blt_eq]using hv]
   obtain⟨p,rfl⟩:∃j,p=j+1:=⟨p-1,by
    rcases p with _|p
    ·simp at h;omega
    ·rfl⟩
   have:=digsF_len k (v / 10) p (by rw[Nat.div_lt_iff_lt_mul (by decide)];rw[Nat.pow_succ]at h;exact h) (by rw[Nat.div_lt_iff_lt_mul (by decide)];rw[Nat.pow_succ]at hk;exact hk)
   rw[e,List.length_append,List.length_cons,List.length_nil];omega
theorem numC_ok {v:Int} (h:In64 v) {r:List Nat} (hd:digB (r.headD 0)=false) (hl:letB (r.headD 0)=false):∃m ds,numC v=numT m ds∧NumOk m ds r∧numI (numC v)=v:=by
 obtain⟨h1,h2⟩:=h
 cases v with
 | ofNat m=>
  simp only[Int.ofNat_eq_natCast]at h1 h2
  obtain⟨d1,d2,d3,d4,d5,d6⟩:=digsF_ok 19 m (by show m<100000000000000000000;omega)
  have hn:=digsF_len 19 m 18 (by show m<10000000000000000000;omega) (by show m<100000000000000000000;omega)
  refine⟨false,digsF 19 m,rfl,⟨fun d h=>(digB_iff d).2 (d1 d h),d3,hn,?_,(fun e=>by cases e),hd,hl,by omega,fun _=>by omega⟩,?_⟩
  ·rcases Nat.eq_zero_or_pos m with h0|h0
   ·exact .inl (d5 (by omega))
   ·have:=d6 h0
    cases hds:digsF 19 m with
    | nil=>rw[hds]at d3;simp at d3
    | cons c l=>rw[hds]at this;exact .inr this
  ·show numI (digsF 19 m)=_
   cases hds:digsF 19 m with
   | nil=>rw[hds]at d3;simp at d3
   | cons c l=>
    have hc:=d1 c (by rw[hds];simp)
    rw[hds]at d2
    show (match decide (c=45)with
     | true=>-Int.ofNat (valD 0 l)
     | false=>Int.ofNat (valD 0 (c::l)))=_
    rw[decide_eq_false (by omega),d2]
 | negSucc m=>
  obtain⟨d1,d2,d3,d4,d5,d6⟩:=digsF_ok 19 (m+1) (by show m+1<100000000000000000000;omega)
  have hn:=digsF_len 19 (m+1) 18 (by show m+1<10000000000000000000;omega) (by show m+1<100000000000000000000;omega)
  have h7:(digsF 19 (m+1)).headD 0≠48:=by
   have:=d6 (by omega)
   cases hds:digsF 19 (m+1)with
   | nil=>simp
   | cons c l=>rw[hds]at this;exact this
  refine⟨true,digsF 19 (m+1),rfl,⟨fun d h=>(digB_iff d).2 (d1 d h),d3,hn,.inr h7,fun _=>h7,hd,hl,by omega,fun e=>by cases e⟩,?_⟩
  show -Int.ofNat (valD 0 (digsF 19 (m+1)))=_
  rw[d2];rfl
theorem sg_skip {t:BS} {l:List BS} {c:Nat} {r:List Nat} (h:t.nats.head?≠some c) (h0:t.nats≠[]):sgIn (t::l) (c::r)=sgIn l (c::r):=by
 rw[sgIn_cons]
 have:decide ((c::r).take t.len=t.nats)=false:=decide_eq_false fun e=>by
  cases hl:t.len with
  | zero=>rw[hl]at e;exact h0 e.symm
  | succ n=>rw[hl]at e;rw[←e]at h;exact h rfl
 rw[this,Bool.and_false]
theorem sg_skip3 {t:BS} {l:List BS} {a b c:Nat} {r:List Nat} (hn:t.nats=[46,46,46]) (hl:t.len=3) (hc:c≠46):sgIn (t::l) (a::b::c::r)=sgIn l (a::b::c::r):=by
 rw[sgIn_cons]
 have:decide ((a::b::c::r).take t.len=t.nats)=false:=decide_eq_false fun e=>by
  rw[hl,hn]at e
  have e:[a,b,c]=[46,46,46]:=e
  injection e with _ e
  injection e with _ e
  injection e with e _
  exact hc e
 rw[this,Bool.and_false]
theorem sg_hit {t:BS} {l:List BS} {r s:List Nat} (hn:r=t.nats++s):sgIn (t::l) r=t.len:=by
 rw[sgIn_cons]
 have hl:=BS.length_nats t
 rw[decide_eq_true (by rw[hn,List.length_append];omega),decide_eq_true (by rw[hn,←hl,List.take_left])]
 rfl
theorem sg_asg (r:List Nat):sgIn signsV (58::58::61::r)=3:=sg_hit (t:=BS.mk 3 4012602) (s:=r) (by rw[show (BS.mk 3 4012602).nats=[58,58,61] from by decide +kernel];rfl)
theorem sg_lp (r:List Nat):sgIn signsV (40::r)=1:=by
 unfold signsV
 rw[sg_skip (by decide +kernel) (by decide +kernel)]
 rw[sg_skip (by decide +kernel) (by decide +kernel)]
 rw[sg_skip (by decide +kernel) (by decide +kernel)]
 rw[sg_skip (by decide +kernel) (by decide +kernel)]
 rw[sg_skip (by decide +kernel) (by decide +kernel)]
 rw[sg_skip (by decide +kernel) (by decide +kernel)]
 rw[sg_skip (by decide +kernel) (by decide +kernel)]
 rw[sg_skip (by decide +kernel) (by decide +kernel)]
 rw[sg_skip (by decide +kernel) (by decide +kernel)]
 exact sg_hit (t:=BS.mk 1 40) (s:=r) (by rw[show (BS.mk 1 40).nats=[40] from by decide +kernel];rfl)
theorem sg_rp (r:List Nat):sgIn signsV (41::r)=1:=by
 unfold signsV
 rw[sg_skip (by decide +kernel) (by decide +kernel)]
 rw[sg_skip (by decide +kernel) (by decide +kernel)]
 rw[sg_skip (by decide +kernel) (by decide +kernel)]
 rw[sg_skip (by decide +kernel) (by decide +kernel)]
 rw[sg_skip (by decide +kernel) (by decide +kernel)]
 rw[sg_skip (by decide +kernel) (by decide +kernel)]
 rw[sg_skip (by decide +kernel) (by decide +kernel)]
 rw[sg_skip (by decide +kernel) (by decide +kernel)]
 rw[sg_skip (by decide +kernel) (by decide +kernel)]
 rw[sg_skip (by decide +kernel) (by decide +kernel)]
 exact sg_hit (t:=BS.mk 1 41) (s:=r) (by rw[show (BS.mk 1 41).nats=[41] from by decide +kernel];rfl)
theorem sg_dd (c:Nat) (r:List Nat) (hc:c≠46):sgIn signsV (46::46::c::r)=2:=by
 unfold signsV
 rw[sg_skip (by decide +kernel) (by decide +kernel),sg_skip3 (by decide +kernel) rfl hc]
 exact sg_hit (t:=BS.mk 2 11822) (s:=c::r) (by rw[show (BS.mk 2 11822).nats=[46,46] from by decide +kernel];rfl)
theorem wht_no {N c:Nat} {r:List Nat} (h1:isWs c=false) (h2:dash c r=false):wht (N+1) (c::r)=c::r:=by
 unfold wht
 rw[h1,h2]
theorem wht_ws {N c:Nat} {r:List Nat} (h1:isWs c=false) (h2:dash c r=false):wht (N+2) (32::c::r)=c::r:=
 (rfl:wht (N+2) (32::c::r)=wht (N+1) (c::r)).trans (wht_no h1 h2)
theorem tk_sign {c n:Nat} {r w r':List Nat} (h:sgIn signsV (c::r)=n) (h0:0<n) (hw:(c::r).take n=w) (hr:(c::r).drop n=r') (h1:letB c=false) (h2:digB c=false) (h3:c≠45) (h4:c≠39) (h5:c≠34):Tk (c::r) 6 w r':=by
 subst h;subst hw;subst hr
 exact .sign h1 h2 (fun e=>absurd e h3) h4 h5 h0
theorem tk_name {c n k:Nat} {r w r':List Nat} (h:nmL (c::r)=n) (hw:(c::r).take n=w) (hr:(c::r).drop n=r') (h1:letB c=true) (h2:nmBad w=false) (hk:k=(if wdB (ofN w)=true then 5 else if c≤90 then 1 else 2)):Tk (c::r) k w r':=by
 subst h;subst hw;subst hr
 exact .name h1 h2 hk
def ubPost:List Nat:=[41,32,69,78,68]
theorem ub_post (N len:Nat):Tks (N+10) len (41::32::69::78::68::[]) [(6,[41],len-(41::32::69::78::68::[]).length),(5,[69,78,68],len-(69::78::68::[]).length),(0,[],len)]:=by
 refine .one (wht_no rfl rfl) (tk_sign (sg_rp _) (by decide) rfl rfl rfl rfl (by decide) (by decide) (by decide)) ?_
 refine .one (wht_ws rfl rfl) (tk_name (n:=3) rfl rfl rfl rfl (by decide +kernel) (by decide +kernel)) ?_
 exact .fin rfl
def ubToks (len:Nat) (w1 w2:List Nat):List Tok:=[(1,[77],len-(77::32::68::69::70::73::78::73::84::73::79::78::83::32::58::58::61::32::66::69::71::73::78::32::65::32::58::58::61::32::73::78::84::69::71::69::82::32::40::(w1++46::46::(w2++ubPost))).length),(5,[68,69,70,73,78,73,84,73,79,78,83],len-(68::69::70::73::78::73::84::73::79::78::83::32::58::58::61::32::66::69::71::73::78::32::65::32::58::58::61::32::73::78::84::69::71::69::82::32::40::(w1++46::46::(w2++ubPost))).length),(6,[58,58,61],len-(58::58::61::32::66::69::71::73::78::32::65::32::58::58::61::32::73::78::84::69::71::69::82::32::40::(w1++46::46::(w2++ubPost))).length),(5,[66,69,71,73,78],len-(66::69::71::73::78::32::65::32::58::58::61::32::73::78::84::69::71::69::82::32::40::(w1++46::46::(w2++ubPost))).length),(1,[65],len-(65::32::58::58::61::32::73::78::84::69::71::69::82::32::40::(w1++46::46::(w2++ubPost))).length),(6,[58,58,61],len-(58::58::61::32::73::78::84::69::71::69::82::32::40::(w1++46::46::(w2++ubPost))).length),(5,[73,78,84,69,71,69,82],len-(73::78::84::69::71::69::82::32::40::(w1++46::46::(w2++ubPost))).length),(6,[40],len-(40::(w1++46::46::(w2++ubPost))).length),(3,w1,len-(w1++46::46::(w2++ubPost)).length),(6,[46,46],len-(46::46::(w2++ubPost)).length),(3,w2,len-(w2++ubPost).length),(6,[41],len-(41::32::69::78::68::[]).length),(5,[69,78,68],len-(69::78::68::[]).length),(0,[],len)]
def ubText (w1 w2:List Nat):List Nat:=77::32::68::69::70::73::78::73::84::73::79::78::83::32::58::58::61::32::66::69::71::73::78::32::65::32::58::58::61::32::73::78::84::69::71::69::82::32::40::(w1++46::46::(w2++ubPost))
theorem numT_head {m:Bool} {ds r:List Nat} (h:NumOk m ds r):∃c l,numT m ds=c::l∧isWs c=false∧c≠46∧(∀t,dash c (l++t)=false):=by
 have h1:=h.n1
 cases hd:ds with
 | nil=>rw[hd]at h1;simp at h1
 | cons d l=>
  have hdg:=(digB_iff d).1 (h.dig d (by rw[hd];simp))
  cases m with
  | false=>
   refine⟨d,l,rfl,?_,by omega,fun t=>?_⟩
   ·unfold isWs
    rw[decide_eq_false (by omega),decide_eq_false (by omega),decide_eq_false (by omega),decide_eq_false (by omega)];rfl
   ·unfold dash
    rw[decide_eq_false (by omega)];rfl
  | true=>
   refine⟨45,d::l,rfl,rfl,by decide,fun t=>?_⟩
   show (true&&decide (d=45))=false
   rw[decide_eq_false (by omega)];rfl
theorem ub_toks (N len:Nat) {m1 m2:Bool} {d1 d2:List Nat} (h1:NumOk m1 d1 (46::46::(numT m2 d2++ubPost))) (h2:NumOk m2 d2 ubPost):Tks (N+10) len (ubText (numT m1 d1) (numT m2 d2)) (ubToks len (numT m1 d1) (numT m2 d2)):=by
 obtain⟨c1,l1,e1,a1,_,b1⟩:=numT_head h1
 obtain⟨c2,l2,e2,a2,n2,b2⟩:=numT_head h2
 unfold ubText ubToks
 refine .one (wht_no rfl rfl) (tk_name (n:=1) rfl rfl rfl rfl (by decide +kernel) (by decide +kernel)) ?_
 refine .one (wht_ws rfl rfl) (tk_name (n:=11) rfl rfl rfl rfl (by decide +kernel) (by decide +kernel)) ?_
 refine .one (wht_ws rfl rfl) (tk_sign (sg_asg _) (by decide) rfl rfl rfl rfl (by decide) (by decide) (by decide)) ?_
 refine .one (wht_ws rfl rfl) (tk_name (n:=5) rfl rfl rfl rfl (by decide +kernel) (by decide +kernel)) ?_
 refine .one (wht_ws rfl rfl) (tk_name (n:=1) rfl rfl rfl rfl (by decide +kernel) (by decide +kernel)) ?_
 refine .one (wht_ws rfl rfl) (tk_sign (sg_asg _) (by decide) rfl rfl rfl rfl (by decide) (by decide) (by decide)) ?_
 refine .one (wht_ws rfl rfl) (tk_name (n:=7) rfl rfl rfl rfl (by decide +kernel) (by decide +kernel)) ?_
 refine .one (wht_ws rfl rfl) (tk_sign (sg_lp _) (by decide) rfl rfl rfl rfl (by decide) (by decide) (by decide)) ?_
 refine .one (r1:=numT m1 d1++46::46::(numT m2 d2++ubPost)) (w:=numT m1 d1) (r2:=46::46::(numT m2 d2++ubPost)) (k:=3) (by rw[e1];exact wht_no a1 (b1 _)) (.num h1) ?_
 refine .one (r1:=46::46::(numT m2 d2++ubPost)) (w:=[46,46]) (r2:=numT m2 d2++ubPost) (k:=6) (wht_no rfl rfl) (tk_sign (n:=2) (by rw[e2];exact sg_dd _ _ n2) (by decide) rfl rfl rfl rfl (by decide) (by decide) (by decide)) ?_
 refine .one (r1:=numT m2 d2++ubPost) (w:=numT m2 d2) (r2:=ubPost) (k:=3) (by rw[e2];exact wht_no a2 (b2 _)) (.num h2) ?_
 exact ub_post N len
def ubNd (lo hi:Int):NodeS:=⟨2,[],false,0,0,⟨true,true,true,false,lo,hi⟩,[],[],0,false,0⟩
def ubM (lo hi:Int):ModS:=⟨[77],0,[[65]],[0],[ubNd lo hi]⟩
theorem ub_mod (len:Nat) (w1 w2:List Nat):modP (typP 2) (ubToks len w1 w2)=some (ubM (numI w1) (numI w2)):=by
 kernel_rfl
theorem ub_ok (lo hi:Int):MdOk (ubM lo hi):=by
 refine⟨fun nd h=>?_,⟨show 1≤300 by decide,show 1≤40 by decide⟩,rfl,fun i hi=>?_⟩
 ·have:nd=ubNd lo hi:=by simpa[ubM]using h
  subst this
  exact⟨show (2:Nat)≠11 by decide,show (2:Nat)≤10 by decide,show (0:Nat)≤5000 by decide⟩
 ·have:i=0:=by
   have hi:i<1:=hi
   omega
  subst this;rfl
theorem ub_roots {lo hi:Int} (h:ltF hi lo=false):rootsP (nodP (ubM lo hi) 2) [0] [] []=some ([0],[mkTy (ubNd lo hi)]):=by
 show ((nodeS (ubM lo hi) (nodP (ubM lo hi) 1) 0 0 []).bind fun r=>rootsP (nodP (ubM lo hi) 2) [] r.2 ([]++[r.1]))=_
 have hc:checkP (ubNd lo hi).con (!decide ((ubNd lo hi).kind=2))=true:=by
  show (!true || !(((true&&true)&&ltF hi lo) || (false&&_)))=true
  rw[h];rfl
 have:nodeS (ubM lo hi) (nodP (ubM lo hi) 1) 0 0 []=some (0,[mkTy (ubNd lo hi)]):=by
  show madeS (nodP (ubM lo hi) 1) 0 (ubNd lo hi) []=_
  unfold madeS
  rw[hc]
  rfl
 rw[this];rfl
def valI (v:Int):List V:=[.int .i64 (Int.ofNat 2),.int .i64 v,.nils,.nils,.int .i64 (Int.ofNat 0),.nils]
def conI (lo hi:Int):List V:=[.bool true,.bool true,.bool true,.bool false,.int .i64 lo,.int .i64 hi]
def widN:Nat→Nat→Nat
 | 0,_=>0
 | k+1,n=>match decide (0<n)with
  | true=>widN k (n / 2)+1
  | false=>0
def SpCnt (F:List V→H→Ans):Prop:=∀(σ:H) (v:Int),Tidy σ→∃σ',F [.agg (valI v)] σ=some (.int .i64 (Int.ofNat 1),σ')∧Fr Nowhere σ σ'
def SpRul (F:List V→H→Ans):Prop:=∀(σ:H) (v:Int),Tidy σ→∃σ',F [.agg (valI v),.int .i64 (Int.ofNat 2)] σ=some (.bool true,σ')∧Fr Nowhere σ σ'
def SpWin (F:List V→H→Ans):Prop:=∀(σ:H) (lo hi v:Int),Tidy σ→leF lo v=true→leF v hi=true→∃σ',F [.agg (conI lo hi),.int .i64 v] σ=some (.bool true,σ')∧Fr Nowhere σ σ'
def SpSpnY (F:List V→H→Ans):Prop:=∀(σ:H) (lo hi:Int),Tidy σ→ltF hi lo=false→∃σ',F [.agg (conI lo hi)] σ=some (.tup [.int .u64 (subF .u64 (wrapF .u64 hi) (wrapF .u64 lo)),.bool true],σ')∧Fr Nowhere σ σ'
def SpWid (F:List V→H→Ans):Prop:=∀(σ:H) (n:Nat),n<2 ^ 60→F [.int .u64 (Int.ofNat n)] σ=some (.int .i64 (Int.ofNat (widN 60 n)),σ)
def SpPla (F:List V→H→Ans):Prop:=∀(σ:H) (v:Int),Tidy σ→∃σ',F [.agg (valI v),.bool true,.bool false,.bool false,.bool false] σ=some (.bool true,σ')∧Fr Nowhere σ σ'
def SpBtwY (F:List V→H→Ans):Prop:=∀(σ:H) (w:Nat) (u:V) (L:List Nat) (v n:Nat),Wr σ w u L→Tidy σ→L.length<8000000→v≤n→n<2 ^ 60→widN 60 n≤64 →
 ∃u' σ',F [.ptr w 0,.int .u64 (Int.ofNat v),.int .u64 (Int.ofNat n)] σ=some (.tup [],σ')∧Wst σ w u σ' u' (L++bitsOf (widN 60 n) v)
section
variable {E:List (Nat × Blk)} {D:Den} {W:DrawFn} {N:Nat}
theorem cnt_F (hN:1<N):SpCnt (F88 E D W N):=by
 intro σ v ht
 obtain⟨N,rfl⟩:∃k,N=k+1:=⟨N-1,by omega⟩
 obtain⟨σ1,e1,f1,a1,n1⟩:=mkN ht (valI v)
 refine⟨σ1,?_,f1⟩
 unfold valI at e1 a1
 show T88_0 E D W (T88_2 E D W (T88_1 E D W) _) (Int.ofNat 2) v .nils .nils (Int.ofNat 0) .nils σ=_
 have key:∀R,T88_0 E D W (T88_2 E D W (T88_1 E D W) R) (Int.ofNat 2) v .nils .nils (Int.ofNat 0) .nils σ=some (.int .i64 (Int.ofNat 1),σ1):=by
  intro R
  unfold T88_0 T88_2 T88_1
  simp -implicitDefEqProofs only [↓rP,rA,Nat.reduceEqDiff,Nat.reduceLT,Nat.reduceLeDiff,↓e1,↓ldK_is a1]
 exact key _
theorem rul_F (hN:1<N):SpRul (F47 E D W N):=by
 intro σ v ht
 obtain⟨N,rfl⟩:∃k,N=k+1:=⟨N-1,by omega⟩
 obtain⟨σ1,e1,f1,a1,n1⟩:=mkN ht (valI v)
 refine⟨σ1,?_,f1⟩
 unfold valI at e1 a1
 show T47_0 E D W (T47_2 E D W (T47_1 E D W) _) (Int.ofNat 2) v .nils .nils (Int.ofNat 0) .nils (Int.ofNat 2) σ=_
 have key:∀R,T47_0 E D W (T47_2 E D W (T47_1 E D W) R) (Int.ofNat 2) v .nils .nils (Int.ofNat 0) .nils (Int.ofNat 2) σ=some (.bool true,σ1):=by
  intro R
  unfold T47_0 T47_2 T47_1
  simp -implicitDefEqProofs only [↓rP,rA,Nat.reduceEqDiff,Nat.reduceLT,Nat.reduceLeDiff,↓e1,↓ldK_is a1]
 exact key _
theorem win_F:SpWin (F93 E D W N):=by
 intro σ lo hi v ht h1 h2
 obtain⟨σ1,e1,f1,a1,n1⟩:=mkN ht (conI lo hi)
 refine⟨σ1,?_,f1⟩
 unfold conI at e1 a1
 show T93_0 E D W true true true false lo hi v σ=_
 unfold T93_0
 simp -implicitDefEqProofs only [↓rP,rA,Nat.reduceEqDiff,Nat.reduceLT,Nat.reduceLeDiff,↓e1,↓ldK_is a1,h1,h2]
theorem span_F:SpSpnY (F169 E D W N):=by
 intro σ lo hi ht h1
 obtain⟨σ1,e1,f1,a1,n1⟩:=mkN ht (conI lo hi)
 refine⟨σ1,?_,f1⟩
 unfold conI at e1 a1
 show T169_0 E D W true true true false lo hi σ=_
 unfold T169_0
 simp -implicitDefEqProofs only [↓rP,rA,Nat.reduceEqDiff,Nat.reduceLT,Nat.reduceLeDiff,↓e1,↓ldK_is a1,h1]
theorem pla_F:SpPla (F165 E D W N):=by
 intro σ v ht
 obtain⟨σ1,e1,f1,a1,n1⟩:=mkN ht (valI v)
 refine⟨σ1,?_,f1⟩
 unfold valI at e1 a1
 show T165_0 E D W (Int.ofNat 2) v .nils .nils (Int.ofNat 0) .nils true false false false σ=_
 unfold T165_0
 simp -implicitDefEqProofs only [↓rP,rA,Nat.reduceEqDiff,Nat.reduceLT,Nat.reduceLeDiff,↓e1,↓ldK_is a1]
theorem wid_F (hN:100<N):SpWid (F16 E D W N):=by
 intro σ n hn
 have loop:∀(k j n w:Nat),n<2 ^ k→k<j→w+k≤1000→L16_2 E D W N j (Int.ofNat n) (Int.ofNat w) σ=some (.int .i64 (Int.ofNat (w+widN k n)),σ):=by
  intro k
  induction k with
  | zero=>
   intro j n w h hj hw
   obtain⟨j,rfl⟩:∃i,j=i+1:=⟨j-1,by omega⟩
   have hn0:n=0:=by simpa using h
   subst hn0
   show T16_2 E D W (T16_1 E D W) _ (Int.ofNat 0) (Int.ofNat w) σ=_
   rfl
  | succ k ih=>
   intro j n w h hj hw
   obtain⟨j,rfl⟩:∃i,j=i+1:=⟨j-1,by omega⟩
   show T16_2 E D W (T16_1 E D W) (L16_2 E D W N j) (Int.ofNat n) (Int.ofNat w) σ=_
   have a1:addF .i64 (Int.ofNat w) (Int.ofNat 1)=Int.ofNat (w+1):=addF_nat (by omega)
   have key:∀R,T16_2 E D W (T16_1 E D W) R (Int.ofNat n) (Int.ofNat w) σ=condK (decide (0<n)) (R (shrF .u64 (Int.ofNat n) 1) (Int.ofNat (w+1)) σ) (some (.int .i64 (Int.ofNat w),σ)):=by
    intro R
    unfold T16_2 T16_1
    simp -implicitDefEqProofs only [↓rP,rA,Nat.reduceEqDiff,Nat.reduceLT,Nat.reduceLeDiff,a1]
   rw[key]
   unfold widN
   cases hd:decide (0<n)with
   | false=>rfl
   | true=>
    rw[condK_true,show shrF .u64 (Int.ofNat n) 1=Int.ofNat (n / 2)from(show Int.ofNat (n >>> 1)=Int.ofNat (n / 2)by rw[Nat.shiftRight_eq_div_pow])]
    rw[ih j (n / 2) (w+1) (by rw[Nat.pow_succ]at h;omega) (by omega) (by omega)]
    show some (V.int .i64 (Int.ofNat (w+1+widN k (n / 2))),σ)=some (V.int .i64 (Int.ofNat (w+(widN k (n / 2)+1))),σ)
    rw[show w+1+widN k (n / 2)=w+(widN k (n / 2)+1)by omega]
 have:=loop 60 N n 0 hn (by omega) (by omega)
 rw[Nat.zero_add]at this
 exact this
theorem betw_Fy (hW:SpWid (D 16)) (hB:SpBits (D 20)):SpBtwY (F27 E D W N):=by
 intro σ w u L v n h ht hl hv hn hw
 have g:=hW σ n hn
 obtain⟨u',σ',g1,s1⟩:=hB σ w u L v (widN 60 n) h ht hl (by omega) hw
 refine⟨u',σ',?_,s1⟩
 have hm:minF (Int.ofNat v) (Int.ofNat n)=Int.ofNat v:=by
  unfold minF
  exact if_neg (fun e=>by have:=Int.ofNat_lt.1 e;omega)
 show T27_0 E D W (.ptr w 0) (Int.ofNat v) (Int.ofNat n) σ=_
 unfold T27_0
 simp -implicitDefEqProofs only [↓rP,rA,Nat.reduceEqDiff,Nat.reduceLT,Nat.reduceLeDiff,↓g,hm,↓g1]
end
def tyI (lo hi:Int):TyS:=mkTy (ubNd lo hi)
theorem tyC_sub:∀(tl:List TyS) (ws:List (V × V × V)) (i:Nat) (t:TyS) (w:V × V × V),tl[i]? = some t→ws[i]? = some w→((tyCs tl ws).drop (i*13)).take 13=t.c w
 | [],_,i,t,w,h,_=>by simp at h
 | _::_,[],i,t,w,_,h=>by simp at h
 | x::tl,y::ws,0,t,w,h,h'=>by simp at h h';subst h;subst h';rfl
 | x::tl,y::ws,i+1,t,w,h,h'=>by
  have h:tl[i]? = some t:=by simpa using h
  have h':ws[i]? = some w:=by simpa using h'
  show ((x.c y++tyCs tl ws).drop ((i+1)*13)).take 13=_
  rw[show (i+1)*13=13+i*13 by omega,←List.drop_drop,show (x.c y++tyCs tl ws).drop 13=tyCs tl ws from rfl]
  exact tyC_sub tl ws i t w h h'
theorem TbS.ty {n0:Nat} {σ:H} {az:List (List Nat)} {rs:List Nat} {tl:List TyS} {u rv lv:V} (h:TbS n0 σ az rs tl u rv lv) {i:Nat} {t:TyS} (hi:tl[i]? = some t) :
  ∃w:V × V × V,(∀(E:List (Nat × Blk)) (κ:List V→Ans),iaddrSK 13 lv (Int.ofNat i) (fun b o=>ldnK E σ b o 13 κ)=κ (t.c w))∧Src σ 2 t.tags.length w.1 (tgC t.tags)∧Src σ 3 t.items.length w.2.1 (itC t.items)∧Src σ 11 t.fields.length w.2.2 (fdC t.fields):=by
 obtain⟨ws,h1,h2,h3⟩:=h.t
 have hlt:i<tl.length:=(List.getElem?_eq_some_iff.1 hi).1
 obtain⟨w,hw⟩:∃w,ws[i]? = some w:=⟨ws[i],List.getElem?_eq_getElem (by omega)⟩
 obtain⟨a,b,c,_⟩:=h3 i t w hi hw
 exact⟨w,fun E κ=>src_at (E:=E) h1 hlt (tyC_sub _ _ _ _ _ hi hw) (by decide) κ,a,b,c⟩
theorem TbS.one4 {n0:Nat} {σ:H} {az:List (List Nat)} {rs:List Nat} {tl:List TyS} {u rv lv:V} (h:TbS n0 σ az rs tl u rv lv):u.one=true∧rv.one=true∧lv.one=true:=by
 obtain⟨ws,h1,_⟩:=h.t
 exact⟨h.n.one,h.r.one,h1.one⟩
theorem TbS.len {n0:Nat} {σ:H} {az:List (List Nat)} {rs:List Nat} {tl:List TyS} {u rv lv:V} (h:TbS n0 σ az rs tl u rv lv) (κ:Nat→Ans):slenK lv κ=κ tl.length:=by
 obtain⟨ws,h1,_⟩:=h.t
 exact h1.slen
theorem TbS.fr0 {n0:Nat} {σ σ':H} {az:List (List Nat)} {rs:List Nat} {tl:List TyS} {u rv lv:V} (h:TbS n0 σ az rs tl u rv lv) (f:Fr Nowhere σ σ') (ht:Tidy σ):TbS n0 σ' az rs tl u rv lv:=h.fr f ht (fun _ _ _ h=>h)
abbrev TbI (σ:H) (lo hi:Int) (u rv lv:V):Prop:=∃n0 az rs,TbS n0 σ az rs [tyI lo hi] u rv lv
def SpFitY (F:List V→H→Ans):Prop:=∀{σ:H} {lo hi v:Int} {nm:List Nat} {u rv lv:V},Tidy σ→TbI σ lo hi u rv lv→leF lo v=true→leF v hi=true→∃σ',F [.agg (tbC nm u rv lv),.int .i64 (Int.ofNat 0),.agg (valI v),.int .i64 (Int.ofNat 1)] σ=some (.bool true,σ')∧Fr Nowhere σ σ'
def SpFits (F:List V→H→Ans):Prop:=∀{σ:H} {lo hi v:Int} {nm:List Nat} {u rv lv:V},Tidy σ→TbI σ lo hi u rv lv→leF lo v=true→leF v hi=true→∃σ',F [.agg (tbC nm u rv lv),.int .i64 (Int.ofNat 0),.agg (valI v)] σ=some (.bool true,σ')∧Fr Nowhere σ σ'
structure InB (lo hi v:Int) (d n:Nat):Prop where
 l:leF lo v=true
 h:leF v hi=true
 c:ltF hi lo=false
 s:subF .u64 (wrapF .u64 hi) (wrapF .u64 lo)=Int.ofNat n
 e:subF .u64 (wrapF .u64 v) (wrapF .u64 lo)=Int.ofNat d
 dn:d≤n
 nb:n<2 ^ 60
 w:0<widN 60 n
 w':widN 60 n≤60
def SpInt (F:List V→H→Ans):Prop:=∀{σ:H} {w:Nat} {u:V} {L:List Nat} {lo hi v:Int} {d n:Nat},Wr σ w u L→Tidy σ→L.length<8000000→InB lo hi v d n →
 ∃u' σ',F [.ptr w 0,.agg (conI lo hi),.int .i64 v] σ=some (.tup [],σ')∧Wst σ w u σ' u' (L++bitsOf (widN 60 n) d)
section
variable {E:List (Nat × Blk)} {D:Den} {W:DrawFn} {N:Nat}
theorem fit_F (hP:SpPla (D 165)) (hW:SpWin (D 93)):SpFitY (F89 E D W N):=by
 intro σ lo hi v nm u rv lv ht hs h1 h2
 obtain⟨n0,az,rs,hs⟩:=hs
 obtain⟨o1,o2,o3⟩:=hs.one4
 obtain⟨σ1,e1,f1,a1,n1⟩:=mkN ht (tbC nm u rv lv)
 obtain⟨σ2,e2,f2,a2,n2⟩:=mkN f1.tidy (valI v)
 have f02:=f1.trans f2 (fun _ _ h=>h)
 have s2:=hs.fr0 f02 ht
 obtain⟨w,rd,w1,w2,w3⟩:=s2.ty (i:=0) rfl
 have rd:∀κ:List V→Ans,iaddrSK 13 lv (Int.ofNat 0) (fun b o=>ldnK E σ2 b o 13 κ)=κ [.int .i64 (Int.ofNat 2),w.1,.bool true,.bool true,.bool true,.bool false,.int .i64 lo,.int .i64 hi,w.2.1,w.2.2,.int .i64 (Int.ofNat 0),.bool false,.int .i64 (Int.ofNat 0)]:=rd E
 have sl:∀κ:Nat→Ans,slenK lv κ=κ 1:=fun κ=>hs.len κ
 obtain⟨σ3,g3,f3⟩:=hP σ2 v f2.tidy
 obtain⟨σ4,g4,f4⟩:=hW σ3 lo hi v f3.tidy h1 h2
 have c2:=f2.at_ a1 f1.tidy (fun h=>h)
 have a3:=f3.at_ a2 f2.tidy (fun h=>h)
 refine⟨σ4,?_,(f02.trans f3 (fun _ _ h=>h)).trans f4 (fun _ _ h=>h)⟩
 unfold tbC at e1 c2
 unfold valI at e2 a2 a3 g3
 unfold conI at g4
 have q1:=w1.one
 have q2:=w2.one
 have q3:=w3.one
 have sub:∀κ:List V→Ans,subK [.int .i64 (Int.ofNat 2),.int .i64 v,.nils,.nils,.int .i64 (Int.ofNat 0),.nils] 0 6 κ=κ [.int .i64 (Int.ofNat 2),.int .i64 v,.nils,.nils,.int .i64 (Int.ofNat 0),.nils]:=fun κ=>by
  rw[subK_of (by simp)];rfl
 show T89_0 E D W _ (ofN nm) u rv lv (Int.ofNat 0) (Int.ofNat 2) v .nils .nils (Int.ofNat 0) .nils (Int.ofNat 1) σ=_
 have key:∀K,T89_0 E D W K (ofN nm) u rv lv (Int.ofNat 0) (Int.ofNat 2) v .nils .nils (Int.ofNat 0) .nils (Int.ofNat 1) σ=some (.bool true,σ4):=by
  intro K
  unfold T89_0
  simp -implicitDefEqProofs only [↓rP,rA,Nat.reduceEqDiff,Nat.reduceLT,Nat.reduceLeDiff,o1,o2,o3,↓e1,↓e2,↓ldK_is c2,↓sl,↓rd,allOne_cons,allOne_nil,one_int,one_bool,q1,q2,q3,↓ldK_is a2,↓ldnK_is a2,↓sub,↓g3,↓ldK_is a3,↓g4]
 exact key _
theorem fits_Fy (hC:SpCnt (D 88)) (hF:SpFitY (D 89)):SpFits (F46 E D W N):=by
 intro σ lo hi v nm u rv lv ht hs h1 h2
 obtain⟨n0,az,rs,hs⟩:=hs
 obtain⟨o1,o2,o3⟩:=hs.one4
 obtain⟨σ1,e1,f1,a1,n1⟩:=mkN ht (tbC nm u rv lv)
 obtain⟨σ2,e2,f2,a2,n2⟩:=mkN f1.tidy (valI v)
 obtain⟨σ3,g3,f3⟩:=hC σ2 v f2.tidy
 have f03:=(f1.trans f2 (fun _ _ h=>h)).trans f3 (fun _ _ h=>h)
 obtain⟨σ4,g4,f4⟩:=hF (nm:=nm) f3.tidy ⟨n0,az,rs,hs.fr0 f03 ht⟩ h1 h2
 have c3:=f3.at_ (f2.at_ a1 f1.tidy (fun h=>h)) f2.tidy (fun h=>h)
 have a3:=f3.at_ a2 f2.tidy (fun h=>h)
 refine⟨σ4,?_,f03.trans f4 (fun _ _ h=>h)⟩
 unfold tbC at e1 c3 g4
 unfold valI at e2 a2 a3 g3 g4
 have sub:∀κ:List V→Ans,subK [.int .i64 (Int.ofNat 2),.int .i64 v,.nils,.nils,.int .i64 (Int.ofNat 0),.nils] 0 6 κ=κ [.int .i64 (Int.ofNat 2),.int .i64 v,.nils,.nils,.int .i64 (Int.ofNat 0),.nils]:=fun κ=>by
  rw[subK_of (by simp)];rfl
 have sub4:∀κ:List V→Ans,subK [.str (ofN nm),u,rv,lv] 0 4 κ=κ [.str (ofN nm),u,rv,lv]:=fun κ=>by
  rw[subK_of (by simp)];rfl
 show T46_0 E D W (ofN nm) u rv lv (Int.ofNat 0) (Int.ofNat 2) v .nils .nils (Int.ofNat 0) .nils σ=_
 unfold T46_0
 simp -implicitDefEqProofs only [↓rP,rA,Nat.reduceEqDiff,Nat.reduceLT,Nat.reduceLeDiff,o1,o2,o3,↓e1,↓e2,↓ldnK_is a2,↓sub,↓g3,↓ldnK_is c3,↓sub4,↓ldnK_is a3,↓g4]
theorem int_F (hW:SpWin (D 93)) (hS:SpSpnY (D 169)) (hB:SpBtwY (D 27)):SpInt (F90 E D W N):=by
 intro σ w u L lo hi v d n h ht hl hb
 obtain⟨σ1,e1,f1,a1,n1⟩:=mkN ht (conI lo hi)
 obtain⟨σ2,g2,f2⟩:=hW σ1 lo hi v f1.tidy hb.l hb.h
 obtain⟨σ3,g3,f3⟩:=hS σ2 lo hi f2.tidy hb.c
 have f03:=(f1.trans f2 (fun _ _ h=>h)).trans f3 (fun _ _ h=>h)
 obtain⟨u',σ4,g4,s4⟩:=hB σ3 w u L d n (h.fr f03 ht) f3.tidy hl hb.dn hb.nb (by have:=hb.w';omega)
 have a2:=f2.at_ a1 f1.tidy (fun h=>h)
 have a3:=f3.at_ a2 f2.tidy (fun h=>h)
 refine⟨u',σ4,?_,Wst.behind f03 s4⟩
 unfold conI at e1 a1 a2 a3 g2 g3
 rw[hb.s]at g3
 have sub:∀κ:List V→Ans,subK [.bool true,.bool true,.bool true,.bool false,.int .i64 lo,.int .i64 hi] 0 6 κ=κ [.bool true,.bool true,.bool true,.bool false,.int .i64 lo,.int .i64 hi]:=fun κ=>by
  rw[subK_of (by simp)];rfl
 have hd:=hb.e
 show T90_0 E D W (T90_1 E D W) (.ptr w 0) true true true false lo hi v σ=_
 unfold T90_0 T90_1
 simp -implicitDefEqProofs only [↓rP,rA,Nat.reduceEqDiff,Nat.reduceLT,Nat.reduceLeDiff,↓e1,↓ldnK_is a1,↓sub,↓g2,↓ldK_is a2,↓ldnK_is a2,↓g3,↓ldK_is a3,hd,↓g4]
def SpPutI (F:List V→H→Ans):Prop:=∀{σ:H} {w:Nat} {x:V} {L:List Nat} {lo hi v:Int} {nm:List Nat} {u rv lv:V} {d n:Nat},Wr σ w x L→Tidy σ→L.length<8000000→TbI σ lo hi u rv lv→InB lo hi v d n →
 ∃x' σ',F [.ptr w 0,.agg (tbC nm u rv lv),.int .i64 (Int.ofNat 0),.agg (valI v)] σ=some (.tup [],σ')∧Wst σ w x σ' x' (L++bitsOf (widN 60 n) d)
theorem put_Fy (hI:SpInt (D 90)):SpPutI (F48 E D W N):=by
 intro σ w x L lo hi v nm u rv lv d n h ht hl hs hb
 obtain⟨n0,az,rs,hs⟩:=hs
 obtain⟨o1,o2,o3⟩:=hs.one4
 obtain⟨σ1,e1,f1,a1,n1⟩:=mkN ht (tbC nm u rv lv)
 obtain⟨σ2,e2,f2,a2,n2⟩:=mkN f1.tidy (valI v)
 have f02:=f1.trans f2 (fun _ _ h=>h)
 have s2:=hs.fr0 f02 ht
 obtain⟨t,rd,w1,w2,w3⟩:=s2.ty (i:=0) rfl
 have rd:∀κ:List V→Ans,iaddrSK 13 lv (Int.ofNat 0) (fun b o=>ldnK E σ2 b o 13 κ)=κ [.int .i64 (Int.ofNat 2),t.1,.bool true,.bool true,.bool true,.bool false,.int .i64 lo,.int .i64 hi,t.2.1,t.2.2,.int .i64 (Int.ofNat 0),.bool false,.int .i64 (Int.ofNat 0)]:=rd E
 obtain⟨x',σ3,g3,s3⟩:=hI (h.fr f02 ht) f2.tidy hl hb
 have c2:=f2.at_ a1 f1.tidy (fun h=>h)
 refine⟨x',σ3,?_,Wst.behind f02 s3⟩
 unfold tbC at e1 c2
 unfold valI at e2 a2
 unfold conI at g3
 have q1:=w1.one
 have q2:=w2.one
 have q3:=w3.one
 show T48_0 E D W _ _ (.ptr w 0) (ofN nm) u rv lv (Int.ofNat 0) (Int.ofNat 2) v .nils .nils (Int.ofNat 0) .nils σ=_
 have key:∀K1 K2,T48_0 E D W K1 K2 (.ptr w 0) (ofN nm) u rv lv (Int.ofNat 0) (Int.ofNat 2) v .nils .nils (Int.ofNat 0) .nils σ=some (.tup [],σ3):=by
  intro K1 K2
  unfold T48_0
  simp -implicitDefEqProofs only [↓rP,rA,Nat.reduceEqDiff,Nat.reduceLT,Nat.reduceLeDiff,o1,o2,o3,↓e1,↓e2,↓ldK_is c2,↓rd,allOne_cons,allOne_nil,one_int,one_bool,q1,q2,q3,↓ldK_is a2,↓g3]
 exact key _ _
theorem bin_bitsOf:∀(n v:Nat),Bin (bitsOf n v):=bitsOf_bin
def SpEnc (F:List V→H→Ans):Prop:=∀{σ:H} {lo hi v:Int} {nm:List Nat} {u rv lv:V} {d n:Nat},Tidy σ→TbI σ lo hi u rv lv→InB lo hi v d n →
 ∃x σ',F [.agg (tbC nm u rv lv),.int .i64 (Int.ofNat 0),.agg (valI v)] σ=some (.tup [x,.int .i64 (Int.ofNat 0)],σ')∧Nb σ σ' x (nI (pack (bitsOf (widN 60 n) d)))∧Fr Nowhere σ σ'
theorem enc_Fy (hF:SpFits (D 46)) (hR:SpRul (D 47)) (hP:SpPutI (D 48)) (hB:∀{σ:H} {w:Nat} {u:V} {L:List Nat},Wr σ w u L→Tidy σ→Bin L→L.length≤1000→0<L.length→∃v σ',D 23 [.ptr w 0] σ=some (v,σ')∧Nb σ σ' v (nI (pack L))∧Fr Nowhere σ σ'):SpEnc (F30 E D W N):=by
  intro σ lo hi v nm u rv lv d n ht hs hb
  obtain⟨n0,az,rs,hs⟩:=hs
  obtain⟨o1,o2,o3⟩:=hs.one4
  obtain⟨σ1,e1,f1,a1,n1⟩:=mkN ht (tbC nm u rv lv)
  obtain⟨σ2,e2,f2,a2,n2⟩:=mkN f1.tidy (valI v)
  have f02:=f1.trans f2 (fun _ _ h=>h)
  obtain⟨σ3,g3,f3⟩:=hF (nm:=nm) f2.tidy ⟨n0,az,rs,hs.fr0 f02 ht⟩ hb.l hb.h
  obtain⟨σ4,g4,f4⟩:=hR σ3 v f3.tidy
  have f04:=(f02.trans f3 (fun _ _ h=>h)).trans f4 (fun _ _ h=>h)
  obtain⟨σ5,e5,f5,a5,n5⟩:=mkN f4.tidy [.nils]
  have f05:=f04.trans f5 (fun _ _ h=>h)
  have wr:Wr σ5 σ4.next .nils []:=⟨a5,Dst.nil _ _,fun h=>h⟩
  obtain⟨x6,σ6,g6,s6⟩:=hP (nm:=nm) wr f5.tidy (by simp) ⟨n0,az,rs,hs.fr0 f05 ht⟩ hb
  rw[List.nil_append]at s6
  have hlen:(bitsOf (widN 60 n) d).length=widN 60 n:=bitsOf_length _ _
  have hw:=hb.w
  have hw':=hb.w'
  obtain⟨x7,σ7,g7,b7,f7⟩:=hB s6.wr s6.f.tidy (bin_bitsOf _ _) (by omega) (by omega)
  have le1:=f1.le
  have le2:=f2.le
  have f56:Fr (fun b=>σ.next≤b) σ σ6:=(f05.mono (fun _ _ h=>h.elim):Fr (fun b=>σ.next≤b) σ σ5).trans s6.f (fun b _ e=>by
    have:=f04.le
    rcases e with e|e
    · omega
    · exact e.elim)
  have f07:Fr Nowhere σ σ7:=(f56.mono (fun b hb e=>by omega)).trans f7 (fun _ _ h=>h)
  have c2:=f2.at_ a1 f1.tidy (fun h=>h)
  have a3:=f3.at_ a2 f2.tidy (fun h=>h)
  have a54:=f5.at_ (f4.at_ a3 f3.tidy (fun h=>h)) f4.tidy (fun h=>h)
  have c5:=f5.at_ (f4.at_ (f3.at_ c2 f2.tidy (fun h=>h)) f3.tidy (fun h=>h)) f4.tidy (fun h=>h)
  refine⟨x7,σ7,?_,⟨b7.1,fun b hb=>Nat.le_trans f56.le (b7.2 b hb)⟩,f07⟩
  have few:decide (70000<(nI (pack (bitsOf (widN 60 n) d))).length)=false:=decide_eq_false (by
    rw[nI_length,pack_length,hlen];unfold packN;omega)
  unfold tbC at e1 c2 c5 g3 g6
  unfold valI at e2 a2 a3 a54 g3 g4 g6
  have sub:∀κ:List V→Ans,subK [.int .i64 (Int.ofNat 2),.int .i64 v,.nils,.nils,.int .i64 (Int.ofNat 0),.nils] 0 6 κ=κ [.int .i64 (Int.ofNat 2),.int .i64 v,.nils,.nils,.int .i64 (Int.ofNat 0),.nils]:=fun κ=>by
    rw[subK_of (by simp)];rfl
  have sub4:∀κ:List V→Ans,subK [.str (ofN nm),u,rv,lv] 0 4 κ=κ [.str (ofN nm),u,rv,lv]:=fun κ=>by
    rw[subK_of (by simp)];rfl
  show T30_0 E D W (ofN nm) u rv lv (Int.ofNat 0) (Int.ofNat 2) v .nils .nils (Int.ofNat 0) .nils σ=_
  unfold T30_0
  simp -implicitDefEqProofs only [↓rP,rA,Nat.reduceEqDiff,Nat.reduceLT,Nat.reduceLeDiff,o1,o2,o3,↓e1,↓e2,↓ldnK_is c2,↓sub4,↓ldnK_is a2,↓sub,↓g3,↓ldnK_is a3,↓g4,↓e5,↓ldnK_is c5,↓ldnK_is a54,↓g6,↓g7,↓rtOne_of b7.1.one,↓b7.1.slen,few]
end
def tyIC (lo hi:Int) (w:V × V × V):List V:=[.int .i64 (Int.ofNat 2),w.1,.bool true,.bool true,.bool true,.bool false,.int .i64 lo,.int .i64 hi,w.2.1,w.2.2,.int .i64 (Int.ofNat 0),.bool false,.int .i64 (Int.ofNat 0)]
structure TyW (σ:H) (w:V × V × V):Prop where
 a:w.1.one=true
 b:Src σ 3 0 w.2.1 []
 c:Src σ 11 0 w.2.2 []
def SpNoT (F:List V→H→Ans):Prop:=∀{σ:H} {lo hi:Int} {w:V × V × V},Tidy σ→TyW σ w→∃σ',F [.agg (tyIC lo hi w)] σ=some (.bool false,σ')∧Fr Nowhere σ σ'
def SpIdx (f:FuncId) (F:List V→H→Ans):Prop:=∀{σ:H} {lo hi:Int} {u rv lv:V},Tidy σ→TbI σ lo hi u rv lv→∃σ',F [lv,.fn f [] []] σ=some (.int .i64 (Int.negSucc 0),σ')∧Fr Nowhere σ σ'
def SpCon (f:FuncId) (F:List V→H→Ans):Prop:=∀{σ:H} {lo hi:Int} {u rv lv:V},Tidy σ→TbI σ lo hi u rv lv→∃σ',F [lv,.fn f [] []] σ=some (.bool false,σ')∧Fr Nowhere σ σ'
def SpMade (F:List V→H→Ans):Prop:=∀{σ:H} {lo hi:Int} {nm:List Nat} {u rv lv:V},Tidy σ→TbI σ lo hi u rv lv→∃σ',F [.agg (tbC nm u rv lv)] σ=some (.bool true,σ')∧Fr Nowhere σ σ'
theorem TbI.ty {σ:H} {lo hi:Int} {u rv lv:V} (h:TbI σ lo hi u rv lv):∃w:V × V × V,(∀(E:List (Nat × Blk)) (κ:List V→Ans),iaddrSK 13 lv (Int.ofNat 0) (fun b o=>ldnK E σ b o 13 κ)=κ (tyIC lo hi w))∧TyW σ w:=by
 obtain⟨n0,az,rs,hs⟩:=h
 obtain⟨w,rd,w1,w2,w3⟩:=hs.ty (i:=0) rfl
 exact⟨w,rd,w1.one,w2,w3⟩
theorem TbI.fr {σ σ':H} {lo hi:Int} {u rv lv:V} (h:TbI σ lo hi u rv lv) (f:Fr Nowhere σ σ') (ht:Tidy σ):TbI σ' lo hi u rv lv:=by
 obtain⟨n0,az,rs,hs⟩:=h
 exact⟨n0,az,rs,hs.fr0 f ht⟩
theorem TbI.len {σ:H} {lo hi:Int} {u rv lv:V} (h:TbI σ lo hi u rv lv) (κ:Nat→Ans):slenK lv κ=κ 1:=by
 obtain⟨n0,az,rs,hs⟩:=h
 exact hs.len κ
theorem TbI.ones {σ:H} {lo hi:Int} {u rv lv:V} (h:TbI σ lo hi u rv lv):u.one=true∧rv.one=true∧lv.one=true:=by
 obtain⟨n0,az,rs,hs⟩:=h
 exact hs.one4
section
variable {E:List (Nat × Blk)} {D:Den} {W:DrawFn} {N:Nat}
theorem rooted1_F:SpNoT (F68 E D W N):=by
 intro σ lo hi w ht hw
 obtain⟨q1,q2,q3⟩:=hw
 obtain⟨σ1,e1,f1,a1,n1⟩:=mkN ht (tyIC lo hi w)
 refine⟨σ1,?_,f1⟩
 unfold tyIC at e1 a1
 have o2:=q2.one
 have o3:=q3.one
 have sl2:∀κ:Nat→Ans,slenK w.2.1 κ=κ 0:=fun κ=>q2.slen
 have sl3:∀κ:Nat→Ans,slenK w.2.2 κ=κ 0:=fun κ=>q3.slen
 show T68_0 E D W (Int.ofNat 2) w.1 true true true false lo hi w.2.1 w.2.2 (Int.ofNat 0) false (Int.ofNat 0) σ=_
 unfold T68_0
 simp -implicitDefEqProofs only [↓rP,rA,Nat.reduceEqDiff,Nat.reduceLT,Nat.reduceLeDiff,q1,o2,o3,↓e1,↓ldK_is a1,↓sl2,↓sl3]
 rfl
theorem made1_F:SpNoT (F98 E D W N):=by
 intro σ lo hi w ht hw
 obtain⟨q1,q2,q3⟩:=hw
 obtain⟨σ1,e1,f1,a1,n1⟩:=mkN ht (tyIC lo hi w)
 refine⟨σ1,?_,f1⟩
 unfold tyIC at e1 a1
 have o2:=q2.one
 have o3:=q3.one
 show T98_0 E D W (Int.ofNat 2) w.1 true true true false lo hi w.2.1 w.2.2 (Int.ofNat 0) false (Int.ofNat 0) σ=_
 unfold T98_0
 simp -implicitDefEqProofs only [↓rP,rA,Nat.reduceEqDiff,Nat.reduceLT,Nat.reduceLeDiff,q1,o2,o3,↓e1,↓ldK_is a1]
theorem idx_F {f:FuncId} (hf:SpNoT (D f)) (hN:2<N):SpIdx f (F137 E D W N):=by
 intro σ lo hi u rv lv ht hs
 obtain⟨N,rfl⟩:∃k,N=k+2:=⟨N-2,by omega⟩
 obtain⟨w,rd,hw⟩:=hs.ty
 have rd:=rd E
 obtain⟨σ1,g1,f1⟩:=hf (lo:=lo) (hi:=hi) ht hw
 refine⟨σ1,?_,f1⟩
 have sl:∀κ:Nat→Ans,slenK lv κ=κ 1:=fun κ=>hs.len κ
 unfold tyIC at rd g1
 have cv:∀κ:V→H→Ans,callvK D (.fn f [] []) [.agg [.int .i64 (Int.ofNat 2),w.1,.bool true,.bool true,.bool true,.bool false,.int .i64 lo,.int .i64 hi,w.2.1,w.2.2,.int .i64 (Int.ofNat 0),.bool false,.int .i64 (Int.ofNat 0)]] σ κ=κ (.bool false) σ1:=fun κ=>by
  show callK (D f [.agg _]  σ) κ=_
  rw[g1];rfl
 show T137_0 E D W (T137_2 E D W (T137_1 E D W) (T137_2 E D W (T137_1 E D W) _)) lv (.fn f [] []) σ=_
 have key:∀R,T137_0 E D W (T137_2 E D W (T137_1 E D W) (T137_2 E D W (T137_1 E D W) R)) lv (.fn f [] []) σ=some (.int .i64 (Int.negSucc 0),σ1):=by
  intro R
  unfold T137_0 T137_2 T137_1
  simp -implicitDefEqProofs only [↓rP,rA,Nat.reduceEqDiff,Nat.reduceLT,Nat.reduceLeDiff,↓sl,↓rd,↓cv]
  rfl
 exact key _
theorem con_F {f:FuncId} (hf:SpIdx f (D 137)):SpCon f (F67 E D W N):=by
 intro σ lo hi u rv lv ht hs
 obtain⟨σ1,g1,f1⟩:=hf ht hs
 refine⟨σ1,?_,f1⟩
 show T67_0 E D W lv (.fn f [] []) σ=_
 unfold T67_0
 simp -implicitDefEqProofs only [↓rP,rA,Nat.reduceEqDiff,Nat.reduceLT,Nat.reduceLeDiff,↓g1]
 rfl
theorem rooted_F (hC:SpCon 68 (D 67)):SpMade (F37 E D W N):=by
 intro σ lo hi nm u rv lv ht hs
 obtain⟨o1,o2,o3⟩:=hs.ones
 obtain⟨σ1,e1,f1,a1,n1⟩:=mkN ht (tbC nm u rv lv)
 obtain⟨σ2,g2,f2⟩:=hC f1.tidy (hs.fr f1 ht)
 refine⟨σ2,?_,f1.trans f2 (fun _ _ h=>h)⟩
 unfold tbC at e1 a1
 show T37_0 E D W (ofN nm) u rv lv σ=_
 unfold T37_0
 simp -implicitDefEqProofs only [↓rP,rA,Nat.reduceEqDiff,Nat.reduceLT,Nat.reduceLeDiff,o1,o2,o3,↓e1,↓ldK_is a1,↓g2]
theorem made_Fu (hR:SpMade (D 37)) (hC:SpCon 98 (D 67)):SpMade (F49 E D W N):=by
 intro σ lo hi nm u rv lv ht hs
 obtain⟨o1,o2,o3⟩:=hs.ones
 obtain⟨σ1,e1,f1,a1,n1⟩:=mkN ht (tbC nm u rv lv)
 obtain⟨σ2,g2,f2⟩:=hR (nm:=nm) f1.tidy (hs.fr f1 ht)
 obtain⟨σ3,g3,f3⟩:=hC f2.tidy ((hs.fr f1 ht).fr f2 f1.tidy)
 have a2:=f2.at_ a1 f1.tidy (fun h=>h)
 refine⟨σ3,?_,(f1.trans f2 (fun _ _ h=>h)).trans f3 (fun _ _ h=>h)⟩
 unfold tbC at e1 a1 a2 g2
 have sub4:∀κ:List V→Ans,subK [.str (ofN nm),u,rv,lv] 0 4 κ=κ [.str (ofN nm),u,rv,lv]:=fun κ=>by
  rw[subK_of (by simp)];rfl
 show T49_0 E D W (ofN nm) u rv lv σ=_
 unfold T49_0
 simp -implicitDefEqProofs only [↓rP,rA,Nat.reduceEqDiff,Nat.reduceLT,Nat.reduceLeDiff,o1,o2,o3,↓e1,↓ldnK_is a1,↓sub4,↓g2,↓ldK_is a2,↓g3]
end
def l8tab:BS:=BS.mk 256 1013866857139168856493015739252390649739422828853819106890363778118420553376247557433637691341895324351018602695588957474325319502760499485336098898398377509666851054660423406800006203933793007272033180812049178612605246075062580585469430410618860250057463399279570354286669047577758927328864388992123306212451509403152394148136105363817402562688186708175358218852349079190158732807302672745370040257219644697201681238697346923541678507645485296520536209706771857694240900605172937619415410180424934769249448772944216470541052485265558808433676546390051204254346932932316488017972311616136051587427851453983453479168
theorem l8_tab:∀n:Fin 5001,(if 256≤n.val then 8+l8tab.get (n.val / 256)else l8tab.get n.val)=widN 60 n.val:=by decide +kernel
theorem l8_lt:∀n:Fin 256,l8tab.get n.val≤8:=by decide +kernel
def SpLen (F:List V→H→Ans):Prop:=∀(σ:H) (n:Nat),n≤5000→F [.int .u64 (Int.ofNat n)] σ=some (.int .i64 (Int.ofNat (widN 60 n)),σ)
def SpBth (F:List V→H→Ans):Prop:=∀(σ:H) (lo hi:Int),Tidy σ→∃σ',F [.agg (conI lo hi)] σ=some (.bool true,σ')∧Fr Nowhere σ σ'
def SpCrs (F:List V→H→Ans):Prop:=∀(σ:H) (lo hi:Int),Tidy σ→ltF hi lo=false→∃σ',F [.agg (conI lo hi)] σ=some (.bool false,σ')∧Fr Nowhere σ σ'
section
variable {E:List (Nat × Blk)} {D:Den} {W:DrawFn} {N:Nat}
theorem idx_tab {m:Nat} (h:m<256) (κ:Int→Ans):idxStrX l8tab (Int.ofNat m) κ=κ (Int.ofNat (l8tab.get m)):=by
 show chk (Nat.blt m 256) _=_
 exact chk_true (by simpa[Nat.blt_eq]using h)
theorem len_F:SpLen (F290 E D W N):=by
 intro σ n hn
 have e:=l8_tab ⟨n,by omega⟩
 have d1:decide (4294967296≤n)=false:=decide_eq_false (by omega)
 have d2:decide (65536≤n)=false:=decide_eq_false (by omega)
 show T290_0 E D W (T290_1 E D W (T290_2 E D W (T290_3 E D W))) (Int.ofNat n) σ=_
 have fin:∀(m b:Nat),m<256→b≤8→T290_3 E D W (Int.ofNat m) (Int.ofNat b) σ=some (.int .i64 (Int.ofNat (b+l8tab.get m)),σ):=by
  intro m b hm hb
  have hl:=l8_lt ⟨m,hm⟩
  have w1:wrapF .u8 (Int.ofNat m)=Int.ofNat m:=wrapF_nat (show m≤255 by omega)
  have hl:l8tab.get m≤8:=hl
  have w2:wrapF .i64 (Int.ofNat (l8tab.get m))=Int.ofNat (l8tab.get m):=wrapF_nat (show l8tab.get m≤9223372036854775807 by omega)
  have w3:addF .i64 (Int.ofNat b) (Int.ofNat (l8tab.get m))=Int.ofNat (b+l8tab.get m):=addF_nat (by omega)
  show idxStrX l8tab (wrapF .u8 (Int.ofNat m)) (fun x1=>some (.int .i64 (addF .i64 (Int.ofNat b) (wrapF .i64 x1)),σ))=_
  rw[w1,idx_tab hm,w2,w3]
 have k0:∀K,T290_0 E D W K (Int.ofNat n) σ=K (Int.ofNat n) (Int.ofNat 0) σ:=by
  intro K
  unfold T290_0
  simp -implicitDefEqProofs only [↓rP,rA,Nat.reduceEqDiff,Nat.reduceLT,Nat.reduceLeDiff,d1]
 have k1:∀K,T290_1 E D W K (Int.ofNat n) (Int.ofNat 0) σ=K (Int.ofNat n) (Int.ofNat 0) σ:=by
  intro K
  unfold T290_1
  simp -implicitDefEqProofs only [↓rP,rA,Nat.reduceEqDiff,Nat.reduceLT,Nat.reduceLeDiff,d2]
 rw[k0,k1]
 cases d3:decide (256≤n)with
 | true=>
  have k2:∀K,T290_2 E D W K (Int.ofNat n) (Int.ofNat 0) σ=K (Int.ofNat (n / 256)) (Int.ofNat 8) σ:=by
   intro K
   show condK (leF (Int.ofNat 256) (Int.ofNat n)) (K (shrF .u64 (Int.ofNat n) 8) (addF .i64 (Int.ofNat 0) (Int.ofNat 8)) σ) (K (Int.ofNat n) (Int.ofNat 0) σ)=_
   rw[show leF (Int.ofNat 256) (Int.ofNat n)=decide (256≤n)by simp only[rQ,decide_false,decide_true,Nat.reduceEqDiff,Nat.reduceLT,Nat.reduceLeDiff],d3,condK_true]
   rfl
  rw[k2,fin _ _ (by omega) (by omega),←e,if_pos (of_decide_eq_true d3)]
 | false=>
  have k2:∀K,T290_2 E D W K (Int.ofNat n) (Int.ofNat 0) σ=K (Int.ofNat n) (Int.ofNat 0) σ:=by
   intro K
   unfold T290_2
   simp -implicitDefEqProofs only [↓rP,rA,Nat.reduceEqDiff,Nat.reduceLT,Nat.reduceLeDiff,d3]
  have:=of_decide_eq_false d3
  rw[k2,fin _ _ (by omega) (by omega),←e,if_neg (of_decide_eq_false d3),Nat.zero_add]
theorem bwidth_Fi (hL:SpLen (D 290)):SpLen (F237 E D W N):=by
 intro σ n hn
 have g:=hL σ n hn
 show T237_0 E D W (Int.ofNat n) σ=_
 unfold T237_0
 simp -implicitDefEqProofs only [↓rP,rA,Nat.reduceEqDiff,Nat.reduceLT,Nat.reduceLeDiff,↓g]
theorem both_Fi:SpBth (F235 E D W N):=by
 intro σ lo hi ht
 obtain⟨σ1,e1,f1,a1,n1⟩:=mkN ht (conI lo hi)
 refine⟨σ1,?_,f1⟩
 unfold conI at e1 a1
 show T235_0 E D W true true true false lo hi σ=_
 unfold T235_0
 simp -implicitDefEqProofs only [↓rP,rA,Nat.reduceEqDiff,Nat.reduceLT,Nat.reduceLeDiff,↓e1,↓ldK_is a1]
theorem crossed_Fi (hB:SpBth (D 235)):SpCrs (F236 E D W N):=by
 intro σ lo hi ht hc
 obtain⟨σ1,e1,f1,a1,n1⟩:=mkN ht (conI lo hi)
 obtain⟨σ2,g2,f2⟩:=hB σ1 lo hi f1.tidy
 have a2:=f2.at_ a1 f1.tidy (fun h=>h)
 refine⟨σ2,?_,f1.trans f2 (fun _ _ h=>h)⟩
 unfold conI at e1 a1 a2 g2
 have sub:∀κ:List V→Ans,subK [.bool true,.bool true,.bool true,.bool false,.int .i64 lo,.int .i64 hi] 0 6 κ=κ [.bool true,.bool true,.bool true,.bool false,.int .i64 lo,.int .i64 hi]:=fun κ=>by
  rw[subK_of (by simp)];rfl
 show T236_0 E D W true true true false lo hi σ=_
 unfold T236_0
 simp -implicitDefEqProofs only [↓rP,rA,Nat.reduceEqDiff,Nat.reduceLT,Nat.reduceLeDiff,↓e1,↓ldnK_is a1,↓sub,↓g2,↓ldK_is a2,hc]
theorem bspan_Fi (hB:SpBth (D 235)) (hC:SpCrs (D 236)):SpSpnY (F140 E D W N):=by
 intro σ lo hi ht hc
 obtain⟨σ1,e1,f1,a1,n1⟩:=mkN ht (conI lo hi)
 obtain⟨σ2,g2,f2⟩:=hB σ1 lo hi f1.tidy
 obtain⟨σ3,g3,f3⟩:=hC σ2 lo hi f2.tidy hc
 refine⟨σ3,?_,(f1.trans f2 (fun _ _ h=>h)).trans f3 (fun _ _ h=>h)⟩
 unfold conI at e1 a1 g2 g3
 have sub:∀κ:List V→Ans,subK [.bool true,.bool true,.bool true,.bool false,.int .i64 lo,.int .i64 hi] 0 6 κ=κ [.bool true,.bool true,.bool true,.bool false,.int .i64 lo,.int .i64 hi]:=fun κ=>by
  rw[subK_of (by simp)];rfl
 show T140_0 E D W true true true false lo hi σ=_
 unfold T140_0
 simp -implicitDefEqProofs only [↓rP,rA,Nat.reduceEqDiff,Nat.reduceLT,Nat.reduceLeDiff,↓e1,↓ldnK_is a1,↓sub,↓g2,↓g3]
end
def SpBtwC (F:List V→H→Ans):Prop:=∀{σ:H} {c0 c1 c2 wb rb i n:Nat} {v:V} {O:List Nat} {em:Bool},Rw σ wb rb v O i (Int.ofNat 0) em→Tidy σ→n≤5000→i+widN 60 n≤8*O.length→widN 60 n≤32→readV (bitsO O) i (widN 60 n) 0≤n →
 Atc σ c0 [.ptr wb 0]→Atc σ c1 [.int .u64 (Int.ofNat n)]→Atc σ c2 [.int .u64 (Int.ofNat 0)]→c0≠rb→c1≠rb→c2≠rb→c0≠c2→c1≠c2→c2≠wb→¬Names v c2 →
 ∃σ',F [.ptr c0 0,.ptr c1 0,.ptr c2 0] σ=some (.tup [],σ')∧Rw σ' wb rb v O (i+widN 60 n) (Int.ofNat 0) em∧Atc σ' c2 [.int .u64 (Int.ofNat (readV (bitsO O) i (widN 60 n) 0))]∧Fr (fun k=>k=rb∨k=c2) σ σ'
def SpRBtw (F:List V→H→Ans):Prop:=∀{σ:H} {wb rb i n:Nat} {v:V} {O:List Nat} {em:Bool},Rw σ wb rb v O i (Int.ofNat 0) em→Tidy σ→n≤5000→i+widN 60 n≤8*O.length→widN 60 n≤32→readV (bitsO O) i (widN 60 n) 0≤n →
 ∃σ',F [.ptr wb 0,.int .u64 (Int.ofNat n)] σ=some (.int .u64 (Int.ofNat (readV (bitsO O) i (widN 60 n) 0)),σ')∧Rw σ' wb rb v O (i+widN 60 n) (Int.ofNat 0) em∧Fr (fun k=>k=rb) σ σ'
section
variable {E:List (Nat × Blk)} {D:Den} {N:Nat}
theorem btwc_F (hL:SpLen (D 237)) (hW:SpWbits (D 103)):SpBtwC (F263 E D (drawW E D) N):=by
 intro σ c0 c1 c2 wb rb i n v O em h ht hn hi hw hr a0 a1 a2 q0 q1 q2 q02 q12 q3 q4
 have fw:Fr Nowhere σ ⟨σ.next+5,σ.bl⟩:=(go_start (E:=E) (n:=5) (S:=Nowhere) ht).fr
 have l0:=a0.lt ht
 have l1:=a1.lt ht
 have l2:=a2.lt ht
 have lr:=h.pl.at_.lt ht
 have g1:=hL ⟨σ.next+5,σ.bl⟩ n hn
 obtain⟨σ1,g2,r1,f1⟩:=hW ⟨σ.next+5,σ.bl⟩ wb rb i (widN 60 n) v O em (h.fr0 fw ht) fw.tidy hi hw
 have b2:=f1.at_ (fw.at_ a2 ht (fun h=>h)) fw.tidy q2
 have st:∃σ3,den1 E D (.store 1 (.tmp 2) (.tmp 6)) [(6,.int .u64 (Int.ofNat (readV (bitsO O) i (widN 60 n) 0))),(2,.ptr c2 0)] σ1=some (.dead,σ3)∧Fr (fun k=>k=c2) σ1 σ3∧Atc σ3 c2 [.int .u64 (Int.ofNat (readV (bitsO O) i (widN 60 n) 0))]:=by
  obtain⟨σ3,x1,x2,x3⟩:=st_den (E:=E) (D:=D) (n:=1) (x := .tmp 2) (y := .tmp 6) (e:=[(6,.int .u64 (Int.ofNat (readV (bitsO O) i (widN 60 n) 0))),(2,.ptr c2 0)]) f1.tidy b2 rfl rfl rfl
  exact⟨σ3,x1,x2,x3⟩
 obtain⟨σ3,g3,f3,c3⟩:=st
 have go:GoesQ (EndSt E σ 5 H263_0 _ σ3) E D σ 5 0 G263_0 H263_0 ⟨[(0,.ptr c0 0),(1,.ptr c1 0),(2,.ptr c2 0)],σ.next+5,[σ.bl],[],0,[]⟩:=
  goq_l (.ptr wb 0) (go_start (S:=fun k=>k=rb) ht) rfl (old_ld1 (b:=c0) (off:=0) rfl a0 rfl ht q0 (beq_self _ rfl)) fun r1=>
  goq_l (.int .u64 (Int.ofNat n)) r1 rfl (old_ld1 (b:=c1) (off:=0) rfl a1 rfl ht q1 (beq_self _ rfl)) fun r2=>
  goq_k (.int .i64 (Int.ofNat (widN 60 n))) (σ2:=⟨σ.next+5,σ.bl⟩) r2 rfl (by decide) (S':=Nowhere) (Fr.refl fw.tidy) (fun _ _ h=>h.elim) (fun _ h _ _=>h) (call_of (vs:=[.int .u64 (Int.ofNat n)]) rfl rfl g1) fun _ _ r3=>
  goq_k (.int .u64 (Int.ofNat (readV (bitsO O) i (widN 60 n) 0))) r3 rfl (by decide) (S':=fun k=>k=rb) f1 (fun _ _ h=>h) (fun b h h1 _=>by omega) (call_of (vs:=[.ptr wb 0,.int .i64 (Int.ofNat (widN 60 n))]) rfl rfl g2) fun _ _ r4=>
  goq_end .dead r4 rfl (by decide) f3 (fun b h h1 _=>by omega) g3 (fun x hx=>by
   simp only[List.mem_cons,List.not_mem_nil,or_false]at hx
   rcases hx with rfl|rfl
   ·show legal H263_0 1 [4,3,2] []=false
    decide
   ·show legal H263_0 0 [4,3,2] []=false
    decide)
 have d:=goq_draw (ops:=G263_0) go
 have r3:Rw σ3 wb rb v O (i+widN 60 n) (Int.ofNat 0) em:=r1.fr f3 f1.tidy (fun e=>q3 e.symm) (fun e=>q2 e.symm) (fun c hc e=>q4 (e ▸ hc))
 refine⟨σ3,?_,r3,c3,((fw.mono (fun _ _ h=>h.elim):Fr (fun k=>k=rb∨k=c2) σ _).trans f1 (fun _ _ h => .inl h)).trans f3 (fun _ _ h => .inr h)⟩
 have c13:=f3.at_ (f1.at_ (fw.at_ a1 ht (fun h=>h)) fw.tidy q1) f1.tidy q12
 have d1:decide (n<readV (bitsO O) i (widN 60 n) 0)=false:=decide_eq_false (by omega)
 obtain⟨e',d,t0,t1,t2⟩:∃e',drawW E D G263_0 H263_0 [(0,.ptr c0 0),(1,.ptr c1 0),(2,.ptr c2 0)] σ=some (e',σ3)∧Go.Og.look e' 0=some (.ptr c0 0)∧Go.Og.look e' 1=some (.ptr c1 0)∧Go.Og.look e' 2=some (.ptr c2 0):=⟨_,d,rfl,rfl,rfl⟩
 have gd:∀κ:Env→H→Ans,gdrawK (drawW E D G263_0 H263_0 [(0,.ptr c0 0),(1,.ptr c1 0),(2,.ptr c2 0)] σ) κ=κ e' σ3:=fun κ=>by rw[d];rfl
 have m0:∀κ:V→Ans,getL e' 0 κ=κ (.ptr c0 0):=fun κ=>getL_of t0 rfl
 have m1:∀κ:V→Ans,getL e' 1 κ=κ (.ptr c1 0):=fun κ=>getL_of t1 rfl
 have m2:∀κ:V→Ans,getL e' 2 κ=κ (.ptr c2 0):=fun κ=>getL_of t2 rfl
 show T263_0 E D (drawW E D) (.ptr c0 0) (.ptr c1 0) (.ptr c2 0) σ=_
 unfold T263_0
 simp -implicitDefEqProofs only [↓rP,rA,Nat.reduceEqDiff,Nat.reduceLT,Nat.reduceLeDiff,↓gd,↓m0,↓m1,↓m2,↓ldK_is c3,↓ldK_is c13,d1]
theorem rbtw_F {D2:Den} (hB:SpBack (D 262) D2) (hC:SpBtwC (D2 263)):SpRBtw (F185 E D (drawW E D) N):=by
 intro σ wb rb i n v O em h ht hn hi hw hr
 obtain⟨σ1,e1,f1,a1,n1⟩:=mkN ht [.ptr wb 0]
 obtain⟨σ2,e2,f2,a2,n2⟩:=mkN f1.tidy [.int .u64 (Int.ofNat n)]
 obtain⟨σ3,e3,f3,a3,n3⟩:=mkN f2.tidy [.int .u64 (Int.ofNat 0)]
 have f03:=(f1.trans f2 (fun _ _ h=>h)).trans f3 (fun _ _ h=>h)
 have h3:Rw σ3 wb rb v O i (Int.ofNat 0) em:=h.fr0 f03 ht
 have b1:=f3.at_ (f2.at_ a1 f1.tidy (fun h=>h)) f2.tidy (fun h=>h)
 have b2:=f3.at_ a2 f2.tidy (fun h=>h)
 have lr:=h.pl.at_.lt ht
 have lw:=h.at_.lt ht
 have lv:∀c,Names v c→c<σ.next:=fun c hc=>Src.lt h.pl.by_ ht hc
 obtain⟨σ4,g4,h4,a4,f4⟩:=hC h3 f3.tidy hn hi hw hr b1 b2 a3 (by omega) (by omega) (by omega) (by omega) (by omega) (by omega) (fun e=>by have:=lv _ e;omega)
 have g5:=hB σ3 σ4 wb rb i (i+widN 60 n) 263 v O em [.ptr σ.next 0,.ptr σ1.next 0,.ptr σ2.next 0] h3 g4 h4
 refine⟨σ4,?_,h4,f03.mono (fun _ _ h=>h.elim) |>.trans f4 (fun b hb e=>by omega)⟩
 show T185_0 E D (drawW E D) (.ptr wb 0) (Int.ofNat n) σ=_
 unfold T185_0
 simp -implicitDefEqProofs only [↓rP,rA,Nat.reduceEqDiff,Nat.reduceLT,Nat.reduceLeDiff,↓e1,↓e2,↓e3,↓ldK_is b1,↓g5,↓ldK_is a4]
end
def SpDInt (F:List V→H→Ans):Prop:=∀{σ:H} {db wb rb i n:Nat} {v:V} {O:List Nat} {em:Bool} {r:List V} {lo hi z:Int},Rw σ wb rb v O i (Int.ofNat 0) em→Tidy σ→Atc σ db (.ptr wb 0::r)→db≠rb→ltF hi lo=false→subF .u64 (wrapF .u64 hi) (wrapF .u64 lo)=Int.ofNat n→n≤5000→i+widN 60 n≤8*O.length→widN 60 n≤32→readV (bitsO O) i (widN 60 n) 0≤n →
 wrapF .i64 (addF .u64 (wrapF .u64 lo) (Int.ofNat (readV (bitsO O) i (widN 60 n) 0)))=z →
 ∃σ',F [.ptr db 0,.agg (conI lo hi)] σ=some (.int .i64 z,σ')∧Rw σ' wb rb v O (i+widN 60 n) (Int.ofNat 0) em∧Fr (fun k=>k=rb) σ σ'
section
variable {E:List (Nat × Blk)} {D:Den} {N:Nat}
theorem dint_F (hS:SpSpnY (D 140)) (hB:SpRBtw (D 185)):SpDInt (F104 E D (drawW E D) N):=by
 intro σ db wb rb i n v O em r lo hi z h ht hd hne hc hn hn5 hi1 hw hr hz
 obtain⟨σ1,e1,f1,a1,n1⟩:=mkN ht (conI lo hi)
 obtain⟨σ2,g2,f2⟩:=hS σ1 lo hi f1.tidy hc
 rw[hn]at g2
 have f02:=f1.trans f2 (fun _ _ h=>h)
 have a2:=f2.at_ a1 f1.tidy (fun h=>h)
 have d2:=f02.at_ hd ht (fun h=>h)
 have fw:Fr Nowhere σ2 ⟨σ2.next+12,σ2.bl⟩:=(go_start (E:=E) (n:=12) (S:=Nowhere) f2.tidy).fr
 have lr:=h.pl.at_.lt ht
 have lr2:rb<σ2.next:=Nat.lt_of_lt_of_le lr f02.le
 obtain⟨σ3,g3,h3,f3⟩:=hB (h.fr0 (f02.trans fw (fun _ _ h=>h)) ht) fw.tidy hn5 hi1 hw hr
 have go:GoesQ (EndSt E σ2 12 H104_0 _ σ3) E D σ2 12 0 G104_0 H104_0 ⟨[(0,.ptr db 0),(3,.ptr σ.next 0),(6,.int .u64 (Int.ofNat n))],σ2.next+12,[σ2.bl],[],0,[]⟩:=
  goq_p (.ptr σ.next 4) rfl rfl <|
  goq_l (.int .i64 lo) (go_start (S:=fun k=>k=rb) f2.tidy) rfl (old_ld1 (b:=σ.next) (off:=4) rfl a2 rfl f2.tidy (by omega) (beq_self _ rfl)) fun r1=>
  goq_p (.int .u64 (wrapF .u64 lo)) rfl (by
   show some (V.int .u64 (IntKind.wrap .u64 lo))=_
   rw[←wrapF_eq]) <|
  goq_p (.ptr db 0) rfl rfl <|
  goq_p (.ptr db 0) rfl rfl <|
  goq_p (.ptr db 0) rfl rfl <|
  goq_l (.ptr wb 0) r1 rfl (old_ld1 (b:=db) (off:=0) rfl d2 rfl f2.tidy hne (beq_self _ rfl)) fun r2=>
  goq_p (.int .u64 (Int.ofNat n)) rfl rfl <|
  goq_k (.int .u64 (Int.ofNat (readV (bitsO O) i (widN 60 n) 0))) r2 rfl (by decide) (S':=fun k=>k=rb) f3 (fun _ _ h=>h) (fun b h h1 _=>by omega) (call_of (vs:=[.ptr wb 0,.int .u64 (Int.ofNat n)]) rfl rfl g3) fun _ _ r3=>
  goq_p (.int .u64 (addF .u64 (wrapF .u64 lo) (Int.ofNat (readV (bitsO O) i (widN 60 n) 0)))) rfl (by
   rw[addF_eq];rfl) <|
  goq_p (.int .i64 z) rfl (by
   show some (V.int .i64 (IntKind.wrap .i64 (addF .u64 (wrapF .u64 lo) (Int.ofNat (readV (bitsO O) i (widN 60 n) 0)))))=_
   rw[←wrapF_eq,hz]) <|
  goq_p (.int .i64 z) rfl rfl <|
  goq_fin r3
 have d:=goq_draw (ops:=G104_0) go
 obtain⟨e',d,t4⟩:∃e',drawW E D G104_0 H104_0 [(0,.ptr db 0),(3,.ptr σ.next 0),(6,.int .u64 (Int.ofNat n))] σ2=some (e',σ3)∧Go.Og.look e' 4=some (.int .i64 z):=⟨_,d,rfl⟩
 have gd:∀κ:Env→H→Ans,gdrawK (drawW E D G104_0 H104_0 [(0,.ptr db 0),(3,.ptr σ.next 0),(6,.int .u64 (Int.ofNat n))] σ2) κ=κ e' σ3:=fun κ=>by rw[d];rfl
 have m4:∀κ:V→Ans,getL e' 4 κ=κ (.int .i64 z):=fun κ=>getL_of t4 rfl
 refine⟨σ3,?_,h3,((f02.mono (fun _ _ h=>h.elim):Fr (fun k=>k=rb) σ σ2).trans fw (fun _ _ h=>h.elim)).trans f3 (fun _ _ h=>h)⟩
 unfold conI at e1 a1 a2 g2
 have sub:∀κ:List V→Ans,subK [.bool true,.bool true,.bool true,.bool false,.int .i64 lo,.int .i64 hi] 0 6 κ=κ [.bool true,.bool true,.bool true,.bool false,.int .i64 lo,.int .i64 hi]:=fun κ=>by
  rw[subK_of (by simp)];rfl
 show T104_0 E D (drawW E D) db 0 true true true false lo hi σ=_
 unfold T104_0
 simp -implicitDefEqProofs only [↓rP,rA,Nat.reduceEqDiff,Nat.reduceLT,Nat.reduceLeDiff,↓e1,↓ldK_is a1,↓ldnK_is a1,↓sub,↓g2,↓gd,↓m4]
end
def decI (wb:Nat) (nm:List Nat) (u rv lv:V) (cb:Nat):List V:=[.ptr wb 0,.str (ofN nm),u,rv,lv,.ptr cb 0]
def SpDVal (F:List V→H→Ans):Prop:=∀{σ:H} {db wb rb cb i n:Nat} {v:V} {O:List Nat} {em:Bool} {nm:List Nat} {u rv lv:V} {lo hi z:Int},Rw σ wb rb v O i (Int.ofNat 0) em→Tidy σ→Atc σ db (decI wb nm u rv lv cb)→Atc σ cb [.int .i64 (Int.ofNat 0)]→TbI σ lo hi u rv lv →
 (∀σ',Fr (fun k=>k=rb∨k=cb) σ σ'→TbI σ' lo hi u rv lv)→db≠rb→db≠cb→cb≠wb→cb≠rb→¬Names v cb→ltF hi lo=false→subF .u64 (wrapF .u64 hi) (wrapF .u64 lo)=Int.ofNat n→n≤5000→i+widN 60 n≤8*O.length→widN 60 n≤32→readV (bitsO O) i (widN 60 n) 0≤n →
 wrapF .i64 (addF .u64 (wrapF .u64 lo) (Int.ofNat (readV (bitsO O) i (widN 60 n) 0)))=z →
 ∃σ',F [.ptr db 0,.int .i64 (Int.ofNat 0),.int .i64 (Int.ofNat 1)] σ=some (.agg (valI z),σ')∧Rw σ' wb rb v O (i+widN 60 n) (Int.ofNat 0) em∧Fr (fun k=>k=rb∨k=cb) σ σ'
section
variable {E:List (Nat × Blk)} {D:Den} {N:Nat}
theorem vheadI (hM:SpMore (D 101)) (hN:SpBadNo (D 100)) {σ:H} {ce ve db wb cb tb to_:Nat} {cp:Cap} {nm:List Nat} {u rv:V} (ht:Tidy σ) (hd:Atc σ db (decI wb nm u rv (.sl tb to_ 1 cp) cb)) (hcb:Atc σ cb [.int .i64 (Int.ofNat 0)]) (hdc:db≠cb) (hc:Atc σ ce [.ptr db 0]) (hce:ce≠cb) :
    ∃e' σ',drawW E D G51_0 H51_0 [(1,.int .i64 (Int.ofNat 0)),(2,.int .i64 (Int.ofNat 1)),(3,.ptr ce 0),(6,.ptr ve 0)] σ=some (e',σ') ∧
      Go.Og.look e' 1=some (.int .i64 (Int.ofNat 0))∧Go.Og.look e' 2=some (.int .i64 (Int.ofNat 1))∧Go.Og.look e' 3=some (.ptr ce 0)∧Go.Og.look e' 6=some (.ptr ve 0)∧Fr (fun b=>b=cb) σ σ':=by
  have fw:Fr Nowhere σ ⟨σ.next+26,σ.bl⟩:=(go_start (E:=E) (n:=26) (S:=Nowhere) ht).fr
  have lc:=hcb.lt ht
  obtain⟨σ1,g1,c1,f1⟩:=hM ⟨σ.next+26,σ.bl⟩ cb (Int.ofNat 0) (Int.ofNat 1) (fw.at_ hcb ht (fun h=>h)) fw.tidy (by decide)
  have g2:=hN σ1 db
  have ad:=hd
  unfold decI at ad
  have go:Goes E D σ 26 0 (fun b=>b=cb) G51_0 H51_0 ⟨[(1,.int .i64 (Int.ofNat 0)),(2,.int .i64 (Int.ofNat 1)),(3,.ptr ce 0),(6,.ptr ve 0)],σ.next+26,[σ.bl],[],0,[]⟩ _ σ1:=
        go_l (.ptr db 0) (go_start ht) rfl (old_ld1 (b:=ce) (off:=0) rfl hc rfl ht hce (beq_self _ rfl)) fun _ r1=>
        go_l (.ptr db 0) r1 rfl (old_ld1 (b:=ce) (off:=0) rfl hc rfl ht hce (beq_self _ rfl)) fun _ r2=>
        go_p (.ptr db 0) rfl rfl <|
        go_p (.ptr db 5) rfl rfl <|
        go_l (.ptr cb 0) r2 rfl (old_ld1 (b:=db) (off:=5) rfl ad rfl ht hdc (beq_self _ rfl)) fun _ r3=>
        go_k (.bool true) r3 rfl (by decide) (S':=fun b=>b=cb) f1 (fun _ _ h=>h) (fun b h h1 _=>by omega) (call_of (vs:=[.ptr cb 0,.int .i64 (Int.ofNat 1)]) rfl rfl g1) fun _ _ _ r4=>
        go_p (.bool false) rfl rfl <|
        go_p (.bool false) rfl rfl <|
        go_pg (.int .i64 (Int.ofNat 0)) rfl rfl rfl <|
        go_pg (.bool false) rfl rfl rfl <|
        go_p (.bool false) rfl rfl <|
        go_p (.bool false) rfl rfl <|
        go_pg (.int .i64 (Int.ofNat 0)) rfl rfl rfl <|
        go_lg (.ptr db 0) r4 rfl rfl (old_ld1 (b:=ce) (off:=0) rfl hc rfl ht hce (beq_self _ rfl)) fun _ r5=>
        go_pg (.ptr db 0) rfl rfl rfl <|
        go_pg (.ptr db 1) rfl rfl rfl <|
        go_pg (.ptr db 4) rfl rfl rfl <|
        go_lg (.sl tb to_ 1 cp) r5 rfl rfl (old_ld1 (b:=db) (off:=4) rfl ad rfl ht hdc (beq_self _ rfl)) fun _ r6=>
        go_pg (.int .i64 (Int.ofNat 1)) rfl rfl rfl <|
        go_pg (.bool false) rfl rfl rfl <|
        go_p (.bool false) rfl rfl <|
        go_p (.bool false) rfl rfl <|
        go_pg (.int .i64 (Int.ofNat 1)) rfl rfl rfl <|
        go_pg (.bool false) rfl rfl rfl <|
        go_p (.bool false) rfl rfl <|
        go_k (.tup []) r6 rfl (by decide) (S':=Nowhere) (Fr.refl f1.tidy) (fun _ _ h=>h.elim) (fun _ h _ _=>h) (call_of (vs:=[.ptr db 0,.bool false]) rfl rfl g2) fun _ _ _ r7=>
        go_nil r7
  obtain⟨d1,d2⟩:=go_draw (ops:=G51_0) go
  exact⟨_,σ1,d1,rfl,rfl,rfl,rfl,d2⟩
theorem dval_F (hM:SpMore (D 101)) (hN:SpBadNo (D 100)) (hO:SpOn (D 102)) (hI:SpDInt (D 104)):SpDVal (F51 E D (drawW E D) N):=by
 intro σ db wb rb cb i n v O em nm u rv lv lo hi z hw ht hd hcb hT hTf q1 q2 q3 q4 q5 hc hn hn5 hi1 hw32 hr hz
 obtain⟨tb,to_,cp,rfl⟩:∃tb to_ cp,lv = .sl tb to_ 1 cp:=by
  obtain⟨n0,az,rs,hs⟩:=hT
  obtain⟨ws,h1,_⟩:=hs.t
  rcases h1 with ⟨h0,_,_⟩|⟨b,o,c,L,e,_⟩
  ·cases h0
  ·exact⟨b,o,c,e⟩
 obtain⟨σ1,e1,f1,a1,n1⟩:=mkN ht [.ptr db 0]
 obtain⟨σ2,e2,f2,a2,n2⟩:=mkN f1.tidy [.int .i64 (Int.ofNat 0),.int .i64 (Int.ofNat 0),.nils,.nils,.int .i64 (Int.ofNat 0),.nils]
 have f02:Fr Nowhere σ σ2:=f1.trans f2 (fun _ _ h=>h)
 have c2:=f2.at_ a1 f1.tidy (fun h=>h)
 have d2:=f02.at_ hd ht (fun h=>h)
 have lc:=hcb.lt ht
 have ld:=hd.lt ht
 have lw:=hw.at_.lt ht
 have lr:=hw.pl.at_.lt ht
 have lv:∀c,Names v c→c<σ.next:=fun c hc=>Src.lt hw.pl.by_ ht hc
 have ls1:=f1.le
 obtain⟨e',σ3,g3,t1,t2,t3,t6,f3⟩:=vheadI (E:=E) (D:=D) (ve:=σ1.next) hM hN f02.tidy d2 (f02.at_ hcb ht (fun h=>h)) q2 c2 (by omega)
 have f03:Fr (fun k=>k=rb∨k=cb) σ σ3:=(f02.mono (fun _ _ h=>h.elim):Fr (fun k=>k=rb∨k=cb) σ σ2).trans f3 (fun _ _ h => .inr h)
 have b3:=f3.at_ c2 f02.tidy (by omega)
 have z3:=f3.at_ a2 f02.tidy (by omega)
 have d3:=f3.at_ d2 f02.tidy q2
 have w3:=(hw.fr0 f02 ht).fr f3 f02.tidy (fun e=>q3 e.symm) (fun e=>q4 e.symm) (fun c hc e=>q5 (by cases e;exact hc))
 have o3:=hO σ3 db wb rb i 0 v O em _ w3 d3
 obtain⟨w,rd,hwt⟩:=(hTf σ3 f03).ty
 have rd:=rd E
 obtain⟨σ4,e4,f4,a4,n4⟩:=mkN f3.tidy [.int .i64 (Int.ofNat 0),.int .i64 (Int.ofNat 0),.nils,.nils,.int .i64 (Int.ofNat 0),.nils]
 obtain⟨σ5,e5,f5,a5⟩:=mkS f4.tidy a4 (valI 0)
 have le3:=f03.le
 have f35:Fr Nowhere σ3 σ5:=f4.trans f5 (fun b hb e=>by omega)
 have b5:=f35.at_ b3 f3.tidy (fun h=>h)
 have z5:=f35.at_ z3 f3.tidy (fun h=>h)
 have d5:=f35.at_ d3 f3.tidy (fun h=>h)
 obtain⟨σ6,g6,w6,f6⟩:=hI (w3.fr0 f35 f3.tidy) f35.tidy d5 q1 hc hn hn5 hi1 hw32 hr hz
 have le23:=f3.le
 have le5:=f35.le
 have lz:σ1.next<σ3.next:=z3.lt f3.tidy
 have a6:=f6.at_ a5 f35.tidy (by omega)
 have z6:=f6.at_ z5 f35.tidy (by omega)
 obtain⟨σ7,g7,f7,a7⟩:=stz (off:=1) (y := .int .i64 z) f6.tidy a6 rfl (show 1<6 by decide)
 have a7:Atc σ7 σ3.next (valI z):=a7
 have z7:=f7.at_ z6 f6.tidy (by omega)
 obtain⟨σ8,e8,f8,a8⟩:=mkS f7.tidy z7 (valI z)
 have le6:=f6.le
 have w8:Rw σ8 wb rb v O (i+widN 60 n) (Int.ofNat 0) em:=(w6.fr f7 f6.tidy (by omega) (by omega) (fun c hc e=>by have:=lv c hc;omega)).fr f8 f7.tidy (by omega) (by omega) (fun c hc e=>by have:=lv c hc;omega)
 refine⟨σ8,?_,w8,(((f03.trans f35 (fun _ _ h=>h.elim)).trans f6 (fun b hb e => .inl e)).trans f7 (fun b hb e=>by omega)).trans f8 (fun b hb e=>by omega)⟩
 have s5:∀κ:H→Ans,stK 6 σ3.next 0 (.agg [.int .i64 (Int.ofNat 2),.int .i64 (Int.ofNat 0),.nils,.nils,.int .i64 (Int.ofNat 0),.nils]) σ4 κ=κ σ5:=fun κ=>by
  rw[stK_at a4 rfl]
  show κ (setF σ4 σ3.next (.cells (valI 0)))=_
  rw[e5]
 have s8:∀κ:H→Ans,stK 6 σ1.next 0 (.agg (valI z)) σ7 κ=κ σ8:=fun κ=>by
  rw[stK_at z7 rfl]
  show κ (setF σ7 σ1.next (.cells (valI z)))=_
  rw[e8]
 have l7:∀κ:List V→Ans,ldnK E σ7 σ3.next 0 6 κ=κ (valI z):=fun κ=>(ldnK_is a7).trans rfl
 have l8:∀κ:List V→Ans,ldnK E σ8 σ1.next 0 6 κ=κ (valI z):=fun κ=>(ldnK_is a8).trans rfl
 have gd:∀κ:Env→H→Ans,gdrawK (drawW E D G51_0 H51_0 [(1,.int .i64 (Int.ofNat 0)),(2,.int .i64 (Int.ofNat 1)),(3,.ptr σ.next 0),(6,.ptr σ1.next 0)] σ2) κ=κ e' σ3:=fun κ=>by rw[g3];rfl
 have m1:∀κ:V→Ans,getL e' 1 κ=κ (.int .i64 (Int.ofNat 0)):=fun κ=>getL_of t1 rfl
 have m2:∀κ:V→Ans,getL e' 2 κ=κ (.int .i64 (Int.ofNat 1)):=fun κ=>getL_of t2 rfl
 have m3:∀κ:V→Ans,getL e' 3 κ=κ (.ptr σ.next 0):=fun κ=>getL_of t3 rfl
 have m6:∀κ:V→Ans,getL e' 6 κ=κ (.ptr σ1.next 0):=fun κ=>getL_of t6 rfl
 have kd:∀κ:V→Ans,ldK E σ3 db 4 κ=κ (.sl tb to_ 1 cp):=fun κ=>(ldK_is d3).trans rfl
 obtain⟨p1,p2,p3⟩:=hwt
 have p2:=p2.one
 have p3:=p3.one
 unfold tyIC at rd
 unfold conI at g6
 unfold valI at s8 l7 l8 ⊢
 show T51_0 E D (drawW E D) (T51_1 E D (drawW E D)) (T51_2 E D (drawW E D) (T51_1 E D (drawW E D))) (.ptr db 0) (Int.ofNat 0) (Int.ofNat 1) σ=_
 unfold T51_0 T51_1
 simp -implicitDefEqProofs only [↓rP,rA,Nat.reduceEqDiff,Nat.reduceLT,Nat.reduceLeDiff,↓e1,↓e2,↓gd,↓m1,↓m2,↓m3,↓m6,↓ldK_is b3,↓o3,↓kd,↓rd,allOne_cons,allOne_nil,one_int,one_bool,p1,p2,p3,↓e4,↓s5,↓ldK_is b5,↓g6,↓g7,↓l7,↓s8,↓l8]
end
def zI:List V:=[.int .i64 (Int.ofNat 0),.int .i64 (Int.ofNat 0),.nils,.nils,.int .i64 (Int.ofNat 0),.nils]
def SpDecI (F:List V→H→Ans):Prop:=∀{σ:H} {n:Nat} {x:V} {O:List Nat} {nm:List Nat} {u rv lv:V} {lo hi z:Int},Tidy σ→By σ x (nI O)→(∀c∈O,c<256)→O.length≤10000→0<O.length→TbI σ lo hi u rv lv→ltF hi lo=false→subF .u64 (wrapF .u64 hi) (wrapF .u64 lo)=Int.ofNat n→n≤5000→widN 60 n≤8*O.length→0<widN 60 n→widN 60 n≤32→readV (bitsO O) 0 (widN 60 n) 0≤n →
 wrapF .i64 (addF .u64 (wrapF .u64 lo) (Int.ofNat (readV (bitsO O) 0 (widN 60 n) 0)))=z→endN O (widN 60 n)≠0 →
 ∃σ',F [.agg (tbC nm u rv lv),.int .i64 (Int.ofNat 0),x] σ=some (.tup [.agg zI,.int .i64 (Int.ofNat 4)],σ')∧Fr Nowhere σ σ'
section
variable {E:List (Nat × Blk)} {D:Den} {N:Nat}
theorem decI_F (hMa:SpMade (D 49)) (hW:SpNewW (D 50)) (hS:SpDVal (D 51)) (hE:SpWend (D 52)):SpDecI (F32 E D (drawW E D) N):=by
 intro σ n x O nm u rv lv lo hi z ht hx hc hl hl0 hT hcr hn hn5 hi1 hw0 hw32 hr hz hend
 obtain⟨o1,o2,o3⟩:=hT.ones
 obtain⟨b1,b2,b3⟩:V.beq u u=true∧V.beq rv rv=true∧V.beq lv lv=true:=by
  obtain⟨n0,az,rs,hs⟩:=hT
  obtain⟨ws,h1,_⟩:=hs.t
  exact⟨src_beq hs.n,src_beq hs.r,src_beq h1⟩
 obtain⟨σ1,e1,f1,a1,n1⟩:=mkN ht (tbC nm u rv lv)
 obtain⟨σ2,e2,f2,a2,n2⟩:=mkN f1.tidy zI
 have f02:Fr Nowhere σ σ2:=f1.trans f2 (fun _ _ h=>h)
 have t2:=f2.at_ a1 f1.tidy (fun h=>h)
 obtain⟨σ3,g3,f3⟩:=hMa (nm:=nm) f02.tidy (hT.fr f02 ht)
 have f03:Fr Nowhere σ σ3:=f02.trans f3 (fun _ _ h=>h)
 have t3:=f3.at_ t2 f02.tidy (fun h=>h)
 have r3:=f3.at_ a2 f02.tidy (fun h=>h)
 have le03:=f03.le
 have le23:=f3.le
 have ls1:=f1.le
 have fw:Fr Nowhere σ3 ⟨σ3.next+8,σ3.bl⟩:=(go_start (E:=E) (n:=8) (S:=Nowhere) f3.tidy).fr
 have x3:By σ3 x (nI O):=Src.fr hx f03 ht (fun _ _ h=>h)
 obtain⟨wb,rb,v,σ4,g4,w4,f4,nr,nw,nv⟩:=hW ⟨σ3.next+8,σ3.bl⟩ x O (Src.fr x3 fw f3.tidy (fun _ _ h=>h)) fw.tidy hc (by omega)
 have le4:σ3.next+8≤σ4.next:=f4.le
 have nr:σ3.next+8≤rb:=nr
 have nw:σ3.next+8≤wb:=nw
 have nv:∀c,Names v c→σ3.next+8≤c:=nv
 have bx:aopA (.box 105 (.tmp 43)) [(43,.agg (decI wb nm u rv lv (σ3.next+4)))] (σ3.next+6)=some (.ptr (σ3.next+6) 0,.cells (decI wb nm u rv lv (σ3.next+4))):=by
  have ho:allOne (decI wb nm u rv lv (σ3.next+4))=true:=by unfold decI;simp only[allOne_cons,allOne_nil,one_ptr,one_str,o1,o2,o3,Bool.and_true]
  show (if allOne (V.agg (decI wb nm u rv lv (σ3.next+4))).cells=true then some (V.ptr (σ3.next+6) 0,Blk.cells (V.agg (decI wb nm u rv lv (σ3.next+4))).cells)else none)=_
  rw[cells_agg,if_pos ho]
 have xo:x.one=true:=Src.one hx
 have go:Goes E D σ3 8 0 Nowhere G32_0 H32_0 ⟨[(1,.int .i64 (Int.ofNat 0)),(2,x),(3,.ptr σ.next 0),(6,.ptr σ1.next 0)],σ3.next+8,[σ3.bl],[],0,[]⟩ _ ⟨σ4.next,(σ3.next+6,.cells (decI wb nm u rv lv (σ3.next+4)))::(σ3.next+4,.cells [.int .i64 (Int.ofNat 0)])::σ4.bl⟩:=
  go_p x rfl (mov_of rfl (one_live xo).1) <|
  go_k (.ptr wb 0) (go_start f3.tidy) rfl (by decide) (S':=Nowhere) f4 (fun _ _ h=>h.elim) (fun _ h _ _=>h) (call_of (vs:=[x]) rfl (by
   show (x.live&&true)=true
   rw[(one_live xo).1];rfl) g4) fun _ _ _ r1=>
  go_l (.agg (tbC nm u rv lv)) r1 rfl (old_ldn (b:=σ.next) (off:=0) (m:=4) rfl t3 rfl rfl f3.tidy (fun h=>h) (by
   show (V.beq (.str (ofN nm)) (.str (ofN nm))&&(V.beq u u&&(V.beq rv rv&&(V.beq lv lv&&true))))=true
   rw[b1,b2,b3,beq_self (.str (ofN nm)) rfl];rfl)) fun _ r2=>
  go_p (.agg [.int .i64 (Int.ofNat 0)]) rfl rfl <|
  go_a (.ptr (σ3.next+4) 0) (.cells [.int .i64 (Int.ofNat 0)]) 16 r2 rfl (by decide) (by decide) rfl fun _ r3=>
  go_p (.agg (decI wb nm u rv lv (σ3.next+4))) rfl rfl <|
  go_a (.ptr (σ3.next+6) 0) (.cells (decI wb nm u rv lv (σ3.next+4))) 80 r3 rfl (by decide) (by decide) bx fun _ r4=>
  go_p (.ptr (σ3.next+6) 0) rfl rfl <|
  go_nil r4
 obtain⟨d0,d2⟩:=go_draw (ops:=G32_0) go
 obtain⟨env,d1,u1,u3,u6,u8⟩:∃env,drawW E D G32_0 H32_0 [(1,.int .i64 (Int.ofNat 0)),(2,x),(3,.ptr σ.next 0),(6,.ptr σ1.next 0)] σ3=some (env,⟨σ4.next,(σ3.next+6,.cells (decI wb nm u rv lv (σ3.next+4)))::(σ3.next+4,.cells [.int .i64 (Int.ofNat 0)])::σ4.bl⟩)∧Go.Og.look env 1=some (.int .i64 (Int.ofNat 0))∧Go.Og.look env 3=some (.ptr σ.next 0)∧Go.Og.look env 6=some (.ptr σ1.next 0)∧Go.Og.look env 8=some (.ptr (σ3.next+6) 0):=⟨_,d0,rfl,rfl,rfl,rfl⟩
 clear d0
 obtain⟨db,hdb⟩:∃db,db=σ3.next+6:=⟨_,rfl⟩
 obtain⟨cb,hcb⟩:∃cb,cb=σ3.next+4:=⟨_,rfl⟩
 rw[←hdb,←hcb]at d1 d2
 rw[←hdb]at u8
 obtain⟨σ5,h5⟩:∃σ5,σ5=(⟨σ4.next,(db,.cells (decI wb nm u rv lv cb))::(cb,.cells [.int .i64 (Int.ofNat 0)])::σ4.bl⟩:H):=⟨_,rfl⟩
 rw[←h5]at d1 d2
 have ad:Atc σ5 db (decI wb nm u rv lv cb):=by
  rw[h5]
  show lookF ((db,_)::_) db=_
  rw[lookF_cons,if_pos rfl]
 have ac:Atc σ5 cb [.int .i64 (Int.ofNat 0)]:=by
  rw[h5]
  show lookF ((db,_)::(cb,_)::σ4.bl) cb=_
  rw[lookF_cons,if_neg (by simp only[];omega),lookF_cons,if_pos rfl]
 have f45:Fr (fun k=>k=db∨k=cb) σ4 σ5:=by
  refine⟨d2.tidy,by rw[h5];exact Nat.le_refl _,fun b hb hn=>?_⟩
  rw[h5]
  show lookF ((db,_)::(cb,_)::σ4.bl) b=_
  rw[lookF_cons,if_neg (fun e=>hn (.inl e.symm)),lookF_cons,if_neg (fun e=>hn (.inr e.symm))]
 have w5:=w4.fr f45 f4.tidy (by omega) (by omega) (fun c hc=>by have:=nv c hc;omega)
 have f05:Fr Nowhere σ σ5:=f03.trans d2 (fun _ _ h=>h)
 obtain⟨σ6,g6,w6,f6⟩:=hS w5 d2.tidy ad ac (hT.fr f05 ht) (fun σ' f'=>hT.fr (f05.trans f' (fun b hb e=>by omega)) ht) (by omega) (by omega) (by omega) (by omega) (fun hc=>by have:=nv _ hc;omega) hcr hn hn5 (by omega) hw32 hr hz
 rw[Nat.zero_add]at w6
 have ad6:=f6.at_ ad d2.tidy (by omega)
 obtain⟨σ7,g7,f7⟩:=hE σ6 wb rb _ v O 0 _ w6 f6.tidy (fun _ e=>by
  unfold emO at e
  rw[Bool.and_eq_true,decide_eq_true_eq]at e
  omega)
 rw[if_pos rfl]at g7
 have r5:=d2.at_ r3 f3.tidy (fun h=>h)
 have r7:=f7.at_ (f6.at_ r5 d2.tidy (by omega)) f6.tidy (fun h=>h)
 obtain⟨σ8,e8,f8,a8⟩:=mkS f7.tidy r7 zI
 have le35:=d2.le
 have le56:=f6.le
 refine⟨σ8,?_,(((f05.trans f6 (fun b hb e=>by omega)).trans f7 (fun _ _ h=>h))).trans f8 (fun b hb e=>by omega)⟩
 have s8:∀κ:H→Ans,stK 6 σ1.next 0 (.agg zI) σ7 κ=κ σ8:=fun κ=>by
  rw[stK_at r7 rfl]
  show κ (setF σ7 σ1.next (.cells zI))=_
  rw[e8]
 have l8:∀κ:List V→Ans,ldnK E σ8 σ1.next 0 6 κ=κ zI:=fun κ=>(ldnK_is a8).trans rfl
 have gd:∀κ:Env→H→Ans,gdrawK (drawW E D G32_0 H32_0 [(1,.int .i64 (Int.ofNat 0)),(2,x),(3,.ptr σ.next 0),(6,.ptr σ1.next 0)] σ3) κ=κ env σ5:=fun κ=>by rw[d1];rfl
 have l1:∀κ:V→Ans,getL env 1 κ=κ (.int .i64 (Int.ofNat 0)):=fun κ=>getL_of u1 rfl
 have l3:∀κ:V→Ans,getL env 3 κ=κ (.ptr σ.next 0):=fun κ=>getL_of u3 rfl
 have l6:∀κ:V→Ans,getL env 6 κ=κ (.ptr σ1.next 0):=fun κ=>getL_of u6 rfl
 have ldb:∀κ:V→Ans,getL env 8 κ=κ (.ptr db 0):=fun κ=>getL_of u8 rfl
 have sx:∀κ:Nat→Ans,slenK x κ=κ O.length:=fun κ=>by
  have:=Src.slen (κ:=κ) hx
  rw[nI_length]at this;exact this
 have sl:∀κ:Nat→Ans,slenK lv κ=κ 1:=fun κ=>hT.len κ
 have dd1:decide (70000<O.length)=false:=decide_eq_false (by omega)
 have dd2:decide (O.length=0)=false:=decide_eq_false (by omega)
 have dd3:decide (endN O (widN 60 n)=0)=false:=decide_eq_false hend
 have sub4:∀κ:List V→Ans,subK [.str (ofN nm),u,rv,lv] 0 4 κ=κ [.str (ofN nm),u,rv,lv]:=fun κ=>by
  rw[subK_of (by simp)];rfl
 unfold tbC at e1 a1 t2 g3
 unfold zI at e2 s8 l8 ⊢
 unfold valI at g6
 unfold decI at ad6
 show T32_0 E D (drawW E D) (ofN nm) u rv lv (Int.ofNat 0) x σ=_
 unfold T32_0
 simp -implicitDefEqProofs only [↓rP,rA,Nat.reduceEqDiff,Nat.reduceLT,Nat.reduceLeDiff,o1,o2,o3,↓e1,↓e2,↓ldK_is t2,↓sl,↓sx,dd1,dd2,↓ldnK_is t2,↓sub4,↓g3,↓gd,↓l1,↓l3,↓l6,↓ldb,↓g6,↓ldK_is ad6,↓g7,dd3,↓s8,↓l8]
end
def flipB (c j:Nat):Nat:=c ^^^ (1 <<< (7-j))
theorem flip_tab:∀(c:Fin 256) (j i:Fin 8),flipB c.val j.val<256∧flipB c.val j.val / 2 ^ (7-i.val) % 2=(if i=j then 1-c.val / 2 ^ (7-i.val) % 2 else c.val / 2 ^ (7-i.val) % 2):=by decide +kernel
def flipO (O:List Nat) (k:Nat):List Nat:=O.set (k / 8) (flipB (O.getD (k / 8) 0) (k % 8))
theorem flip_len (O:List Nat) (k:Nat):(flipO O k).length=O.length:=by unfold flipO;rw[List.length_set]
theorem flip_lt {O:List Nat} (h:∀c∈O,c<256) (k:Nat):∀c∈flipO O k,c<256:=by
 intro c hc
 unfold flipO at hc
 rcases List.mem_or_eq_of_mem_set hc with h'|rfl
 ·exact h c h'
 ·have hg:O.getD (k / 8) 0<256:=by
   rw[List.getD_eq_getElem?_getD]
   rcases Nat.lt_or_ge (k / 8) O.length with hl|hl
   ·rw[List.getElem?_eq_getElem hl];exact h _ (List.getElem_mem hl)
   ·rw[List.getElem?_eq_none hl];decide
  exact(flip_tab ⟨_,hg⟩ ⟨k % 8,Nat.mod_lt _ (by decide)⟩ ⟨0,by decide⟩).1
theorem flip_bit {O:List Nat} (h:∀c∈O,c<256) {k i:Nat} (hk:k<8*O.length) (hi:i<8*O.length):bit (bitsO (flipO O k)) i=if i=k then 1-bit (bitsO O) k else bit (bitsO O) i:=by
 have hq:i / 8<O.length:=by omega
 have hc:=h _ (List.getElem_mem hq)
 have e0:=bitsO_get O i _ (List.getElem?_eq_getElem hq)
 by_cases hqk:k / 8=i / 8
 ·have e1:(flipO O k)[i / 8]? = some (flipB O[i / 8] (k % 8)):=by
   unfold flipO
   rw[hqk,List.getElem?_set_self hq,List.getD_eq_getElem?_getD,List.getElem?_eq_getElem hq];rfl
  have t:=(flip_tab ⟨_,hc⟩ ⟨k % 8,Nat.mod_lt _ (by decide)⟩ ⟨i % 8,Nat.mod_lt _ (by decide)⟩).2
  rw[bitsO_get _ i _ e1]
  have t:flipB O[i / 8] (k % 8) / 2 ^ (7-i % 8) % 2=if(⟨i % 8,Nat.mod_lt _ (by decide)⟩:Fin 8)=⟨k % 8,Nat.mod_lt _ (by decide)⟩then 1-O[i / 8] / 2 ^ (7-i % 8) % 2 else O[i / 8] / 2 ^ (7-i % 8) % 2:=t
  rw[t]
  by_cases he:i=k
  ·subst he
   rw[if_pos rfl,if_pos rfl,e0]
  ·rw[if_neg (fun e=>he (by have:i % 8=k % 8:=Fin.mk.inj e;omega)),if_neg he,e0]
 ·have e1:(flipO O k)[i / 8]? = some O[i / 8]:=by
   unfold flipO
   rw[List.getElem?_set_ne hqk,List.getElem?_eq_getElem hq]
  rw[bitsO_get _ i _ e1,if_neg (fun e=>hqk (by rw[e])),e0]
theorem readV_one {L:List Nat}:∀(n i a k:Nat),i≤k→k<i+n→bit L k=1→readV L i n a≠0:=by
 have grow:∀(n i a:Nat),0<a→readV L i n a≠0:=by
  intro n
  induction n with
  | zero=>intro i a h;show a≠0;omega
  | succ n ih=>intro i a h;exact ih (i+1) _ (by omega)
 intro n
 induction n with
 | zero=>intro i a k h1 h2;omega
 | succ n ih=>
  intro i a k h1 h2 hb
  by_cases he:i=k
  ·subst he
   exact grow n (i+1) _ (by omega)
  ·exact ih (i+1) _ k (by omega) (by omega) hb
theorem flip_ok {w d k:Nat} (hd:d<2 ^ w) (h1:w≤k) (h2:k<8*packN w):readV (bitsO (flipO (pack (bitsOf w d)) k)) 0 w 0=d∧endN (flipO (pack (bitsOf w d)) k) w≠0:=by
  have hb:Bin (bitsOf w d):=bitsOf_bin _ _
  have hlen:(bitsOf w d).length=w:=bitsOf_length _ _
  have hp:(pack (bitsOf w d)).length=packN w:=by rw[pack_length,hlen]
  have hlt:=pack_lt hb
  have hw:w≤8*packN w:=by unfold packN;omega
  constructor
  · rw[readV_same (M:=bitsO (pack (bitsOf w d))) w 0 0 (fun i _ hi=>by
      rw[flip_bit hlt (by rw[hp];exact h2) (by rw[hp];omega),if_neg (by omega)]),read_pack hb (by rw[hlen];omega)]
    have:=readV_app (L:=bitsOf w d) (bitsOf w d) [] 0 0 (by simp)
    rw[hlen]at this
    rw[this,valOf_bits,Nat.zero_mul,Nat.zero_add,Nat.mod_eq_of_lt hd]
  · unfold endN
    rw[flip_len,hp]
    split
    · decide
    · rw[if_neg (readV_one _ _ _ k h1 (by omega) (by
        rw[flip_bit hlt (by rw[hp];exact h2) (by rw[hp];exact h2),if_pos rfl,pack_bit hb (by rw[hlen];exact h2)]
        have:bit (bitsOf w d) k=0:=by
          unfold bit
          rw[List.getD_eq_getElem?_getD,List.getElem?_eq_none (by omega)];rfl
        rw[this]))]
      decide
theorem wu64 (v:Int):wrapF .u64 v=v % 18446744073709551616:=by rw[wrapF_eq];rfl
theorem rem_m (a:Int) (m:Nat) (h0:0<m) (hm:m≤1000000):∃r:Nat,r<m∧wrapF .i64 (Int.tmod (wrapF .u64 a) (Int.ofNat m))=Int.ofNat r:=by
 obtain⟨k,hk⟩:∃k:Nat,wrapF .u64 a=Int.ofNat k:=by
  rw[wu64]
  exact Int.eq_ofNat_of_zero_le (Int.emod_nonneg _ (by decide))
 have h2:Int.tmod (Int.ofNat k) (Int.ofNat m)=Int.ofNat (k % m):=rfl
 have:=Nat.mod_lt k h0
 exact⟨k % m,this,by rw[hk,h2];exact wrapF_nat (show k % m≤9223372036854775807 by omega)⟩
theorem subu {a b:Int} {d:Nat} (ha : -1000000≤a) (ha':a≤1000000) (hb : -1000000≤b) (hb':b≤1000000) (hd:a-b=d):subF .u64 (wrapF .u64 a) (wrapF .u64 b)=Int.ofNat d:=by
 show wrapF .u64 (wrapF .u64 a-wrapF .u64 b)=(d:Int)
 rw[wu64,wu64,wu64];omega
theorem widN_le:∀(k n:Nat),widN k n≤k
 | 0,_=>Nat.le_refl _
 | k+1,n=>by
  have:=widN_le k (n / 2)
  unfold widN
  split<;>omega
theorem widN_lt:∀(k n:Nat),n<2 ^ k→n<2 ^ widN k n
 | 0,n,h=>h
 | k+1,n,h=>by
  unfold widN
  cases hd:decide (0<n)with
  | false=>have:=of_decide_eq_false hd;show n<1;omega
  | true=>
   have:=widN_lt k (n / 2) (by rw[Nat.pow_succ]at h;omega)
   show n<2 ^ (widN k (n / 2)+1)
   rw[Nat.pow_succ];omega
theorem widN_small:∀(k j n:Nat),n<2 ^ j→widN k n≤j
 | 0,j,n,h=>Nat.zero_le _
 | k+1,j,n,h=>by
  unfold widN
  cases hd:decide (0<n)with
  | false=>exact Nat.zero_le _
  | true=>
   have h0:=of_decide_eq_true hd
   cases j with
   | zero=>simp at h;omega
   | succ j=>
    have:=widN_small k j (n / 2) (by rw[Nat.pow_succ]at h;omega)
    show widN k (n / 2)+1≤j+1
    omega
theorem widN_pos {n:Nat} (h:0<n) (k:Nat):0<widN (k+1) n:=by
 unfold widN
 rw[decide_eq_true h]
 exact Nat.succ_pos _
def ubPre:List Nat:=[77,32,68,69,70,73,78,73,84,73,79,78,83,32,58,58,61,32,66,69,71,73,78,32,65,32,58,58,61,32,73,78,84,69,71,69,82,32,40]
theorem ubText_eq (w1 w2:List Nat):(((ubPre++w1)++[46,46])++w2)++ubPost=ubText w1 w2:=by
 unfold ubPre ubText
 simp only[List.append_assoc,List.cons_append,List.nil_append]
theorem spl_one:∀(l:List V) (i:Nat) (v:V),spl l i [v]=l.set i v
 | [],i,v=>by cases i<;>rfl
 | x::l,0,v=>by
  show v::spl l 0 []=v::l
  cases l<;>rfl
 | x::l,i+1,v=>by
  show x::spl l i [v]=x::l.set i v
  rw[spl_one l i v]
theorem flip_cells (O:List Nat) (k:Nat) (hk:k / 8<O.length):spl (u8s (nI O)) (k / 8) [.int .u8 (Int.ofNat (flipB (O.getD (k / 8) 0) (k % 8)))]=u8s (nI (flipO O k)):=by
 rw[spl_one]
 unfold flipO u8s nI
 rw[List.map_set,List.map_set]
theorem xor_tab:∀(c:Fin 256) (j:Fin 8),xorF .u8 (Int.ofNat c.val) (shlF .u8 (Int.ofNat 1) (7-j.val))=Int.ofNat (flipB c.val j.val):=by decide +kernel
section
variable {E:List (Nat × Blk)} {D:Den} {W:DrawFn} {N:Nat}
theorem law_2 {K1:Int→V→Int→BS→V→V→V→H→Ans} {a:Int} {x u rv lv:V} {s:BS} {σ:H}:∀(k j n w:Nat),n<2 ^ k→k<j→w+k≤1000 →
  (Nat.rec (fun _ _ _ _ _ _ _ _ _=>none) (fun _ ih=>T7_2 E D W K1 ih) j:Int→V→Int→Int→BS→V→V→V→H→Ans) a x (Int.ofNat w) (Int.ofNat n) s u rv lv σ=K1 a x (Int.ofNat (w+widN k n)) s u rv lv σ:=by
 intro k
 induction k with
 | zero=>
  intro j n w h hj hw
  obtain⟨j,rfl⟩:∃i,j=i+1:=⟨j-1,by omega⟩
  have hn0:n=0:=by simpa using h
  subst hn0
  rfl
 | succ k ih=>
  intro j n w h hj hw
  obtain⟨j,rfl⟩:∃i,j=i+1:=⟨j-1,by omega⟩
  have a1:addF .i64 (Int.ofNat w) (Int.ofNat 1)=Int.ofNat (w+1):=addF_nat (by omega)
  have key:∀R,T7_2 E D W K1 R a x (Int.ofNat w) (Int.ofNat n) s u rv lv σ=condK (decide (0<n)) (R a x (Int.ofNat (w+1)) (shrF .i64 (Int.ofNat n) 1) s u rv lv σ) (K1 a x (Int.ofNat w) s u rv lv σ):=by
   intro R
   unfold T7_2
   simp -implicitDefEqProofs only [↓rP,rA,Nat.reduceEqDiff,Nat.reduceLT,Nat.reduceLeDiff,a1]
  show T7_2 E D W K1 _ a x (Int.ofNat w) (Int.ofNat n) s u rv lv σ=_
  rw[key]
  unfold widN
  cases hd:decide (0<n)with
  | false=>rfl
  | true=>
   rw[condK_true,show shrF .i64 (Int.ofNat n) 1=Int.ofNat (n / 2)from(show Int.ofNat (n >>> 1)=Int.ofNat (n / 2)by rw[Nat.shiftRight_eq_div_pow])]
   rw[ih j (n / 2) (w+1) (by rw[Nat.pow_succ]at h;omega) (by omega) (by omega)]
   show K1 a x (Int.ofNat (w+1+widN k (n / 2))) s u rv lv σ=K1 a x (Int.ofNat (w+(widN k (n / 2)+1))) s u rv lv σ
   rw[show w+1+widN k (n / 2)=w+(widN k (n / 2)+1)by omega]
def SpAwk (F:List V→H→Ans):Prop:=∀(σ:H),Tidy σ→∃σ',F [] σ=some (.bool true,σ')∧Fr Nowhere σ σ'
def SpSame0 (F:List V→H→Ans):Prop:=∀(σ:H),Tidy σ→∃σ',F [.agg zI,.agg zI] σ=some (.bool true,σ')∧Fr Nowhere σ σ'
theorem law_1 (hD:SpDecI (D 32)) (hS:SpSame0 (D 33)) {σ0 σ:H} {d lo hi v:Int} {e n:Nat} {x u rv lv:V} {nm:List Nat} (ht:Tidy σ) (hb:InB lo hi v e n) (h5:n≤5000) (hT:TbI σ0 lo hi u rv lv) (ht0:Tidy σ0) (f0:Fr Nowhere σ0 σ) (hx:Nb σ0 σ x (nI (pack (bitsOf (widN 60 n) e)))) (hlo : -1000000≤lo) (hlo':lo≤1000000) :
  ∃σ',T7_1 E D W d x (Int.ofNat (widN 60 n)) (ofN nm) u rv lv σ=some (.bool true,σ'):=by
 obtain⟨w,hw⟩:∃w,w=widN 60 n:=⟨_,rfl⟩
 have hwpos:=hb.w
 have hw13:widN 60 n≤13:=widN_small 60 13 n (by omega)
 have hnw:=widN_lt 60 n hb.nb
 have hdn:=hb.dn
 rw[←hw]at hx hwpos hw13 hnw ⊢
 have hO:(pack (bitsOf w e)).length=packN w:=by rw[pack_length,bitsOf_length]
 have hm8:Int.tmod (Int.ofNat w) (Int.ofNat 8)=Int.ofNat (w % 8):=rfl
 cases d0:decide (w % 8=0)with
 | true=>
  refine⟨σ,?_⟩
  unfold T7_1
  simp -implicitDefEqProofs only [↓rP,rA,Nat.reduceEqDiff,Nat.reduceLT,Nat.reduceLeDiff,hm8,d0]
 | false=>
  have d0':=of_decide_eq_false d0
  have s1:subF .i64 (Int.ofNat 8) (Int.ofNat (w % 8))=Int.ofNat (8-w % 8):=by
   show wrapF .i64 ((8:Int)-((w % 8:Nat):Int))=((8-w % 8:Nat):Int)
   rw[wrap64 (by omega) (by omega)];omega
  have s2:wrapF .u64 (Int.ofNat (8-w % 8))=Int.ofNat (8-w % 8):=wrapF_nat (show 8-w % 8≤18446744073709551615 by omega)
  have s3:∀κ:Ans,nzK (Int.ofNat (8-w % 8)) κ=κ:=fun κ=>by
   obtain⟨q,hq⟩:∃q,8-w % 8=q+1:=⟨7-w % 8,by omega⟩
   rw[hq];rfl
  obtain⟨r4,hr4,s4⟩:=rem_m d (8-w % 8) (by omega) (by omega)
  have s5:addF .i64 (Int.ofNat w) (Int.ofNat r4)=Int.ofNat (w+r4):=addF_nat (by omega)
  obtain⟨k,hk⟩:∃k,k=w+r4:=⟨_,rfl⟩
  rw[←hk]at s5
  have s6:quoF .i64 (Int.ofNat k) (Int.ofNat 8)=Int.ofNat (k / 8):=by
   show wrapF .i64 (Int.ofNat (k / 8))=_
   exact wrapF_nat (show k / 8≤9223372036854775807 by omega)
  have s7:Int.tmod (Int.ofNat k) (Int.ofNat 8)=Int.ofNat (k % 8):=rfl
  have s8:subF .i64 (Int.ofNat 7) (Int.ofNat (k % 8))=Int.ofNat (7-k % 8):=by
   show wrapF .i64 ((7:Int)-((k % 8:Nat):Int))=((7-k % 8:Nat):Int)
   rw[wrap64 (by omega) (by omega)];omega
  have s9:wrapF .u64 (Int.ofNat (7-k % 8))=Int.ofNat (7-k % 8):=wrapF_nat (show 7-k % 8≤18446744073709551615 by omega)
  have hp:packN w=(w+7) / 8:=rfl
  have hkO:k / 8<(pack (bitsOf w e)).length:=by rw[hO,hp];omega
  obtain⟨O,hOd⟩:∃O,O=pack (bitsOf w e):=⟨_,rfl⟩
  have hlt:∀c∈O,c<256:=by rw[hOd];exact pack_lt (bitsOf_bin _ _)
  rw[←hOd]at hx hO hkO
  obtain⟨b,cp,hxb,hb1⟩:∃b cp,x = .sl b 0 O.length cp∧Atc σ b (u8s (nI O)):=by
   have h1:=hx.1
   rw[nI_length]at h1
   rcases h1 with (⟨h0,_⟩|⟨b,hv,ha,_⟩)|⟨b,hv,ha,_⟩
   ·omega
   ·exact⟨b,_,hv,ha⟩
   ·exact⟨b,_,hv,ha⟩
  have hbn:σ0.next≤b:=hx.2 b (by rw[hxb];rfl)
  have hg:O.getD (k / 8) 0<256:=by
   rw[List.getD_eq_getElem?_getD,List.getElem?_eq_getElem hkO];exact hlt _ (List.getElem_mem hkO)
  have xt:=xor_tab ⟨_,hg⟩ ⟨k % 8,Nat.mod_lt _ (by decide)⟩
  have xt:xorF .u8 (Int.ofNat (O.getD (k / 8) 0)) (shlF .u8 (Int.ofNat 1) (7-k % 8))=Int.ofNat (flipB (O.getD (k / 8) 0) (k % 8)):=xt
  have ia:∀κ:Nat→Nat→Ans,iaddrSK 1 (.sl b 0 O.length cp) (Int.ofNat (k / 8)) κ=κ b (k / 8):=fun κ=>by
   rw[iaddrSK_lt hkO]
   show κ b (0+k / 8*1)=_
   rw[Nat.zero_add,Nat.mul_one]
  have hlen:(u8s (nI O)).length=O.length:=by unfold u8s nI;rw[List.length_map,List.length_map]
  have ld:∀κ:V→Ans,ldK E σ b (k / 8) κ=κ (.int .u8 (Int.ofNat (O.getD (k / 8) 0))):=fun κ=>ldK_get hb1 (by
   unfold u8s nI
   rw[List.getElem?_map,List.getElem?_map,List.getElem?_eq_getElem hkO,List.getD_eq_getElem?_getD,List.getElem?_eq_getElem hkO];rfl)
  obtain⟨σ1,g1,f1,a1⟩:=stz (off:=k / 8) (y := .int .u8 (Int.ofNat (flipB (O.getD (k / 8) 0) (k % 8)))) ht hb1 rfl (by rw[hlen];exact hkO)
  rw[flip_cells O k hkO]at a1
  obtain⟨p1,p2⟩:=flip_ok (w:=w) (d:=e) (k:=k) (by omega) (by omega) (by rw[hp];omega)
  rw[←hOd]at p1 p2
  have hx1:By σ1 (.sl b 0 O.length cp) (nI (flipO O k)) := .inr ⟨b,0,cp,u8s (nI (flipO O k)),by rw[nI_length,flip_len],a1,by
   unfold u8s;rw[nI_length,List.length_map,nI_length];omega,by
   rw[List.drop_zero,Nat.mul_one,nI_length]
   unfold u8s nI
   rw[List.take_of_length_le (by rw[List.length_map,List.length_map];omega)]⟩
  obtain⟨σ2,g2,f2⟩:=hD (nm:=nm) (z:=wrapF .i64 (addF .u64 (wrapF .u64 lo) (Int.ofNat (readV (bitsO (flipO O k)) 0 (widN 60 n) 0)))) f1.tidy hx1 (flip_lt hlt k) (by rw[flip_len];omega) (by rw[flip_len];omega) (hT.fr (f0.trans f1 (fun b hb e=>by omega)) ht0) hb.c hb.s h5 (by rw[flip_len,←hw];omega) (by omega) (by omega) (by rw[←hw,p1];exact hdn) rfl (by rw[←hw];exact p2)
  obtain⟨σ3,g3,f3⟩:=hS σ2 f2.tidy
  refine⟨σ3,?_⟩
  subst hxb
  unfold tbC at g2
  unfold zI at g2 g3
  have nn:∀κ:Nat→Ans,nnK (Int.ofNat (7-k % 8)) κ=κ (7-k % 8):=fun _=>rfl
  unfold T7_1
  simp -implicitDefEqProofs only [↓rP,rA,Nat.reduceEqDiff,Nat.reduceLT,Nat.reduceLeDiff,↓nn,hm8,d0,s1,s2,↓s3,s4,s5,s6,s7,s8,s9,↓ia,↓ld,xt,↓g1,↓g2,↓g3]
end
theorem numC_lt {v:Int} (h:In64 v):∀c∈numC v,c<256:=by
 obtain⟨m,ds,e,ok,_⟩:=numC_ok h (r:=[]) rfl rfl
 rw[e];exact numT_lt ok
theorem numC_len {v:Int} (h:In64 v):(numC v).length≤21:=by
 obtain⟨m,ds,e,ok,_⟩:=numC_ok h (r:=[]) rfl rfl
 rw[e]
 have:=ok.n19
 unfold numT
 split
 ·rw[List.length_cons];omega
 ·omega
section
variable {E:List (Nat × Blk)} {D:Den} {W:DrawFn} {N:Nat}
theorem law7_F (hNu:SpNumber (D 14)) (hTb:SpTable N (D 13)) (hE:SpEnc (D 30)) (hA:SpAwk (D 31)) (hD:SpDecI (D 32)) (hS:SpSame0 (D 33)) (hN:100≤N) {σ:H} (ht:Tidy σ) (a b c d:Int) :
  ∃σ',F7 E D W N [.int .i64 a,.int .i64 b,.int .i64 c,.int .i64 d] σ=some (.bool true,σ'):=by
 obtain⟨r1,hr1,e1⟩:=rem_m a 2000 (by decide) (by decide)
 obtain⟨r2,hr2,e2⟩:=rem_m b 5000 (by decide) (by decide)
 obtain⟨lo,hlo,e3⟩:∃lo:Int,lo=(r1:Int)-1000∧subF .i64 (Int.ofNat r1) (Int.ofNat 1000)=lo:=⟨_,rfl,by
  show wrapF .i64 ((r1:Int)-1000)=_
  exact wrap64 (by omega) (by omega)⟩
 obtain⟨n,hn⟩:∃n,n=1+r2:=⟨_,rfl⟩
 have e4:addF .i64 (Int.ofNat 1) (Int.ofNat r2)=Int.ofNat n:=by rw[hn];exact addF_nat (by omega)
 obtain⟨hi,hhi,e5⟩:∃hi:Int,hi=lo+n∧addF .i64 lo (Int.ofNat n)=hi:=⟨_,rfl,by
  show wrapF .i64 (lo+(n:Int))=_
  exact wrap64 (by omega) (by omega)⟩
 have e6:addF .i64 (Int.ofNat n) (Int.ofNat 1)=Int.ofNat (n+1):=addF_nat (by omega)
 have e7:wrapF .u64 (Int.ofNat (n+1))=Int.ofNat (n+1):=wrapF_nat (show n+1≤18446744073709551615 by omega)
 obtain⟨e,he,e8⟩:=rem_m c (n+1) (by omega) (by omega)
 obtain⟨v,hv,e9⟩:∃v:Int,v=lo+e∧addF .i64 lo (Int.ofNat e)=v:=⟨_,rfl,by
  show wrapF .i64 (lo+(e:Int))=_
  exact wrap64 (by omega) (by omega)⟩
 have ilo:In64 lo:=⟨by omega,by omega⟩
 have ihi:In64 hi:=⟨by omega,by omega⟩
 have lt1:=numC_lt ilo
 have lt2:=numC_lt ihi
 have ln1:=numC_len ilo
 have ln2:=numC_len ihi
 obtain⟨σ1,g1,f1⟩:=hNu σ lo ht ilo
 obtain⟨σ2,g2,f2⟩:=hNu σ1 hi f1.tidy ihi
 have hpre:∀c∈ubPre,c<256:=by decide
 have hpost:∀c∈ubPost,c<256:=by decide
 have app:∀{l m:List Nat},(∀c∈l,c<256)→(∀c∈m,c<256)→∀c∈l++m,c<256:=fun h1 h2 c hc=>(List.mem_append.1 hc).elim (h1 c) (h2 c)
 have lpre:ubPre.length=39:=rfl
 have lpost:ubPost.length=5:=rfl
 have p1:BS.mk 39 1307818011897121422451922733390706347676985071784222021968392631138651534820383999223994261581=ofN ubPre:=by decide +kernel
 have p2:BS.mk 2 11822=ofN [46,46]:=by decide +kernel
 have p3:BS.mk 5 293370929193=ofN ubPost:=by decide +kernel
 have h46:∀c∈([46,46]:List Nat),c<256:=by decide
 have k1:∀κ:BS→Ans,catK (BS.mk 39 1307818011897121422451922733390706347676985071784222021968392631138651534820383999223994261581) (ofN (numC lo)) κ=κ (ofN (ubPre++numC lo)):=fun κ=>by
  rw[p1];exact catK_ofN hpre lt1 (by omega) κ
 have k2:∀κ:BS→Ans,catK (ofN (ubPre++numC lo)) (BS.mk 2 11822) κ=κ (ofN ((ubPre++numC lo)++[46,46])):=fun κ=>by
  rw[p2];exact catK_ofN (app hpre lt1) h46 (by rw[List.length_append];simp only[List.length_cons,List.length_nil];omega) κ
 have k3:∀κ:BS→Ans,catK (ofN ((ubPre++numC lo)++[46,46])) (ofN (numC hi)) κ=κ (ofN (((ubPre++numC lo)++[46,46])++numC hi)):=fun κ=>catK_ofN (app (app hpre lt1) h46) lt2 (by simp only[List.length_append,List.length_cons,List.length_nil];omega) κ
 have k4:∀κ:BS→Ans,catK (ofN (((ubPre++numC lo)++[46,46])++numC hi)) (BS.mk 5 293370929193) κ=κ (ofN (ubText (numC lo) (numC hi))):=fun κ=>by
  rw[p3,catK_ofN (app (app (app hpre lt1) h46) lt2) hpost (by simp only[List.length_append,List.length_cons,List.length_nil];omega) κ,ubText_eq]
 have hall:∀c∈ubText (numC lo) (numC hi),c<256:=by
  rw[←ubText_eq];exact app (app (app (app hpre lt1) h46) lt2) hpost
 have hlen:(ofN (ubText (numC lo) (numC hi))).len≤3000:=by
  rw[ofN_len,←ubText_eq];simp only[List.length_append,List.length_cons,List.length_nil];omega
 obtain⟨m2,d2,w2,ok2,i2⟩:=numC_ok ihi (r:=ubPost) rfl rfl
 obtain⟨m1,d1,w1,ok1,i1⟩:=numC_ok ilo (r:=46::46::(numT m2 d2++ubPost)) rfl rfl
 have tk:Tks N (ofN (ubText (numC lo) (numC hi))).len (ofN (ubText (numC lo) (numC hi))).nats (ubToks (ofN (ubText (numC lo) (numC hi))).len (numC lo) (numC hi)):=by
  rw[ofN_nats hall]
  generalize (ofN (ubText (numC lo) (numC hi))).len=len
  rw[w1,w2]
  obtain⟨N',rfl⟩:∃k,N=k+10:=⟨N-10,by omega⟩
  exact ub_toks N' len ok1 ok2
 have hc:ltF hi lo=false:=by rw[ltF_eq];exact decide_eq_false (by omega)
 have hmod:=ub_mod (ofN (ubText (numC lo) (numC hi))).len (numC lo) (numC hi)
 rw[i1,i2]at hmod
 obtain⟨u,rv,lv,σ3,g3,s3,f3⟩:=hTb σ2 _ _ _ _ _ f2.tidy hlen tk hmod (ub_ok lo hi) (ub_roots hc)
 have hT:TbI σ3 lo hi u rv lv:=⟨_,_,_,s3⟩
 have hnlt:n<2 ^ 60:=by omega
 have hb:InB lo hi v e n:=⟨by rw[leF_eq];exact decide_eq_true (by omega),by rw[leF_eq];exact decide_eq_true (by omega),hc,subu (by omega) (by omega) (by omega) (by omega) (by omega),subu (by omega) (by omega) (by omega) (by omega) (by omega),by omega,hnlt,widN_pos (by omega) 59,widN_le 60 n⟩
 obtain⟨x,σ4,g4,x4,f4⟩:=hE (nm:=[77]) f3.tidy hT hb
 obtain⟨σ5,g5,f5⟩:=hA σ4 f4.tidy
 have x5:Nb σ3 σ5 x (nI (pack (bitsOf (widN 60 n) e))):=⟨x4.1.fr f5 f4.tidy (fun _ _ h=>h),x4.2⟩
 obtain⟨σ6,g6⟩:=law_1 (E:=E) (W:=W) (d:=d) (nm:=[77]) hD hS f5.tidy hb (by omega) hT f3.tidy (f4.trans f5 (fun _ _ h=>h)) x5 (by omega) (by omega)
 refine⟨σ6,?_⟩
 obtain⟨o1,o2,o3⟩:=hT.ones
 have l2:=law_2 (E:=E) (D:=D) (W:=W) (K1:=T7_1 E D W) (a:=d) (x:=x) (u:=u) (rv:=rv) (lv:=lv) (s:=ofN [77]) (σ:=σ5) 60 N n 0 hnlt (by omega) (by omega)
 rw[Nat.zero_add]at l2
 have nz:∀κ:Ans,nzK (Int.ofNat (n+1)) κ=κ:=fun _=>rfl
 have xo:=x4.1.one
 have i0:(ubM lo hi).nm=[77]:=rfl
 unfold tbC at g3 g4
 unfold valI at g4
 rw[i0]at g3
 have dl:decide ([mkTy (ubNd lo hi)].length≤120)=true:=rfl
 rw[dl]at g3
 show T7_0 E D W (L7_2 E D W N N) a b c d σ=_
 have key:∀K2,T7_0 E D W K2 a b c d σ=K2 d x (Int.ofNat 0) (Int.ofNat n) (ofN [77]) u rv lv σ5:=by
  intro K2
  unfold T7_0
  simp -implicitDefEqProofs only [↓rP,rA,Nat.reduceEqDiff,Nat.reduceLT,Nat.reduceLeDiff,e1,e2,e3,e4,e5,e6,e7,e8,e9,↓g1,↓g2,↓k1,↓k2,↓k3,↓k4,↓g3,o1,o2,o3,↓nz,↓g4,↓g5]
 rw[key]
 exact l2.trans g6
end
theorem hit1 {e:Few} {F:List V→H→Ans} {args:List V} {σ:H} {ρ:Nat→Nat} (hm:e.Fits ρ args σ):∃ρ',e.Fits ρ' args σ∧locF [e] F args σ=some (e.ans ρ' σ):=by
 obtain⟨e',ρ',he,hf,hr⟩:=locF_hit (F:=F) (l:=[e]) (List.mem_singleton.2 rfl) hm
 have:=List.mem_singleton.1 he
 subst this
 exact⟨ρ',hf,hr⟩
theorem Has.nil {ρ:Nat→Nat} {σ:H}:Has [] ρ σ:=fun id b h=>by cases h
theorem Inj.nil {ρ:Nat→Nat}:Inj [] ρ:=fun id id' h=>by cases h
variable {E:List (Nat × Blk)}
theorem xRat (d:Nat):SpRat (TW E (d+1) 205):=by rw[DE205];exact rat_F
theorem xLet (d:Nat):SpLet (TW E (d+1) 206):=by rw[DE206];exact rlet_F
theorem xDig (d:Nat):SpDig (TW E (d+1) 209):=by rw[DE209];exact rdig_F
theorem xWht (d:Nat):SpWht 600000 (TW E (d+2) 117):=by rw[DE117];exact wht_F (xRat d) (by decide)
theorem xInS (d:Nat):SpInS (TW E (d+1) 123):=by rw[DE123];exact inS_F (by decide)
theorem xWords (d:Nat):∀σ:H,(TW E (d+1) 274) [] σ=some (.sl σ.next 0 25 (.ex 25),newB σ (.cells (wordsV.map .str))):=by rw[DE274];exact rwords_F
theorem xWord (d:Nat):SpRword (TW E (d+2) 208):=by rw[DE208];exact rword_F (xInS d) (xWords d)
theorem xName (d:Nat):SpRname (TW E (d+2) 207):=by rw[DE207];exact rname_F (xRat d) (xLet d) (xDig d) (by decide)
theorem xSign (d:Nat):SpRsign (TW E (d+1) 213):=by rw[DE213];exact rsign_F (by decide)
theorem xNum (d:Nat):SpRnum (TW E (d+2) 210):=by rw[DE210];exact rnum_F (xRat d) (xLet d) (xDig d) (by decide)
theorem xOne (d:Nat):SpOne (TW E (d+3) 118):=by rw[DE118];exact one_F (xRat (d+1)) (xLet (d+1)) (xDig (d+1)) (xName d) (xWord d) (xNum d) (xSign (d+1))
theorem xToks (d:Nat):SpTks 600000 (TW E (d+4) 56):=by rw[DE56];exact rtokens_F (xWht (d+1)) (xOne d) (by decide)
theorem xNow (d:Nat):SpNow (TW E (d+1) 60):=by rw[DE60];exact now_F
theorem xNext (d:Nat):SpNext (TW E (d+1) 119):=by rw[DE119];exact next_F
theorem xIs (d:Nat):SpIs (TW E (d+2) 59):=by rw[DE59];exact is_F (xNow d) (xNext d)
theorem xMust (d:Nat):SpMust (TW E (d+3) 58):=by rw[DE58];exact must_F (xIs d)
theorem xKind (d:Nat):SpKind (TW E (d+2) 57):=by rw[DE57];exact kind_F (xNow d) (xNext d)
theorem xWhole (d:Nat):SpWhole (TW E (d+1) 214):=by rw[DE214];exact whole_F (by decide)
theorem xNumb (d:Nat):SpNumb (TW E (d+3) 121):=by rw[DE121];exact numb_F (xKind d) (xWhole (d+1))
theorem xBnds (d:Nat):SpBounds (TW E (d+4) 216):=by rw[DE216];exact bounds_F (xIs (d+1)) (xMust d) (xNumb d)
theorem xBeg (d:Nat):SpBeg (TW E (d+1) 120):=by rw[DE120];exact beg_F (by decide)
theorem xBase1 (d:Nat):SpBaseT (typP 1) (TW E (d+5) 122):=by rw[DE122];exact base_F (xNow (d+3)) (xIs (d+2)) (xMust (d+1)) (xBnds d)
theorem xTyp2 (d:Nat):SpTypT (typP 2) (TW E (d+6) 62):=by rw[DE62];exact typ_F (typP_mon 1) (xNow (d+4)) (xBeg (d+4)) (xIs (d+3)) (xMust (d+2)) (xNumb (d+2)) (xBase1 d)
theorem xParse (d:Nat):SpParse 600000 (typP 2) (TW E (d+7) 34):=by rw[DE34];exact parse_F (xNow (d+5)) (xIs (d+4)) (xMust (d+3)) (xKind (d+4)) (xToks (d+2)) (xTyp2 d) (by decide)
theorem xUni (d:Nat):SpUni (TW E (d+1) 220):=by rw[DE220];exact uni_F
theorem xCheck (d:Nat):SpCheck (TW E (d+1) 221):=by rw[DE221];exact check_F
theorem xInI (d:Nat):SpInI (TW E (d+1) 29):=by rw[DE29];exact inI_F (by decide)
theorem xUsesQ {m:ModS} (hm:MdOk m) (d:Nat):∀q:Nat,SpUses m q (TW E (d+(q+1)) 124)
 | 0=>by rw[show d+(0+1)=d+1 from rfl,DE124];exact uses_F hm (by decide) (fun p e=>by cases e)
 | q+1=>by
  rw[show d+(q+1+1)=(d+(q+1))+1 from rfl,DE124]
  exact uses_F hm (by decide) (fun p e=>by cases e;exact xUsesQ hm d q)
theorem xUses {m:ModS} (hm:MdOk m) (d:Nat):SpUses m 17 (TW E (d+18) 124):=xUsesQ hm d 17
theorem xReach (d:Nat):SpReach (TW E (d+1) 125):=by rw[DE125];exact reach_F (by decide)
theorem xOrder {m:ModS} (hm:MdOk m) (d:Nat):SpOrder m (TW E (d+19) 63):=by rw[DE63];exact order_F hm (xInS (d+17)) (xInI (d+17)) (xUses hm d) (xReach (d+17)) (by decide)
theorem xMnode0 (m:ModS) (d:Nat):SpMnode m (nodP m 0) (TW E d 64):=by
 intro σ0 σ xb nv tv dv lv tl tl' d k i Q _ _ _ _ _ h
 cases h
theorem xMmade0 (m:ModS) (d:Nat):SpMmade m (nodP m 0) (TW E (d+2) 127):=by rw[DE127];exact made_F (xUni d) (xCheck d) (xMnode0 m (d+1))
theorem xMnode1 (m:ModS) (d:Nat):SpMnode m (nodP m 1) (TW E (d+3) 64):=by rw[DE64];exact node_F (xMmade0 m d)
theorem xMmade1 (m:ModS) (d:Nat):SpMmade m (nodP m 1) (TW E (d+4) 127):=by rw[DE127];exact made_F (xUni (d+2)) (xCheck (d+2)) (xMnode1 m d)
theorem xMnode2 (m:ModS) (d:Nat):SpMnode m (nodP m 2) (TW E (d+5) 64):=by rw[DE64];exact node_F (xMmade1 m d)
theorem xMake {m:ModS} (hm:MdOk m) (d:Nat):SpMake m (nodP m 2) (TW E (d+20) 35):=by rw[DE35];exact make_F hm (xOrder hm d) (xMnode2 m (d+14)) (by decide)
theorem xTable (d:Nat):SpTable 600000 (TW E (d+21) 13):=by rw[DE13];exact table_F (xParse (d+13)) (fun _ hm=>xMake hm d)
theorem xDigitsQ (d:Nat):∀k:Nat,k≤31→SpDigits k (TW E (d+(k+1)) 12)
 | 0,_=>by rw[show d+(0+1)=d+1 from rfl,DE12];exact digits0_F _ _ _ _
 | k+1,h=>by
  rw[show d+(k+1+1)=(d+(k+1))+1 from rfl,DE12]
  exact digits_F (xDigitsQ d k (by omega)) (by omega)
theorem xDigits (d:Nat):SpDigits 19 (TW E (d+20) 12):=xDigitsQ d 19 (by decide)
theorem xNumber (d:Nat):SpNumber (TW E (d+21) 14):=by rw[DE14];exact number_F (xDigits d)
theorem xBit (d:Nat):SpBit (TW E (d+1) 41):=by rw[DE41];exact r01bit_F
theorem xBits (d:Nat):SpBits (TW E (d+2) 20):=by rw[DE20];exact bits_F (xBit d) (by decide)
theorem xBytes (d:Nat):SpBytes 590000 (TW E (d+1) 45):=by rw[DE45];exact r01bytes_F (by decide) (by decide)
theorem xW17 (d:Nat) {σ:H} {w:Nat} {u:V} {L:List Nat} (h:Wr σ w u L) (ht:Tidy σ) (hb:Bin L) (hl:L.length≤1000) (h0:0<L.length) :
  ∃v σ',TW E (d+2) 23 [.ptr w 0] σ=some (v,σ')∧Nb σ σ' v (nI (pack L))∧Fr Nowhere σ σ':=by
 rw[DE23];exact r17bytes_F (xBytes d) h ht hb (by omega) h0
theorem xCnt (d:Nat):SpCnt (TW E (d+1) 88):=by rw[DE88];exact cnt_F (by decide)
theorem xRul (d:Nat):SpRul (TW E (d+1) 47):=by rw[DE47];exact rul_F (by decide)
theorem xWin (d:Nat):SpWin (TW E (d+1) 93):=by rw[DE93];exact win_F
theorem xSpan (d:Nat):SpSpnY (TW E (d+1) 169):=by rw[DE169];exact span_F
theorem xPla (d:Nat):SpPla (TW E (d+1) 165):=by rw[DE165];exact pla_F
theorem xWid (d:Nat):SpWid (TW E (d+1) 16):=by rw[DE16];exact wid_F (by decide)
theorem xBetw (d:Nat):SpBtwY (TW E (d+3) 27):=by rw[DE27];exact betw_Fy (xWid (d+1)) (xBits d)
theorem xFit (d:Nat):SpFitY (TW E (d+2) 89):=by rw[DE89];exact fit_F (xPla d) (xWin d)
theorem xFits (d:Nat):SpFits (TW E (d+3) 46):=by rw[DE46];exact fits_Fy (xCnt (d+1)) (xFit d)
theorem xInt (d:Nat):SpInt (TW E (d+4) 90):=by rw[DE90];exact int_F (xWin (d+2)) (xSpan (d+2)) (xBetw d)
theorem xPutI (d:Nat):SpPutI (TW E (d+5) 48):=by rw[DE48];exact put_Fy (xInt d)
theorem xEnc (d:Nat):SpEnc (TW E (d+6) 30):=by rw[DE30];exact enc_Fy (xFits (d+2)) (xRul (d+4)) (xPutI d) (fun h ht hb hl h0=>xW17 (d+3) h ht hb hl h0)
theorem xR1 (d:Nat):SpNoT (TW E (d+1) 68):=by rw[DE68];exact rooted1_F
theorem xM1 (d:Nat):SpNoT (TW E (d+1) 98):=by rw[DE98];exact made1_F
theorem xIdxR (d:Nat):SpIdx 68 (TW E (d+2) 137):=by rw[DE137];exact idx_F (xR1 d) (by decide)
theorem xConR (d:Nat):SpCon 68 (TW E (d+3) 67):=by rw[DE67];exact con_F (xIdxR d)
theorem xIdxM (d:Nat):SpIdx 98 (TW E (d+2) 137):=by rw[DE137];exact idx_F (xM1 d) (by decide)
theorem xConM (d:Nat):SpCon 98 (TW E (d+3) 67):=by rw[DE67];exact con_F (xIdxM d)
theorem xRooted (d:Nat):SpMade (TW E (d+4) 37):=by rw[DE37];exact rooted_F (xConR d)
theorem xMade (d:Nat):SpMade (TW E (d+5) 49):=by rw[DE49];exact made_Fu (xRooted d) (xConM (d+1))
theorem xLen (d:Nat):SpLen (TW E (d+1) 290):=by rw[DE290];exact len_F
theorem xBwid (d:Nat):SpLen (TW E (d+2) 237):=by rw[DE237];exact bwidth_Fi (xLen d)
theorem xBoth (d:Nat):SpBth (TW E (d+1) 235):=by rw[DE235];exact both_Fi
theorem xCrs (d:Nat):SpCrs (TW E (d+2) 236):=by rw[DE236];exact crossed_Fi (xBoth d)
theorem xBspan (d:Nat):SpSpnY (TW E (d+3) 140):=by rw[DE140];exact bspan_Fi (xBoth (d+1)) (xCrs d)
theorem xPbit (d:Nat):SpPbit (TW E (d+1) 273):=by rw[DE273];exact pbit_F
theorem xPbits (d:Nat):SpPbits (TW E (d+2) 204):=by rw[DE204];exact pbits_F (xPbit d) (by decide)
theorem xLeft (d:Nat):SpLeft (TW E (d+1) 203):=by rw[DE203];exact left_F
theorem xReady (d:Nat):SpReady (TW E (d+2) 261):=by rw[DE261];exact ready_F (xLeft d)
theorem xBd32 (d:Nat):SpBd 32 (TW E (d+1) 260):=by rw[DE260];exact bd32_F
theorem xRbits (d:Nat):SpRbits (TW E (d+3) 183):=by rw[DE183];exact rbits_F (xBd32 (d+1)) (xReady d) (xPbits d)
theorem xRerr (d:Nat):SpRerr (TW E (d+1) 201):=by rw[DE201];exact rerr_F
theorem xErr (d:Nat):SpErr (TW E (d+2) 114):=by rw[DE114];exact err_F (xRerr d)
theorem xRleft (d:Nat):SpLeft (TW E (d+2) 202):=by rw[DE202];exact rleft_F (xLeft d)
theorem xWleft (d:Nat):SpWleft (TW E (d+3) 115):=by rw[DE115];exact wleft_F (xRleft d)
theorem xBd64 (d:Nat):SpBd 64 (TW E (d+1) 182):=by rw[DE182];exact bd64_F
theorem xWbits (d:Nat):SpWbits (TW E (d+4) 103):=by rw[DE103];exact wbits_F (xBd64 (d+2)) (xErr (d+1)) (xWleft d) (xRbits d)
theorem xBtwC (d:Nat):SpBtwC (TW E (d+5) 263):=by rw[DE263];exact btwc_F (xBwid (d+2)) (xWbits d)
theorem xBack (d:Nat):SpBack (TW E (d+6) 262) (TW E (d+5)):=by rw[DE262];exact back_F (xErr (d+3))
theorem xRBtw (d:Nat):SpRBtw (TW E (d+7) 185):=by rw[DE185];exact rbtw_F (xBack d) (xBtwC d)
theorem xDInt (d:Nat):SpDInt (TW E (d+8) 104):=by rw[DE104];exact dint_F (xBspan (d+4)) (xRBtw d)
theorem xMore (d:Nat):SpMore (TW E (d+1) 101):=by rw[DE101];exact more_F
theorem xBadNo (d:Nat):SpBadNo (TW E (d+1) 100):=by rw[DE100];exact badno_F
theorem xOn (d:Nat):SpOn (TW E (d+3) 102):=by rw[DE102];exact on_F (xErr d)
theorem xDVal (d:Nat):SpDVal (TW E (d+9) 51):=by rw[DE51];exact dval_F (xMore (d+7)) (xBadNo (d+7)) (xOn (d+5)) (xDInt d)
theorem xNewB (d:Nat):SpNewB (TW E (d+1) 99):=by rw[DE99];exact newB_F
theorem xNewW (d:Nat):SpNewW (TW E (d+2) 50):=by rw[DE50];exact newW_F (xNewB d)
theorem xRend (d:Nat):SpRend (TW E (d+3) 116):=by rw[DE116];exact rend_F (xRerr (d+1)) (xLeft (d+1)) (xPbits d)
theorem xWend (d:Nat):SpWend (TW E (d+4) 52):=by rw[DE52];exact wend_F (xErr (d+1)) (xWleft d) (xRend d)
theorem xDecI (d:Nat):SpDecI (TW E (d+10) 32):=by rw[DE32];exact decI_F (xMade (d+4)) (xNewW (d+7)) (xDVal d) (xWend (d+5))
theorem xAwk (d:Nat):SpAwk (TW E (d+1) 31):=by
 intro σ ht
 obtain⟨ρ,hf,hr⟩:=hit1 (e:=eAw) (F:=BD E 600000 (TW E d) 31) (fits_of (e:=eAw) (ρ:=fun x=>x) (args:=[]) (σ:=σ) rfl Has.nil Inj.nil)
 exact⟨_,by rw[DE31,hr];rfl,Few.fr0 eAw_shape (by kernel_rfl) hf ht⟩
theorem xSame0 (d:Nat):SpSame0 (TW E (d+1) 33):=by
 intro σ ht
 obtain⟨ρ,hf,hr⟩:=hit1 (e:=eSv) (F:=BD E 600000 (TW E d) 33) (fits_of (e:=eSv) (ρ:=fun x=>x) (args:=[.agg zI,.agg zI]) (σ:=σ) rfl Has.nil Inj.nil)
 exact⟨_,by rw[DE33,hr];rfl,Few.fr0 eSv_shape (by kernel_rfl) hf ht⟩
theorem ub_law (a b c d:Int):okB (F7 [] (TW [] 59) (drawW [] (TW [] 59)) 600000 [.int .i64 a,.int .i64 b,.int .i64 c,.int .i64 d] ⟨100,[]⟩)=true:=by
 have ht:Tidy ⟨100,[]⟩:=fun _ _=>rfl
 obtain⟨σ',h⟩:=law7_F (E:=[]) (D:=TW [] 59) (W:=drawW [] (TW [] 59)) (N:=600000) (xNumber 38) (xTable 38) (xEnc 53) (xAwk 58) (xDecI 49) (xSame0 58) (by decide) ht a b c d
 rw[h];rfl
end
end Go.Proofs.YtgjjnbddbbhloaaGreatDoor
set_option maxHeartbeats 0
namespace Go.Proofs.YtgjjnbddbbhloaaGreatDoor.uperinBits
open Go
theorem k_inPlace:(Rows.uperinBitsRow.inPlace==Tryz.pinned.checked.prog.inPlace 7)=true:=by kernel_rfl
theorem k_unfollowed:(Rows.uperinBitsRow.unfollowed==Tryz.pinned.checked.prog.unfollowed 7)=true:=by kernel_rfl
theorem k_recurses:(Rows.uperinBitsRow.recurses==Tryz.pinned.checked.prog.recurses 7)=true:=by kernel_rfl
theorem k_varsNamed:(Rows.uperinBitsRow.named==Tryz.pinned.checked.prog.varsNamed 7)=true:=by kernel_rfl
end Go.Proofs.YtgjjnbddbbhloaaGreatDoor.uperinBits
