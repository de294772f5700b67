/- What the last text leans on, part 6 of 6: merged out of smaller texts. No condition. -/
import Derived.Test.YtgblfbajgpboiaaGreatDoorChecked
import Derived.Test.YtgblfbajgpboiaaGreatDoorCards
import Derived.KernelRfl
import Derived.Test.YtgblfbajgpboiaaGreatDoorQ4
set_option linter.all false
set_option maxRecDepth 100000
namespace Go.Proofs.YtgblfbajgpboiaaGreatDoor
open Go Go.Og
noncomputable section
structure TyS where
 kind:Nat
 tags:List (Nat × Nat)
 con:ConS
 items:List ItemS
 fields:List FieldS
 root:Nat
 more:Bool
 of_:Nat
def tgC (l:List (Nat × Nat)):List V:=l.flatMap fun t=>[.int .i64 (Int.ofNat t.1),.int .i64 (Int.ofNat t.2)]
structure Tgl (σ:H) (l:List (Nat × Nat)) (v:V):Prop where
 s:Src σ 2 l.length v (tgC l)
 e:l.length=1→∃b,v = .sl b 0 1 (.ex 1)
section
variable {σ σ':H} {l:List (Nat × Nat)} {v:V}
theorem Tgl.fr {S:Nat→Prop} (h:Tgl σ l v) (f:Fr S σ σ') (ht:Tidy σ) (hn:∀b,Names v b→¬S b):Tgl σ' l v:=⟨h.s.fr f ht hn,h.e⟩
theorem Tgl.lt (h:Tgl σ l v) (ht:Tidy σ) {b:Nat} (hb:Names v b):b<σ.next:=h.s.lt ht hb
theorem Tgl.one (h:Tgl σ l v):v.one=true:=h.s.one
end
def TyS.c (t:TyS) (u:V × V × V):List V:=[.int .i64 (Int.ofNat t.kind),u.1,.bool t.con.has,.bool t.con.hasLow,.bool t.con.hasHigh,.bool t.con.more,.int .i64 t.con.low,.int .i64 t.con.high,u.2.1,u.2.2,.int .i64 (Int.ofNat t.root),.bool t.more,.int .i64 (Int.ofNat t.of_)]
def tyCs:List TyS→List (V × V × V)→List V
 | t::tl,u::ws=>t.c u++tyCs tl ws
 | _,_=>[]
theorem tyCs_app:∀(tl:List TyS) (ws:List (V × V × V)) (t:TyS) (u:V × V × V),ws.length=tl.length→tyCs (tl++[t]) (ws++[u])=tyCs tl ws++t.c u
 | [],[],t,u,_=>by simp[tyCs]
 | x::tl,y::ws,t,u,h=>by
  have ih:=tyCs_app tl ws t u (by simpa using h)
  show x.c y++tyCs (tl++[t]) (ws++[u])=(x.c y++tyCs tl ws)++_
  rw[ih,List.append_assoc]
 | [],_::_,_,_,h=>by simp at h
 | _::_,[],_,_,h=>by simp at h
theorem tyCs_len:∀(tl:List TyS) (ws:List (V × V × V)),ws.length=tl.length→(tyCs tl ws).length=tl.length*13
 | [],[],_=>rfl
 | x::tl,y::ws,h=>by
  have ih:=tyCs_len tl ws (by simpa using h)
  show (x.c y++tyCs tl ws).length=_
  rw[List.length_append,ih,List.length_cons]
  show 13+_=_
  omega
 | [],_::_,h=>by simp at h
 | _::_,[],h=>by simp at h
theorem tyCs_of (r:Nat):∀(tl:List TyS) (ws:List (V × V × V)) (i:Nat) (t:TyS),ws.length=tl.length→tl[i]? = some t→spl (tyCs tl ws) (i*13+12) [.int .i64 (Int.ofNat r)]=tyCs (tl.set i { t with of_:=r }) ws
 | x::tl,y::ws,0,t,_,h=>by
  simp at h;subst h
  show spl (x.c y++tyCs tl ws) 12 _=({ x with of_:=r }:TyS).c y++tyCs tl ws
  generalize tyCs tl ws=z
  cases z<;>rfl
 | x::tl,y::ws,i+1,t,h,hi=>by
  have ih:=tyCs_of r tl ws i t (by simpa using h) (by simpa using hi)
  show spl (x.c y++tyCs tl ws) ((i+1)*13+12) _=x.c y++tyCs (tl.set i { t with of_:=r }) ws
  rw[←ih,show (i+1)*13+12=(x.c y).length+(i*13+12)by show _=13+_;omega,spl_app16]
 | [],_,_,_,_,h=>by simp at h
 | _::_,[],_,_,h,_=>by simp at h
def mkC (m:ModS) (nv tv dv lv:V):List V:=[.str (ofN m.nm),.int .i64 (Int.ofNat m.tg),nv,tv,dv,lv,.int .i64 (Int.ofNat 0)]
structure Mk (σ0 σ:H) (xb:Nat) (m:ModS) (nv tv dv:V) (tl:List TyS) (lv:V) (Q:Nat→Prop):Prop where
 a:Atc σ xb (mkC m nv tv dv lv)
 w:∃ws:List (V × V × V),Dst σ 13 tl.length lv (tyCs tl ws)∧ws.length=tl.length∧∀(k:Nat) (t:TyS) (u:V × V × V),tl[k]? = some t→ws[k]? = some u→Tgl σ t.tags u.1∧Src σ 3 t.items.length u.2.1 (itC t.items)∧Src σ 11 t.fields.length u.2.2 (fdC t.fields)∧∀b,(Names u.1 b∨Names u.2.1 b∨Names u.2.2 b)→b≠xb∧¬Names lv b∧¬Q b
 lx:∀b,Names lv b→b≠xb∧σ0.next≤b∧¬Q b
 qx:¬Q xb
 x0:σ0.next≤xb
 f:Fr Nowhere σ0 σ
abbrev NodT:=Nat→Nat→List TyS→Option (Nat × List TyS)
def mkTy (nd:NodeS):TyS:=⟨nd.kind,[(0,uniP nd.kind)],nd.con,[],[],nd.root,nd.more,0⟩
def leafB (k:Nat):Bool:=k==1 || k==2 || k==4 || k==5 || k==6 || k==10
def conB (k:Nat):Bool:=k==2 || k==5 || k==6 || k==10
def madeS (T:NodT) (d:Nat) (nd:NodeS) (tl:List TyS):Option (Nat × List TyS):=
 match leafB nd.kind&&(decide (d≤16)&&(decide (tl.length<300)&&(!conB nd.kind || checkP nd.con (!decide (nd.kind=2)))))with
 | false=>none
 | true=>match decide (nd.kind=10)with
  | false=>some (tl.length,tl++[mkTy nd])
  | true=>(T (d+1) nd.of_ (tl++[mkTy nd])).bind fun r=>match r.2[tl.length]? with
   | none=>none
   | some t=>some (tl.length,r.2.set tl.length { t with of_:=r.1 })
def SpMnode (m:ModS) (T:NodT) (F:List V→H→Ans):Prop:=∀{σ0 σ:H} {xb:Nat} {nv tv dv lv:V} {tl tl':List TyS} {d k i:Nat} {Q:Nat→Prop},Tidy σ0→MdS σ0 m nv tv dv→Mk σ0 σ xb m nv tv dv tl lv Q→(∀b,Q b→b<σ.next)→d≤900→T d k tl=some (i,tl') →
 ∃lv' σ',F [.ptr xb 0,.int .i64 (Int.ofNat k),.int .i64 (Int.ofNat d)] σ=some (.int .i64 (Int.ofNat i),σ')∧Mk σ0 σ' xb m nv tv dv tl' lv' Q∧(∀b,Names lv' b→Names lv b∨σ.next≤b)∧Fr (fun b=>b=xb∨Names lv b) σ σ'
def SpMmade (m:ModS) (T:NodT) (F:List V→H→Ans):Prop:=∀{σ0 σ:H} {xb:Nat} {nv tv dv lv iv fv:V} {tl tl':List TyS} {d i:Nat} {nd:NodeS} {Q:Nat→Prop},Tidy σ0→MdS σ0 m nv tv dv→Mk σ0 σ xb m nv tv dv tl lv Q→(∀b,Q b→b<σ.next)→d≤900→iv.one=true→fv.one=true→madeS T d nd tl=some (i,tl') →
 ∃lv' σ',F [.ptr xb 0,.agg (nd.c iv fv),.int .i64 (Int.ofNat d)] σ=some (.int .i64 (Int.ofNat i),σ')∧Mk σ0 σ' xb m nv tv dv tl' lv' Q∧(∀b,Names lv' b→Names lv b∨σ.next≤b)∧Fr (fun b=>b=xb∨Names lv b) σ σ'
section
variable {E:List (Nat × Blk)} {D:Den} {N:Nat} {σ0 σ σ':H} {xb:Nat} {m:ModS} {nv tv dv lv:V} {tl:List TyS} {Q Q':Nat→Prop}
theorem Mk.ht (h:Mk σ0 σ xb m nv tv dv tl lv Q):Tidy σ:=h.f.tidy
theorem Mk.len (h:Mk σ0 σ xb m nv tv dv tl lv Q) {κ:Nat→Ans}:slenK lv κ=κ tl.length:=by
 obtain⟨ws,h1,_⟩:=h.w
 exact h1.slen
theorem Mk.llt (h:Mk σ0 σ xb m nv tv dv tl lv Q) {b:Nat} (hb:Names lv b):b<σ.next:=by
 obtain⟨ws,h1,_⟩:=h.w
 exact h1.lt h.ht hb
theorem Mk.fr {S:Nat→Prop} (h:Mk σ0 σ xb m nv tv dv tl lv Q) (f:Fr S σ σ') (hS:∀b,S b→σ.next≤b∨Q b) (hS0:∀b,S b→σ0.next≤b):Mk σ0 σ' xb m nv tv dv tl lv Q:=by
 have ht:=h.ht
 have le:=h.f.le
 obtain⟨ws,h1,h2,h3⟩:=h.w
 refine⟨f.at_ h.a ht (fun e=>(hS _ e).elim (fun e=>by have:=h.a.lt ht;omega) h.qx),⟨ws,h1.fr f ht (fun b hb e=>(hS _ e).elim (fun e=>by have:=h1.lt ht hb;omega) (h.lx b hb).2.2),h2,fun k t u hk hu=>?_⟩,h.lx,h.qx,h.x0,h.f.trans f (fun b hb e=>by have:=hS0 b e;omega)⟩
 obtain⟨a,b,c,d⟩:=h3 k t u hk hu
 exact⟨a.fr f ht (fun x hx e=>(hS _ e).elim (fun e=>by have:=a.lt ht hx;omega) (d x (.inl hx)).2.2),b.fr f ht (fun x hx e=>(hS _ e).elim (fun e=>by have:=b.lt ht hx;omega) (d x (.inr (.inl hx))).2.2),c.fr f ht (fun x hx e=>(hS _ e).elim (fun e=>by have:=c.lt ht hx;omega) (d x (.inr (.inr hx))).2.2),d⟩
theorem Mk.ext (h:Mk σ0 σ xb m nv tv dv tl lv Q) (hQ:∀b,Q' b→Q b∨σ.next≤b):Mk σ0 σ xb m nv tv dv tl lv Q':=by
 have ht:=h.ht
 obtain⟨ws,h1,h2,h3⟩:=h.w
 refine⟨h.a,⟨ws,h1,h2,fun k t u hk hu=>?_⟩,fun b hb=>⟨(h.lx b hb).1,(h.lx b hb).2.1,fun q=>(hQ b q).elim (h.lx b hb).2.2 (fun e=>by have:=h1.lt ht hb;omega)⟩,fun q=>(hQ _ q).elim h.qx (fun e=>by have:=h.a.lt ht;omega),h.x0,h.f⟩
 obtain⟨a,b,c,d⟩:=h3 k t u hk hu
 have nn:∀x,(Names u.1 x∨Names u.2.1 x∨Names u.2.2 x)→x<σ.next:=fun x hx=>by
  rcases hx with hx|hx|hx
  ·exact a.lt ht hx
  ·exact b.lt ht hx
  ·exact c.lt ht hx
 exact⟨a,b,c,fun x hx=>⟨(d x hx).1,(d x hx).2.1,fun q=>(hQ x q).elim (d x hx).2.2 (fun e=>by have:=nn x hx;omega)⟩⟩
theorem Mk.push (h:Mk σ0 σ xb m nv tv dv tl lv Q) {nd:NodeS} {gb tb eb:Nat} {dd ii:Int} (hl:tl.length<300) (hg:Atc σ gb ((mkTy nd).c (.sl tb 0 1 (.ex 1),.nils,.nils))) (ht:Atc σ tb [.int .i64 (Int.ofNat 0),.int .i64 (Int.ofNat (uniP nd.kind))]) (hgx:gb≠xb) (hgl:¬Names lv gb) (htx:tb≠xb) (htl:¬Names lv tb) (htq:¬Q tb) (hQ:∀b,Q b→b<σ.next) :
  ∃e' u σ',drawW E D G47_0 H47_0 [(0,.ptr xb 0),(2,.int .i64 dd),(4,.ptr eb 0),(7,.int .i64 ii),(8,.ptr gb 0)] σ=some (e',σ')∧Go.Og.look e' 0=some (.ptr xb 0)∧Go.Og.look e' 2=some (.int .i64 dd)∧Go.Og.look e' 4=some (.ptr eb 0)∧Go.Og.look e' 7=some (.int .i64 ii) ∧
   Mk σ0 σ' xb m nv tv dv (tl++[mkTy nd]) u Q∧(∀b,Names u b→Names lv b∨σ.next≤b)∧Fr (fun b=>b=xb∨Names lv b) σ σ':=by
 obtain⟨ws,h1,h2,h3⟩:=h.w
 have hx:=h.a
 unfold mkC at hx
 obtain⟨e',u,σ',g,t0,t2,t4,t7,a',d',m',n',f'⟩:=type_reg (E:=E) (D:=D) (v:=lv) (dd:=dd) (ii:=ii) (eb:=eb) h.ht hx rfl hg h1 (by omega) (fun e=>hgx e.symm) (fun e=>(h.lx _ e).1 rfl) hgl
 have le:=h.f.le
 have lx:=h.a.lt h.ht
 refine⟨e',u,σ',g,t0,t2,t4,t7,⟨a',⟨ws++[(.sl tb 0 1 (.ex 1),.nils,.nils)],?_,by simp[h2],fun k t w hk hw=>?_⟩,fun b hb=>⟨fun e=>n' (e ▸ hb),(m' b hb).elim (fun e=>(h.lx b e).2.1) (fun e=>by omega),fun q=>(m' b hb).elim (fun e=>(h.lx b e).2.2 q) (fun e=>by have:=hQ b q;omega)⟩,h.qx,h.x0,h.f.trans f' (fun b hb e=>e.elim (fun e=>by have:=h.x0;omega) (fun e=>by have:=(h.lx b e).2.1;omega))⟩,m',f'⟩
 ·rw[List.length_append,List.length_cons,List.length_nil,tyCs_app _ _ _ _ h2]
  exact d'
 ·rcases Nat.lt_or_ge k tl.length with hlt|hge
  ·rw[List.getElem?_append_left hlt]at hk
   rw[List.getElem?_append_left (by omega)]at hw
   obtain⟨a,b,c,d⟩:=h3 k t w hk hw
   have nn:∀x,(Names w.1 x∨Names w.2.1 x∨Names w.2.2 x)→x<σ.next:=fun x hx=>by
    rcases hx with hx|hx|hx
    ·exact a.lt h.ht hx
    ·exact b.lt h.ht hx
    ·exact c.lt h.ht hx
   exact⟨a.fr f' h.ht (fun x hx e=>e.elim (d x (.inl hx)).1 (d x (.inl hx)).2.1),b.fr f' h.ht (fun x hx e=>e.elim (d x (.inr (.inl hx))).1 (d x (.inr (.inl hx))).2.1),c.fr f' h.ht (fun x hx e=>e.elim (d x (.inr (.inr hx))).1 (d x (.inr (.inr hx))).2.1),fun x hx=>⟨(d x hx).1,fun hu=>(m' x hu).elim (d x hx).2.1 (fun e=>by have:=nn x hx;omega),(d x hx).2.2⟩⟩
  ·rw[List.getElem?_append_right hge]at hk
   rw[List.getElem?_append_right (by omega),h2]at hw
   obtain⟨j,hj⟩:∃j,k-tl.length=j:=⟨_,rfl⟩
   rw[hj]at hk hw
   cases j with
   | succ j=>simp at hk
   | zero=>
    cases hk
    cases hw
    have ltb:=ht.lt h.ht
    have a2:=f'.at_ ht h.ht (fun e=>e.elim htx htl)
    refine⟨⟨.inr ⟨tb,0,_,_,rfl,a2,Nat.le_refl _,rfl⟩,fun _=>⟨tb,rfl⟩⟩,.inl ⟨rfl,rfl,rfl⟩,.inl ⟨rfl,rfl,rfl⟩,fun x hx=>?_⟩
    have:x=tb:=by
     rcases hx with hx|hx|hx
     ·exact hx
     ·exact hx.elim
     ·exact hx.elim
    subst this
    exact⟨htx,fun hu=>(m' _ hu).elim htl (fun e=>by omega),htq⟩
theorem Mk.of (h:Mk σ0 σ xb m nv tv dv tl lv Q) {i r:Nat} {t:TyS} (hi:tl[i]? = some t) :
  ∃b σ',(∀κ:Nat→Nat→Ans,iaddrSK 13 lv (Int.ofNat i) κ=κ b (i*13))∧(∀κ:H→Ans,stK 1 b (Nat.add (i*13) 12) (.int .i64 (Int.ofNat r)) σ κ=κ σ')∧Mk σ0 σ' xb m nv tv dv (tl.set i { t with of_:=r }) lv Q∧Fr (Names lv) σ σ':=by
 obtain⟨ws,h1,h2,h3⟩:=h.w
 have hlt:i<tl.length:=(List.getElem?_eq_some_iff.1 hi).1
 have hlen:=tyCs_len tl ws h2
 obtain⟨b,cp,hv,hb⟩:∃b cp,lv = .sl b 0 tl.length cp∧Atc σ b (tyCs tl ws):=by
  rcases h1 with (⟨h0,_⟩|⟨b,hv,ha,_⟩)|⟨b,hv,ha,_⟩
  ·omega
  ·exact⟨b,_,hv,ha⟩
  ·exact⟨b,_,hv,ha⟩
 obtain⟨σ',g,f,a⟩:=stz (off:=i*13+12) (y := .int .i64 (Int.ofNat r)) h.ht hb rfl (by omega)
 rw[tyCs_of r tl ws i t h2 hi]at a
 have nmb:∀x,Names lv x↔x=b:=fun x=>by rw[hv];exact Iff.rfl
 have f':Fr (Names lv) σ σ':=f.mono fun x _ e=>(nmb x).2 e
 refine⟨b,σ',fun κ=>?_,g,⟨f'.at_ h.a h.ht (fun e=>(h.lx _ e).1 rfl),⟨ws,?_,by rw[List.length_set,h2],fun k t1 w hk hw=>?_⟩,h.lx,h.qx,h.x0,h.f.trans f' (fun x _ e=>by have:=(h.lx x e).2.1;omega)⟩,f'⟩
 ·rw[hv,iaddrSK_lt hlt]
  show κ b (0+i*13)=_
  rw[Nat.zero_add]
 ·rw[List.length_set]
  have e13:(tyCs (tl.set i { t with of_:=r }) ws).length=tl.length*13:=by rw[tyCs_len _ _ (by rw[List.length_set,h2]),List.length_set]
  rcases h1 with (⟨h0,_⟩|⟨b',hv',ha,h0,hl⟩)|⟨b',hv',ha,hl⟩
  ·omega
  ·have:b'=b:=by rw[hv]at hv';cases hv';rfl
   subst this
   exact .inl (.inr ⟨b',hv',a,h0,e13⟩)
  ·have:b'=b:=by rw[hv]at hv';cases hv';rfl
   subst this
   exact .inr ⟨b',hv',a,e13⟩
 ·by_cases hk':i=k
  ·subst hk'
   rw[List.getElem?_set_self hlt]at hk
   cases hk
   obtain⟨x1,x2,x3,x4⟩:=h3 i t w hi hw
   exact⟨x1.fr f' h.ht (fun x hx e=>(x4 x (.inl hx)).2.1 e),x2.fr f' h.ht (fun x hx e=>(x4 x (.inr (.inl hx))).2.1 e),x3.fr f' h.ht (fun x hx e=>(x4 x (.inr (.inr hx))).2.1 e),x4⟩
  ·rw[List.getElem?_set_ne hk']at hk
   obtain⟨x1,x2,x3,x4⟩:=h3 k t1 w hk hw
   exact⟨x1.fr f' h.ht (fun x hx e=>(x4 x (.inl hx)).2.1 e),x2.fr f' h.ht (fun x hx e=>(x4 x (.inr (.inl hx))).2.1 e),x3.fr f' h.ht (fun x hx e=>(x4 x (.inr (.inr hx))).2.1 e),x4⟩
end
section
variable {E:List (Nat × Blk)} {D:Den} {N:Nat}
theorem made_F {m:ModS} {T:NodT} (hU:SpUni (D 79)) (hC:SpCheck (D 80)) (hT:SpMnode m T (D 27)):SpMmade m T (F47 E D (drawW E D) N):=by
  intro σ0 σ xb nv tv dv lv iv fv tl tl' d i nd Q ht0 hs0 h hQ hd io fo hs
  unfold madeS at hs
  cases hgd:(leafB nd.kind&&(decide (d≤16)&&(decide (tl.length<300)&&(!conB nd.kind || checkP nd.con (!decide (nd.kind=2))))))with
  | false=>rw[hgd]at hs;cases hs
  | true=>
    rw[hgd]at hs
    simp only[Bool.and_eq_true,decide_eq_true_eq]at hgd
    obtain⟨hleaf,hd16,hl,hcon⟩:=hgd
    have hkind:nd.kind=1∨nd.kind=2∨nd.kind=4∨nd.kind=5∨nd.kind=6∨nd.kind=10:=by
      unfold leafB at hleaf
      simp only[Bool.or_eq_true,beq_iff_eq]at hleaf
      omega
    have ht:=h.ht
    obtain⟨σ1,e1,f1,a1,n1⟩:=mkN ht (nd.c iv fv)
    obtain⟨σ2,e2,f2,a2,n2⟩:=mkN f1.tidy [.int .i64 (Int.ofNat 0),.nils,.bool false,.bool false,.bool false,.bool false,.int .i64 (Int.ofNat 0),.int .i64 (Int.ofNat 0),.nils,.nils,.int .i64 (Int.ofNat 0),.bool false,.int .i64 (Int.ofNat 0)]
    obtain⟨σ3,e3,f3,a3⟩:=mkS f2.tidy a2 ((mkTy nd).c (.nils,.nils,.nils))
    have s3:∀κ:H→Ans,stK 13 σ1.next 0 (.agg [.int .i64 (Int.ofNat nd.kind),.nils,.bool nd.con.has,.bool nd.con.hasLow,.bool nd.con.hasHigh,.bool nd.con.more,.int .i64 nd.con.low,.int .i64 nd.con.high,.nils,.nils,.int .i64 (Int.ofNat nd.root),.bool nd.more,.int .i64 (Int.ofNat 0)]) σ2 κ=κ σ3:=fun κ=>by
      rw[stK_at a2 rfl]
      show κ (setF σ2 σ1.next (.cells ((mkTy nd).c (.nils,.nils,.nils))))=_
      rw[e3]
    have gU:=hU σ3 nd.kind (by omega)
    obtain⟨σ4,e4,f4,a4,n4⟩:=mkN f3.tidy [.int .i64 (Int.ofNat 0),.int .i64 (Int.ofNat (uniP nd.kind))]
    have a34:=f4.at_ a3 f3.tidy (fun h=>h)
    obtain⟨σ5,g5,f5,a5⟩:=stz (off:=1) (y := .sl σ3.next 0 1 (.ex 1)) f4.tidy a34 rfl (show 1<13 by decide)
    have a5:Atc σ5 σ1.next ((mkTy nd).c (.sl σ3.next 0 1 (.ex 1),.nils,.nils)):=a5
    have le1:=f1.le
    have le2:=f2.le
    have le3:=f3.le
    have le4:=f4.le
    have lg:σ1.next<σ2.next:=a2.lt f2.tidy
    have lt4:σ3.next<σ4.next:=a4.lt f4.tidy
    have a45:=f5.at_ a4 f4.tidy (by omega)
    have f05:Fr (fun b=>σ.next≤b) σ σ5:=((((f1.mono (fun _ _ h=>h.elim):Fr (fun b=>σ.next≤b) σ σ1).trans f2 (fun _ _ h=>h.elim)).trans f3 (fun b _ e=>by omega)).trans f4 (fun _ _ h=>h.elim)).trans f5 (fun b _ e=>by omega)
    have h5:=h.fr f05 (fun _ h => .inl h) (fun b e=>by have:=h.f.le;omega)
    have lx:=h.a.lt ht
    obtain⟨e',u,σ6,g6,t0,t2,t4,t7,h6,m6,f6⟩:=h5.push (E:=E) (D:=D) (nd:=nd) (gb:=σ1.next) (tb:=σ3.next) (eb:=σ.next) (dd:=Int.ofNat d) (ii:=Int.ofNat tl.length) hl a5 a45 (by omega) (fun e=>by have:=h.llt e;omega) (by omega) (fun e=>by have:=h.llt e;omega) (fun q=>by have:=hQ _ q;omega) (fun b q=>by have:=hQ b q;have:=f05.le;omega)
    have le05:=f05.le
    have a15:Atc σ5 σ.next (nd.c iv fv):=f5.at_ (f4.at_ (f3.at_ (f2.at_ a1 f1.tidy (fun h=>h)) f2.tidy (by omega)) f3.tidy (fun h=>h)) f4.tidy (by omega)
    have a16:=f6.at_ a15 f5.tidy (fun e=>e.elim (by omega) (fun e=>by have:=h.llt e;omega))
    have f06:Fr (fun b=>b=xb∨Names lv b) σ σ6:=by
      refine Fr.trans (f05.mono fun b hb e=>?_) f6 (fun b _ e=>e)
      omega
    have hx:=h.a
    have hx1:=f1.at_ hx ht (fun h=>h)
    unfold mkC at hx1
    unfold NodeS.c at a1 a16 e1
    unfold mkTy TyS.c at a3
    have sl1:∀κ:Nat→Ans,slenK lv κ=κ tl.length:=fun κ=>h.len
    have d1:decide (16<d)=false:=decide_eq_false (by omega)
    have d2:decide (300≤tl.length)=false:=decide_eq_false (by omega)
    have h9:decide (nd.kind=9)=false:=decide_eq_false (by omega)
    have sub1:∀κ:List V→Ans,subK [.int .i64 (Int.ofNat nd.kind),.str (ofN nd.name),.bool nd.mHas,.int .i64 nd.mNum,.int .i64 (Int.ofNat nd.mMode),.bool nd.con.has,.bool nd.con.hasLow,.bool nd.con.hasHigh,.bool nd.con.more,.int .i64 nd.con.low,.int .i64 nd.con.high,iv,fv,.int .i64 (Int.ofNat nd.root),.bool nd.more,.int .i64 (Int.ofNat nd.of_)] 5 6 κ=κ [.bool nd.con.has,.bool nd.con.hasLow,.bool nd.con.hasHigh,.bool nd.con.more,.int .i64 nd.con.low,.int .i64 nd.con.high]:=fun κ=>by
      rw[subK_of (by simp)];rfl
    have a13:=f3.at_ (f2.at_ a1 f1.tidy (fun h=>h)) f2.tidy (by omega)
    have key0:∀K1,T47_0 E D (drawW E D) K1 xb 0 (Int.ofNat nd.kind) (ofN nd.name) nd.mHas nd.mNum (Int.ofNat nd.mMode) nd.con.has nd.con.hasLow nd.con.hasHigh nd.con.more nd.con.low nd.con.high iv fv (Int.ofNat nd.root) nd.more (Int.ofNat nd.of_) (Int.ofNat d) σ=K1 xb 0 (Int.ofNat d) σ.next 0 (Int.ofNat tl.length) σ1.next 0 σ5:=by
      intro K1
      unfold T47_0
      simp -implicitDefEqProofs only [↓rP,rA,Nat.reduceEqDiff,Nat.reduceLT,Nat.reduceLeDiff,io,fo,↓e1,d1,↓ldK_is hx1,↓sl1,d2,↓ldK_is a1,↓ldnK_is a1,↓sub1,↓e2,↓s3,↓ldK_is a13,h9,↓gU,↓e4,↓g5]
    have gd:∀κ:Env→H→Ans,gdrawK (drawW E D G47_0 H47_0 [(0,.ptr xb 0),(2,.int .i64 (Int.ofNat d)),(4,.ptr σ.next 0),(7,.int .i64 (Int.ofNat tl.length)),(8,.ptr σ1.next 0)] σ5) κ=κ e' σ6:=fun κ=>by rw[g6];rfl
    have m0:∀κ:V→Ans,getL e' 0 κ=κ (.ptr xb 0):=fun κ=>getL_of t0 rfl
    have m2:∀κ:V→Ans,getL e' 2 κ=κ (.int .i64 (Int.ofNat d)):=fun κ=>getL_of t2 rfl
    have m4:∀κ:V→Ans,getL e' 4 κ=κ (.ptr σ.next 0):=fun κ=>getL_of t4 rfl
    have m7:∀κ:V→Ans,getL e' 7 κ=κ (.int .i64 (Int.ofNat tl.length)):=fun κ=>getL_of t7 rfl
    show ∃lv' σ',T47_0 E D (drawW E D) (T47_1 E D (drawW E D) (T47_3 E D (drawW E D) (T47_2 E D (drawW E D)) (T47_4 E D (drawW E D) (T47_2 E D (drawW E D))) (T47_5 E D (drawW E D) (T47_2 E D (drawW E D))))) xb 0 (Int.ofNat nd.kind) (ofN nd.name) nd.mHas nd.mNum (Int.ofNat nd.mMode) nd.con.has nd.con.hasLow nd.con.hasHigh nd.con.more nd.con.low nd.con.high iv fv (Int.ofNat nd.root) nd.more (Int.ofNat nd.of_) (Int.ofNat d) σ=_∧_
    rw[key0]
    have mu:∀b,Names u b→Names lv b∨σ.next≤b:=fun b hb=>(m6 b hb).imp id (fun h=>by omega)
    have plain:nd.kind=1∨nd.kind=4→∃lv' σ',T47_1 E D (drawW E D) (T47_3 E D (drawW E D) (T47_2 E D (drawW E D)) (T47_4 E D (drawW E D) (T47_2 E D (drawW E D))) (T47_5 E D (drawW E D) (T47_2 E D (drawW E D)))) xb 0 (Int.ofNat d) σ.next 0 (Int.ofNat tl.length) σ1.next 0 σ5=some (.int .i64 (Int.ofNat i),σ')∧Mk σ0 σ' xb m nv tv dv tl' lv' Q∧(∀b,Names lv' b→Names lv b∨σ.next≤b)∧Fr (fun b=>b=xb∨Names lv b) σ σ':=by
      intro hk
      have h10:decide (nd.kind=10)=false:=decide_eq_false (by omega)
      rw[h10]at hs
      cases hs
      refine⟨u,σ6,?_,h6,mu,f06⟩
      rcases hk with hk|hk <;>
      (unfold T47_1 T47_3 T47_5 T47_2
       simp -implicitDefEqProofs only [↓rP,rA,Nat.reduceEqDiff,Nat.reduceLT,Nat.reduceLeDiff,↓gd,↓m0,↓m2,↓m4,↓m7,↓ldK_is a16,hk])
    have boundd:nd.kind=2∨nd.kind=5∨nd.kind=6∨nd.kind=10→∃lv' σ',T47_1 E D (drawW E D) (T47_3 E D (drawW E D) (T47_2 E D (drawW E D)) (T47_4 E D (drawW E D) (T47_2 E D (drawW E D))) (T47_5 E D (drawW E D) (T47_2 E D (drawW E D)))) xb 0 (Int.ofNat d) σ.next 0 (Int.ofNat tl.length) σ1.next 0 σ5=some (.int .i64 (Int.ofNat i),σ')∧Mk σ0 σ' xb m nv tv dv tl' lv' Q∧(∀b,Names lv' b→Names lv b∨σ.next≤b)∧Fr (fun b=>b=xb∨Names lv b) σ σ':=by
      intro hk
      have hc:checkP nd.con (!decide (nd.kind=2))=true:=by
        rcases hk with hk|hk|hk|hk<;>(rw[hk]at hcon ⊢;simpa[conB]using hcon)
      obtain⟨σ7,g7,f7⟩:=hC σ6 nd.con (!decide (nd.kind=2)) h6.ht hc
      unfold conA at g7
      have h7:=h6.fr f7 (fun _ h=>h.elim) (fun _ h=>h.elim)
      have a17:=f7.at_ a16 f6.tidy (fun h=>h)
      have f07:Fr (fun b=>b=xb∨Names lv b) σ σ7:=f06.trans f7 (fun _ _ h=>h.elim)
      have key1:T47_1 E D (drawW E D) (T47_3 E D (drawW E D) (T47_2 E D (drawW E D)) (T47_4 E D (drawW E D) (T47_2 E D (drawW E D))) (T47_5 E D (drawW E D) (T47_2 E D (drawW E D)))) xb 0 (Int.ofNat d) σ.next 0 (Int.ofNat tl.length) σ1.next 0 σ5=T47_4 E D (drawW E D) (T47_2 E D (drawW E D)) xb 0 (Int.ofNat d) σ.next 0 (Int.ofNat tl.length) σ7:=by
        have g7f:nd.kind=2→D 80 [.agg [.bool nd.con.has,.bool nd.con.hasLow,.bool nd.con.hasHigh,.bool nd.con.more,.int .i64 nd.con.low,.int .i64 nd.con.high],.bool false] σ6=some (.int .i64 (Int.ofNat 0),σ7):=fun e=>by
          rw[show (!decide (nd.kind=2))=false by rw[e];rfl]at g7
          exact g7
        have g7t:nd.kind≠2→D 80 [.agg [.bool nd.con.has,.bool nd.con.hasLow,.bool nd.con.hasHigh,.bool nd.con.more,.int .i64 nd.con.low,.int .i64 nd.con.high],.bool true] σ6=some (.int .i64 (Int.ofNat 0),σ7):=fun e=>by
          rw[show (!decide (nd.kind=2))=true by rw[decide_eq_false e];rfl]at g7
          exact g7
        rcases hk with hk|hk|hk|hk
        · have g7:=g7f hk
          unfold T47_1 T47_3
          simp -implicitDefEqProofs only [↓rP,rA,Nat.reduceEqDiff,Nat.reduceLT,Nat.reduceLeDiff,↓gd,↓m0,↓m2,↓m4,↓m7,↓ldK_is a16,↓ldnK_is a16,↓sub1,hk,↓g7]
        all_goals
        (have g7:=g7t (by omega)
         unfold T47_1 T47_3
         simp -implicitDefEqProofs only [↓rP,rA,Nat.reduceEqDiff,Nat.reduceLT,Nat.reduceLeDiff,↓gd,↓m0,↓m2,↓m4,↓m7,↓ldK_is a16,↓ldnK_is a16,↓sub1,hk,↓g7])
      rw[key1]
      cases h10:decide (nd.kind=10)with
      | false=>
        rw[h10]at hs
        cases hs
        refine⟨u,σ7,?_,h7,mu,f07⟩
        unfold T47_4 T47_2
        simp -implicitDefEqProofs only [↓rP,rA,Nat.reduceEqDiff,Nat.reduceLT,Nat.reduceLeDiff,↓ldK_is a17,h10]
      | true=>
        rw[h10]at hs
        obtain⟨⟨r,tl8⟩,h8,hs⟩:=Option.bind_eq_some_iff.1 hs
        obtain⟨lv8,σ8,g8,k8,m8,f8⟩:=hT ht0 hs0 h7 (fun b q=>by have:=hQ b q;have:=f07.le;omega) (by omega) h8
        have ad:addF .i64 (Int.ofNat d) (Int.ofNat 1)=Int.ofNat (d+1):=addF_nat (by omega)
        dsimp only at hs
        cases ht8:tl8[tl.length]? with
        | none=>rw[ht8]at hs;cases hs
        | some t=>
          rw[ht8]at hs
          cases hs
          obtain⟨b,σ9,g9,s9,k9,f9⟩:=k8.of (r:=r) ht8
          have hx8:=k8.a
          unfold mkC at hx8
          have le07:=f07.le
          refine⟨lv8,σ9,?_,k9,fun b hb=>(m8 b hb).elim (mu b) (fun h => .inr (by omega)),(f07.trans f8 (fun b hb e=>e.elim .inl (fun e=>(mu b e).elim .inr (fun h=>by omega)))).trans f9 (fun b hb e=>(m8 b e).elim (fun e=>(mu b e).elim .inr (fun h=>by omega)) (fun h=>by omega))⟩
          unfold T47_4 T47_2
          simp -implicitDefEqProofs only [↓rP,rA,Nat.reduceEqDiff,Nat.reduceLT,Nat.reduceLeDiff,↓ldK_is a17,h10,ad,↓g8,↓ldK_is hx8,↓g9,↓s9]
    rcases hkind with hk|hk|hk|hk|hk|hk
    · exact plain (.inl hk)
    · exact boundd (.inl hk)
    · exact plain (.inr hk)
    · exact boundd (.inr (.inl hk))
    · exact boundd (.inr (.inr (.inl hk)))
    · exact boundd (.inr (.inr (.inr hk)))
end
end
end Go.Proofs.YtgblfbajgpboiaaGreatDoor
namespace Go.Og
noncomputable section
section
variable {Q:DS→Prop} {E:List (Nat × Blk)} {D:Den} {σ σc σ':H} {n i:Nat} {S:Nat→Prop} {d:Option Nat} {o:AOp} {l:List AOper} {anc:Nat} {lk:List Nat} {pl:List DP} {e env:Env} {nx am:Nat} {ss:List (List (Nat × Blk))} {ks:List Nat} {ls:List (Nat × AOp × Env × V)}
theorem goq_end2 {pl0:List DP} {S2:Nat→Prop} {σ2:H} (v:V) (hr:RegOk E σ n S nx ss am ls σc) (hc:o.cls = .k) (hva:∀j,j<n→am.testBit j=true→anc.testBit j=true) (hf:Fr S2 σc σ2) (hg:∀j,j<n→S2 (σ.next+j)→am.testBit j=true)
  (hv:den1 E D o (restr lk e) σc=some (v,σ2)) (hl:∀x∈ls,legal pl0 x.1 (i::ks) []=false):GoesQ (EndSt E σ n pl0 (putE e d v) σ2) E D σ n i [⟨d,o,none⟩] [⟨anc,lk⟩] ⟨e,nx,ss,ks,am,ls⟩:=by
 obtain⟨⟨hn,r,rfl⟩,h2,h3,h4,h5,h6⟩:=hr
 subst hn
 refine⟨_,(dk v σ2.next σ2.bl hc (hide_keep fun j hj hp=>?_) hv).trans dsteps_nil,rfl,rfl,⟨_,rfl⟩,?_,fun j hj hb=>?_⟩
 ·refine h5 _ List.mem_cons_self j hj ?_
  cases ha:am.testBit j with
  | false=>rfl
  | true=>
   exfalso
   unfold visK at hp
   rw[ha,hva j hj ha]at hp
   cases hp
 ·refine List.all_eq_true.2 fun x hx=>?_
  show checkL E σ.next n pl0 am x.1 x.2.1 x.2.2.1 x.2.2.2 (σ2.bl::σc.bl::r) (i::ks) []=true
  rw[check_skip (hl x hx)]
  exact check_all (h6 x hx) _ _ _ h4
 ·have hb:am.testBit j=false:=hb
  have:=hf.same (σ.next+j) (by omega) (fun hs=>by have:=hg j hj hs;rw[hb]at this;cases this)
  rw[←lookF_eq,this,lookF_eq]
  exact h5 _ List.mem_cons_self j hj hb
end
theorem bld2 {x y:AO} {em:Env} {s:BS} {u:V} (hx:opv em x = .str s) (hy:opv em y=u) (h:u.one=true):aopP (.build [.str ⟨0,0⟩,.nils,.nils,.nils] [(0,1,x),(1,1,y)]) em=some (.agg [.str s,u,.nils,.nils]):=by
 obtain⟨h1,h2⟩:=one_live h
 show (match fillA [(0,1,opv em x),(1,1,opv em y)] [.str ⟨0,0⟩,.nils,.nils,.nils]with
  | some l=>some (V.agg l)
  | none=>none)=_
 rw[hx,hy]
 show (match fillA [(1,1,u)] [.str s,.nils,.nils,.nils]with
  | some l=>some (V.agg l)
  | none=>none)=_
 unfold fillA
 rw[h1,h2]
 rfl
theorem iaddr_of {esz:Nat} {x y:AO} {em:Env} {b o n i:Nat} {c:Cap} (hx:opv em x = .sl b o n c) (hy:opv em y = .int .i64 (Int.ofNat i)) (hi:i<n):aopP (.iaddrS esz x y) em=some (.ptr b (o+i*esz)):=by
 show (match opv em x,opv em y with
  | .sl b off len _,.int _ n=>if 0≤n∧n<len then some (V.ptr b (off+n.toNat*esz))else none
  | _,_=>none)=_
 rw[hx,hy]
 show (if 0≤Int.ofNat i∧Int.ofNat i<(n:Int)then some (V.ptr b (o+i*esz))else none)=_
 rw[if_pos ⟨Int.natCast_nonneg i,Int.ofNat_lt.2 hi⟩]
end
end Go.Og
namespace Go.Proofs.YtgblfbajgpboiaaGreatDoor
open Go Go.Og
noncomputable section
section
variable {E:List (Nat × Blk)} {D:Den} {N:Nat}
theorem zdbeq {σ:H} {esz k:Nat} {v:V} {m:List V} (hd:Dst σ esz k v m):V.beq v v=true:=by
 rcases hd with h|⟨b,rfl,_⟩
 ·rcases h with ⟨_,rfl,_⟩|⟨_,rfl,_⟩<;>exact beq_self _ rfl
 ·exact beq_self _ rfl
theorem make_reg0 {σ:H} {cb:Nat} {m:ModS} {nv tv dv p2 p8:V} (ht:Tidy σ) (ha:Atc σ cb (mdC m nv tv dv)) (hn:Dst σ 1 m.az.length nv (stC m.az)) (hl:m.az.length≤40) :
    ∃e' u σ',drawW E D G14_0 H14_0 [(1,.ptr cb 0),(2,p2),(8,p8)] σ=some (e',σ')∧Go.Og.look e' 1=some (.ptr cb 0)∧Go.Og.look e' 2=some p2∧Go.Og.look e' 8=some p8∧Go.Og.look e' 9=some (.ptr (σ.next+6) 0)∧Atc σ' (σ.next+6) [.str (ofN m.nm),u,.nils,.nils]∧Dst σ' 1 m.az.length u (stC m.az)∧(∀b,Names u b→σ.next+8≤b)∧σ.next+8≤σ'.next∧Fr Nowhere σ σ':=by
  have fw:Fr Nowhere σ ⟨σ.next+8,σ.bl⟩:=(go_start (E:=E) (n:=8) (S:=Nowhere) ht).fr
  have xs:=(hn.fr fw ht (fun _ _ h=>h)).src
  have ho:allOne (stC m.az)=true:=by
    unfold stC
    generalize m.az=l
    induction l with
    | nil=>rfl
    | cons x l ih=>show (true&&allOne (l.map _))=true;rw[Bool.true_and];exact ih
  obtain⟨u,σ2,g2,d2,m2,f2⟩:=app_all (E:=E) (bytes:=16) (Dst.nil ⟨σ.next+8,σ.bl⟩ 1) fw.tidy xs ho (by unfold growable;simp only[Bool.and_eq_true,Nat.ble_eq];omega)
  rw[Nat.zero_add,List.nil_append]at d2
  have le2:σ.next+8≤σ2.next:=f2.le
  have ul:∀b,Names u b→σ.next+8≤b:=fun b hb=>(m2 b hb).elim (fun h=>h.elim) (fun h=>h)
  obtain⟨σ3,h3⟩:∃σ3,σ3=(⟨σ2.next,(σ.next+6,.cells [.str ⟨0,0⟩,.nils,.nils,.nils])::σ2.bl⟩:H):=⟨_,rfl⟩
  have f3:Fr (fun k=>k=σ.next+6) σ2 σ3:=by
    rw[h3]
    refine⟨fun b hb=>?_,Nat.le_refl _,fun b hb hn=>?_⟩
    · have hb:σ2.next≤b:=hb
      show lookF ((σ.next+6,_)::σ2.bl) b=none
      rw[lookF_cons,if_neg (by simp only[];omega)]
      exact f2.tidy b hb
    · show lookF ((σ.next+6,_)::σ2.bl) b=_
      rw[lookF_cons,if_neg (by simp only[];omega)]
  have a3:Atc σ3 (σ.next+6) [.str ⟨0,0⟩,.nils,.nils,.nils]:=by
    rw[h3]
    show lookF ((σ.next+6,_)::σ2.bl) _=_
    rw[lookF_cons,if_pos rfl]
  have hoc:allOne [.str (ofN m.nm),u,.nils,.nils]=true:=by simp only[allOne_cons,allOne_nil,one_str,one_nils,d2.one,Bool.and_true]
  have st:∃σ4,den1 E D (.store 4 (.tmp 9) (.tmp 30)) [(9,.ptr (σ.next+6) 0),(30,.agg [.str (ofN m.nm),u,.nils,.nils])] σ3=some (.dead,σ4)∧Fr (fun k=>k=σ.next+6) σ3 σ4∧Atc σ4 (σ.next+6) [.str (ofN m.nm),u,.nils,.nils]:=by
    obtain⟨σ4,q1,q2,q3⟩:=st_den (E:=E) (D:=D) (n:=4) (x := .tmp 9) (y := .tmp 30) (e:=[(9,.ptr (σ.next+6) 0),(30,.agg [.str (ofN m.nm),u,.nils,.nils])]) f3.tidy a3 rfl (show (opv [(9,.ptr (σ.next+6) 0),(30,.agg [.str (ofN m.nm),u,.nils,.nils])] (.tmp 30)).cells=[.str (ofN m.nm),u,.nils,.nils] from rfl) (by
      rw[hoc];rfl)
    exact⟨σ4,q1,q2,q3⟩
  obtain⟨σ4,g4,f4,a4⟩:=st
  have uo:=d2.one
  have go:GoesQ (EndSt E σ 8 H14_0 _ σ4) E D σ 8 0 G14_0 H14_0 ⟨[(1,.ptr cb 0),(2,p2),(8,p8)],σ.next+8,[σ.bl],[],0,[]⟩:=
    goq_p (.ptr cb 0) rfl rfl <|
    goq_l (.str (ofN m.nm)) (go_start (S:=Nowhere) ht) rfl (old_ld1 (b:=cb) (off:=0) rfl ha rfl ht (fun h=>h) (beq_self _ rfl)) fun r1=>
    goq_p (.ptr cb 2) rfl rfl <|
    goq_l nv r1 rfl (old_ld1 (b:=cb) (off:=2) rfl ha rfl ht (fun h=>h) (zdbeq hn)) fun r2=>
    goq_k u r2 rfl (by decide) (S':=Nowhere) (f2.mono fun _ _ h=>h.elim) (fun _ _ h=>h.elim) (fun _ h _ _=>h) (app_den rfl rfl g2) fun _ _ r4=>
    goq_p (.agg [.str (ofN m.nm),u,.nils,.nils]) rfl (bld2 rfl rfl uo) <|
    goq_a (.ptr (σ.next+6) 0) (.cells [.str ⟨0,0⟩,.nils,.nils,.nils]) 64 r4 rfl (by decide) (by decide) rfl fun _ r5=>
    goq_end2 .dead (by rw[←h3]at r5;exact r5) rfl (by decide) f4 (fun j hj e=>by
      have:j=6:=by omega
      subst this;decide) g4 (fun x hx=>by
      simp only[List.mem_cons,List.not_mem_nil,or_false]at hx
      rcases hx with rfl|rfl
      · show legal H14_0 3 [7,4] []=false
        decide
      · show legal H14_0 1 [7,4] []=false
        decide)
  have d:=goq_draw (ops:=G14_0) go
  refine⟨_,u,σ4,d,rfl,rfl,rfl,rfl,a4,?_,ul,?_,?_⟩
  · exact(d2.fr f3 f2.tidy (fun b hb e=>by have:=ul b hb;omega)).fr f4 f3.tidy (fun b hb e=>by have:=ul b hb;omega)
  · have:=f3.le
    have:=f4.le
    omega
  · exact((fw.trans (f2.mono fun _ _ h=>h.elim:Fr Nowhere _ σ2) (fun _ _ h=>h)).trans f3 (fun b hb e=>by omega)).trans f4 (fun b hb e=>by omega)
theorem make_reg1 {m:ModS} {T:NodT} (hT:SpMnode m T (D 27)) {σ0 σ:H} {cb xb tb:Nat} {nv tv dv lv u rv p2:V} {tl tl':List TyS} {rs:List Nat} {i k r:Nat} {nm:BS} {P:Nat→Prop} (hP:∀b,P b→b<σ.next) (ht0:Tidy σ0) (hs0:MdS σ0 m nv tv dv) (h:Mk σ0 σ xb m nv tv dv tl lv (fun b=>b=tb∨Names rv b∨P b)) (hc:Atc σ cb (mdC m nv tv dv)) (ht:Atc σ tb [.str nm,u,rv,.nils]) (hr:Dst σ 1 rs.length rv (ksC rs)) (hrl:rs.length≤40) (hk:m.ks[i]? = some k)
    (cx:cb≠xb) (cl:¬Names lv cb) (cr:¬Names rv cb) (ct:cb≠tb) (tr:¬Names rv tb) (rx:∀b,Names rv b→σ0.next≤b) (t0:σ0.next≤tb) (hd:T 0 k tl=some (r,tl')) :
    ∃e' lv' rv' σ',drawW E D G14_1 H14_1 [(1,.ptr cb 0),(2,p2),(8,.ptr xb 0),(9,.ptr tb 0),(10,.int .i64 (Int.ofNat i))] σ=some (e',σ')∧Go.Og.look e' 1=some (.ptr cb 0)∧Go.Og.look e' 2=some p2∧Go.Og.look e' 8=some (.ptr xb 0)∧Go.Og.look e' 9=some (.ptr tb 0)∧Go.Og.look e' 10=some (.int .i64 (Int.ofNat i)) ∧
      Mk σ0 σ' xb m nv tv dv tl' lv' (fun b=>b=tb∨Names rv' b∨P b)∧Atc σ' tb [.str nm,u,rv',.nils]∧Dst σ' 1 (rs.length+1) rv' (ksC (rs++[r]))∧(∀b,Names lv' b→Names lv b∨σ.next≤b)∧(∀b,Names rv' b→Names rv b∨σ.next≤b)∧Fr (fun b=>b=xb∨b=tb∨Names lv b∨Names rv b) σ σ':=by
  have hti:=h.ht
  have le0:=h.f.le
  have fw:Fr Nowhere σ ⟨σ.next+13,σ.bl⟩:=(go_start (E:=E) (n:=13) (S:=Nowhere) hti).fr
  have rl:∀b,Names rv b→b<σ.next:=fun b hb=>hr.lt hti hb
  have tl_lt:=ht.lt hti
  have cl_lt:=hc.lt hti
  have xl:=h.a.lt hti
  have hw:=(h.ext (Q':=fun b=>(b=tb∨Names rv b∨P b)∨(σ.next≤b∧b<σ.next+13)) (fun b q=>q.imp id (fun q=>q.1))).fr fw (fun _ h=>h.elim) (fun _ h=>h.elim)
  obtain⟨lv',σ1,g1,h1,m1,f1⟩:=hT ht0 hs0 hw (fun b q=>by
    show b<σ.next+13
    rcases q with (q|q|q)|q
    · omega
    · have:=rl b q;omega
    · have:=hP b q;omega
    · omega) (by omega) hd
  have le1:σ.next+13≤σ1.next:=f1.le
  have lxq:∀b,Names lv b→b≠tb∧¬Names rv b:=fun b hb=>⟨fun e=>(h.lx b hb).2.2 (.inl e),fun e=>(h.lx b hb).2.2 (.inr (.inl e))⟩
  obtain⟨σ2,h2⟩:∃σ2,σ2=(⟨σ1.next,(σ.next+9,.cells [.int .i64 (Int.ofNat r)])::σ1.bl⟩:H):=⟨_,rfl⟩
  have f2:Fr (fun k=>k=σ.next+9) σ1 σ2:=by
    rw[h2]
    refine⟨fun b hb=>?_,Nat.le_refl _,fun b hb hn=>?_⟩
    · have hb:σ1.next≤b:=hb
      show lookF ((σ.next+9,_)::σ1.bl) b=none
      rw[lookF_cons,if_neg (by simp only[];omega)]
      exact f1.tidy b hb
    · show lookF ((σ.next+9,_)::σ1.bl) b=_
      rw[lookF_cons,if_neg (by simp only[];omega)]
  have a2:Atc σ2 (σ.next+9) [.int .i64 (Int.ofNat r)]:=by
    rw[h2]
    show lookF ((σ.next+9,_)::σ1.bl) _=_
    rw[lookF_cons,if_pos rfl]
  have xs:Src σ2 1 1 (V.sl (σ.next+9) 0 1 (.ex 1)) [.int .i64 (Int.ofNat r)] := .inr ⟨_,_,_,_,rfl,a2,Nat.le_refl _,rfl⟩
  have hr1:Dst σ1 1 rs.length rv (ksC rs):=(hr.fr fw hti (fun _ _ h=>h)).fr f1 fw.tidy (fun b hb e=>e.elim (fun e=>h.qx (.inr (.inl (e ▸ hb)))) (fun e=>(lxq b e).2 hb))
  obtain⟨rv',σ3,g3,d3,m3,f3⟩:=app_all (E:=E) (bytes:=8) (hr1.fr f2 f1.tidy (fun b hb e=>by have:=rl b hb;omega)) f2.tidy xs rfl (by unfold growable;simp only[Bool.and_eq_true,Nat.ble_eq];omega)
  have n2:σ2.next=σ1.next:=by rw[h2]
  have t1:Atc σ1 tb [.str nm,u,rv,.nils]:=f1.at_ (fw.at_ ht hti (fun h=>h)) fw.tidy (fun e=>e.elim (fun e=>h.qx (.inl e.symm)) (fun e=>(lxq tb e).1 rfl))
  have t3:=f3.at_ (f2.at_ t1 f1.tidy (by omega)) f2.tidy tr
  obtain⟨o1,o2⟩:=one_live d3.one
  have st:∃σ4,den1 E D (.store 1 (.tmp 49) (.tmp 48)) [(49,.ptr tb 2),(48,rv')] σ3=some (.dead,σ4)∧Fr (fun k=>k=tb) σ3 σ4∧Atc σ4 tb [.str nm,u,rv',.nils]:=by
    obtain⟨σ4,q1,q2,q3⟩:=st_den (E:=E) (D:=D) (n:=1) (x := .tmp 49) (y := .tmp 48) (e:=[(49,.ptr tb 2),(48,rv')]) f3.tidy t3 rfl (show (opv [(49,.ptr tb 2),(48,rv')] (.tmp 48)).cells=[rv'] from o2) (by
      simp only[allOne_cons,allOne_nil,d3.one,Bool.and_true];rfl)
    exact⟨σ4,q1,q2,q3⟩
  obtain⟨σ4,g4,f4,a4⟩:=st
  have le3:=f3.le
  have le2:=f2.le
  have hs:=hs0.fr h.f ht0
  have hkl:i<m.ks.length:=(List.getElem?_eq_some_iff.1 hk).1
  have mr:∀b,Names rv' b→Names rv b∨σ1.next≤b:=fun b hb=>(m3 b hb).imp id (fun h=>by omega)
  have ml:∀b,Names lv' b→Names lv b∨σ.next≤b:=fun b hb=>(m1 b hb).imp id (fun h=>by have h:σ.next+13≤b:=h;omega)
  have h4:Mk σ0 σ4 xb m nv tv dv tl' lv' (fun b=>((b=tb∨Names rv b∨P b)∨(σ.next≤b∧b<σ.next+13))∨σ1.next≤b):=(((h1.ext (Q':=fun b=>((b=tb∨Names rv b∨P b)∨(σ.next≤b∧b<σ.next+13))∨σ1.next≤b) (fun b q=>q)).fr f2 (fun b e => .inr (.inl (.inr (by omega)))) (fun b e=>by omega)).fr f3 (fun b e => .inr (.inl (.inl (.inr (.inl e))))) (fun b e=>rx b e)).fr f4 (fun b e => .inr (.inl (.inl (.inl e)))) (fun b e=>by omega)
  obtain⟨vb,vo,vc,L,htv,hva,hvle,hvm⟩:∃vb vo vc L,tv = .sl vb vo m.ks.length vc∧Atc σ vb L∧vo+m.ks.length*1≤L.length∧ksC m.ks=(L.drop vo).take (m.ks.length*1):=by
    rcases hs.t with ⟨h0,_,_⟩|⟨b,o,c,L,e1,e2,e3,e4⟩
    · omega
    · exact⟨b,o,c,L,e1,e2,e3,e4⟩
  have hvb:vb<σ0.next:=hs0.t.lt ht0 (by rw[htv];rfl)
  have hLk:L[vo+i*1]? = some (.int .i64 (Int.ofNat k)):=by
    have:(ksC m.ks)[i]? = some (.int .i64 (Int.ofNat k)):=by unfold ksC;rw[List.getElem?_map,hk];rfl
    rw[hvm,List.getElem?_take_of_lt (by omega),List.getElem?_drop]at this
    rw[Nat.mul_one];exact this
  have hct:=hc
  unfold mdC at hct
  rw[htv]at hct
  have go:GoesQ (EndSt E σ 13 H14_1 _ σ4) E D σ 13 0 G14_1 H14_1 ⟨[(1,.ptr cb 0),(2,p2),(8,.ptr xb 0),(9,.ptr tb 0),(10,.int .i64 (Int.ofNat i))],σ.next+13,[σ.bl],[],0,[]⟩:=
    goq_p (.ptr tb 2) rfl rfl <|
    goq_l rv (go_start (S:=fun b=>b=xb∨Names lv b∨Names rv b) hti) rfl (old_ld1 (b:=tb) (off:=2) rfl ht rfl hti (fun e=>by
      rcases e with e|e|e
      · exact h.qx (.inl e.symm)
      · exact(lxq _ e).1 rfl
      · exact tr e) (zdbeq hr)) fun r1=>
    goq_p (.ptr xb 0) rfl rfl <|
    goq_p (.ptr cb 3) rfl rfl <|
    goq_l (.sl vb vo m.ks.length vc) r1 rfl (old_ld1 (b:=cb) (off:=3) rfl hct rfl hti (fun e=>by
      rcases e with e|e|e
      · exact cx e
      · exact cl e
      · exact cr e) (beq_self _ rfl)) fun r2=>
    goq_p (.int .i64 (Int.ofNat i)) rfl rfl <|
    goq_p (.ptr vb (vo+i*1)) rfl (iaddr_of rfl rfl hkl) <|
    goq_l (.int .i64 (Int.ofNat k)) r2 rfl (old_ld1 (b:=vb) (off:=vo+i*1) rfl hva hLk hti (fun e=>by
      rcases e with e|e|e
      · have:=h.x0;omega
      · have:=(h.lx _ e).2.1;omega
      · have:=rx _ e;omega) (beq_self _ rfl)) fun r3=>
    goq_k (.int .i64 (Int.ofNat r)) r3 rfl (by decide) (S':=fun b=>b=xb∨Names lv b) f1 (fun b _ e=>e.imp id .inl) (fun b e e1 e2=>by
      rcases e with e|e
      · omega
      · have:=h.llt e;omega) (call_of (vs:=[.ptr xb 0,.int .i64 (Int.ofNat k),.int .i64 (Int.ofNat 0)]) rfl rfl g1) fun _ _ r4=>
    goq_a (.sl (σ.next+9) 0 1 (.ex 1)) (.cells [.int .i64 (Int.ofNat r)]) 512 r4 rfl (by decide) (by decide) rfl fun _ r5=>
    goq_k (S:=fun b=>b=xb∨Names lv b∨Names rv b) rv' (by rw[←h2]at r5;exact r5) rfl (by decide) (S':=Names rv) f3 (fun _ _ e=>Or.inr (Or.inr e)) (fun b e e1 e2=>by have:=rl b e;omega) (app_den rfl rfl g3) fun _ _ r6=>
    goq_p (.ptr tb 2) rfl rfl <|
    goq_end .dead r6 rfl (by decide) f4 (fun b e e1 _=>by omega) g4 (fun x hx=>by
      simp only[List.mem_cons,List.not_mem_nil,or_false]at hx
      rcases hx with rfl|rfl|rfl
      · show legal H14_1 7 [12,10,8] []=false
        decide
      · show legal H14_1 4 [12,10,8] []=false
        decide
      · show legal H14_1 1 [12,10,8] []=false
        decide)
  have d:=goq_draw (ops:=G14_1) go
  refine⟨_,lv',rv',σ4,d,rfl,rfl,rfl,rfl,rfl,h4.ext (fun b q=>?_),a4,?_,ml,fun b hb=>(mr b hb).imp id (fun h=>by omega),?_⟩
  · rcases q with q | q | q
    · exact .inl (.inl (.inl (.inl q)))
    · exact(mr b q).elim (fun e=>Or.inl (Or.inl (Or.inl (Or.inr (Or.inl e))))) (fun e=>Or.inl (Or.inr e))
    · exact .inl (.inl (.inl (.inr (.inr q))))
  · have d4:=d3.fr f4 f3.tidy (fun b hb e=>(mr b hb).elim (fun h=>tr (e ▸ h)) (fun h=>by omega))
    rw[show ksC (rs++[r])=ksC rs++[.int .i64 (Int.ofNat r)] by unfold ksC;simp]
    exact d4
  · have F1:Fr (fun b=>b=xb∨b=tb∨Names lv b∨Names rv b) σ ⟨σ.next+13,σ.bl⟩:=fw.mono (fun _ _ h=>h.elim)
    have F2:Fr (fun b=>b=xb∨b=tb∨Names lv b∨Names rv b) σ σ1:=F1.trans f1 (fun b _ e=>e.elim Or.inl (fun e=>Or.inr (Or.inr (Or.inl e))))
    have F3:Fr (fun b=>b=xb∨b=tb∨Names lv b∨Names rv b) σ σ2:=F2.trans f2 (fun b hb e=>by omega)
    have F4:Fr (fun b=>b=xb∨b=tb∨Names lv b∨Names rv b) σ σ3:=F3.trans f3 (fun b _ e=>Or.inr (Or.inr (Or.inr e)))
    exact F4.trans f4 (fun b _ e=>Or.inr (Or.inl e))
end
def Zo (v:V):Prop:=v = .nils∨∃b n c,v = .sl b 0 n c
theorem Dst.zo {σ:H} {esz k:Nat} {v:V} {l:List V} (h:Dst σ esz k v l):Zo v:=by
 rcases h with (⟨_,e,_⟩|⟨b,e,_⟩)|⟨b,e,_⟩
 ·exact .inl e
 ·exact .inr ⟨_,_,_,e⟩
 ·exact .inr ⟨_,_,_,e⟩
structure TbS (n0:Nat) (σ:H) (az:List (List Nat)) (rs:List Nat) (tl:List TyS) (u rv lv:V):Prop where
 n:Src σ 1 az.length u (stC az)
 r:Src σ 1 rs.length rv (ksC rs)
 t:∃ws:List (V × V × V),Src σ 13 tl.length lv (tyCs tl ws)∧ws.length=tl.length∧∀(k:Nat) (t:TyS) (w:V × V × V),tl[k]? = some t→ws[k]? = some w→Tgl σ t.tags w.1∧Src σ 3 t.items.length w.2.1 (itC t.items)∧Src σ 11 t.fields.length w.2.2 (fdC t.fields)∧∀b,(Names w.1 b∨Names w.2.1 b∨Names w.2.2 b)→n0≤b
 f:∀b,(Names u b∨Names rv b∨Names lv b)→n0≤b
 z:Zo lv
def rootsP (T:NodT):List Nat→List TyS→List Nat→Option (List Nat × List TyS)
 | [],tl,rs=>some (rs,tl)
 | k::ks,tl,rs=>(T 0 k tl).bind fun r=>rootsP T ks r.2 (rs++[r.1])
def tbC (nm:List Nat) (u rv lv:V):List V:=[.str (ofN nm),u,rv,lv]
def SpMake (m:ModS) (T:NodT) (F:List V→H→Ans):Prop:=∀(σ:H) (nv tv dv:V) (rs:List Nat) (tl:List TyS),Tidy σ→MdS σ m nv tv dv→rootsP T m.ks [] []=some (rs,tl) →
 ∃u rv lv σ',F [.agg (mdC m nv tv dv)] σ=some (.tup [.agg (tbC m.nm u rv lv),.int .i64 (Int.ofNat 0),.int .i64 (Int.ofNat 0)],σ')∧TbS σ.next σ' m.az rs tl u rv lv∧Fr Nowhere σ σ'
section
variable {E:List (Nat × Blk)} {D:Den} {N:Nat}
theorem make_L {m:ModS} {T:NodT} (hm:MdOk m) (hT:SpMnode m T (D 27)) {σ0 σ5:H} {cb rb xb tb:Nat} {nv tv dv u:V} (ht0:Tidy σ0) (hs0:MdS σ0 m nv tv dv) (ht5:Tidy σ5) (hc5:Atc σ5 cb (mdC m nv tv dv)) (hr5:Atc σ5 rb [.str (BS.mk 0 0),.nils,.nils,.nils]) (hu5:Dst σ5 1 m.az.length u (stC m.az)) (l05:σ0.next≤σ5.next)
  (cx:cb≠xb) (ct:cb≠tb) (rx:rb≠xb) (rt:rb≠tb) (ux:∀b,Names u b→b≠xb∧b≠tb∧b≠rb∧σ0.next≤b) (x5:xb<σ5.next) (t5:tb<σ5.next) (t0:σ0.next≤tb) (r0:σ0.next≤rb):∀(ks:List Nat) (i k:Nat) {σ:H} {lv rv:V} {tl tl':List TyS} {rs rs':List Nat},m.ks.drop i=ks→i+ks.length=m.az.length→ks.length<k→rs.length=i →
  Mk σ0 σ xb m nv tv dv tl lv (fun b=>b=tb∨Names rv b∨(b=rb∨b<σ0.next))→Atc σ tb [.str (ofN m.nm),u,rv,.nils]→Dst σ 1 rs.length rv (ksC rs)→(∀b,Names lv b→σ5.next≤b)→(∀b,Names rv b→σ5.next≤b)→Fr (fun b=>b=xb∨b=tb) σ5 σ→rootsP T ks tl rs=some (rs',tl') →
  ∃rv' lv' σ',L14_2 E D (drawW E D) N k cb 0 rb 0 xb 0 tb 0 (Int.ofNat i) σ=some (.tup [.agg (tbC m.nm u rv' lv'),.int .i64 (Int.ofNat 0),.int .i64 (Int.ofNat 0)],σ')∧TbS σ0.next σ' m.az rs' tl' u rv' lv'∧Fr (fun b=>b=xb∨b=tb∨b=rb) σ5 σ':=by
 have hfew:=hm.few.2
 have hc_lt:=hc5.lt ht5
 have hr_lt:=hr5.lt ht5
 intro ks
 induction ks with
 | nil=>
  intro i k σ lv rv tl tl' rs rs' hk hi hn hrs h ht hr ll rl f hp
  obtain⟨k,rfl⟩:∃j,k=j+1:=⟨k-1,by omega⟩
  cases hp
  have hti:=h.ht
  have hc:=f.at_ hc5 ht5 (fun e=>e.elim cx ct)
  have hrb:=f.at_ hr5 ht5 (fun e=>e.elim rx rt)
  have hu:=hu5.fr f ht5 (fun b hb e=>e.elim (ux b hb).1 (ux b hb).2.1)
  have sl:∀κ:Nat→Ans,slenK nv κ=κ m.az.length:=fun κ=>hs0.n.slen
  have d1:decide (i<m.az.length)=false:=decide_eq_false (by simp only[List.length_nil]at hi;omega)
  obtain⟨ws,h1,h2,h3⟩:=h.w
  obtain⟨σa,ga,fa,aa⟩:=stz (off:=3) (y:=lv) hti ht h1.one (show 3<4 by decide)
  have aa:Atc σa tb (tbC m.nm u rv lv):=aa
  have hra:=fa.at_ hrb hti (by omega)
  obtain⟨σb,eb,fb,ab⟩:=mkS fa.tidy hra (tbC m.nm u rv lv)
  have ho:allOne (tbC m.nm u rv lv)=true:=by
   unfold tbC
   simp only[allOne_cons,allOne_nil,one_str,hu.one,hr.one,h1.one,Bool.and_true]
  have gb:∀κ:H→Ans,stK 4 rb 0 (.agg (tbC m.nm u rv lv)) σa κ=κ σb:=fun κ=>by
   rw[stK_at hra (by
    rw[cells_agg,ho]
    rfl),cells_agg]
   show κ (setF σa rb (.cells (tbC m.nm u rv lv)))=_
   rw[eb]
  have hx:=h.a
  have fab:Fr (fun b=>b=tb∨b=rb) σ σb:=(fa.mono (fun _ _ e => .inl e):Fr (fun b=>b=tb∨b=rb) σ σa).trans fb (fun _ _ e => .inr e)
  refine⟨rv,lv,σb,?_,⟨(hu.fr fab hti (fun b hb e=>e.elim (ux b hb).2.1 (ux b hb).2.2.1)).src,(hr.fr fab hti (fun b hb e=>by have:=rl b hb;omega)).src,⟨ws,(h1.fr fab hti (fun b hb e=>by have:=ll b hb;omega)).src,h2,fun j t w hj hw=>?_⟩,fun b hb=>?_,Dst.zo h1⟩,(f.mono (fun _ _ e=>e.imp id .inl):Fr (fun b=>b=xb∨b=tb∨b=rb) σ5 σ).trans fab (fun b _ e => .inr e)⟩
  ·unfold mdC at hc
   unfold mkC at hx
   unfold tbC at aa ab gb ⊢
   have sub:∀κ:List V→Ans,subK [.str (ofN m.nm),u,rv,lv] 0 4 κ=κ [.str (ofN m.nm),u,rv,lv]:=fun κ=>by
    rw[subK_of (by simp)];rfl
   have o1:=hu.one
   have o2:=hr.one
   have o3:=h1.one
   show T14_2 E D (drawW E D) (T14_1 E D (drawW E D)) _ cb 0 rb 0 xb 0 tb 0 (Int.ofNat i) σ=_
   have key:∀R,T14_2 E D (drawW E D) (T14_1 E D (drawW E D)) R cb 0 rb 0 xb 0 tb 0 (Int.ofNat i) σ=some (.tup [.agg [.str (ofN m.nm),u,rv,lv],.int .i64 (Int.ofNat 0),.int .i64 (Int.ofNat 0)],σb):=by
    intro R
    unfold T14_2 T14_1
    simp -implicitDefEqProofs only [↓rP,rA,Nat.reduceEqDiff,Nat.reduceLT,Nat.reduceLeDiff,↓ldK_is hc,↓sl,d1,↓ldK_is hx,↓ga,↓ldnK_is aa,↓sub,↓gb,↓ldnK_is ab]
   exact key _
  ·obtain⟨a,b,c,d⟩:=h3 j t w hj hw
   have nn:∀x,(Names w.1 x∨Names w.2.1 x∨Names w.2.2 x)→¬(x=tb∨x=rb):=fun x hx e=>(d x hx).2.2 (e.elim .inl (fun e => .inr (.inr (.inl e))))
   exact⟨a.fr fab hti (fun x hx e=>nn x (.inl hx) e),b.fr fab hti (fun x hx e=>nn x (.inr (.inl hx)) e),c.fr fab hti (fun x hx e=>nn x (.inr (.inr hx)) e),fun x hx=>Nat.le_of_not_lt fun e=>(d x hx).2.2 (.inr (.inr (.inr e)))⟩
  ·rcases hb with hb|hb|hb
   ·exact(ux b hb).2.2.2
   ·have:=rl b hb;omega
   ·have:=ll b hb;omega
 | cons k0 ks ih=>
  intro i k σ lv rv tl tl' rs rs' hk hi hn hrs h ht hr ll rl f hp
  obtain⟨k,rfl⟩:∃j,k=j+1:=⟨k-1,by omega⟩
  obtain⟨⟨r,tl1⟩,h1,hp⟩:=Option.bind_eq_some_iff.1 hp
  simp only[List.length_cons]at hi hn
  have hti:=h.ht
  have hc:=f.at_ hc5 ht5 (fun e=>e.elim cx ct)
  have le:=f.le
  have hki:m.ks[i]? = some k0:=by
   have:=congrArg (fun l:List Nat=>l[0]?) hk
   simpa using this
  obtain⟨e',lv1,rv1,σ1,g,t1,t2,t8,t9,t10,hm1,ha1,hr1,m1,m2,f1⟩:=make_reg1 (E:=E) (D:=D) (p2 := .ptr rb 0) (P:=fun b=>b=rb∨b<σ0.next) hT (fun b e=>by omega) ht0 hs0 h hc ht hr (by omega) hki cx (fun e=>by have:=ll _ e;omega) (fun e=>by have:=rl _ e;omega) ct (fun e=>by have:=rl _ e;omega) (fun b hb=>by have:=rl b hb;omega) t0 h1
  have F1:Fr (fun b=>b=xb∨b=tb) σ5 σ1:=f.trans f1 (fun b hb e=>by
   rcases e with e|e|e|e
   ·exact .inl e
   ·exact .inr e
   ·have:=ll b e;omega
   ·have:=rl b e;omega)
  have a1:addF .i64 (Int.ofNat i) (Int.ofNat 1)=Int.ofNat (i+1):=addF_nat (by omega)
  obtain⟨rv',lv',σ',g',tb',f'⟩:=ih (i+1) k (by rw[←List.drop_drop,hk];rfl) (by omega) (by omega) (by simp[hrs]) hm1 ha1 (by rw[List.length_append];exact hr1) (fun b hb=>(m1 b hb).elim (ll b) (fun e=>by omega)) (fun b hb=>(m2 b hb).elim (rl b) (fun e=>by omega)) F1 hp
  refine⟨rv',lv',σ',?_,tb',f'⟩
  have sl:∀κ:Nat→Ans,slenK nv κ=κ m.az.length:=fun κ=>hs0.n.slen
  have d1:decide (i<m.az.length)=true:=decide_eq_true (by omega)
  have gd:∀κ:Env→H→Ans,gdrawK (drawW E D G14_1 H14_1 [(1,.ptr cb 0),(2,.ptr rb 0),(8,.ptr xb 0),(9,.ptr tb 0),(10,.int .i64 (Int.ofNat i))] σ) κ=κ e' σ1:=fun κ=>by rw[g];rfl
  have m1':∀κ:V→Ans,getL e' 1 κ=κ (.ptr cb 0):=fun κ=>getL_of t1 rfl
  have m2':∀κ:V→Ans,getL e' 2 κ=κ (.ptr rb 0):=fun κ=>getL_of t2 rfl
  have m8':∀κ:V→Ans,getL e' 8 κ=κ (.ptr xb 0):=fun κ=>getL_of t8 rfl
  have m9':∀κ:V→Ans,getL e' 9 κ=κ (.ptr tb 0):=fun κ=>getL_of t9 rfl
  have m10':∀κ:V→Ans,getL e' 10 κ=κ (.int .i64 (Int.ofNat i)):=fun κ=>getL_of t10 rfl
  have hx1:=hm1.a
  unfold mdC at hc
  unfold mkC at hx1
  show T14_2 E D (drawW E D) (T14_1 E D (drawW E D)) (L14_2 E D (drawW E D) N k) cb 0 rb 0 xb 0 tb 0 (Int.ofNat i) σ=_
  have key:∀R,T14_2 E D (drawW E D) (T14_1 E D (drawW E D)) R cb 0 rb 0 xb 0 tb 0 (Int.ofNat i) σ=R cb 0 rb 0 xb 0 tb 0 (Int.ofNat (i+1)) σ1:=by
   intro R
   unfold T14_2
   simp -implicitDefEqProofs only [↓rP,rA,Nat.reduceEqDiff,Nat.reduceLT,Nat.reduceLeDiff,↓ldK_is hc,↓sl,d1,↓gd,↓m1',↓m2',↓m8',↓m9',↓m10',↓ldK_is hx1,a1]
  rw[key];exact g'
theorem make_F {m:ModS} {T:NodT} (hm:MdOk m) (hO:SpOrder m (D 26)) (hT:SpMnode m T (D 27)) (hN:100<N):SpMake m T (F14 E D (drawW E D) N):=by
 intro σ nv tv dv rs tl ht hs hp
 have hfew:=hm.few.2
 obtain⟨σ1,e1,f1,a1,n1⟩:=mkN ht (mdC m nv tv dv)
 obtain⟨σ2,e2,f2,a2,n2⟩:=mkN f1.tidy [.str (BS.mk 0 0),.nils,.nils,.nils]
 have od:dv.one=true:=by
  obtain⟨ws,h1,_⟩:=hs.d
  exact h1.one
 have f02:=f1.trans f2 (fun _ _ h=>h)
 obtain⟨v3,σ3,g3,o3,f3⟩:=hO σ2 nv tv dv f2.tidy (hs.fr f02 ht)
 have f03:=f02.trans f3 (fun _ _ h=>h)
 obtain⟨σ4,e4,f4,a4,n4⟩:=mkN f3.tidy (mkC m nv tv dv .nils)
 have f04:=f03.trans f4 (fun _ _ h=>h)
 have c2:=f2.at_ a1 f1.tidy (fun h=>h)
 have c3:=f3.at_ c2 f2.tidy (fun h=>h)
 have c4:=f4.at_ c3 f3.tidy (fun h=>h)
 have r4:=f4.at_ (f3.at_ a2 f2.tidy (fun h=>h)) f3.tidy (fun h=>h)
 obtain⟨e',u,σ5,g5,t1,t2,t8,t9,a5,d5,m5,l5,f5⟩:=make_reg0 (E:=E) (D:=D) (p2 := .ptr σ1.next 0) (p8 := .ptr σ3.next 0) f4.tidy c4 (hs.n.fr f04 ht (fun _ _ h=>h)) (by omega)
 have le1:=f1.le
 have le2:=f2.le
 have le3:=f3.le
 have le4:=f4.le
 have x4:=a4.lt f4.tidy
 have r2:=a2.lt f2.tidy
 have f05:=f04.trans f5 (fun _ _ h=>h)
 have mk:Mk σ σ5 σ3.next m nv tv dv [] .nils (fun b=>b=σ4.next+6∨Names .nils b∨(b=σ1.next∨b<σ.next)):=⟨f5.at_ a4 f4.tidy (fun h=>h),⟨[],Dst.nil _ _,rfl,fun k t w h=>by simp at h⟩,fun b hb=>hb.elim,fun q=>by
  rcases q with q|q|q
  ·omega
  ·exact q.elim
  ·omega,by omega,f05⟩
 obtain⟨rv',lv',σ',g',tbs,f'⟩:=make_L (E:=E) (N:=N) (k:=N) (cb:=σ.next) (rb:=σ1.next) hm hT ht hs f5.tidy (f5.at_ c4 f4.tidy (fun h=>h)) (f5.at_ r4 f4.tidy (fun h=>h)) d5 (by omega) (by omega) (by omega) (by omega) (by omega) (fun b hb=>by have:=m5 b hb;omega) (by omega) (by omega) (by omega) (by omega) m.ks 0 (by simp) (by rw[hm.as_many];omega) (by rw[hm.as_many];omega) rfl mk a5 (Dst.nil _ _) (fun b hb=>hb.elim) (fun b hb=>hb.elim) (Fr.refl f5.tidy) hp
 refine⟨u,rv',lv',σ',?_,tbs,f05.trans f' (fun b hb e=>by omega)⟩
 unfold mdC at e1 a1 g3 c2 c3
 unfold mkC at e4
 have sub:∀κ:List V→Ans,subK [.str (ofN m.nm),.int .i64 (Int.ofNat m.tg),nv,tv,dv] 0 5 κ=κ [.str (ofN m.nm),.int .i64 (Int.ofNat m.tg),nv,tv,dv]:=fun κ=>by
  rw[subK_of (by simp)];rfl
 have gd:∀κ:Env→H→Ans,gdrawK (drawW E D G14_0 H14_0 [(1,.ptr σ.next 0),(2,.ptr σ1.next 0),(8,.ptr σ3.next 0)] σ4) κ=κ e' σ5:=fun κ=>by rw[g5];rfl
 have m1':∀κ:V→Ans,getL e' 1 κ=κ (.ptr σ.next 0):=fun κ=>getL_of t1 rfl
 have m2':∀κ:V→Ans,getL e' 2 κ=κ (.ptr σ1.next 0):=fun κ=>getL_of t2 rfl
 have m8':∀κ:V→Ans,getL e' 8 κ=κ (.ptr σ3.next 0):=fun κ=>getL_of t8 rfl
 have m9':∀κ:V→Ans,getL e' 9 κ=κ (.ptr (σ4.next+6) 0):=fun κ=>getL_of t9 rfl
 have o1:=hs.n.one
 have o2:=hs.t.one
 show T14_0 E D (drawW E D) (L14_2 E D (drawW E D) N N) (ofN m.nm) (Int.ofNat m.tg) nv tv dv σ=_
 have key:∀K2,T14_0 E D (drawW E D) K2 (ofN m.nm) (Int.ofNat m.tg) nv tv dv σ=K2 σ.next 0 σ1.next 0 σ3.next 0 (σ4.next+6) 0 (Int.ofNat 0) σ5:=by
  intro K2
  unfold T14_0
  simp -implicitDefEqProofs only [↓rP,rA,Nat.reduceEqDiff,Nat.reduceLT,Nat.reduceLeDiff,o1,o2,od,↓e1,↓e2,↓ldnK_is c2,↓sub,↓g3,↓rtCons,o3,↓ldnK_is c3,↓e4,↓gd,↓m1',↓m2',↓m8',↓m9']
 rw[key];exact g'
end
end
end Go.Proofs.YtgblfbajgpboiaaGreatDoor
namespace Go.Og
noncomputable section
section
variable {Q:DS→Prop} {E:List (Nat × Blk)} {D:Den} {σ σc σ':H} {n i:Nat} {S:Nat→Prop} {d:Option Nat} {o:AOp} {l:List AOper} {anc:Nat} {lk:List Nat} {pl:List DP} {e env:Env} {nx am:Nat} {ss:List (List (Nat × Blk))} {ks:List Nat} {ls:List (Nat × AOp × Env × V)} {g:Option (Nat × Bool)}
theorem goq_pg (v:V) (hg:wantedA (restr lk e) g=some true) (hc:o.cls = .p) (hv:aopP o (restr lk e)=some v) (k:GoesQ Q E D σ n (i+1) l pl ⟨putE e d v,nx,ss,ks,am,ls⟩):GoesQ Q E D σ n i (⟨d,o,g⟩::l) (⟨anc,lk⟩::pl) ⟨e,nx,ss,ks,am,ls⟩:=by
 obtain⟨s',h1,h2⟩:=k
 have h:dstep E D σ.next n i ⟨d,o,g⟩ ⟨anc,lk⟩ ⟨e,nx,ss,ks,am,ls⟩=some ⟨putE e d v,nx,ss,ks,am,ls⟩:=by
  unfold dstep;simp only[hg,hc,hv]
 refine⟨s',?_,h2⟩
 show (match dstep E D σ.next n i ⟨d,o,g⟩ ⟨anc,lk⟩ ⟨e,nx,ss,ks,am,ls⟩with | none=>none | some s'=>dsteps E D σ.next n (i+1) l pl s')=_
 rw[h];exact h1
theorem goq_lg (v:V) (hr:RegOk E σ n S nx ss am ls σc) (hg:wantedA (restr lk e) g=some true) (hc:o.cls = .l) (hv:OldLd E σ n S o (restr lk e) v) (k:RegOk E σ n S nx ss am ((i,o,restr lk e,v)::ls) σc→GoesQ Q E D σ n (i+1) l pl ⟨putE e d v,nx,ss,ks,am,(i,o,restr lk e,v)::ls⟩) :
  GoesQ Q E D σ n i (⟨d,o,g⟩::l) (⟨anc,lk⟩::pl) ⟨e,nx,ss,ks,am,ls⟩:=by
 obtain⟨⟨hn,r,rfl⟩,h2,h3,h4,h5,h6⟩:=hr
 obtain⟨s',k1,k2⟩:=k ⟨⟨hn,r,rfl⟩,h2,h3,h4,h5,fun x hx=>by
  rcases List.mem_cons.1 hx with rfl|hx
  ·exact hv
  ·exact h6 x hx⟩
 have h:dstep E D σ.next n i ⟨d,o,g⟩ ⟨anc,lk⟩ ⟨e,nx,σc.bl::r,ks,am,ls⟩=some ⟨putE e d v,nx,σc.bl::r,ks,am,(i,o,restr lk e,v)::ls⟩:=by
  unfold dstep;simp only[hg,hc,hv.2 nx σc.bl _ (h4 _ List.mem_cons_self)]
 refine⟨s',?_,k2⟩
 show (match dstep E D σ.next n i ⟨d,o,g⟩ ⟨anc,lk⟩ ⟨e,nx,σc.bl::r,ks,am,ls⟩with | none=>none | some s'=>dsteps E D σ.next n (i+1) l pl s')=_
 rw[h];exact k1
theorem goq_fin {pl0:List DP} (hr:RegOk E σ n S nx ss am ls σc):GoesQ (EndSt E σ n pl0 e σc) E D σ n i [] pl ⟨e,nx,ss,ks,am,ls⟩:=by
 obtain⟨⟨hn,r,rfl⟩,h2,h3,h4,h5,h6⟩:=hr
 refine⟨_,dsteps_nil,rfl,hn,⟨r,rfl⟩,?_,fun j hj hb=>h5 _ List.mem_cons_self j hj hb⟩
 exact List.all_eq_true.2 fun x hx=>check_all (h6 x hx) _ _ _ h4
end
end
end Go.Og
namespace Go.Proofs.YtgblfbajgpboiaaGreatDoor
open Go Go.Og
noncomputable section
def SpTableT (T:ModS→NodT) (N:Nat) (F:List V→H→Ans):Prop:=∀(σ:H) (s:BS) (ts:List Tok) (m:ModS) (rs:List Nat) (tl:List TyS),Tidy σ→s.len≤3000→Tks N s.len s.nats ts→modP (typP 2) ts=some m→MdOk m→rootsP (T m) m.ks [] []=some (rs,tl) →
 ∃u rv lv σ',F [.str s] σ=some (.tup [.agg (tbC m.nm u rv lv),.bool (decide (tl.length≤120))],σ')∧TbS σ.next σ' m.az rs tl u rv lv∧Fr Nowhere σ σ'
section
variable {E:List (Nat × Blk)} {D:Den} {N:Nat}
theorem table_reg {σ:H} {rb tb:Nat} {nm:List Nat} {u rv lv:V} {az:List (List Nat)} {rs:List Nat} {tl:List TyS} (ht:Tidy σ) (hr:Atc σ rb [.str (BS.mk 0 0),.nils,.nils,.nils]) (ha:Atc σ tb (tbC nm u rv lv)) {n0:Nat} (hs:TbS n0 σ az rs tl u rv lv) (hne:tb≠rb) (bu:V.beq u u=true) (br:V.beq rv rv=true) (bl:V.beq lv lv=true) :
    ∃e' σ',drawW E D G7_0 H7_0 [(2,.ptr rb 0),(7,.ptr tb 0),(9,.int .i64 (Int.ofNat 0))] σ=some (e',σ')∧Go.Og.look e' 2=some (.ptr rb 0)∧Go.Og.look e' 3=some (.bool (decide (tl.length≤120)))∧Atc σ' rb (tbC nm u rv lv)∧Fr (fun k=>k=rb) σ σ':=by
  obtain⟨ws,h1,h2,h3⟩:=hs.t
  have fw:Fr Nowhere σ ⟨σ.next+11,σ.bl⟩:=(go_start (E:=E) (n:=11) (S:=Nowhere) ht).fr
  have lr:=hr.lt ht
  have ho:allOne (tbC nm u rv lv)=true:=by
    unfold tbC
    simp only[allOne_cons,allOne_nil,one_str,hs.n.one,hs.r.one,h1.one,Bool.and_true]
  have st:∃σ4,den1 E D (.store 4 (.tmp 2) (.tmp 29)) [(2,.ptr rb 0),(29,.agg (tbC nm u rv lv))] ⟨σ.next+11,σ.bl⟩=some (.dead,σ4)∧Fr (fun k=>k=rb) ⟨σ.next+11,σ.bl⟩ σ4∧Atc σ4 rb (tbC nm u rv lv):=by
    obtain⟨σ4,q1,q2,q3⟩:=st_den (E:=E) (D:=D) (n:=4) (x := .tmp 2) (y := .tmp 29) (e:=[(2,.ptr rb 0),(29,.agg (tbC nm u rv lv))]) fw.tidy (fw.at_ hr ht (fun h=>h)) rfl (show (opv [(2,.ptr rb 0),(29,.agg (tbC nm u rv lv))] (.tmp 29)).cells=tbC nm u rv lv from rfl) (by
      rw[ho];rfl)
    exact⟨σ4,q1,q2,q3⟩
  obtain⟨σ4,g4,f4,a4⟩:=st
  have ha':=ha
  unfold tbC at ha'
  have bagg:V.beq (.agg (tbC nm u rv lv)) (.agg (tbC nm u rv lv))=true:=by
    show (V.beq (.str (ofN nm)) (.str (ofN nm))&&(V.beq u u&&(V.beq rv rv&&(V.beq lv lv&&true))))=true
    rw[bu,br,bl]
    show (decide _&&_)=true
    rw[decide_eq_true rfl];rfl
  have hlen:aopP (.len false (.tmp 34)) [(34,lv),(32,.bool true)]=some (.int .i64 (Int.ofNat tl.length)):=by
    rcases h1 with ⟨h0,e,_⟩|⟨b,o,c,L,e,_⟩
    · rw[h0,e];rfl
    · rw[e];rfl
  have hle:aopP (.bin .leq .none (.tmp 35) (.con (.int .i64 (Int.ofNat 120)))) [(35,.int .i64 (Int.ofNat tl.length)),(32,.bool true)]=some (.bool (decide (tl.length≤120))):=by
    show some (V.bool (decide (Int.ofNat tl.length≤Int.ofNat 120)))=_
    rw[show decide (Int.ofNat tl.length≤Int.ofNat 120)=decide (tl.length≤120)from decide_eq_decide.2 Int.ofNat_le]
  have go:GoesQ (EndSt E σ 11 H7_0 _ σ4) E D σ 11 0 G7_0 H7_0 ⟨[(2,.ptr rb 0),(7,.ptr tb 0),(9,.int .i64 (Int.ofNat 0))],σ.next+11,[σ.bl],[],0,[]⟩:=
    goq_l (.agg (tbC nm u rv lv)) (go_start (S:=fun k=>k=rb) ht) rfl (old_ldn (b:=tb) (off:=0) rfl ha rfl rfl ht hne bagg) fun r1=>
    goq_p (.int .i64 (Int.ofNat 0)) rfl rfl <|
    goq_p (.bool true) rfl rfl <|
    goq_p (.bool true) rfl rfl <|
    goq_pg (.ptr tb 3) rfl rfl rfl <|
    goq_lg lv r1 rfl rfl (old_ld1 (b:=tb) (off:=3) rfl ha' rfl ht hne bl) fun r2=>
    goq_pg (.int .i64 (Int.ofNat tl.length)) rfl rfl hlen <|
    goq_pg (.bool (decide (tl.length≤120))) rfl rfl hle <|
    goq_p (.bool (decide (tl.length≤120))) rfl rfl <|
    goq_k .dead r2 rfl (by decide) (S':=fun k=>k=rb) f4 (fun _ _ h=>h) (fun b h h1 _=>by omega) g4 fun _ _ r3=>
    goq_p (.bool (decide (tl.length≤120))) rfl rfl <|
    goq_fin r3
  have d:=goq_draw (ops:=G7_0) go
  exact⟨_,σ4,d,rfl,rfl,a4,(fw.mono (fun _ _ h=>h.elim):Fr (fun k=>k=rb) σ _).trans f4 (fun _ _ h=>h)⟩
theorem src_beq {σ:H} {esz n:Nat} {v:V} {m:List V} (h:Src σ esz n v m):V.beq v v=true:=by
 rcases h with ⟨_,rfl,_⟩|⟨b,o,c,L,rfl,_⟩<;>exact beq_self _ rfl
theorem TbS.fr {n0:Nat} {σ σ':H} {S:Nat→Prop} {az:List (List Nat)} {rs:List Nat} {tl:List TyS} {u rv lv:V} (h:TbS n0 σ az rs tl u rv lv) (f:Fr S σ σ') (ht:Tidy σ) (hS:∀b,n0≤b→b<σ.next→¬S b):TbS n0 σ' az rs tl u rv lv:=by
 obtain⟨ws,h1,h2,h3⟩:=h.t
 refine⟨h.n.fr f ht (fun b hb=>hS b (h.f b (.inl hb)) (h.n.lt ht hb)),h.r.fr f ht (fun b hb=>hS b (h.f b (.inr (.inl hb))) (h.r.lt ht hb)),⟨ws,h1.fr f ht (fun b hb=>hS b (h.f b (.inr (.inr hb))) (h1.lt ht hb)),h2,fun k t w hk hw=>?_⟩,h.f,h.z⟩
 obtain⟨a,b,c,d⟩:=h3 k t w hk hw
 exact⟨a.fr f ht (fun x hx=>hS x (d x (.inl hx)) (a.lt ht hx)),b.fr f ht (fun x hx=>hS x (d x (.inr (.inl hx))) (b.lt ht hx)),c.fr f ht (fun x hx=>hS x (d x (.inr (.inr hx))) (c.lt ht hx)),d⟩
theorem TbS.low {n0 n1:Nat} {σ:H} {az:List (List Nat)} {rs:List Nat} {tl:List TyS} {u rv lv:V} (h:TbS n0 σ az rs tl u rv lv) (hn:n1≤n0):TbS n1 σ az rs tl u rv lv:=by
 obtain⟨ws,h1,h2,h3⟩:=h.t
 exact⟨h.n,h.r,⟨ws,h1,h2,fun k t w hk hw=>⟨(h3 k t w hk hw).1,(h3 k t w hk hw).2.1,(h3 k t w hk hw).2.2.1,fun b hb=>Nat.le_trans hn ((h3 k t w hk hw).2.2.2 b hb)⟩⟩,fun b hb=>Nat.le_trans hn (h.f b hb),h.z⟩
theorem tableT_F {T:ModS→NodT} (hP:SpParse N (typP 2) (D 13)) (hM:∀m,MdOk m→SpMake m (T m) (D 14)):SpTableT T N (F7 E D (drawW E D) N):=by
 intro σ s ts m rs tl ht hs hts hm hok hr
 obtain⟨σ1,e1,f1,a1,n1⟩:=mkN ht [.str (BS.mk 0 0),.nils,.nils,.nils]
 obtain⟨nv,tv,dv,σ2,g2,s2,f2⟩:=hP σ1 s ts m f1.tidy (by omega) hts hm
 obtain⟨u,rv,lv,σ3,g3,s3,f3⟩:=hM m hok σ2 nv tv dv rs tl f2.tidy s2 hr
 obtain⟨σ4,e4,f4,a4,n4⟩:=mkN f3.tidy [.str (BS.mk 0 0),.nils,.nils,.nils]
 obtain⟨σ5,e5,f5,a5⟩:=mkS f4.tidy a4 (tbC m.nm u rv lv)
 have l3:=s3.t
 obtain⟨ws,h1,h2,h3⟩:=l3
 have ho:allOne (tbC m.nm u rv lv)=true:=by
  unfold tbC
  simp only[allOne_cons,allOne_nil,one_str,s3.n.one,s3.r.one,h1.one,Bool.and_true]
 have g5:∀κ:H→Ans,stK 4 σ3.next 0 (.agg (tbC m.nm u rv lv)) σ4 κ=κ σ5:=fun κ=>by
  rw[stK_at a4 (by
   rw[cells_agg,ho]
   rfl),cells_agg]
  show κ (setF σ4 σ3.next (.cells (tbC m.nm u rv lv)))=_
  rw[e5]
 have le1:=f1.le
 have le2:=f2.le
 have le3:=f3.le
 have le4:=f4.le
 have lr:=a1.lt f1.tidy
 have f25:Fr (fun b=>σ3.next≤b) σ3 σ5:=(f4.mono (fun _ _ h=>h.elim):Fr (fun b=>σ3.next≤b) σ3 σ4).trans f5 (fun b _ e=>by omega)
 have s5:=s3.fr f25 f3.tidy (fun b _ h1 h2=>by omega)
 have r5:=f25.at_ (f3.at_ (f2.at_ a1 f1.tidy (fun h=>h)) f2.tidy (fun h=>h)) f3.tidy (by omega)
 obtain⟨e',σ6,g6,t2,t3,a6,f6⟩:=table_reg (E:=E) (D:=D) f5.tidy r5 a5 s5 (by omega) (src_beq s5.n) (src_beq s5.r) (src_beq h1)
 refine⟨u,rv,lv,σ6,?_,(s5.fr f6 f5.tidy (fun b h1 _ e=>by omega)).low (by omega),((((f1.trans f2 (fun _ _ h=>h)).trans f3 (fun _ _ h=>h)).trans f25 (fun b hb e=>by omega))).trans f6 (fun b hb e=>by omega)⟩
 have d1:decide (3000<s.len)=false:=decide_eq_false (by omega)
 have gd:∀κ:Env→H→Ans,gdrawK (drawW E D G7_0 H7_0 [(2,.ptr σ.next 0),(7,.ptr σ3.next 0),(9,.int .i64 (Int.ofNat 0))] σ5) κ=κ e' σ6:=fun κ=>by rw[g6];rfl
 have m2':∀κ:V→Ans,getL e' 2 κ=κ (.ptr σ.next 0):=fun κ=>getL_of t2 rfl
 have m3':∀κ:V→Ans,getL e' 3 κ=κ (.bool (decide (tl.length≤120))):=fun κ=>getL_of t3 rfl
 have o1:=s2.n.one
 have o2:=s2.t.one
 have o3:dv.one=true:=by
  obtain⟨ws,h1,_⟩:=s2.d
  exact h1.one
 unfold mdC at g2 g3
 unfold tbC at g3 g5 a6 ⊢
 have sub:∀κ:List V→Ans,subK [.str (ofN m.nm),u,rv,lv] 0 4 κ=κ [.str (ofN m.nm),u,rv,lv]:=fun κ=>by
  rw[subK_of (by simp)];rfl
 show T7_0 E D (drawW E D) s σ=_
 unfold T7_0
 simp -implicitDefEqProofs only [↓rP,rA,Nat.reduceEqDiff,Nat.reduceLT,Nat.reduceLeDiff,↓e1,d1,↓g2,o1,o2,o3,allOne_cons,allOne_nil,one_str,one_int,↓g3,↓e4,↓g5,↓gd,↓m2',↓m3',↓ldnK_is a6]
end
theorem cat_canon {a b:BS} (hb:b.canon):(a.cat b).canon:=by
 show a.low ||| b.val <<< (8*a.len)<2 ^ (8*(a.len+b.len))
 have h0:a.low<2 ^ (8*a.len):=Nat.mod_lt _ (Nat.pow_pos (by decide))
 have h1:a.low<2 ^ (8*(a.len+b.len)):=Nat.lt_of_lt_of_le h0 (Nat.pow_le_pow_right (by decide) (by omega))
 have h2:b.val <<< (8*a.len)<2 ^ (8*(a.len+b.len)):=by
  rw[Nat.shiftLeft_eq,Nat.mul_add,Nat.add_comm,Nat.pow_add]
  exact Nat.mul_lt_mul_of_pos_right hb (Nat.pow_pos (by decide))
 exact Nat.or_lt_two_pow h1 h2
theorem ofN_cat {a b:List Nat} (ha:∀c∈a,c<256) (hb:∀c∈b,c<256):(ofN a).cat (ofN b)=ofN (a++b):=by
 have hab:∀c∈a++b,c<256:=fun c hc=>by
  rcases List.mem_append.1 hc with h|h
  ·exact ha c h
  ·exact hb c h
 exact BS.canon_ext (cat_canon (ofN_canon hb)) (ofN_canon hab) (by rw[BS.nats_cat,ofN_nats ha,ofN_nats hb,ofN_nats hab])
theorem catK_ofN {a b:List Nat} (ha:∀c∈a,c<256) (hb:∀c∈b,c<256) (hl:a.length+b.length≤1000000) (κ:BS→Ans):catK (ofN a) (ofN b) κ=κ (ofN (a++b)):=by
 unfold catK
 rw[show Nat.ble (Nat.add (ofN a).len (ofN b).len) 1000000000000=true from ble_of (by rw[ofN_len,ofN_len];show a.length+b.length≤_;omega),ofN_cat ha hb]
def digsF:Nat→Nat→List Nat
 | 0,v=>[48+v]
 | k+1,v=>match Nat.blt v 10 with
  | true=>[48+v]
  | false=>digsF k (v / 10)++[48+v % 10]
def Digs (l:List Nat):Prop:=∀c∈l,48≤c∧c≤57
theorem Digs.bd {l:List Nat} (h:Digs l):∀c∈l,c<256:=fun c hc=>by have:=h c hc;omega
theorem valD_app:∀(l m:List Nat) (a:Nat),valD a (l++m)=valD (valD a l) m
 | [],_,_=>rfl
 | c::l,m,a=>valD_app l m (10*a+(c-48))
theorem dval_snoc (l:List Nat) (c:Nat):valD 0 (l++[c])=10*valD 0 l+(c-48):=by
 rw[valD_app];rfl
theorem digsF_ok:∀(k v:Nat),v<10 ^ (k+1)→Digs (digsF k v)∧valD 0 (digsF k v)=v∧0<(digsF k v).length∧(digsF k v).length≤k+1∧(v<10→(digsF k v).length=1)∧(0<v→(digsF k v).getD 0 0≠48)
 | 0,v,h=>by
  have h:v<10:=by simpa using h
  refine⟨?_,?_,by simp[digsF],by simp[digsF],fun _=>rfl,fun hv=>by simp[digsF];omega⟩
  ·intro c hc
   simp[digsF]at hc;omega
  ·show 10*0+(48+v-48)=v
   omega
 | k+1,v,h=>by
  by_cases hv:v<10
  ·have e:digsF (k+1) v=[48+v]:=by
    show (match Nat.blt v 10 with | true=>_ | false=>_)=_
    rw[show Nat.blt v 10=true by simpa[Nat.blt_eq]using hv]
   rw[e]
   refine⟨?_,?_,by simp,by simp,fun _=>rfl,fun h=>by simp;omega⟩
   ·intro c hc
    simp at hc;omega
   ·show 10*0+(48+v-48)=v
    omega
  ·have e:digsF (k+1) v=digsF k (v / 10)++[48+v % 10]:=by
    show (match Nat.blt v 10 with | true=>_ | false=>_)=_
    rw[show Nat.blt v 10=false by rw[Bool.eq_false_iff];simpa[Nat.blt_eq]using hv]
   have hk:v / 10<10 ^ (k+1):=by
    rw[Nat.div_lt_iff_lt_mul (by decide)]
    rw[Nat.pow_succ]at h;exact h
   obtain⟨h1,h2,h3,h4,h5,h6⟩:=digsF_ok k (v / 10) hk
   rw[e]
   refine⟨?_,?_,by simp,by simp;omega,fun h=>absurd h hv,fun _=>?_⟩
   ·intro c hc
    rcases List.mem_append.1 hc with hc|hc
    ·exact h1 c hc
    ·simp at hc;omega
   ·rw[dval_snoc,h2];omega
   ·have h7:=h6 (by omega)
    cases hd:digsF k (v / 10)with
    | nil=>rw[hd]at h3;simp at h3
    | cons c l=>rw[hd]at h7;exact h7
def SpDigits (k:Nat) (F:List V→H→Ans):Prop:=∀(σ:H) (v:Nat),Tidy σ→v<10 ^ (k+1)→v≤18446744073709551615 →
 ∃σ',F [.int .u64 (Int.ofNat v)] σ=some (.str (ofN (digsF k v)),σ')∧Fr Nowhere σ σ'
theorem bytes_one {m:Nat} (h:m<256):BS.ofList [UInt8.ofNat (Int.ofNat m).toNat]=ofN [m]:=
 (ofN_eq (l:=[m]) (fun c hc=>by simp at hc;omega)).symm
theorem digits_small {k:Nat} (E:List (Nat × Blk)) (D:Den) (W:DrawFn) (N:Nat) (σ:H) (v:Nat) (ht:Tidy σ) (hv:v<10):∃σ',F6 E D W N [.int .u64 (Int.ofNat v)] σ=some (.str (ofN (digsF k v)),σ')∧Fr Nowhere σ σ':=by
 refine⟨newB σ (.cells [.int .u8 (Int.ofNat (48+v))]),?_,Fr.new ht _⟩
 have e:digsF k v=[48+v]:=by
  cases k with
  | zero=>rfl
  | succ k=>
   show (match Nat.blt v 10 with | true=>_ | false=>_)=_
   rw[show Nat.blt v 10=true by simpa[Nat.blt_eq]using hv]
 have h1:wrapF .u8 (addF .u64 (Int.ofNat 48) (Int.ofNat v))=Int.ofNat (48+v):=by
  have:addF .u64 (Int.ofNat 48) (Int.ofNat v)=Int.ofNat (48+v):=wrapF_nat (k := .u64) (m:=48+v) (show _≤18446744073709551615 by omega)
  rw[this]
  exact wrapF_nat (k := .u8) (show _≤255 by omega)
 show T6_0 E D W (Int.ofNat v) σ=_
 simp only[T6_0,ltF_nat,h1]
 rw[decide_eq_true hv,condK_true]
 have ha:Atc (newB σ (.cells [.int .u8 (Int.ofNat (48+v))])) σ.next [.int .u8 (Int.ofNat (48+v))]:=Atc_newB _
 rw[toStrK_sl,srcK_ex ha (by simp)]
 show some (V.str (BS.ofList [UInt8.ofNat (Int.ofNat (48+v)).toNat]),_)=_
 rw[bytes_one (by omega),e]
theorem digits0_F (E:List (Nat × Blk)) (D:Den) (W:DrawFn) (N:Nat):SpDigits 0 (F6 E D W N):=fun σ v ht hv _=>digits_small E D W N σ v ht (by simpa using hv)
theorem digits_F {E:List (Nat × Blk)} {D:Den} {N k:Nat} (h:SpDigits k (D 6)) (hk:k≤30):SpDigits (k+1) (F6 E D (drawW E D) N):=by
 intro σ v ht hv hv2
 by_cases hs:v<10
 ·exact digits_small E D _ N σ v ht hs
 have hk1:v / 10<10 ^ (k+1):=by
  rw[Nat.div_lt_iff_lt_mul (by decide)]
  rw[Nat.pow_succ]at hv;exact hv
 obtain⟨σ1,g1,g2⟩:=h ⟨σ.next+11,σ.bl⟩ (v / 10) (ht.wide 11) hk1 (by omega)
 have hgap:=g2.gap ht (fun b hb=>hb.elim)
 obtain⟨d1,d2,d3,d4,_⟩:=digsF_ok k (v / 10) hk1
 have hle:σ.next+11≤σ1.next:=g2.le
 let c:Blk := .cells [.int .u8 (Int.ofNat (48+v % 10))]
 have e:digsF (k+1) v=digsF k (v / 10)++[48+v % 10]:=by
  show (match Nat.blt v 10 with | true=>_ | false=>_)=_
  rw[show Nat.blt v 10=false by rw[Bool.eq_false_iff];simpa[Nat.blt_eq]using hs]
 have hquo:binV .quo .none (.int .u64 (Int.ofNat v)) (.int .u64 (Int.ofNat 10))=some (.int .u64 (Int.ofNat (v / 10))):=by
  show some (V.int .u64 (IntKind.wrap .u64 (Int.ofNat (v / 10))))=_
  rw[←wrapF_eq,wrapF_nat (k := .u64) (show v / 10≤18446744073709551615 by omega)]
 have hrem:binV .rem .none (.int .u64 (Int.ofNat v)) (.int .u64 (Int.ofNat 10))=some (.int .u64 (Int.ofNat (v % 10))):=rfl
 have hadd:binV .add .none (.int .u64 (Int.ofNat 48)) (.int .u64 (Int.ofNat (v % 10)))=some (.int .u64 (Int.ofNat (48+v % 10))):=by
  show some (V.int .u64 (IntKind.wrap .u64 (Int.ofNat (48+v % 10))))=_
  rw[←wrapF_eq,wrapF_nat (k := .u64) (show 48+v % 10≤18446744073709551615 by omega)]
 have hconv:aopP (.conv (.toInt .u8) (.tmp 15)) [(15,.int .u64 (Int.ofNat (48+v % 10)))]=some (.int .u8 (Int.ofNat (48+v % 10))):=by
  show some (V.int .u8 (IntKind.wrap .u8 (Int.ofNat (48+v % 10))))=_
  rw[←wrapF_eq,wrapF_nat (k := .u8) (show 48+v % 10≤255 by omega)]
 have hcall:den1 E D (.call 6 [.tmp 11]) [(11,.int .u64 (Int.ofNat (v / 10)))] ⟨σ.next+11,σ.bl⟩=some (.str (ofN (digsF k (v / 10))),σ1):=g1
 have hstr:∀(l:List (Nat × Blk)) (nx:Nat),aopL E (.conv .toStr (.tmp 17)) [(17,.sl (σ.next+7) 0 1 (.ex 1))] ⟨nx,hideB σ.next 11 (visK 248 128) ((σ.next+7,c)::l)⟩=some (.str (ofN [48+v % 10])):=fun l nx=>by
  have hl:Go.Og.look (hideB σ.next 11 (visK 248 128) ((σ.next+7,c)::l)) (σ.next+7)=some c:=by
   rw[look_hide_kept (by decide),look_cons_eq]
  show (match (rdN E ⟨nx,hideB σ.next 11 (visK 248 128) ((σ.next+7,c)::l)⟩ (σ.next+7) 0 (1*1)).map (fun l=>(1,l))with
   | some (_,l)=>(match bytesOf l with | some s=>some (V.str (BS.ofList s)) | none=>none)
   | none=>none)=_
  unfold rdN rd
  simp only[hl]
  show some (V.str (BS.ofList [UInt8.ofNat (Int.ofNat (48+v % 10)).toNat]))=_
  rw[bytes_one (by omega)]
 have hcat:binV .add .none (.str (ofN (digsF k (v / 10)))) (.str (ofN [48+v % 10]))=some (.str (ofN (digsF (k+1) v))):=by
  show (match Nat.ble (Nat.add (ofN (digsF k (v / 10))).len (ofN [48+v % 10]).len) 1000000000000 with | true=>some (V.str ((ofN (digsF k (v / 10))).cat (ofN [48+v % 10]))) | false=>none)=_
  rw[show Nat.ble (Nat.add (ofN (digsF k (v / 10))).len (ofN [48+v % 10]).len) 1000000000000=true from ble_of (by rw[ofN_len,ofN_len];show (digsF k (v / 10)).length+1≤_;omega)]
  simp only[]
  rw[ofN_cat d1.bd (fun c hc=>by simp at hc;omega),e]
 have h0:=ht.gap 11
 have hdr:drawW E D G6_0 H6_0 [(0,.int .u64 (Int.ofNat v))] σ=some ((2,.str (ofN (digsF (k+1) v)))::[(19,.str (ofN (digsF (k+1) v))),(18,.str (ofN [48+v % 10])),(17,.sl (σ.next+7) 0 1 (.ex 1)),(16,.int .u8 (Int.ofNat (48+v % 10))),(15,.int .u64 (Int.ofNat (48+v % 10))),(14,.int .u64 (Int.ofNat (v % 10))),(13,.int .u64 (Int.ofNat v)),(12,.str (ofN (digsF k (v / 10)))),(11,.int .u64 (Int.ofNat (v / 10))),(10,.int .u64 (Int.ofNat v)),(0,.int .u64 (Int.ofNat v))],
   ⟨σ1.next,hideB σ.next 11 (fun k=>(128:Nat).testBit k) ((σ.next+7,c)::σ1.bl)⟩):=by
  refine drawW_of (s:=⟨_,σ1.next,[(σ.next+7,c)::σ1.bl,(σ.next+7,c)::σ.bl],[2],128,[(8,.conv .toStr (.tmp 17),[(17,.sl (σ.next+7) 0 1 (.ex 1))],.str (ofN [48+v % 10]))]⟩) ?_ ?_ rfl
  ·refine(dsteps_p rfl rfl rfl).trans ?_
   refine(dsteps_p (v := .int .u64 (Int.ofNat (v / 10))) rfl rfl ?_).trans ?_
   ·exact hquo
   refine(dsteps_k (σ':=σ1) (v := .str (ofN (digsF k (v / 10)))) rfl rfl rfl ?_).trans ?_
   ·show den1 E D (.call 6 [.tmp 11]) [(11,.int .u64 (Int.ofNat (v / 10)))] ⟨σ.next+11,hideB σ.next 11 (visK 3 0) σ.bl⟩=_
    rw[hideB_id h0];exact hcall
   show dsteps E D σ.next 11 3 _ _ ⟨_,σ1.next,[keepB σ.next 11 (visK 3 0) σ.bl++σ1.bl,σ.bl],[2],0,[]⟩=_
   rw[keepB_id h0]
   refine(dsteps_p rfl rfl rfl).trans ?_
   refine(dsteps_p (v := .int .u64 (Int.ofNat (v % 10))) rfl rfl ?_).trans ?_
   ·exact hrem
   refine(dsteps_p (v := .int .u64 (Int.ofNat (48+v % 10))) rfl rfl ?_).trans ?_
   ·exact hadd
   refine(dsteps_p (v := .int .u8 (Int.ofNat (48+v % 10))) rfl rfl ?_).trans ?_
   ·exact hconv
   refine(dsteps_a' (v := .sl (σ.next+7) 0 1 (.ex 1)) (b:=c) (id:=σ.next+7) (am':=128) rfl rfl rfl (show (0:Nat) ||| 2 ^ 7=128 from by decide) rfl).trans ?_
   show dsteps E D σ.next 11 8 _ _ ⟨_,σ1.next,[(σ.next+7,c)::σ1.bl,(σ.next+7,c)::σ.bl],[2],128,[]⟩=_
   refine(dsteps_l (v := .str (ofN [48+v % 10])) rfl rfl rfl ?_).trans ?_
   ·exact hstr σ1.bl σ1.next
   refine(dsteps_p (v := .str (ofN (digsF (k+1) v))) rfl rfl ?_).trans ?_
   ·exact hcat
   refine(dsteps_p rfl rfl rfl).trans ?_
   exact dsteps_nil
  ·simp only[List.all_cons,List.all_nil,Bool.and_true]
   have hs1:=hstr σ1.bl 0
   have hs0:=hstr σ.bl 0
   show (((!legal H6_0 8 [2] []) || (match aopL E (.conv .toStr (.tmp 17)) [(17,.sl (σ.next+7) 0 1 (.ex 1))] ⟨0,hideB σ.next 11 (visK 248 128) ((σ.next+7,c)::σ1.bl)⟩with | some u=>V.beq u (.str (ofN [48+v % 10])) | none=>false)) &&
    (((!legal H6_0 8 [] [2]) || (match aopL E (.conv .toStr (.tmp 17)) [(17,.sl (σ.next+7) 0 1 (.ex 1))] ⟨0,hideB σ.next 11 (visK 248 128) ((σ.next+7,c)::σ.bl)⟩with | some u=>V.beq u (.str (ofN [48+v % 10])) | none=>false))&&true))=true
   rw[hs1,hs0]
   have hb:V.beq (.str (ofN [48+v % 10])) (.str (ofN [48+v % 10]))=true:=by
    show decide _=true
    exact decide_eq_true rfl
   simp only[hb,Bool.or_true,Bool.and_true]
 refine⟨⟨σ1.next,hideB σ.next 11 (fun k=>(128:Nat).testBit k) ((σ.next+7,c)::σ1.bl)⟩,?_,?_⟩
 ·show T6_0 E D (drawW E D) (Int.ofNat v) σ=_
  simp only[T6_0,ltF_nat]
  rw[decide_eq_false hs,condK_false,hdr]
  rfl
 ·refine⟨fun b hb=>?_,show σ.next≤σ1.next by omega,fun b hb hn=>?_⟩
  ·have hb':σ1.next≤b:=hb
   show lookF (hideB _ _ _ _) b=none
   rw[lookF_eq,look_hide_new (by omega),look_cons_ne (by omega),←lookF_eq]
   exact g2.tidy b hb'
  ·show lookF (hideB _ _ _ _) b=_
   rw[lookF_eq,look_hide_old hb,look_cons_ne (by omega),←lookF_eq]
   exact g2.same b (show b<σ.next+11 by omega) hn
def numC (v:Int):List Nat:=match v with
 | .ofNat m=>digsF 19 m
 | .negSucc m=>45::digsF 19 (m+1)
def In64 (v:Int):Prop:=-9223372036854775808≤v∧v≤9223372036854775807
theorem digB_iff (c:Nat):digB c=true↔48≤c∧c≤57:=by
 unfold digB
 rw[Bool.and_eq_true,decide_eq_true_eq,decide_eq_true_eq]
theorem digsF_len:∀(k v p:Nat),v<10 ^ (p+1)→v<10 ^ (k+1)→(digsF k v).length≤p+1
 | 0,v,p,h,_=>by show 1≤p+1;omega
 | k+1,v,p,h,hk=>by
  by_cases hv:v<10
  ·rw[(digsF_ok (k+1) v hk).2.2.2.2.1 hv];omega
  ·have e:digsF (k+1) v=digsF k (v / 10)++[48+v % 10]:=by
    show (match Nat.blt v 10 with | true=>_ | false=>_)=_
    rw[show Nat.blt v 10=false by rw[Bool.eq_false_iff];simpa[Nat.blt_eq]using hv]
   obtain⟨p,rfl⟩:∃j,p=j+1:=⟨p-1,by
    rcases p with _|p
    ·simp at h;omega
    ·rfl⟩
   have:=digsF_len k (v / 10) p (by rw[Nat.div_lt_iff_lt_mul (by decide)];rw[Nat.pow_succ]at h;exact h) (by rw[Nat.div_lt_iff_lt_mul (by decide)];rw[Nat.pow_succ]at hk;exact hk)
   rw[e,List.length_append,List.length_cons,List.length_nil];omega
theorem numC_ok {v:Int} (h:In64 v) {r:List Nat} (hd:digB (r.headD 0)=false) (hl:letB (r.headD 0)=false):∃m ds,numC v=numT m ds∧NumOk m ds r∧numI (numC v)=v:=by
 obtain⟨h1,h2⟩:=h
 cases v with
 | ofNat m=>
  simp only[Int.ofNat_eq_natCast]at h1 h2
  obtain⟨d1,d2,d3,d4,d5,d6⟩:=digsF_ok 19 m (by show m<100000000000000000000;omega)
  have hn:=digsF_len 19 m 18 (by show m<10000000000000000000;omega) (by show m<100000000000000000000;omega)
  refine⟨false,digsF 19 m,rfl,⟨fun d h=>(digB_iff d).2 (d1 d h),d3,hn,?_,(fun e=>by cases e),hd,hl,by omega,fun _=>by omega⟩,?_⟩
  ·rcases Nat.eq_zero_or_pos m with h0|h0
   ·exact .inl (d5 (by omega))
   ·have:=d6 h0
    cases hds:digsF 19 m with
    | nil=>rw[hds]at d3;simp at d3
    | cons c l=>rw[hds]at this;exact .inr this
  ·show numI (digsF 19 m)=_
   cases hds:digsF 19 m with
   | nil=>rw[hds]at d3;simp at d3
   | cons c l=>
    have hc:=d1 c (by rw[hds];simp)
    rw[hds]at d2
    show (match decide (c=45)with
     | true=>-Int.ofNat (valD 0 l)
     | false=>Int.ofNat (valD 0 (c::l)))=_
    rw[decide_eq_false (by omega),d2]
 | negSucc m=>
  obtain⟨d1,d2,d3,d4,d5,d6⟩:=digsF_ok 19 (m+1) (by show m+1<100000000000000000000;omega)
  have hn:=digsF_len 19 (m+1) 18 (by show m+1<10000000000000000000;omega) (by show m+1<100000000000000000000;omega)
  have h7:(digsF 19 (m+1)).headD 0≠48:=by
   have:=d6 (by omega)
   cases hds:digsF 19 (m+1)with
   | nil=>simp
   | cons c l=>rw[hds]at this;exact this
  refine⟨true,digsF 19 (m+1),rfl,⟨fun d h=>(digB_iff d).2 (d1 d h),d3,hn,.inr h7,fun _=>h7,hd,hl,by omega,fun e=>by cases e⟩,?_⟩
  show -Int.ofNat (valD 0 (digsF 19 (m+1)))=_
  rw[d2];rfl
theorem sg_skip {t:BS} {l:List BS} {c:Nat} {r:List Nat} (h:t.nats.head?≠some c) (h0:t.nats≠[]):sgIn (t::l) (c::r)=sgIn l (c::r):=by
 rw[sgIn_cons]
 have:decide ((c::r).take t.len=t.nats)=false:=decide_eq_false fun e=>by
  cases hl:t.len with
  | zero=>rw[hl]at e;exact h0 e.symm
  | succ n=>rw[hl]at e;rw[←e]at h;exact h rfl
 rw[this,Bool.and_false]
theorem sg_hit {t:BS} {l:List BS} {r s:List Nat} (hn:r=t.nats++s):sgIn (t::l) r=t.len:=by
 rw[sgIn_cons]
 have hl:=BS.length_nats t
 rw[decide_eq_true (by rw[hn,List.length_append];omega),decide_eq_true (by rw[hn,←hl,List.take_left])]
 rfl
theorem sg_asg (r:List Nat):sgIn signsV (58::58::61::r)=3:=sg_hit (t:=BS.mk 3 4012602) (s:=r) (by rw[show (BS.mk 3 4012602).nats=[58,58,61] from by decide +kernel];rfl)
theorem wht_no {N c:Nat} {r:List Nat} (h1:isWs c=false) (h2:dash c r=false):wht (N+1) (c::r)=c::r:=by
 unfold wht
 rw[h1,h2]
theorem wht_ws {N c:Nat} {r:List Nat} (h1:isWs c=false) (h2:dash c r=false):wht (N+2) (32::c::r)=c::r:=
 (rfl:wht (N+2) (32::c::r)=wht (N+1) (c::r)).trans (wht_no h1 h2)
theorem tk_sign {c n:Nat} {r w r':List Nat} (h:sgIn signsV (c::r)=n) (h0:0<n) (hw:(c::r).take n=w) (hr:(c::r).drop n=r') (h1:letB c=false) (h2:digB c=false) (h3:c≠45) (h4:c≠39) (h5:c≠34):Tk (c::r) 6 w r':=by
 subst h;subst hw;subst hr
 exact .sign h1 h2 (fun e=>absurd e h3) h4 h5 h0
theorem tk_name {c n k:Nat} {r w r':List Nat} (h:nmL (c::r)=n) (hw:(c::r).take n=w) (hr:(c::r).drop n=r') (h1:letB c=true) (h2:nmBad w=false) (hk:k=(if wdB (ofN w)=true then 5 else if c≤90 then 1 else 2)):Tk (c::r) k w r':=by
 subst h;subst hw;subst hr
 exact .name h1 h2 hk
theorem numT_head {m:Bool} {ds r:List Nat} (h:NumOk m ds r):∃c l,numT m ds=c::l∧isWs c=false∧c≠46∧(∀t,dash c (l++t)=false):=by
 have h1:=h.n1
 cases hd:ds with
 | nil=>rw[hd]at h1;simp at h1
 | cons d l=>
  have hdg:=(digB_iff d).1 (h.dig d (by rw[hd];simp))
  cases m with
  | false=>
   refine⟨d,l,rfl,?_,by omega,fun t=>?_⟩
   ·unfold isWs
    rw[decide_eq_false (by omega),decide_eq_false (by omega),decide_eq_false (by omega),decide_eq_false (by omega)];rfl
   ·unfold dash
    rw[decide_eq_false (by omega)];rfl
  | true=>
   refine⟨45,d::l,rfl,rfl,by decide,fun t=>?_⟩
   show (true&&decide (d=45))=false
   rw[decide_eq_false (by omega)];rfl
def wrapP (n:Nat):Bool→List (Nat × Nat)→List (Nat × Nat)
 | true,l=>(2,n)::l.drop 1
 | false,l=>(2,n)::l
def imN (im:Bool):Nat:=match im with | true=>1 | false=>0
def SpWrap (F:List V→H→Ans):Prop:=∀{σ:H} {tv:V} {l:List (Nat × Nat)} {n:Nat} (im:Bool),Tidy σ→Tgl σ l tv→l.length=1→n≤268435456 →
 ∃v σ',F [tv,.int .i64 (Int.ofNat n),.int .i64 (Int.ofNat (imN im))] σ=some (.tup [v,.int .i64 (Int.ofNat 0)],σ')∧Tgl σ' (wrapP n im l) v∧(∀b,Names v b→σ.next≤b)∧Fr Nowhere σ σ'
section
variable {E:List (Nat × Blk)} {D:Den} {W:DrawFn} {N:Nat}
theorem sl1_tl (b:Nat):sliceV 2 (.sl b 0 1 (.ex 1)) (some (.int .i64 (Int.ofNat 1))) none none=some (.sl b 0 0 (.ex 0)):=rfl
theorem wrap_F:SpWrap (F83 E D W N):=by
 intro σ tv l n im ht htg h1 hn
 obtain⟨tb,rfl⟩:=htg.e h1
 obtain⟨t0,rfl⟩:∃t,l=[t]:=List.length_eq_one_iff.1 h1
 obtain⟨σ1,e1,f1,a1,n1⟩:=mkN ht [.int .i64 (Int.ofNat 2),.int .i64 (Int.ofNat n)]
 have d1:decide (n<0)=false:=decide_eq_false (by omega)
 have d2:decide (268435456<n)=false:=decide_eq_false (by omega)
 have x1:Dst σ1 2 1 (.sl σ.next 0 1 (.ex 1)) [.int .i64 (Int.ofNat 2),.int .i64 (Int.ofNat n)] := .inr ⟨_,rfl,a1,rfl⟩
 have ltb:tb<σ.next:=htg.lt ht rfl
 show ∃v σ',T83_0 E D W (.sl tb 0 1 (.ex 1)) (Int.ofNat n) (Int.ofNat (imN im)) σ=_∧_
 cases im with
 | true=>
  have sl:∀κ:V→Ans,gK (sliceV 2 (.sl tb 0 1 (.ex 1)) (some (.int .i64 (Int.ofNat 1))) none none) κ=κ (.sl tb 0 0 (.ex 0)):=fun κ=>by rw[sl1_tl];rfl
  obtain⟨z,az⟩:∃z,Atc σ1 tb z:=by
   rcases htg.s with ⟨h,_⟩|⟨b,o,c,L,e,ha,_⟩
   ·simp at h
   ·cases e;exact⟨L,f1.at_ ha ht (fun h=>h)⟩
  have x0:Src σ1 2 0 (.sl tb 0 0 (.ex 0)) [] := .inr ⟨tb,0,.ex 0,z,rfl,az,by omega,by simp⟩
  have ap:∀κ:V→H→Ans,appK E 2 16 (.sl σ.next 0 1 (.ex 1)) (.sl tb 0 0 (.ex 0)) σ1 κ=κ (.sl σ.next 0 1 (.ex 1)) σ1:=fun κ=>app_none x1 x0
  refine⟨.sl σ.next 0 1 (.ex 1),σ1,?_,⟨.inr ⟨_,0,_,_,rfl,a1,Nat.le_refl _,rfl⟩,fun _=>⟨_,rfl⟩⟩,fun b hb=>by cases hb;exact Nat.le_refl _,f1⟩
  show T83_0 E D W (.sl tb 0 1 (.ex 1)) (Int.ofNat n) (Int.ofNat 1) σ=_
  unfold T83_0
  simp -implicitDefEqProofs only [↓rP,rA,Nat.reduceEqDiff,Nat.reduceLT,Nat.reduceLeDiff,d1,d2,↓e1,↓sl,↓ap]
 | false=>
  have x0:Src σ1 2 1 (.sl tb 0 1 (.ex 1)) (tgC [t0]):=htg.s.fr f1 ht (fun _ _ h=>h)
  obtain⟨u,σ2,g2,d2',m2,f2⟩:=app_all (E:=E) (bytes:=16) x1 f1.tidy x0 rfl (by decide)
  have nm:∀b,Names u b→σ.next≤b:=fun b hb=>(m2 b hb).elim (fun e=>by cases e;exact Nat.le_refl _) (fun e=>by omega)
  refine⟨u,σ2,?_,⟨d2'.src,fun h=>by simp[wrapP]at h⟩,nm,?_⟩
  ·have uo:=d2'.one
   show T83_0 E D W (.sl tb 0 1 (.ex 1)) (Int.ofNat n) (Int.ofNat 0) σ=_
   unfold T83_0
   simp -implicitDefEqProofs only [↓rP,rA,Nat.reduceEqDiff,Nat.reduceLT,Nat.reduceLeDiff,d1,d2,↓e1,↓g2,↓rtOne_of uo]
  ·exact f1.trans f2 (fun b hb e=>by cases e;omega)
theorem tyCs_tag (v:V) (l:List (Nat × Nat)):∀(tl:List TyS) (ws:List (V × V × V)) (i:Nat) (t:TyS) (u:V × V × V),ws.length=tl.length→tl[i]? = some t→ws[i]? = some u→spl (tyCs tl ws) (i*13+1) [v]=tyCs (tl.set i { t with tags:=l }) (ws.set i (v,u.2))
 | x::tl,y::ws,0,t,u,_,h,h'=>by
  simp at h;subst h
  simp at h';subst h'
  show spl (x.c y++tyCs tl ws) 1 _=({ x with tags:=l }:TyS).c (v,y.2)++tyCs tl ws
  generalize tyCs tl ws=z
  cases z<;>rfl
 | x::tl,y::ws,i+1,t,u,h,hi,hu=>by
  have ih:=tyCs_tag v l tl ws i t u (by simpa using h) (by simpa using hi) (by simpa using hu)
  show spl (x.c y++tyCs tl ws) ((i+1)*13+1) _=x.c y++tyCs (tl.set i { t with tags:=l }) (ws.set i (v,u.2))
  rw[←ih,show (i+1)*13+1=(x.c y).length+(i*13+1)by show _=13+_;omega,spl_app16]
 | [],_,_,_,_,_,h,_=>by simp at h
 | _::_,[],_,_,_,h,_,_=>by simp at h
theorem tyCs_get1:∀(tl:List TyS) (ws:List (V × V × V)) (i:Nat) (t:TyS) (u:V × V × V),tl[i]? = some t→ws[i]? = some u→(tyCs tl ws)[i*13+1]? = some u.1
 | x::tl,y::ws,0,t,u,h,h'=>by
  simp at h';subst h'
  rfl
 | x::tl,y::ws,i+1,t,u,hi,hu=>by
  have ih:=tyCs_get1 tl ws i t u (by simpa using hi) (by simpa using hu)
  show (x.c y++tyCs tl ws)[(i+1)*13+1]? = _
  rw[List.getElem?_append_right (by show 13≤_;omega),show (i+1)*13+1-(x.c y).length=i*13+1 by show (i+1)*13+1-13=_;omega]
  exact ih
 | [],_,_,_,_,h,_=>by simp at h
 | _::_,[],_,_,_,_,h=>by simp at h
section
variable {σ0 σ σ':H} {xb:Nat} {m:ModS} {nv tv dv lv:V} {tl:List TyS} {Q:Nat→Prop}
theorem Mk.rdT (h:Mk σ0 σ xb m nv tv dv tl lv Q) {i:Nat} {t:TyS} (hi:tl[i]? = some t):∃u:V,Tgl σ t.tags u∧∃b,(∀κ:Nat→Nat→Ans,iaddrSK 13 lv (Int.ofNat i) κ=κ b (i*13))∧∀(E:List (Nat × Blk)) (κ:V→Ans),ldK E σ b (Nat.add (i*13) 1) κ=κ u:=by
 obtain⟨ws,h1,h2,h3⟩:=h.w
 have hlt:i<tl.length:=(List.getElem?_eq_some_iff.1 hi).1
 obtain⟨w,hw⟩:∃w,ws[i]? = some w:=⟨ws[i],List.getElem?_eq_getElem (by omega)⟩
 obtain⟨b,cp,hv,hb⟩:∃b cp,lv = .sl b 0 tl.length cp∧Atc σ b (tyCs tl ws):=by
  rcases h1 with (⟨h0,_⟩|⟨b,hv,ha,_⟩)|⟨b,hv,ha,_⟩
  ·omega
  ·exact⟨b,_,hv,ha⟩
  ·exact⟨b,_,hv,ha⟩
 refine⟨w.1,(h3 i t w hi hw).1,b,fun κ=>?_,fun E κ=>ldK_get hb (tyCs_get1 tl ws i t w hi hw)⟩
 rw[hv,iaddrSK_lt hlt]
 show κ b (0+i*13)=_
 rw[Nat.zero_add]
theorem Mk.tag (h:Mk σ0 σ xb m nv tv dv tl lv Q) {i:Nat} {t:TyS} {v:V} {l:List (Nat × Nat)} (hi:tl[i]? = some t) (hv:Tgl σ l v) (hn:∀b,Names v b→b≠xb∧¬Names lv b∧¬Q b) :
  ∃b σ',(∀κ:Nat→Nat→Ans,iaddrSK 13 lv (Int.ofNat i) κ=κ b (i*13))∧(∀κ:H→Ans,stK 1 b (Nat.add (i*13) 1) v σ κ=κ σ')∧Mk σ0 σ' xb m nv tv dv (tl.set i { t with tags:=l }) lv Q∧Fr (Names lv) σ σ':=by
 obtain⟨ws,h1,h2,h3⟩:=h.w
 have hlt:i<tl.length:=(List.getElem?_eq_some_iff.1 hi).1
 obtain⟨w0,hw0⟩:∃w,ws[i]? = some w:=⟨ws[i],List.getElem?_eq_getElem (by omega)⟩
 have hlen:=tyCs_len tl ws h2
 obtain⟨b,cp,he,hb⟩:∃b cp,lv = .sl b 0 tl.length cp∧Atc σ b (tyCs tl ws):=by
  rcases h1 with (⟨h0,_⟩|⟨b,hv,ha,_⟩)|⟨b,hv,ha,_⟩
  ·omega
  ·exact⟨b,_,hv,ha⟩
  ·exact⟨b,_,hv,ha⟩
 obtain⟨σ',g,f,a⟩:=stz (off:=i*13+1) (y:=v) h.ht hb hv.one (by omega)
 rw[tyCs_tag v l tl ws i t w0 h2 hi hw0]at a
 have nmb:∀x,Names lv x↔x=b:=fun x=>by rw[he];exact Iff.rfl
 have f':Fr (Names lv) σ σ':=f.mono fun x _ e=>(nmb x).2 e
 refine⟨b,σ',fun κ=>?_,g,⟨f'.at_ h.a h.ht (fun e=>(h.lx _ e).1 rfl),⟨ws.set i (v,w0.2),?_,by rw[List.length_set,List.length_set,h2],fun k t1 w hk hw=>?_⟩,h.lx,h.qx,h.x0,h.f.trans f' (fun x _ e=>by have:=(h.lx x e).2.1;omega)⟩,f'⟩
 ·rw[he,iaddrSK_lt hlt]
  show κ b (0+i*13)=_
  rw[Nat.zero_add]
 ·rw[List.length_set]
  have e13:(tyCs (tl.set i { t with tags:=l }) (ws.set i (v,w0.2))).length=tl.length*13:=by rw[tyCs_len _ _ (by rw[List.length_set,List.length_set,h2]),List.length_set]
  rcases h1 with (⟨h0,_⟩|⟨b',hv',ha,h0,hl⟩)|⟨b',hv',ha,hl⟩
  ·omega
  ·have:b'=b:=by rw[he]at hv';cases hv';rfl
   subst this
   exact .inl (.inr ⟨b',hv',a,h0,e13⟩)
  ·have:b'=b:=by rw[he]at hv';cases hv';rfl
   subst this
   exact .inr ⟨b',hv',a,e13⟩
 ·by_cases hk':i=k
  ·subst hk'
   rw[List.getElem?_set_self hlt]at hk
   rw[List.getElem?_set_self (by omega)]at hw
   cases hk
   cases hw
   obtain⟨x1,x2,x3,x4⟩:=h3 i t w0 hi hw0
   refine⟨hv.fr f' h.ht (fun x hx e=>(hn x hx).2.1 e),x2.fr f' h.ht (fun x hx e=>(x4 x (.inr (.inl hx))).2.1 e),x3.fr f' h.ht (fun x hx e=>(x4 x (.inr (.inr hx))).2.1 e),fun x hx=>?_⟩
   rcases hx with hx|hx
   ·exact hn x hx
   ·exact x4 x (.inr hx)
  ·rw[List.getElem?_set_ne hk']at hk hw
   obtain⟨x1,x2,x3,x4⟩:=h3 k t1 w hk hw
   exact⟨x1.fr f' h.ht (fun x hx e=>(x4 x (.inl hx)).2.1 e),x2.fr f' h.ht (fun x hx e=>(x4 x (.inr (.inl hx))).2.1 e),x3.fr f' h.ht (fun x hx e=>(x4 x (.inr (.inr hx))).2.1 e),x4⟩
end
def SpMsoft (m:ModS) (F:List V→H→Ans):Prop:=∀{σ0 σ:H} {xb:Nat} {nv tv dv lv:V} {tl:List TyS} {Q:Nat→Prop} {i:Nat} {t:TyS},Mk σ0 σ xb m nv tv dv tl lv Q→tl[i]? = some t→t.tags.length=1→F [.ptr xb 0,.int .i64 (Int.ofNat i)] σ=some (.int .i64 (Int.ofNat 1),σ)
def SpMwrap (m:ModS) (F:List V→H→Ans):Prop:=∀{σ0 σ:H} {xb:Nat} {nv tv dv lv:V} {tl:List TyS} {Q:Nat→Prop} {i n:Nat} {t:TyS} (im:Bool),Mk σ0 σ xb m nv tv dv tl lv Q→(∀b,Q b→b<σ.next)→tl[i]? = some t→t.tags.length=1→n≤268435456 →
 ∃σ',F [.ptr xb 0,.int .i64 (Int.ofNat i),.int .i64 (Int.ofNat n),.int .i64 (Int.ofNat (imN im))] σ=some (.tup [],σ')∧Mk σ0 σ' xb m nv tv dv (tl.set i { t with tags:=wrapP n im t.tags }) lv Q∧Fr (Names lv) σ σ'
theorem msoft_F (m:ModS):SpMsoft m (F48 E D W N):=by
 intro σ0 σ xb nv tv dv lv tl Q i t h hi h1
 obtain⟨u,hu,b,g1,g2⟩:=h.rdT hi
 have hx:=h.a
 unfold mkC at hx
 have sl:∀κ:Nat→Ans,slenK u κ=κ 1:=fun κ=>by rw[hu.s.slen,h1]
 have g2:=g2 E
 show T48_0 E D W xb 0 (Int.ofNat i) σ=_
 unfold T48_0
 simp -implicitDefEqProofs only [↓rP,rA,Nat.reduceEqDiff,Nat.reduceLT,Nat.reduceLeDiff,↓ldK_is hx,↓g1,↓g2,↓sl]
theorem mwrap_F (m:ModS) (hW:SpWrap (D 83)):SpMwrap m (F49 E D W N):=by
 intro σ0 σ xb nv tv dv lv tl Q i n t im h hQ hi h1 hn
 obtain⟨u,hu,b,g1,g2⟩:=h.rdT hi
 have g2:=g2 E
 obtain⟨v,σ1,g3,hv,nv1,f1⟩:=hW im h.ht hu h1 hn
 have h':=h.fr f1 (fun _ e=>e.elim) (fun _ e=>e.elim)
 have lx:=h.a.lt h.ht
 obtain⟨b',σ2,g4,g5,h2,f2⟩:=h'.tag hi hv (fun b hb=>by
  have:=nv1 b hb
  exact⟨by omega,fun e=>by have:=h.llt e;omega,fun q=>by have:=hQ b q;omega⟩)
 refine⟨σ2,?_,h2,(f1.mono (fun _ _ e=>e.elim):Fr (Names lv) σ σ1).trans f2 (fun _ _ e=>e)⟩
 have hx:=h.a
 have hx1:=h'.a
 unfold mkC at hx hx1
 have vo:=hv.one
 have eb:b'=b:=by
  have:=(g4 fun b _=>some (V.ptr b 0,σ)).symm.trans (g1 _)
  simpa using this
 subst eb
 have g5':∀κ:H→Ans,stK 1 b' (i*13+1) v σ1 κ=κ σ2:=g5
 show T49_0 E D W xb 0 (Int.ofNat i) (Int.ofNat n) (Int.ofNat (imN im)) σ=_
 unfold T49_0
 simp -implicitDefEqProofs only [↓rP,rA,Nat.reduceEqDiff,Nat.reduceLT,Nat.reduceLeDiff,↓ldK_is hx,↓g1,↓g2,↓g3,↓ldK_is hx1,↓g4,↓g5,↓g5']
end
def markI (m:ModS) (nd:NodeS):Bool:=decide (nd.mMode=2) || (decide (nd.mMode=0) && !decide (m.tg=0))
def nodeK (m:ModS) (T:NodT):NodT:=fun d k tl=>match m.ns[k]? with
 | none=>none
 | some nd=>match decide (nd.kind=11)with
  | true=>none
  | false=>(madeS T d nd tl).bind fun r=>match nd.mHas with
   | false=>some r
   | true=>match r.2[r.1]? with
    | none=>none
    | some t=>match decide (t.tags.length=1)&&(decide (0≤nd.mNum)&&decide (nd.mNum≤268435456))with
     | false=>none
     | true=>some (r.1,r.2.set r.1 { t with tags:=wrapP nd.mNum.toNat (markI m nd) t.tags })
def nodK (m:ModS):Nat→NodT
 | 0=>fun _ _ _=>none
 | q+1=>nodeK m (nodK m q)
section
variable {E:List (Nat × Blk)} {D:Den} {N:Nat}
theorem nodeK_F {m:ModS} {T:NodT} (hM:SpMmade m T (D 47)) (hS:SpMsoft m (D 48)) (hW:SpMwrap m (D 49)):SpMnode m (nodeK m T) (F27 E D (drawW E D) N):=by
 intro σ0 σ xb nv tv dv lv tl tl' d k i Q ht0 hs0 h hQ hd hs
 unfold nodeK at hs
 cases hn:m.ns[k]? with
 | none=>rw[hn]at hs;cases hs
 | some nd=>
  rw[hn]at hs
  dsimp only at hs
  cases h11:decide (nd.kind=11)with
  | true=>rw[h11]at hs;cases hs
  | false=>
   rw[h11]at hs
   obtain⟨⟨i3,tl3⟩,hs3,hs⟩:=Option.bind_eq_some_iff.1 hs
   dsimp only at hs
   have ht:=h.ht
   obtain⟨iv,fv,rd,hi,hf⟩:=(hs0.fr h.f ht0).nd hn
   have rd:=rd E
   obtain⟨σ1,e1,f1,a1,n1⟩:=mkN ht [.int .i64 (Int.ofNat 0),.str ⟨0,0⟩,.bool false,.int .i64 (Int.ofNat 0),.int .i64 (Int.ofNat 0),.bool false,.bool false,.bool false,.bool false,.int .i64 (Int.ofNat 0),.int .i64 (Int.ofNat 0),.nils,.nils,.int .i64 (Int.ofNat 0),.bool false,.int .i64 (Int.ofNat 0)]
   obtain⟨σ2,e2,f2,a2⟩:=mkS f1.tidy a1 (nd.c iv fv)
   have ho:allOne (nd.c iv fv)=true:=by
    unfold NodeS.c
    simp only[allOne_cons,allOne_nil,one_int,one_str,one_bool,hi.one,hf.one,Bool.and_true]
   have s2:∀κ:H→Ans,stK 16 σ.next 0 (.agg (nd.c iv fv)) σ1 κ=κ σ2:=fun κ=>by
    rw[stK_at a1 (by
     rw[cells_agg,ho,ndC_len]
     rfl),cells_agg]
    show κ (setF σ1 σ.next (.cells (nd.c iv fv)))=_
    rw[e2]
   have f02:Fr (fun b=>σ.next≤b) σ σ2:=(f1.mono (fun _ _ h=>h.elim):Fr (fun b=>σ.next≤b) σ σ1).trans f2 (fun b _ e=>by omega)
   have h2:=h.fr f02 (fun _ h => .inl h) (fun b e=>by have:=h.f.le;omega)
   have le:=f02.le
   obtain⟨lv',σ3,g3,h3,m3,f3⟩:=hM ht0 hs0 h2 (fun b q=>by have:=hQ b q;omega) hd hi.one hf.one hs3
   have lx:=h.a.lt ht
   have a3:=f3.at_ a2 f2.tidy (fun e=>e.elim (by omega) (fun e=>by have:=h.llt e;omega))
   have hx:=h.a
   have hx3:=h3.a
   have m03:∀b,Names lv' b→Names lv b∨σ.next≤b:=fun b hb=>(m3 b hb).imp id (fun h=>by omega)
   have f03:Fr (fun b=>b=xb∨Names lv b) σ σ3:=Fr.trans (f02.mono fun b hb e=>by omega) f3 (fun b _ e=>e)
   unfold mkC at hx hx3
   unfold NodeS.c at rd s2 a2 a3 g3
   have sub:∀κ:List V→Ans,subK [.int .i64 (Int.ofNat nd.kind),.str (ofN nd.name),.bool nd.mHas,.int .i64 nd.mNum,.int .i64 (Int.ofNat nd.mMode),.bool nd.con.has,.bool nd.con.hasLow,.bool nd.con.hasHigh,.bool nd.con.more,.int .i64 nd.con.low,.int .i64 nd.con.high,iv,fv,.int .i64 (Int.ofNat nd.root),.bool nd.more,.int .i64 (Int.ofNat nd.of_)] 0 16 κ=κ [.int .i64 (Int.ofNat nd.kind),.str (ofN nd.name),.bool nd.mHas,.int .i64 nd.mNum,.int .i64 (Int.ofNat nd.mMode),.bool nd.con.has,.bool nd.con.hasLow,.bool nd.con.hasHigh,.bool nd.con.more,.int .i64 nd.con.low,.int .i64 nd.con.high,iv,fv,.int .i64 (Int.ofNat nd.root),.bool nd.more,.int .i64 (Int.ofNat nd.of_)]:=fun κ=>by
    rw[subK_of (by simp)];rfl
   have key:∀K1,T27_0 E D (drawW E D) K1 xb 0 (Int.ofNat k) (Int.ofNat d) σ=K1 xb 0 σ.next 0 (Int.ofNat i3) σ3:=by
    intro K1
    unfold T27_0
    simp -implicitDefEqProofs only [↓rP,rA,Nat.reduceEqDiff,Nat.reduceLT,Nat.reduceLeDiff,↓ldK_is hx,↓rd,↓e1,↓s2,↓ldK_is a2,h11,↓ldnK_is a2,↓sub,↓g3]
   show ∃lv' σ',T27_0 E D (drawW E D) (T27_1 E D (drawW E D) (T27_2 E D (drawW E D)) (T27_3 E D (drawW E D) (T27_2 E D (drawW E D)))) xb 0 (Int.ofNat k) (Int.ofNat d) σ=_∧_
   rw[key]
   cases hm:nd.mHas with
   | false=>
    rw[hm]at hs
    cases hs
    refine⟨lv',σ3,?_,h3,m03,f03⟩
    rw[hm]at a3
    unfold T27_1 T27_2
    simp -implicitDefEqProofs only [↓rP,rA,Nat.reduceEqDiff,Nat.reduceLT,Nat.reduceLeDiff,↓ldK_is hx3,↓ldK_is a3]
   | true=>
    rw[hm]at hs
    dsimp only at hs
    cases ht3:tl3[i3]? with
    | none=>rw[ht3]at hs;cases hs
    | some t=>
     rw[ht3]at hs
     dsimp only at hs
     cases hc:(decide (t.tags.length=1)&&(decide (0≤nd.mNum)&&decide (nd.mNum≤268435456)))with
     | false=>rw[hc]at hs;cases hs
     | true=>
      rw[hc]at hs
      cases hs
      simp only[Bool.and_eq_true,decide_eq_true_eq]at hc
      obtain⟨h1,n0,n1'⟩:=hc
      obtain⟨n,hn'⟩:∃n:Nat,nd.mNum=Int.ofNat n:=⟨nd.mNum.toNat,(Int.toNat_of_nonneg n0).symm⟩
      have hQ3:∀b,Q b→b<σ3.next:=fun b q=>by have:=hQ b q;have:=f03.le;omega
      obtain⟨σ4,g4,h4,f4⟩:=hW (n:=n) (markI m nd) h3 hQ3 ht3 h1 (by rw[hn']at n1';simp only[Int.ofNat_eq_natCast]at n1';omega)
      have gs:=hS h3 ht3 h1
      have hnt:nd.mNum.toNat=n:=by rw[hn'];rfl
      refine⟨lv',σ4,?_,by rw[hnt];exact h4,m03,f03.trans f4 (fun b hb e=>(m03 b e).elim .inr (fun h=>by omega))⟩
      rw[hm,hn']at a3
      unfold markI at g4
      cases h2m:decide (nd.mMode=2)with
      | true=>
       rw[h2m]at g4
       have g4:D 49 [.ptr xb 0,.int .i64 (Int.ofNat i),.int .i64 (Int.ofNat n),.int .i64 (Int.ofNat 1)] σ3=some (.tup [],σ4):=g4
       unfold T27_1 T27_3 T27_2
       simp -implicitDefEqProofs only [↓rP,rA,Nat.reduceEqDiff,Nat.reduceLT,Nat.reduceLeDiff,↓ldK_is hx3,↓ldK_is a3,h2m,↓g4]
      | false=>
       rw[h2m,Bool.false_or]at g4
       cases h0m:decide (nd.mMode=0)with
       | false=>
        rw[h0m,Bool.false_and]at g4
        have g4:D 49 [.ptr xb 0,.int .i64 (Int.ofNat i),.int .i64 (Int.ofNat n),.int .i64 (Int.ofNat 0)] σ3=some (.tup [],σ4):=g4
        unfold T27_1 T27_3 T27_2
        simp -implicitDefEqProofs only [↓rP,rA,Nat.reduceEqDiff,Nat.reduceLT,Nat.reduceLeDiff,↓ldK_is hx3,↓ldK_is a3,h2m,h0m,↓g4]
       | true=>
        rw[h0m,Bool.true_and]at g4
        cases htg:decide (m.tg=0)with
        | true=>
         rw[htg]at g4
         have g4:D 49 [.ptr xb 0,.int .i64 (Int.ofNat i),.int .i64 (Int.ofNat n),.int .i64 (Int.ofNat 0)] σ3=some (.tup [],σ4):=g4
         unfold T27_1 T27_3 T27_2
         simp -implicitDefEqProofs only [↓rP,rA,Nat.reduceEqDiff,Nat.reduceLT,Nat.reduceLeDiff,↓ldK_is hx3,↓ldK_is a3,h2m,h0m,htg,↓g4]
        | false=>
         rw[htg]at g4
         have g4:D 49 [.ptr xb 0,.int .i64 (Int.ofNat i),.int .i64 (Int.ofNat n),.int .i64 (Int.ofNat 1)] σ3=some (.tup [],σ4):=g4
         unfold T27_1 T27_3 T27_2
         simp -implicitDefEqProofs only [↓rP,rA,Nat.reduceEqDiff,Nat.reduceLT,Nat.reduceLeDiff,↓ldK_is hx3,↓ldK_is a3,h2m,h0m,htg,↓gs,↓g4]
end
theorem num_step {N len:Nat} {m:Bool} {ds r:List Nat} {ts:List Tok} (hn:NumOk m ds r) (h:Tks (N+10) len r ts):Tks (N+10) len (numT m ds++r) ((3,numT m ds,len-(numT m ds++r).length)::ts):=by
 obtain⟨c,l,e,a,_,b⟩:=numT_head hn
 exact .one (r1:=numT m ds++r) (by rw[e];exact wht_no a (b _)) (.num hn) h
theorem lk_next {m:Bool} {ds r:List Nat} (hn:NumOk m ds r):∃c u,numT m ds++r=c::u∧c≠91:=by
 have h1:=hn.n1
 cases hd:ds with
 | nil=>rw[hd]at h1;simp at h1
 | cons d l=>
  have hdg:=(digB_iff d).1 (hn.dig d (by rw[hd];simp))
  cases m with
  | false=>exact⟨d,l++r,rfl,by omega⟩
  | true=>exact⟨45,d::l++r,rfl,by omega⟩
theorem sg_skip2 {t:BS} {l:List BS} {a b c:Nat} {r:List Nat} (h:t.nats=[a,b]) (hl:t.len=2) (hc:c≠b):sgIn (t::l) (a::c::r)=sgIn l (a::c::r):=by
 rw[sgIn_cons]
 have:decide ((a::c::r).take t.len=t.nats)=false:=decide_eq_false fun e=>by
  rw[hl,h]at e
  simp at e
  exact hc e
 rw[this,Bool.and_false]
theorem sg_lk (c:Nat) (r:List Nat) (hc:c≠91):sgIn signsV (91::c::r)=1:=by
 unfold signsV
 rw[sg_skip (by decide +kernel) (by decide +kernel)]
 rw[sg_skip (by decide +kernel) (by decide +kernel)]
 rw[sg_skip (by decide +kernel) (by decide +kernel)]
 rw[sg_skip2 (by decide +kernel) rfl hc]
 rw[sg_skip (by decide +kernel) (by decide +kernel)]
 rw[sg_skip (by decide +kernel) (by decide +kernel)]
 rw[sg_skip (by decide +kernel) (by decide +kernel)]
 exact sg_hit (t:=BS.mk 1 91) (s:=c::r) (by rw[show (BS.mk 1 91).nats=[91] from by decide +kernel];rfl)
theorem sg_rk (c:Nat) (r:List Nat) (hc:c≠93):sgIn signsV (93::c::r)=1:=by
 unfold signsV
 rw[sg_skip (by decide +kernel) (by decide +kernel)]
 rw[sg_skip (by decide +kernel) (by decide +kernel)]
 rw[sg_skip (by decide +kernel) (by decide +kernel)]
 rw[sg_skip (by decide +kernel) (by decide +kernel)]
 rw[sg_skip2 (by decide +kernel) rfl hc]
 rw[sg_skip (by decide +kernel) (by decide +kernel)]
 rw[sg_skip (by decide +kernel) (by decide +kernel)]
 rw[sg_skip (by decide +kernel) (by decide +kernel)]
 exact sg_hit (t:=BS.mk 1 93) (s:=c::r) (by rw[show (BS.mk 1 93).nats=[93] from by decide +kernel];rfl)
def dl0T (len:Nat) (t:List Nat) (ts:List Tok):List Tok:=(1,[77],len-(77::32::68::69::70::73::78::73::84::73::79::78::83::32::58::58::61::32::66::69::71::73::78::32::65::32::58::58::61::32::91::t).length)::(5,[68,69,70,73,78,73,84,73,79,78,83],len-(68::69::70::73::78::73::84::73::79::78::83::32::58::58::61::32::66::69::71::73::78::32::65::32::58::58::61::32::91::t).length)::(6,[58,58,61],len-(58::58::61::32::66::69::71::73::78::32::65::32::58::58::61::32::91::t).length)::(5,[66,69,71,73,78],len-(66::69::71::73::78::32::65::32::58::58::61::32::91::t).length)::(1,[65],len-(65::32::58::58::61::32::91::t).length)::(6,[58,58,61],len-(58::58::61::32::91::t).length)::(6,[91],len-(91::t).length)::ts
theorem dl0 {N len:Nat} {t:List Nat} {ts:List Tok} (hc:∃c u,t=c::u∧c≠91) (h:Tks (N+10) len t ts):Tks (N+10) len (77::32::68::69::70::73::78::73::84::73::79::78::83::32::58::58::61::32::66::69::71::73::78::32::65::32::58::58::61::32::91::t) (dl0T len t ts):=by
 unfold dl0T
 refine .one (wht_no rfl rfl) (tk_name (n:=1) rfl rfl rfl rfl (by decide +kernel) (by decide +kernel)) ?_
 refine .one (wht_ws rfl rfl) (tk_name (n:=11) rfl rfl rfl rfl (by decide +kernel) (by decide +kernel)) ?_
 refine .one (wht_ws rfl rfl) (tk_sign (sg_asg _) (by decide) rfl rfl rfl rfl (by decide) (by decide) (by decide)) ?_
 refine .one (wht_ws rfl rfl) (tk_name (n:=5) rfl rfl rfl rfl (by decide +kernel) (by decide +kernel)) ?_
 refine .one (wht_ws rfl rfl) (tk_name (n:=1) rfl rfl rfl rfl (by decide +kernel) (by decide +kernel)) ?_
 refine .one (wht_ws rfl rfl) (tk_sign (sg_asg _) (by decide) rfl rfl rfl rfl (by decide) (by decide) (by decide)) ?_
 refine .one (wht_ws rfl rfl) (tk_sign (n:=1) (by obtain⟨c,u,e,hc⟩:=hc;rw[e];exact sg_lk _ _ hc) (by decide) rfl rfl rfl rfl (by decide) (by decide) (by decide)) ?_
 exact h
def dlE0T (len:Nat) (t:List Nat) (ts:List Tok):List Tok:=(6,[93],len-(93::32::69::88::80::76::73::67::73::84::32::66::79::79::76::69::65::78::32::66::32::58::58::61::32::91::t).length)::(5,[69,88,80,76,73,67,73,84],len-(69::88::80::76::73::67::73::84::32::66::79::79::76::69::65::78::32::66::32::58::58::61::32::91::t).length)::(5,[66,79,79,76,69,65,78],len-(66::79::79::76::69::65::78::32::66::32::58::58::61::32::91::t).length)::(1,[66],len-(66::32::58::58::61::32::91::t).length)::(6,[58,58,61],len-(58::58::61::32::91::t).length)::(6,[91],len-(91::t).length)::ts
theorem dlE0 {N len:Nat} {t:List Nat} {ts:List Tok} (hc:∃c u,t=c::u∧c≠91) (h:Tks (N+10) len t ts):Tks (N+10) len (93::32::69::88::80::76::73::67::73::84::32::66::79::79::76::69::65::78::32::66::32::58::58::61::32::91::t) (dlE0T len t ts):=by
 unfold dlE0T
 refine .one (wht_no rfl rfl) (tk_sign (sg_rk _ _ (by decide)) (by decide) rfl rfl rfl rfl (by decide) (by decide) (by decide)) ?_
 refine .one (wht_ws rfl rfl) (tk_name (n:=8) rfl rfl rfl rfl (by decide +kernel) (by decide +kernel)) ?_
 refine .one (wht_ws rfl rfl) (tk_name (n:=7) rfl rfl rfl rfl (by decide +kernel) (by decide +kernel)) ?_
 refine .one (wht_ws rfl rfl) (tk_name (n:=1) rfl rfl rfl rfl (by decide +kernel) (by decide +kernel)) ?_
 refine .one (wht_ws rfl rfl) (tk_sign (sg_asg _) (by decide) rfl rfl rfl rfl (by decide) (by decide) (by decide)) ?_
 refine .one (wht_ws rfl rfl) (tk_sign (n:=1) (by obtain⟨c,u,e,hc⟩:=hc;rw[e];exact sg_lk _ _ hc) (by decide) rfl rfl rfl rfl (by decide) (by decide) (by decide)) ?_
 exact h
def dlE1T (len:Nat) (t:List Nat) (ts:List Tok):List Tok:=(6,[93],len-(93::32::69::88::80::76::73::67::73::84::32::73::78::84::69::71::69::82::32::67::32::58::58::61::32::91::t).length)::(5,[69,88,80,76,73,67,73,84],len-(69::88::80::76::73::67::73::84::32::73::78::84::69::71::69::82::32::67::32::58::58::61::32::91::t).length)::(5,[73,78,84,69,71,69,82],len-(73::78::84::69::71::69::82::32::67::32::58::58::61::32::91::t).length)::(1,[67],len-(67::32::58::58::61::32::91::t).length)::(6,[58,58,61],len-(58::58::61::32::91::t).length)::(6,[91],len-(91::t).length)::ts
theorem dlE1 {N len:Nat} {t:List Nat} {ts:List Tok} (hc:∃c u,t=c::u∧c≠91) (h:Tks (N+10) len t ts):Tks (N+10) len (93::32::69::88::80::76::73::67::73::84::32::73::78::84::69::71::69::82::32::67::32::58::58::61::32::91::t) (dlE1T len t ts):=by
 unfold dlE1T
 refine .one (wht_no rfl rfl) (tk_sign (sg_rk _ _ (by decide)) (by decide) rfl rfl rfl rfl (by decide) (by decide) (by decide)) ?_
 refine .one (wht_ws rfl rfl) (tk_name (n:=8) rfl rfl rfl rfl (by decide +kernel) (by decide +kernel)) ?_
 refine .one (wht_ws rfl rfl) (tk_name (n:=7) rfl rfl rfl rfl (by decide +kernel) (by decide +kernel)) ?_
 refine .one (wht_ws rfl rfl) (tk_name (n:=1) rfl rfl rfl rfl (by decide +kernel) (by decide +kernel)) ?_
 refine .one (wht_ws rfl rfl) (tk_sign (sg_asg _) (by decide) rfl rfl rfl rfl (by decide) (by decide) (by decide)) ?_
 refine .one (wht_ws rfl rfl) (tk_sign (n:=1) (by obtain⟨c,u,e,hc⟩:=hc;rw[e];exact sg_lk _ _ hc) (by decide) rfl rfl rfl rfl (by decide) (by decide) (by decide)) ?_
 exact h
def dlE2T (len:Nat) (t:List Nat) (ts:List Tok):List Tok:=(6,[93],len-(93::32::69::88::80::76::73::67::73::84::32::79::67::84::69::84::32::83::84::82::73::78::71::32::68::32::58::58::61::32::91::t).length)::(5,[69,88,80,76,73,67,73,84],len-(69::88::80::76::73::67::73::84::32::79::67::84::69::84::32::83::84::82::73::78::71::32::68::32::58::58::61::32::91::t).length)::(5,[79,67,84,69,84],len-(79::67::84::69::84::32::83::84::82::73::78::71::32::68::32::58::58::61::32::91::t).length)::(5,[83,84,82,73,78,71],len-(83::84::82::73::78::71::32::68::32::58::58::61::32::91::t).length)::(1,[68],len-(68::32::58::58::61::32::91::t).length)::(6,[58,58,61],len-(58::58::61::32::91::t).length)::(6,[91],len-(91::t).length)::ts
theorem dlE2 {N len:Nat} {t:List Nat} {ts:List Tok} (hc:∃c u,t=c::u∧c≠91) (h:Tks (N+10) len t ts):Tks (N+10) len (93::32::69::88::80::76::73::67::73::84::32::79::67::84::69::84::32::83::84::82::73::78::71::32::68::32::58::58::61::32::91::t) (dlE2T len t ts):=by
 unfold dlE2T
 refine .one (wht_no rfl rfl) (tk_sign (sg_rk _ _ (by decide)) (by decide) rfl rfl rfl rfl (by decide) (by decide) (by decide)) ?_
 refine .one (wht_ws rfl rfl) (tk_name (n:=8) rfl rfl rfl rfl (by decide +kernel) (by decide +kernel)) ?_
 refine .one (wht_ws rfl rfl) (tk_name (n:=5) rfl rfl rfl rfl (by decide +kernel) (by decide +kernel)) ?_
 refine .one (wht_ws rfl rfl) (tk_name (n:=6) rfl rfl rfl rfl (by decide +kernel) (by decide +kernel)) ?_
 refine .one (wht_ws rfl rfl) (tk_name (n:=1) rfl rfl rfl rfl (by decide +kernel) (by decide +kernel)) ?_
 refine .one (wht_ws rfl rfl) (tk_sign (sg_asg _) (by decide) rfl rfl rfl rfl (by decide) (by decide) (by decide)) ?_
 refine .one (wht_ws rfl rfl) (tk_sign (n:=1) (by obtain⟨c,u,e,hc⟩:=hc;rw[e];exact sg_lk _ _ hc) (by decide) rfl rfl rfl rfl (by decide) (by decide) (by decide)) ?_
 exact h
def dlE3T (len:Nat):List Tok:=[(6,[93],len-(93::32::69::88::80::76::73::67::73::84::32::78::85::76::76::32::69::78::68::[]).length),(5,[69,88,80,76,73,67,73,84],len-(69::88::80::76::73::67::73::84::32::78::85::76::76::32::69::78::68::[]).length),(5,[78,85,76,76],len-(78::85::76::76::32::69::78::68::[]).length),(5,[69,78,68],len-(69::78::68::[]).length),(0,[],len)]
theorem dlE3 (N len:Nat):Tks (N+10) len (93::32::69::88::80::76::73::67::73::84::32::78::85::76::76::32::69::78::68::[]) (dlE3T len):=by
 unfold dlE3T
 refine .one (wht_no rfl rfl) (tk_sign (sg_rk _ _ (by decide)) (by decide) rfl rfl rfl rfl (by decide) (by decide) (by decide)) ?_
 refine .one (wht_ws rfl rfl) (tk_name (n:=8) rfl rfl rfl rfl (by decide +kernel) (by decide +kernel)) ?_
 refine .one (wht_ws rfl rfl) (tk_name (n:=4) rfl rfl rfl rfl (by decide +kernel) (by decide +kernel)) ?_
 refine .one (wht_ws rfl rfl) (tk_name (n:=3) rfl rfl rfl rfl (by decide +kernel) (by decide +kernel)) ?_
 exact .fin rfl
def dlI0T (len:Nat) (t:List Nat) (ts:List Tok):List Tok:=(6,[93],len-(93::32::73::77::80::76::73::67::73::84::32::66::79::79::76::69::65::78::32::66::32::58::58::61::32::91::t).length)::(5,[73,77,80,76,73,67,73,84],len-(73::77::80::76::73::67::73::84::32::66::79::79::76::69::65::78::32::66::32::58::58::61::32::91::t).length)::(5,[66,79,79,76,69,65,78],len-(66::79::79::76::69::65::78::32::66::32::58::58::61::32::91::t).length)::(1,[66],len-(66::32::58::58::61::32::91::t).length)::(6,[58,58,61],len-(58::58::61::32::91::t).length)::(6,[91],len-(91::t).length)::ts
theorem dlI0 {N len:Nat} {t:List Nat} {ts:List Tok} (hc:∃c u,t=c::u∧c≠91) (h:Tks (N+10) len t ts):Tks (N+10) len (93::32::73::77::80::76::73::67::73::84::32::66::79::79::76::69::65::78::32::66::32::58::58::61::32::91::t) (dlI0T len t ts):=by
 unfold dlI0T
 refine .one (wht_no rfl rfl) (tk_sign (sg_rk _ _ (by decide)) (by decide) rfl rfl rfl rfl (by decide) (by decide) (by decide)) ?_
 refine .one (wht_ws rfl rfl) (tk_name (n:=8) rfl rfl rfl rfl (by decide +kernel) (by decide +kernel)) ?_
 refine .one (wht_ws rfl rfl) (tk_name (n:=7) rfl rfl rfl rfl (by decide +kernel) (by decide +kernel)) ?_
 refine .one (wht_ws rfl rfl) (tk_name (n:=1) rfl rfl rfl rfl (by decide +kernel) (by decide +kernel)) ?_
 refine .one (wht_ws rfl rfl) (tk_sign (sg_asg _) (by decide) rfl rfl rfl rfl (by decide) (by decide) (by decide)) ?_
 refine .one (wht_ws rfl rfl) (tk_sign (n:=1) (by obtain⟨c,u,e,hc⟩:=hc;rw[e];exact sg_lk _ _ hc) (by decide) rfl rfl rfl rfl (by decide) (by decide) (by decide)) ?_
 exact h
def dlI1T (len:Nat) (t:List Nat) (ts:List Tok):List Tok:=(6,[93],len-(93::32::73::77::80::76::73::67::73::84::32::73::78::84::69::71::69::82::32::67::32::58::58::61::32::91::t).length)::(5,[73,77,80,76,73,67,73,84],len-(73::77::80::76::73::67::73::84::32::73::78::84::69::71::69::82::32::67::32::58::58::61::32::91::t).length)::(5,[73,78,84,69,71,69,82],len-(73::78::84::69::71::69::82::32::67::32::58::58::61::32::91::t).length)::(1,[67],len-(67::32::58::58::61::32::91::t).length)::(6,[58,58,61],len-(58::58::61::32::91::t).length)::(6,[91],len-(91::t).length)::ts
theorem dlI1 {N len:Nat} {t:List Nat} {ts:List Tok} (hc:∃c u,t=c::u∧c≠91) (h:Tks (N+10) len t ts):Tks (N+10) len (93::32::73::77::80::76::73::67::73::84::32::73::78::84::69::71::69::82::32::67::32::58::58::61::32::91::t) (dlI1T len t ts):=by
 unfold dlI1T
 refine .one (wht_no rfl rfl) (tk_sign (sg_rk _ _ (by decide)) (by decide) rfl rfl rfl rfl (by decide) (by decide) (by decide)) ?_
 refine .one (wht_ws rfl rfl) (tk_name (n:=8) rfl rfl rfl rfl (by decide +kernel) (by decide +kernel)) ?_
 refine .one (wht_ws rfl rfl) (tk_name (n:=7) rfl rfl rfl rfl (by decide +kernel) (by decide +kernel)) ?_
 refine .one (wht_ws rfl rfl) (tk_name (n:=1) rfl rfl rfl rfl (by decide +kernel) (by decide +kernel)) ?_
 refine .one (wht_ws rfl rfl) (tk_sign (sg_asg _) (by decide) rfl rfl rfl rfl (by decide) (by decide) (by decide)) ?_
 refine .one (wht_ws rfl rfl) (tk_sign (n:=1) (by obtain⟨c,u,e,hc⟩:=hc;rw[e];exact sg_lk _ _ hc) (by decide) rfl rfl rfl rfl (by decide) (by decide) (by decide)) ?_
 exact h
def dlI2T (len:Nat) (t:List Nat) (ts:List Tok):List Tok:=(6,[93],len-(93::32::73::77::80::76::73::67::73::84::32::79::67::84::69::84::32::83::84::82::73::78::71::32::68::32::58::58::61::32::91::t).length)::(5,[73,77,80,76,73,67,73,84],len-(73::77::80::76::73::67::73::84::32::79::67::84::69::84::32::83::84::82::73::78::71::32::68::32::58::58::61::32::91::t).length)::(5,[79,67,84,69,84],len-(79::67::84::69::84::32::83::84::82::73::78::71::32::68::32::58::58::61::32::91::t).length)::(5,[83,84,82,73,78,71],len-(83::84::82::73::78::71::32::68::32::58::58::61::32::91::t).length)::(1,[68],len-(68::32::58::58::61::32::91::t).length)::(6,[58,58,61],len-(58::58::61::32::91::t).length)::(6,[91],len-(91::t).length)::ts
theorem dlI2 {N len:Nat} {t:List Nat} {ts:List Tok} (hc:∃c u,t=c::u∧c≠91) (h:Tks (N+10) len t ts):Tks (N+10) len (93::32::73::77::80::76::73::67::73::84::32::79::67::84::69::84::32::83::84::82::73::78::71::32::68::32::58::58::61::32::91::t) (dlI2T len t ts):=by
 unfold dlI2T
 refine .one (wht_no rfl rfl) (tk_sign (sg_rk _ _ (by decide)) (by decide) rfl rfl rfl rfl (by decide) (by decide) (by decide)) ?_
 refine .one (wht_ws rfl rfl) (tk_name (n:=8) rfl rfl rfl rfl (by decide +kernel) (by decide +kernel)) ?_
 refine .one (wht_ws rfl rfl) (tk_name (n:=5) rfl rfl rfl rfl (by decide +kernel) (by decide +kernel)) ?_
 refine .one (wht_ws rfl rfl) (tk_name (n:=6) rfl rfl rfl rfl (by decide +kernel) (by decide +kernel)) ?_
 refine .one (wht_ws rfl rfl) (tk_name (n:=1) rfl rfl rfl rfl (by decide +kernel) (by decide +kernel)) ?_
 refine .one (wht_ws rfl rfl) (tk_sign (sg_asg _) (by decide) rfl rfl rfl rfl (by decide) (by decide) (by decide)) ?_
 refine .one (wht_ws rfl rfl) (tk_sign (n:=1) (by obtain⟨c,u,e,hc⟩:=hc;rw[e];exact sg_lk _ _ hc) (by decide) rfl rfl rfl rfl (by decide) (by decide) (by decide)) ?_
 exact h
def dlI3T (len:Nat):List Tok:=[(6,[93],len-(93::32::73::77::80::76::73::67::73::84::32::78::85::76::76::32::69::78::68::[]).length),(5,[73,77,80,76,73,67,73,84],len-(73::77::80::76::73::67::73::84::32::78::85::76::76::32::69::78::68::[]).length),(5,[78,85,76,76],len-(78::85::76::76::32::69::78::68::[]).length),(5,[69,78,68],len-(69::78::68::[]).length),(0,[],len)]
theorem dlI3 (N len:Nat):Tks (N+10) len (93::32::73::77::80::76::73::67::73::84::32::78::85::76::76::32::69::78::68::[]) (dlI3T len):=by
 unfold dlI3T
 refine .one (wht_no rfl rfl) (tk_sign (sg_rk _ _ (by decide)) (by decide) rfl rfl rfl rfl (by decide) (by decide) (by decide)) ?_
 refine .one (wht_ws rfl rfl) (tk_name (n:=8) rfl rfl rfl rfl (by decide +kernel) (by decide +kernel)) ?_
 refine .one (wht_ws rfl rfl) (tk_name (n:=4) rfl rfl rfl rfl (by decide +kernel) (by decide +kernel)) ?_
 refine .one (wht_ws rfl rfl) (tk_name (n:=3) rfl rfl rfl rfl (by decide +kernel) (by decide +kernel)) ?_
 exact .fin rfl
def dlR3 (ex:Bool):List Nat:=match ex with
 | true=>93::32::69::88::80::76::73::67::73::84::32::78::85::76::76::32::69::78::68::[]
 | false=>93::32::73::77::80::76::73::67::73::84::32::78::85::76::76::32::69::78::68::[]
def dlR2 (ex:Bool) (w:List Nat):List Nat:=match ex with
 | true=>93::32::69::88::80::76::73::67::73::84::32::79::67::84::69::84::32::83::84::82::73::78::71::32::68::32::58::58::61::32::91::(w++dlR3 true)
 | false=>93::32::73::77::80::76::73::67::73::84::32::79::67::84::69::84::32::83::84::82::73::78::71::32::68::32::58::58::61::32::91::(w++dlR3 false)
def dlR1 (ex:Bool) (w:List Nat):List Nat:=match ex with
 | true=>93::32::69::88::80::76::73::67::73::84::32::73::78::84::69::71::69::82::32::67::32::58::58::61::32::91::(w++dlR2 true w)
 | false=>93::32::73::77::80::76::73::67::73::84::32::73::78::84::69::71::69::82::32::67::32::58::58::61::32::91::(w++dlR2 false w)
def dlR0 (ex:Bool) (w:List Nat):List Nat:=match ex with
 | true=>93::32::69::88::80::76::73::67::73::84::32::66::79::79::76::69::65::78::32::66::32::58::58::61::32::91::(w++dlR1 true w)
 | false=>93::32::73::77::80::76::73::67::73::84::32::66::79::79::76::69::65::78::32::66::32::58::58::61::32::91::(w++dlR1 false w)
def dlText (ex:Bool) (w:List Nat):List Nat:=77::32::68::69::70::73::78::73::84::73::79::78::83::32::58::58::61::32::66::69::71::73::78::32::65::32::58::58::61::32::91::(w++dlR0 ex w)
def dlToks (ex:Bool) (len:Nat) (w:List Nat):List Tok:=match ex with
 | true=>dl0T len (w++dlR0 true w) ((3,w,len-(w++dlR0 true w).length)::dlE0T len (w++dlR1 true w) ((3,w,len-(w++dlR1 true w).length)::dlE1T len (w++dlR2 true w) ((3,w,len-(w++dlR2 true w).length)::dlE2T len (w++dlR3 true) ((3,w,len-(w++dlR3 true).length)::dlE3T len))))
 | false=>dl0T len (w++dlR0 false w) ((3,w,len-(w++dlR0 false w).length)::dlI0T len (w++dlR1 false w) ((3,w,len-(w++dlR1 false w).length)::dlI1T len (w++dlR2 false w) ((3,w,len-(w++dlR2 false w).length)::dlI2T len (w++dlR3 false) ((3,w,len-(w++dlR3 false).length)::dlI3T len))))
theorem dl_tk (ex:Bool) {k:Int} (ik:In64 k) (N len:Nat):Tks (N+10) len (dlText ex (numC k)) (dlToks ex len (numC k))∧numI (numC k)=k:=by
 cases ex with
 | true=>
  obtain⟨m3,d3,w3,ok3,i3⟩:=numC_ok ik (r:=dlR3 true) rfl rfl
  obtain⟨m2,d2,w2,ok2,_⟩:=numC_ok ik (r:=dlR2 true (numC k)) rfl rfl
  obtain⟨m1,d1,w1,ok1,_⟩:=numC_ok ik (r:=dlR1 true (numC k)) rfl rfl
  obtain⟨m0,d0,w0,ok0,_⟩:=numC_ok ik (r:=dlR0 true (numC k)) rfl rfl
  refine⟨?_,i3⟩
  have s3:=num_step ok3 (dlE3 N len)
  have c3:∃c u,numC k++dlR3 true=c::u∧c≠91:=by rw[w3];exact lk_next ok3
  rw[←w3]at s3
  have s2:=num_step (ts:=dlE2T len (numC k++dlR3 true) _) ok2 (dlE2 c3 s3)
  rw[←w2]at s2
  have c2:∃c u,numC k++dlR2 true (numC k)=c::u∧c≠91:=by
   have:=lk_next ok2
   rwa [←w2]at this
  have s1:=num_step (ts:=dlE1T len (numC k++dlR2 true (numC k)) _) ok1 (dlE1 c2 s2)
  rw[←w1]at s1
  have c1:∃c u,numC k++dlR1 true (numC k)=c::u∧c≠91:=by
   have:=lk_next ok1
   rwa [←w1]at this
  have s0:=num_step (ts:=dlE0T len (numC k++dlR1 true (numC k)) _) ok0 (dlE0 c1 s1)
  rw[←w0]at s0
  have c0:∃c u,numC k++dlR0 true (numC k)=c::u∧c≠91:=by
   have:=lk_next ok0
   rwa [←w0]at this
  exact dl0 c0 s0
 | false=>
  obtain⟨m3,d3,w3,ok3,i3⟩:=numC_ok ik (r:=dlR3 false) rfl rfl
  obtain⟨m2,d2,w2,ok2,_⟩:=numC_ok ik (r:=dlR2 false (numC k)) rfl rfl
  obtain⟨m1,d1,w1,ok1,_⟩:=numC_ok ik (r:=dlR1 false (numC k)) rfl rfl
  obtain⟨m0,d0,w0,ok0,_⟩:=numC_ok ik (r:=dlR0 false (numC k)) rfl rfl
  refine⟨?_,i3⟩
  have s3:=num_step ok3 (dlI3 N len)
  have c3:∃c u,numC k++dlR3 false=c::u∧c≠91:=by rw[w3];exact lk_next ok3
  rw[←w3]at s3
  have s2:=num_step (ts:=dlI2T len (numC k++dlR3 false) _) ok2 (dlI2 c3 s3)
  rw[←w2]at s2
  have c2:∃c u,numC k++dlR2 false (numC k)=c::u∧c≠91:=by
   have:=lk_next ok2
   rwa [←w2]at this
  have s1:=num_step (ts:=dlI1T len (numC k++dlR2 false (numC k)) _) ok1 (dlI1 c2 s2)
  rw[←w1]at s1
  have c1:∃c u,numC k++dlR1 false (numC k)=c::u∧c≠91:=by
   have:=lk_next ok1
   rwa [←w1]at this
  have s0:=num_step (ts:=dlI0T len (numC k++dlR1 false (numC k)) _) ok0 (dlI0 c1 s1)
  rw[←w0]at s0
  have c0:∃c u,numC k++dlR0 false (numC k)=c::u∧c≠91:=by
   have:=lk_next ok0
   rwa [←w0]at this
  exact dl0 c0 s0
def dlNd (ex:Bool) (v:Int) (kind:Nat):NodeS:=⟨kind,[],true,v,match ex with | true=>1 | false=>2,⟨false,false,false,false,0,0⟩,[],[],0,false,0⟩
def dlMd (ex:Bool) (v:Int):ModS:=⟨[77],0,[[65],[66],[67],[68]],[0,1,2,3],[dlNd ex v 1,dlNd ex v 2,dlNd ex v 5,dlNd ex v 4]⟩
theorem typ_mk {T:TypT} {d:Nat} {t:Tok} {l0 l l':List Tok} {ns:List NodeS} {m:Bool × Int × Nat} {nd':NodeS} (h1:begB t=true) (hd:d≤16) (hn:ns.length<300) (hm:markP (t::l0)=some (m,l)) (hb:baseP T d (nodeM m) l (ns++[nodeZ])=some (nd',l',ns++[nodeZ])):typS T d (t::l0) ns=some (ns.length,l',ns++[nd']):=by
 unfold typS
 dsimp only
 rw[h1,decide_eq_true hd,decide_eq_true hn,hm]
 show ((baseP T d (nodeM m) l (ns++[nodeZ])).map fun s=>(ns.length,s.2.1,s.2.2.set ns.length s.1))=_
 rw[hb]
 show some (ns.length,l',(ns++[nodeZ]).set ns.length nd')=_
 rw[List.set_append_right _ _ (Nat.le_refl _),Nat.sub_self]
 rfl
def mBad (w:List Nat):Bool:=ltF (numI w) (Int.ofNat 0) || ltF (Int.ofNat 268435456) (numI w)
theorem mk_lk (w:List Nat) (a1 a2:Nat) (l:List Tok):isP (BS.mk 1 91) ((6,[91],a1)::(3,w,a2)::l)=(true,(3,w,a2)::l):=by kernel_rfl
theorem mk_num (w:List Nat) (a2 a3:Nat) (l:List Tok):numP ((3,w,a2)::(6,[93],a3)::l)=some (numI w,(6,[93],a3)::l):=by kernel_rfl
theorem mk_rk (a3:Nat) (t:Tok) (l:List Tok):mustP (BS.mk 1 93) ((6,[93],a3)::t::l)=some (t::l):=by kernel_rfl
theorem mk_ex (a4:Nat) (t:Tok) (l:List Tok):isP (BS.mk 8 6073459554577832005) ((5,[69,88,80,76,73,67,73,84],a4)::t::l)=(true,t::l):=by kernel_rfl
theorem mk_xi (a4:Nat) (t:Tok) (l:List Tok):isP (BS.mk 8 6073459554577832005) ((5,[73,77,80,76,73,67,73,84],a4)::t::l)=(false,(5,[73,77,80,76,73,67,73,84],a4)::t::l):=by kernel_rfl
theorem mk_im (a4:Nat) (t:Tok) (l:List Tok):isP (BS.mk 8 6073459554577829193) ((5,[73,77,80,76,73,67,73,84],a4)::t::l)=(true,t::l):=by kernel_rfl
theorem mark_E {w:List Nat} {a1 a2 a3 a4:Nat} {t5:Tok} {l:List Tok} (h:mBad w=false):markP ((6,[91],a1)::(3,w,a2)::(6,[93],a3)::(5,[69,88,80,76,73,67,73,84],a4)::t5::l)=some ((true,numI w,1),t5::l):=by
 have h':(ltF (numI w) (Int.ofNat 0) || ltF (Int.ofNat 268435456) (numI w))=false:=h
 unfold markP
 simp only[mk_lk,mk_num,Option.bind_some,h',mk_rk,mk_ex]
theorem mark_I {w:List Nat} {a1 a2 a3 a4:Nat} {t5:Tok} {l:List Tok} (h:mBad w=false):markP ((6,[91],a1)::(3,w,a2)::(6,[93],a3)::(5,[73,77,80,76,73,67,73,84],a4)::t5::l)=some ((true,numI w,2),t5::l):=by
 have h':(ltF (numI w) (Int.ofNat 0) || ltF (Int.ofNat 268435456) (numI w))=false:=h
 unfold markP
 simp only[mk_lk,mk_num,Option.bind_some,h',mk_rk,mk_xi,mk_im]
theorem asg_step {T:TypT} {n:Nat} {az:List (List Nat)} {ks:List Nat} {ns ns':List NodeS} {x:List Nat} {p q i:Nat} {t:Tok} {l l':List Tok} (ha:az.length<40) (hT:T 0 (t::l) ns=some (i,l',ns')):asgP T (n+1) az ks ns ((1,x,p)::(6,[58,58,61],q)::t::l)=asgP T n (az++[x]) (ks++[i]) ns' l':=by
 have h1:isP (BS.mk 3 4476485) ((1,x,p)::(6,[58,58,61],q)::t::l)=(false,(1,x,p)::(6,[58,58,61],q)::t::l):=by kernel_rfl
 have h2:kindP 1 ((1,x,p)::(6,[58,58,61],q)::t::l)=some (x,(6,[58,58,61],q)::t::l):=by kernel_rfl
 have h3:mustP (BS.mk 3 4012602) ((6,[58,58,61],q)::t::l)=some (t::l):=by kernel_rfl
 have h4:decide (40≤az.length)=false:=decide_eq_false (by omega)
 show (match isP (BS.mk 3 4476485) ((1,x,p)::(6,[58,58,61],q)::t::l)with
  | (true,l1)=>some (az,ks,ns,l1)
  | (false,l1)=>(kindP 1 l1).bind fun a=>match decide (40≤az.length)with
   | true=>none
   | false=>(mustP (BS.mk 3 4012602) a.2).bind fun l2=>(T 0 l2 ns).bind fun t=>asgP T n (az++[a.1]) (ks++[t.1]) t.2.2 t.2.1)=_
 simp only[h1,h2,Option.bind_some,h4,h3,hT]
theorem asg_end (T:TypT) (n:Nat) (az:List (List Nat)) (ks:List Nat) (ns:List NodeS) (p q:Nat):asgP T (n+1) az ks ns [(5,[69,78,68],p),(0,[],q)]=some (az,ks,ns,[(0,[],q)]):=by kernel_rfl
theorem mod_step (T:TypT) (p0 p1 p2 p3:Nat) (t:Tok) (l:List Tok):modP T ((1,[77],p0)::(5,[68,69,70,73,78,73,84,73,79,78,83],p1)::(6,[58,58,61],p2)::(5,[66,69,71,73,78],p3)::t::l)=(asgP T 50 [] [] [] (t::l)).bind fun r=>match r.2.2.2 with
 | []=>none
 | e::_=>match decide (e.1=0)with
  | true=>some ⟨[77],0,r.1,r.2.1,r.2.2.1⟩
  | false=>none:=by kernel_rfl
theorem base_1 (T:TypT) (v:Int) (m p0 q1 q2 x:Nat) (l:List Tok) (ns:List NodeS):baseP T 0 (nodeM (true,v,m)) ((5,[66,79,79,76,69,65,78],p0)::(1,[x],q1)::(6,[58,58,61],q2)::l) ns=some (⟨1,[],true,v,m,⟨false,false,false,false,0,0⟩,[],[],0,false,0⟩,(1,[x],q1)::(6,[58,58,61],q2)::l,ns):=by kernel_rfl
theorem base_2 (T:TypT) (v:Int) (m p0 q1 q2 x:Nat) (l:List Tok) (ns:List NodeS):baseP T 0 (nodeM (true,v,m)) ((5,[73,78,84,69,71,69,82],p0)::(1,[x],q1)::(6,[58,58,61],q2)::l) ns=some (⟨2,[],true,v,m,⟨false,false,false,false,0,0⟩,[],[],0,false,0⟩,(1,[x],q1)::(6,[58,58,61],q2)::l,ns):=by kernel_rfl
theorem base_5 (T:TypT) (v:Int) (m p0 p1 q1 q2 x:Nat) (l:List Tok) (ns:List NodeS):baseP T 0 (nodeM (true,v,m)) ((5,[79,67,84,69,84],p0)::(5,[83,84,82,73,78,71],p1)::(1,[x],q1)::(6,[58,58,61],q2)::l) ns=some (⟨5,[],true,v,m,⟨false,false,false,false,0,0⟩,[],[],0,false,0⟩,(1,[x],q1)::(6,[58,58,61],q2)::l,ns):=by kernel_rfl
theorem base_4 (T:TypT) (v:Int) (m p0 q1 q2:Nat) (ns:List NodeS):baseP T 0 (nodeM (true,v,m)) ((5,[78,85,76,76],p0)::(5,[69,78,68],q1)::[(0,[],q2)]) ns=some (⟨4,[],true,v,m,⟨false,false,false,false,0,0⟩,[],[],0,false,0⟩,[(5,[69,78,68],q1),(0,[],q2)],ns):=by kernel_rfl
theorem mod_of {T:TypT} {p0 p1 p2 p3 q:Nat} {t:Tok} {l:List Tok} {az:List (List Nat)} {ks:List Nat} {ns:List NodeS} (h:asgP T 50 [] [] [] (t::l)=some (az,ks,ns,[(0,[],q)])):modP T ((1,[77],p0)::(5,[68,69,70,73,78,73,84,73,79,78,83],p1)::(6,[58,58,61],p2)::(5,[66,69,71,73,78],p3)::t::l)=some ⟨[77],0,az,ks,ns⟩:=by
 rw[mod_step,h];rfl
theorem dl_mod (ex:Bool) (len:Nat) {w:List Nat} (h:mBad w=false):modP (typP 2) (dlToks ex len w)=some (dlMd ex (numI w)):=by
 cases ex with
 | true=>
  unfold dlToks dl0T dlE0T dlE1T dlE2T dlE3T
  refine mod_of (q:=len) ?_
  refine(asg_step (n:=49) (by decide) (typ_mk (T:=typP 1) (d:=0) rfl (by decide) (by simp) (mark_E h) (base_1 _ _ _ _ _ _ _ _ _))).trans ?_
  refine(asg_step (n:=48) (by decide) (typ_mk (T:=typP 1) (d:=0) rfl (by decide) (by simp) (mark_E h) (base_2 _ _ _ _ _ _ _ _ _))).trans ?_
  refine(asg_step (n:=47) (by decide) (typ_mk (T:=typP 1) (d:=0) rfl (by decide) (by simp) (mark_E h) (base_5 _ _ _ _ _ _ _ _ _ _))).trans ?_
  refine(asg_step (n:=46) (by decide) (typ_mk (T:=typP 1) (d:=0) rfl (by decide) (by simp) (mark_E h) (base_4 _ _ _ _ _ _ _))).trans ?_
  exact asg_end _ _ _ _ _ _ _
 | false=>
  unfold dlToks dl0T dlI0T dlI1T dlI2T dlI3T
  refine mod_of (q:=len) ?_
  refine(asg_step (n:=49) (by decide) (typ_mk (T:=typP 1) (d:=0) rfl (by decide) (by simp) (mark_I h) (base_1 _ _ _ _ _ _ _ _ _))).trans ?_
  refine(asg_step (n:=48) (by decide) (typ_mk (T:=typP 1) (d:=0) rfl (by decide) (by simp) (mark_I h) (base_2 _ _ _ _ _ _ _ _ _))).trans ?_
  refine(asg_step (n:=47) (by decide) (typ_mk (T:=typP 1) (d:=0) rfl (by decide) (by simp) (mark_I h) (base_5 _ _ _ _ _ _ _ _ _ _))).trans ?_
  refine(asg_step (n:=46) (by decide) (typ_mk (T:=typP 1) (d:=0) rfl (by decide) (by simp) (mark_I h) (base_4 _ _ _ _ _ _ _))).trans ?_
  exact asg_end _ _ _ _ _ _ _
theorem dl_ok (ex:Bool) (v:Int):MdOk (dlMd ex v):=by
 refine⟨fun nd h=>?_,⟨show 4≤300 by decide,show 4≤40 by decide⟩,rfl,fun i hi'=>?_⟩
 ·have h:nd=dlNd ex v 1∨nd=dlNd ex v 2∨nd=dlNd ex v 5∨nd=dlNd ex v 4:=by simpa[dlMd]using h
  rcases h with h|h|h|h <;>
  ·subst h
   first
    | exact⟨show (1:Nat)≠11 by decide,show (1:Nat)≤10 by decide,show (0:Nat)≤5000 by decide⟩
    | exact⟨show (2:Nat)≠11 by decide,show (2:Nat)≤10 by decide,show (0:Nat)≤5000 by decide⟩
    | exact⟨show (5:Nat)≠11 by decide,show (5:Nat)≤10 by decide,show (0:Nat)≤5000 by decide⟩
    | exact⟨show (4:Nat)≠11 by decide,show (4:Nat)≤10 by decide,show (0:Nat)≤5000 by decide⟩
 ·have hi':i<4:=hi'
  have:i=0∨i=1∨i=2∨i=3:=by omega
  rcases this with rfl|rfl|rfl|rfl<;>rfl
def dlTy (ex:Bool) (n kind:Nat):TyS:=⟨kind,wrapP n (!ex) [(0,uniP kind)],⟨false,false,false,false,0,0⟩,[],[],0,false,0⟩
theorem node_mk {m:ModS} {T:NodT} {d k n:Nat} {tl:List TyS} {nd:NodeS} (hn:m.ns[k]? = some nd) (h11:decide (nd.kind=11)=false) (hm:madeS T d nd tl=some (tl.length,tl++[mkTy nd])) (hh:nd.mHas=true) (hv:nd.mNum=Int.ofNat n) (hle:n≤268435456):nodeK m T d k tl=some (tl.length,tl++[{ mkTy nd with tags:=wrapP n (markI m nd) [(0,uniP nd.kind)] }]):=by
 unfold nodeK
 rw[hn]
 dsimp only
 rw[h11,hm]
 show (match nd.mHas with
   | false=>some (tl.length,tl++[mkTy nd])
   | true=>match (tl++[mkTy nd])[tl.length]? with
    | none=>none
    | some t=>match decide (t.tags.length=1)&&(decide (0≤nd.mNum)&&decide (nd.mNum≤268435456))with
     | false=>none
     | true=>some (tl.length,(tl++[mkTy nd]).set tl.length { t with tags:=wrapP nd.mNum.toNat (markI m nd) t.tags }))=_
 rw[hh]
 have e:(tl++[mkTy nd])[tl.length]? = some (mkTy nd):=by simp
 dsimp only
 rw[e]
 dsimp only
 have c:(decide ((mkTy nd).tags.length=1)&&(decide (0≤nd.mNum)&&decide (nd.mNum≤268435456)))=true:=by
  rw[hv]
  simp only[Bool.and_eq_true,decide_eq_true_eq,Int.ofNat_eq_natCast]
  exact⟨rfl,by omega,by omega⟩
 rw[c,hv]
 dsimp only
 rw[List.set_append_right _ _ (Nat.le_refl _),Nat.sub_self]
 rfl
theorem dl_roots (ex:Bool) {n:Nat} (hn:n≤268435456):rootsP (nodK (dlMd ex (Int.ofNat n)) 2) [0,1,2,3] [] []=some ([0,1,2,3],[dlTy ex n 1,dlTy ex n 2,dlTy ex n 5,dlTy ex n 4]):=by
 have q:∀(kd k:Nat) (tl:List TyS),(dlMd ex (Int.ofNat n)).ns[k]? = some (dlNd ex (Int.ofNat n) kd)→decide (kd=11)=false→(∀T,madeS T 0 (dlNd ex (Int.ofNat n) kd) tl=some (tl.length,tl++[mkTy (dlNd ex (Int.ofNat n) kd)]))→nodK (dlMd ex (Int.ofNat n)) 2 0 k tl=some (tl.length,tl++[dlTy ex n kd]):=fun kd k tl h1 h2 h3=>by
  refine(node_mk (m:=dlMd ex (Int.ofNat n)) (T:=nodK (dlMd ex (Int.ofNat n)) 1) (d:=0) (n:=n) h1 h2 (h3 _) rfl rfl hn).trans ?_
  cases ex<;>rfl
 have q0:=q 1 0 [] rfl rfl (fun T=>rfl)
 have q1:=q 2 1 [dlTy ex n 1] rfl rfl (fun T=>rfl)
 have q2:=q 5 2 [dlTy ex n 1,dlTy ex n 2] rfl rfl (fun T=>rfl)
 have q3:=q 4 3 [dlTy ex n 1,dlTy ex n 2,dlTy ex n 5] rfl rfl (fun T=>rfl)
 show (nodK (dlMd ex (Int.ofNat n)) 2 0 0 []).bind (fun r=>rootsP (nodK (dlMd ex (Int.ofNat n)) 2) [1,2,3] r.2 ([]++[r.1]))=_
 rw[q0]
 show (nodK (dlMd ex (Int.ofNat n)) 2 0 1 [dlTy ex n 1]).bind (fun r=>rootsP (nodK (dlMd ex (Int.ofNat n)) 2) [2,3] r.2 ([0]++[r.1]))=_
 rw[q1]
 show (nodK (dlMd ex (Int.ofNat n)) 2 0 2 [dlTy ex n 1,dlTy ex n 2]).bind (fun r=>rootsP (nodK (dlMd ex (Int.ofNat n)) 2) [3] r.2 ([0,1]++[r.1]))=_
 rw[q2]
 show (nodK (dlMd ex (Int.ofNat n)) 2 0 3 [dlTy ex n 1,dlTy ex n 2,dlTy ex n 5]).bind (fun r=>rootsP (nodK (dlMd ex (Int.ofNat n)) 2) [] r.2 ([0,1,2]++[r.1]))=_
 rw[q3]
 rfl
def octN (x:Nat):Nat→List Nat
 | 0=>[]
 | n+1=>(x / 2 ^ (8*n)) % 256::octN x n
theorem octN_length (x:Nat):∀n,(octN x n).length=n
 | 0=>rfl
 | n+1=>by simp[octN,octN_length x n]
def toU (v:Int):Nat:=(v % 18446744073709551616).toNat
theorem toU_eq (v:Int):(toU v:Int)=v % 18446744073709551616:=Int.toNat_of_nonneg (Int.emod_nonneg _ (by decide))
theorem toU_wrap (v:Int):wrapF .u64 v=Int.ofNat (toU v):=by rw[wrap_u64];exact(toU_eq v).symm
theorem octBE_N (v:Int):∀n:Nat,n≤8→octBE v n=nI (octN (toU v) n)
 | 0,_=>rfl
 | n+1,h=>by
  show byteAt v n::octBE v n=Int.ofNat ((toU v / 2 ^ (8*n)) % 256)::nI (octN (toU v) n)
  rw[octBE_N v n (by omega),←byte_u64 v (show n<8 by omega),toU_wrap]
  congr 1
  rw[shr_u64 _ (by omega),wrap_u8]
  show (Int.ofNat (toU v) / 2 ^ (8*n)) % 256=_
  have:((2 ^ (8*n):Nat):Int)=(2:Int) ^ (8*n):=by simp
  rw[←this];rfl
def lenU (x:Nat):Nat:=if x<2 ^ 8 then 1 else if x<2 ^ 16 then 2 else if x<2 ^ 24 then 3 else if x<2 ^ 32 then 4 else if x<2 ^ 40 then 5 else if x<2 ^ 48 then 6 else if x<2 ^ 56 then 7 else 8
theorem lenU_range (x:Nat):1≤lenU x∧lenU x≤8:=by
 unfold lenU
 repeat' split
 all_goals omega
theorem lenU_less (x:Nat) {n:Nat} (h1:1≤n) (h2:n<lenU x):2 ^ (8*n)≤x:=by
  unfold lenU at h2
  repeat' split at h2
  all_goals first
    | omega
    | (have:n=1∨n=2∨n=3∨n=4∨n=5∨n=6∨n=7:=by omega
       rcases this with rfl|rfl|rfl|rfl|rfl|rfl|rfl<;>omega)
theorem lenU_at (x:Nat) (h:lenU x<8):x<2 ^ (8*lenU x):=by
 unfold lenU at h ⊢
 repeat' split
 all_goals first | assumption | (exfalso;simp_all)
def Makes (F:List V→H→Ans) (args:List V) (σ:H) (l:List Int):Prop:=∃u σ',F args σ=some (u,σ')∧Nb σ σ' u l∧Fr Nowhere σ σ'
def sOct (v:Int):List Int:=octBE v (lenS v)
def SpO8 (F:List V→H→Ans):Prop:=∀(σ:H) (v:Int) (n:Nat),Tidy σ→n≤8→Makes F [.int .u64 (wrapF .u64 v),.int .i64 (Int.ofNat n)] σ (octBE v n)
def SpSigned (F:List V→H→Ans):Prop:=∀{σ:H} {v:Int},In64i v→Tidy σ→Makes F [.int .i64 v] σ (nI (octN (toU v) (lenS v)))
def SpUnsigned (F:List V→H→Ans):Prop:=∀{σ:H} {x:Nat},x<18446744073709551616→Tidy σ→Makes F [.int .u64 (Int.ofNat x)] σ (nI (octN x (lenU x)))
section
variable {E:List (Nat × Blk)} {D:Den} {W:DrawFn} {N:Nat} {σ σ':H}
theorem eq_of (a b:Int):eqF a b=decide (a=b):=by rw[eqF_eq];rw[Bool.eq_iff_iff];simp
theorem octets_F {v:Int} {n:Nat} (hn:n≤8) (hN:8<N) (ht:Tidy σ) :
  ∃u σ',F60 E D W N [.int .u64 (wrapF .u64 v),.int .i64 (Int.ofNat n)] σ=some (u,σ')∧Nb σ σ' u (octBE v n)∧Fr Nowhere σ σ':=by
 obtain⟨σ1,e1,f1,a1,n1⟩:=mk_new ht (List.replicate n [V.int .u8 (Int.ofNat 0)]).flatten
 have hz:(List.replicate n [V.int .u8 (Int.ofNat 0)]).flatten=u8s (List.replicate n (Int.ofNat 0)):=by
  simp[u8s,List.flatten_replicate_singleton]
 have loop:∀(m n' i:Nat) (σ1:H),i+m=n→m<n'→Fr Nowhere σ σ1→σ.next<σ1.next→Atc σ1 σ.next (u8s ((octBE v n).take i++List.replicate m (Int.ofNat 0))) →
   ∃σ',L60_2 E D W N n' (wrapF .u64 v) (Int.ofNat n) (.sl σ.next 0 n (.ex n)) (Int.ofNat n) (Int.ofNat i) σ1=some (.sl σ.next 0 n (.ex n),σ')∧Atc σ' σ.next (u8s (octBE v n))∧Fr Nowhere σ σ':=by
  intro m
  induction m with
  | zero=>
   intro n' i σ1 hi hn' f1 hx ha
   obtain⟨n',rfl⟩:∃k,n'=k+1:=⟨n'-1,by omega⟩
   refine⟨σ1,?_,?_,f1⟩
   ·show T60_2 E D W _ _ (wrapF .u64 v) (Int.ofNat n) (.sl σ.next 0 n (.ex n)) (Int.ofNat n) (Int.ofNat i) σ1=_
    unfold T60_2
    rw[ltF_nat,decide_eq_false (by omega),condK_false];rfl
   ·rw[List.take_of_length_le (by rw[octBE_length];omega)]at ha
    simpa using ha
  | succ m ih=>
   intro n' i σ1 hi hn' f1 hx ha
   obtain⟨n',rfl⟩:∃k,n'=k+1:=⟨n'-1,by omega⟩
   have hlt:i<n:=by omega
   obtain⟨σ2,e2,f2,a2⟩:=mk_set f1.tidy ha (spl (u8s ((octBE v n).take i++List.replicate (m+1) (Int.ofNat 0))) i [.int .u8 (byteAt v (n-1-i))])
   have hsp:spl (u8s ((octBE v n).take i++List.replicate (m+1) (Int.ofNat 0))) i [.int .u8 (byteAt v (n-1-i))]=u8s ((octBE v n).take (i+1)++List.replicate m (Int.ofNat 0)):=by
    have hl:((octBE v n).take i).length=i:=by rw[List.length_take,octBE_length];omega
    have:=spl_at (u8s ((octBE v n).take i)) (.int .u8 (Int.ofNat 0)) (u8s (List.replicate m (Int.ofNat 0))) (.int .u8 (byteAt v (n-1-i)))
    rw[u8s_length,hl]at this
    rw[u8s_app,List.replicate_succ,show u8s (Int.ofNat 0::List.replicate m (Int.ofNat 0)) = .int .u8 (Int.ofNat 0)::u8s (List.replicate m (Int.ofNat 0))from rfl,this]
    rw[List.take_add_one,octBE_get v hlt]
    simp[u8s]
   rw[hsp]at e2 a2
   have f02:=f1.trans f2 (fun b hb h=>by have h:b=σ.next:=h;omega)
   obtain⟨σ3,g3,h3,f3⟩:=ih n' (i+1) σ2 (by omega) (by omega) f02 (by have:=f2.le;omega) a2
   refine⟨σ3,?_,h3,f3⟩
   have d1:decide (i<n)=true:=decide_eq_true hlt
   have en:mulF .i64 (Int.ofNat 8) (subF .i64 (subF .i64 (Int.ofNat n) (Int.ofNat 1)) (Int.ofNat i))=Int.ofNat (8*(n-1-i)):=by
    rw[subF_nat (by omega) (by omega),subF_nat (by omega) (by omega)]
    exact wrapF_nat (k := .i64) (m:=8*(n-1-i)) (show 8*(n-1-i)≤9223372036854775807 by omega)
   have st:∀κ:H→Ans,stK 1 σ.next i (.int .u8 (byteAt v (n-1-i))) σ1 κ=κ σ2:=fun κ=>by
    rw[stK_at ha (by
     simp only[cells_int,List.length_cons,List.length_nil,u8s_length,List.length_append,List.length_take,octBE_length,List.length_replicate,Bool.and_eq_true]
     refine⟨⟨rfl,?_⟩,rfl⟩
     rw[Nat.ble_eq]
     show i+1≤_
     omega)]
    rw[cells_int,hsp,e2]
   have ia:∀κ:Nat→Nat→Ans,iaddrSK 1 (.sl σ.next 0 n (.ex n)) (Int.ofNat i) κ=κ σ.next i:=fun κ=>by
    rw[iaddrSK_lt hlt]
    show κ σ.next (0+i*1)=_
    rw[Nat.zero_add,Nat.mul_one]
   have key:∀K1 K2,T60_2 E D W K1 K2 (wrapF .u64 v) (Int.ofNat n) (.sl σ.next 0 n (.ex n)) (Int.ofNat n) (Int.ofNat i) σ1=K2 (wrapF .u64 v) (Int.ofNat n) (.sl σ.next 0 n (.ex n)) (Int.ofNat n) (Int.ofNat (i+1)) σ2:=by
    intro K1 K2
    unfold T60_2
    rw[ltF_nat,d1,condK_true,en,nnK_nat,ia,byte_u64 v (by omega),st,addF_nat (by omega)]
   exact(key _ _).trans g3
 rw[hz]at a1
 obtain⟨σ',g,a,f⟩:=loop n N 0 σ1 (by omega) (by omega) f1 (by omega) (by rw[List.take_zero,List.nil_append];exact a1)
 refine⟨_,σ',?_,⟨.inr ⟨σ.next,by rw[octBE_length],a,by rw[u8s_length];simp⟩,fun b hb=>by cases hb;exact Nat.le_refl _⟩,f⟩
 show T60_0 E D W (L60_2 E D W N N) (wrapF .u64 v) (Int.ofNat n) σ=_
 unfold T60_0
 rw[nnK_nat,nnK_nat,chk_true (by simp only[Bool.and_eq_true,Nat.ble_eq];refine⟨⟨Nat.le_refl _,?_⟩,?_⟩<;>omega)]
 show L60_2 E D W N N _ _ _ _ _ (newB σ (.cells _))=_
 rw[e1]
 exact g
theorem signed_F {v:Int} (hv:In64i v) (hO:∀(σ:H) (n:Nat),Tidy σ→n≤8→Makes (D 60) [.int .u64 (wrapF .u64 v),.int .i64 (Int.ofNat n)] σ (octBE v n)) (hN:8<N) (ht:Tidy σ):Makes (F35 E D W N) [.int .i64 v] σ (sOct v):=by
 have hr:=lenS_range v
 have loop:∀(m n' n:Nat),n+m=lenS v→1≤n→m<n'→L35_2 E D W N n' v (Int.ofNat n) σ=J35_1 E D W N v (Int.ofNat (lenS v)) σ:=by
  intro m
  induction m with
  | zero=>
   intro n' n hn h1 hn'
   obtain⟨n',rfl⟩:∃k,n'=k+1:=⟨n'-1,by omega⟩
   have hn:n=lenS v:=by omega
   subst hn
   have en:subF .i64 (mulF .i64 (Int.ofNat 8) (Int.ofNat (lenS v))) (Int.ofNat 1)=Int.ofNat (8*lenS v-1):=by
    rw[show mulF .i64 (Int.ofNat 8) (Int.ofNat (lenS v))=Int.ofNat (8*lenS v)from wrapF_nat (k := .i64) (m:=8*lenS v) (show _≤9223372036854775807 by omega),subF_nat (by omega) (by omega)]
   have hw:=lenS_enough hv
   unfold enough at hw
   show T35_2 E D W _ _ v (Int.ofNat (lenS v)) σ=_
   unfold T35_2
   rw[en]
   simp -implicitDefEqProofs only [nnK_nat,join_and,shr_i64 v (show 8*lenS v-1≤64 by omega),ltF_nat,eq_of,show Int.ofNat 0=(0:Int)from rfl,show Int.negSucc 0=(-1:Int)from rfl]
   rw[condK_iff]
   rw[Bool.or_eq_true]at hw
   rcases hw with h|h
   ·rw[h];simp
   ·rw[h];simp
  | succ m ih=>
   intro n' n hn h1 hn'
   obtain⟨n',rfl⟩:∃k,n'=k+1:=⟨n'-1,by omega⟩
   have en:subF .i64 (mulF .i64 (Int.ofNat 8) (Int.ofNat n)) (Int.ofNat 1)=Int.ofNat (8*n-1):=by
    rw[show mulF .i64 (Int.ofNat 8) (Int.ofNat n)=Int.ofNat (8*n)from wrapF_nat (k := .i64) (m:=8*n) (show _≤9223372036854775807 by omega),subF_nat (by omega) (by omega)]
   have hw:=lenS_less v h1 (by omega)
   unfold enough at hw
   rw[Bool.or_eq_false_iff]at hw
   have key:∀K1 K2,T35_2 E D W K1 K2 v (Int.ofNat n) σ=K2 v (Int.ofNat (n+1)) σ:=by
    intro K1 K2
    unfold T35_2
    rw[en]
    simp -implicitDefEqProofs only [nnK_nat,join_and,shr_i64 v (show 8*n-1≤64 by omega),ltF_nat,eq_of,show Int.ofNat 0=(0:Int)from rfl,show Int.negSucc 0=(-1:Int)from rfl,hw.1,hw.2,show decide (n<8)=true from decide_eq_true (by omega),Bool.not_false,Bool.and_true,condK_true]
    simp -implicitDefEqProofs only [join_id,condK_true,show addF .i64 (Int.ofNat n) (Int.ofNat 1)=Int.ofNat (n+1)from addF_nat (by omega)]
   refine(key _ _).trans ?_
   exact ih n' (n+1) (by omega) (by omega) (by omega)
 obtain⟨u,σ',g,hu,f⟩:=hO σ (lenS v) ht hr.2
 refine⟨u,σ',?_,hu,f⟩
 refine(show F35 E D W N [.int .i64 v] σ=L35_2 E D W N N v (Int.ofNat 1) σ from rfl).trans ?_
 rw[loop (lenS v-1) N 1 (by omega) (Nat.le_refl _) (by omega)]
 show T35_1 E D W v (Int.ofNat (lenS v)) σ=_
 unfold T35_1
 simp -implicitDefEqProofs only [↓g,↓callK_some_,↓rtOne_of hu.1.one]
theorem o8_F (hN:8<N):SpO8 (F60 E D W N):=fun σ v n ht hn=>octets_F hn hN ht
theorem sgn_F (hO:SpO8 (D 60)) (hN:8<N):SpSigned (F35 E D W N):=by
 intro σ v hv ht
 have:=signed_F (E:=E) (W:=W) hv (fun σ n h1 h2=>hO σ v n h1 h2) hN ht
 unfold sOct at this
 rwa [octBE_N v _ (lenS_range v).2]at this
theorem uns_F (hO:SpO8 (D 60)) (hN:8<N):SpUnsigned (F117 E D W N):=by
 intro σ x hx ht
 have hr:=lenU_range x
 have tx:toU (x:Int)=x:=by
  unfold toU
  rw[Int.emod_eq_of_lt (by omega) (by omega)];rfl
 have ew:wrapF .u64 (x:Int)=Int.ofNat x:=by rw[toU_wrap,tx]
 have sh:∀n:Nat,n≤8→eqF (shrF .u64 (Int.ofNat x) (8*n)) (Int.ofNat 0)=decide (x / 2 ^ (8*n)=0):=fun n hn=>by
  rw[shr_u64 _ (by omega)]
  have:((2 ^ (8*n):Nat):Int)=(2:Int) ^ (8*n):=by simp
  rw[←this]
  exact eqF_nat (x / 2 ^ (8*n)) 0
 have ml:∀n:Nat,n≤8→mulF .i64 (Int.ofNat 8) (Int.ofNat n)=Int.ofNat (8*n):=fun n hn=>wrapF_nat (k := .i64) (m:=8*n) (show _≤9223372036854775807 by omega)
 have loop:∀(m n' n:Nat),n+m=lenU x→1≤n→m<n'→L117_2 E D W N n' (Int.ofNat x) (Int.ofNat n) σ=J117_1 E D W N (Int.ofNat x) (Int.ofNat (lenU x)) σ:=by
  intro m
  induction m with
  | zero=>
   intro n' n hn h1 hn'
   obtain⟨n',rfl⟩:∃k,n'=k+1:=⟨n'-1,by omega⟩
   have hn:n=lenU x:=by omega
   subst hn
   show T117_2 E D W _ _ (Int.ofNat x) (Int.ofNat (lenU x)) σ=_
   have key:∀K1 R2,T117_2 E D W K1 R2 (Int.ofNat x) (Int.ofNat (lenU x)) σ=K1 (Int.ofNat x) (Int.ofNat (lenU x)) σ:=by
    intro K1 R2
    unfold T117_2
    cases h8:decide (lenU x<8)with
    | true=>
     have h0:decide (x / 2 ^ (8*lenU x)=0)=true:=decide_eq_true (Nat.div_eq_of_lt (lenU_at x (of_decide_eq_true h8)))
     simp -implicitDefEqProofs only [↓rP,rA,Nat.reduceEqDiff,Nat.reduceLT,Nat.reduceLeDiff,h8,ml _ hr.2,↓nnK_nat,sh _ hr.2,h0]
    | false=>simp -implicitDefEqProofs only [↓rP,rA,Nat.reduceEqDiff,Nat.reduceLT,Nat.reduceLeDiff,h8]
   exact key _ _
  | succ m ih=>
   intro n' n hn h1 hn'
   obtain⟨n',rfl⟩:∃k,n'=k+1:=⟨n'-1,by omega⟩
   have h8:decide (n<8)=true:=decide_eq_true (by omega)
   have h0:decide (x / 2 ^ (8*n)=0)=false:=decide_eq_false fun e=>by
    have:=lenU_less x h1 (by omega)
    have:=(Nat.div_eq_zero_iff).1 e
    have hp:0<2 ^ (8*n):=Nat.pow_pos (by decide)
    omega
   have key:∀K1 R2,T117_2 E D W K1 R2 (Int.ofNat x) (Int.ofNat n) σ=R2 (Int.ofNat x) (Int.ofNat (n+1)) σ:=by
    intro K1 R2
    unfold T117_2
    simp -implicitDefEqProofs only [↓rP,rA,Nat.reduceEqDiff,Nat.reduceLT,Nat.reduceLeDiff,h8,ml n (by omega),↓nnK_nat,sh n (by omega),h0,addF_nat (show n+1≤9223372036854775807 by omega)]
   refine(key _ _).trans ?_
   exact ih n' (n+1) (by omega) (by omega) (by omega)
 obtain⟨u,σ',g,hu,f⟩:=hO σ x (lenU x) ht hr.2
 rw[ew]at g
 rw[octBE_N x _ hr.2,tx]at hu
 refine⟨u,σ',?_,hu,f⟩
 refine(show F117 E D W N [.int .u64 (Int.ofNat x)] σ=L117_2 E D W N N (Int.ofNat x) (Int.ofNat 1) σ from rfl).trans ?_
 rw[loop (lenU x-1) N 1 (by omega) (Nat.le_refl _) (by omega)]
 show T117_1 E D W (Int.ofNat x) (Int.ofNat (lenU x)) σ=_
 unfold T117_1
 simp -implicitDefEqProofs only [↓rP,rS,↓g,↓rtOne_of hu.1.one]
end
theorem mkB {σ:H} (ht:Tidy σ) (z:List V):∃σ1,newB σ (.cells z)=σ1∧Fr Nowhere σ σ1∧Atc σ1 σ.next z∧σ1.next=σ.next+1:=⟨_,rfl,Fr.new ht _,Atc_newB _,rfl⟩
structure RdS (E:List (Nat × Blk)) (σ:H) (esz n:Nat) (x:V) (m:List V):Prop where
 k:∀κ:Nat→List V→Ans,srcK E σ esz x κ=κ n m
 c:srcCells E σ esz x=some (n,m)
 l:m.length=n*esz
 o:x.one=true
 s:∀κ:Nat→Ans,slenK x κ=κ n
 lt:∀b,Names x b→b<σ.next
theorem RdS.of {E:List (Nat × Blk)} {σ:H} {esz n:Nat} {x:V} {m:List V} (h:Src σ esz n x m) (ht:Tidy σ):RdS E σ esz n x m:=⟨fun κ=>h.srcK,h.cells,h.length,h.one,fun κ=>h.slen,fun b hb=>h.lt ht hb⟩
section
variable {E:List (Nat × Blk)} {σ σ':H} {l m:List V}
theorem app_noneR {esz bytes k:Nat} {v x:V} {κ:V→H→Ans} (h:Dst σ esz k v l) (hx:RdS E σ esz 0 x m):appK E esz bytes v x σ κ=κ v σ:=by
 unfold appK
 rw[hx.k]
 rcases h with (⟨rfl,rfl,rfl⟩|⟨b,rfl,ha,_,hl⟩)|⟨b,rfl,ha,hl⟩
 ·show callK (appendV E esz bytes .nils x σ) κ=_
  unfold appendV;rw[hx.c];rfl
 ·rfl
 ·show callK (appendV E esz bytes (.sl b 0 k (.ex k)) x σ) κ=_
  unfold appendV;rw[hx.c]
  simp only[]
  rw[if_pos (show Nat.ble (k+0) k=true from ble_of (Nat.le_refl _))]
  rfl
theorem app_someR {esz bytes k n:Nat} {v x:V} (h:Dst σ esz k v l) (ht:Tidy σ) (hx:RdS E σ esz n x m) (hn:0<n) (ho:allOne m=true) (hg:growable (k+n) bytes=true) :
  ∃σ',(∀κ:V→H→Ans,appK E esz bytes v x σ κ=κ (.sl σ.next 0 (k+n) (.op esz)) σ')∧Atc σ' σ.next (l++m)∧σ'.next=σ.next+1∧Fr (Names v) σ σ':=by
 obtain⟨n',rfl⟩:∃q,n=q+1:=⟨n-1,by omega⟩
 rcases h with (⟨rfl,rfl,rfl⟩|⟨b,rfl,ha,hk,hl⟩)|⟨b,rfl,ha,hl⟩
 ·refine⟨newB σ (.cells m),fun κ=>?_,by rw[List.nil_append];exact Atc_newB m,rfl,Fr.new ht _⟩
  unfold appK
  rw[hx.k]
  show callK (appendV E esz bytes .nils x σ) κ=_
  unfold appendV;rw[hx.c]
  simp only[]
  rw[Nat.zero_add]at hg ⊢
  rw[if_neg (by omega),if_pos hg]
  rfl
 ·refine⟨⟨σ.next+1,(σ.next,.cells (l++m))::drop σ.bl b⟩,fun κ=>?_,?_,rfl,?_⟩
  ·unfold appK
   rw[hx.k]
   show (match lookF σ.bl b with
    | some (.cells l)=>chk (Nat.beq l.length (k*esz)&&Nat.beq esz esz&&growable (k+(n'+1)) bytes&&allOne m) (forceD σ.bl b fun bl'=>κ (.sl σ.next 0 (k+(n'+1)) (.op esz)) ⟨σ.next+1,(σ.next,.cells (l++m))::bl'⟩)
    | _=>none)=_
   rw[show lookF σ.bl b=some (.cells l)from ha]
   simp only[]
   rw[chk_true (by rw[hg,ho,hl];simp),forceD_eq]
  ·show lookF ((σ.next,Blk.cells (l++m))::_) _=_
   rw[lookF_cons,if_pos rfl]
  ·refine⟨fun k' hk'=>?_,Nat.le_succ _,fun k' hk' hn=>?_⟩
   ·have hk2:σ.next+1≤k':=hk'
    show lookF ((σ.next,_)::drop σ.bl b) k'=none
    rw[lookF_cons,if_neg (by simp only[];omega),lookF_drop]
    split
    ·rfl
    ·exact ht k' (by omega)
   ·show lookF ((σ.next,_)::drop σ.bl b) k'=_
    rw[lookF_cons,if_neg (by simp only[];omega),lookF_drop,if_neg]
    intro hbk
    exact hn hbk.symm
 ·refine⟨newB σ (.cells (l++m)),fun κ=>?_,Atc_newB _,rfl,Fr.new ht _⟩
  unfold appK
  rw[hx.k]
  show callK (appendV E esz bytes (.sl b 0 k (.ex k)) x σ) κ=_
  unfold appendV;rw[hx.c]
  simp only[]
  rw[if_neg (show ¬Nat.ble (k+(n'+1)) k=true from fun h=>by rw[Nat.ble_eq]at h;omega),if_pos hg]
  have hr:rdN E σ b 0 (k*esz)=some l:=by
   unfold rdN rd
   rw[←lookF_eq,show lookF σ.bl b=some (.cells l)from ha]
   simp only[]
   rw[show Nat.ble (0+k*esz) l.length=true from ble_of (by omega)]
   rw[List.drop_zero,←hl,List.take_length];rfl
  rw[hr]
  rfl
theorem app_allR {esz bytes k n:Nat} {v x:V} (h:Dst σ esz k v l) (ht:Tidy σ) (hx:RdS E σ esz n x m) (ho:allOne m=true) (hg:growable (k+n) bytes=true) :
  ∃u σ',(∀κ:V→H→Ans,appK E esz bytes v x σ κ=κ u σ')∧Dst σ' esz (k+n) u (l++m)∧(∀b,Names u b→Names v b∨σ.next≤b)∧Fr (Names v) σ σ':=by
 cases n with
 | zero=>
  have hm:m=[]:=List.eq_nil_of_length_eq_zero (by rw[hx.l];omega)
  subst hm
  exact⟨v,σ,fun κ=>app_noneR h hx,by rw[List.append_nil];exact h,fun b hb => .inl hb,Fr.refl ht⟩
 | succ n=>
  obtain⟨σ',g,a,nx,f⟩:=app_someR h ht hx (Nat.succ_pos n) ho hg
  refine⟨_,σ',g,.inl (.inr ⟨σ.next,rfl,a,by omega,?_⟩),fun b hb => .inr (by cases hb;exact Nat.le_refl _),f⟩
  rw[List.length_append,h.length,hx.l,←Nat.add_mul]
end
def Bx (E:List (Nat × Blk)) (σ:H) (x:V) (l:List Int):Prop:=RdS E σ 1 l.length x (u8s l)
section
variable {E:List (Nat × Blk)} {D:Den} {W:DrawFn} {N:Nat} {σ σ0 σ1:H} {x v:V} {l m:List Int}
theorem Bx.of (h:By σ x l) (ht:Tidy σ):Bx E σ x l:=RdS.of h ht
theorem Bx.fr (h:Bx E σ x l) (f:Fr Nowhere σ σ1):Bx E σ1 x l:=by
 have rk:∀b,Names x b→∀κ:List V→Ans,rdK E σ1 b κ=rdK E σ b κ:=fun b hb κ=>by
  unfold rdK
  rw[f.same b (h.lt b hb) (fun h=>h)]
 have rn:∀b o n,Names x b→rdN E σ1 b o n=rdN E σ b o n:=fun b o n hb=>by
  unfold rdN rd
  simp only[←lookF_eq]
  rw[f.same b (h.lt b hb) (fun h=>h)]
 refine⟨fun κ=>?_,?_,h.l,h.o,h.s,fun b hb=>Nat.lt_of_lt_of_le (h.lt b hb) f.le⟩
 ·rw[←h.k κ]
  cases x with
  | sl b o n c=>exact rk b rfl _
  | _=>rfl
 ·rw[←h.c]
  cases x with
  | sl b o n c=>
   show (rdN E σ1 b o (n*1)).map _=(rdN E σ b o (n*1)).map _
   rw[rn b o _ rfl]
  | _=>rfl
theorem app_bx (h:Nb σ0 σ v l) (f0:Fr Nowhere σ0 σ) (hx:Bx E σ x m) (hs:l.length+m.length≤10000000) :
  ∃u σ',(∀κ:V→H→Ans,appK E 1 1 v x σ κ=κ u σ')∧Nb σ0 σ' u (l++m)∧Fr Nowhere σ0 σ'∧Fr (Names v) σ σ':=by
 obtain⟨u,σ',g,d,n,f⟩:=app_allR (bytes:=1) h.1 f0.tidy hx (u8s_one m) (by
  unfold growable
  simp only[Nat.mul_one,Bool.and_eq_true,Nat.ble_eq];omega)
 have hle:=f0.le
 refine⟨u,σ',g,⟨by rw[List.length_append,u8s_app];exact d,fun b hb=>?_⟩,f0.trans f (fun b hb hn=>by have:=h.2 b hn;omega),f⟩
 rcases n b hb with h'|h'
 ·exact h.2 b h'
 ·omega
end
def MakesB (F:List V→H→Ans) (args:List V) (σ:H) (l:List Int):Prop:=∃u σ',F args σ=some (u,σ')∧Nb σ σ' u l∧Fr Nowhere σ σ'
theorem and127 (k:IntKind) {x:Nat} (hb:7≤k.bits) (hx:x<2 ^ k.bits) (hw:∀m:Nat,m≤127→k.wrap m=Int.ofNat m):andF k (Int.ofNat x) (Int.ofNat 127)=Int.ofNat (x % 128):=by
 have h127:(127:Nat)<2 ^ k.bits:=Nat.lt_of_lt_of_le (show 127<2 ^ 7 by decide) (Nat.pow_le_pow_right (by decide) hb)
 rw[andF_eq,BitVec.toNat_and,ofInt_nat,ofInt_nat,Nat.mod_eq_of_lt hx,Nat.mod_eq_of_lt h127,show (127:Nat)=2 ^ 7-1 from rfl,Nat.and_two_pow_sub_one_eq_mod]
 exact hw _ (by have:=Nat.mod_lt x (show 0<2 ^ 7 by decide);omega)
theorem and127_64 {x:Nat} (hx:x≤18446744073709551615):andF .u64 (Int.ofNat x) (Int.ofNat 127)=Int.ofNat (x % 128):=and127 .u64 (by decide) (show x<2 ^ 64 by omega) fun m hm=>(wrapF_eq .u64 _).symm.trans (wrapF_nat (k := .u64) (show m≤18446744073709551615 by omega))
theorem and127_8 {x:Nat} (hx:x≤255):andF .u8 (Int.ofNat x) (Int.ofNat 127)=Int.ofNat (x % 128):=and127 .u8 (by decide) (show x<2 ^ 8 by omega) fun m hm=>(wrapF_eq .u8 _).symm.trans (wrapF_nat (k := .u8) (show m≤255 by omega))
theorem wrap8_nat (x:Nat):wrapF .u8 (Int.ofNat x)=Int.ofNat (x % 256):=by
 rw[wrap_u8];rfl
def grpI (k:Nat):List Int:=match decide (127<k)with
 | false=>[Int.ofNat k]
 | true=>[orF .u8 (Int.ofNat (k / 128)) (Int.ofNat 128),Int.ofNat (k % 128)]
def lenI (n:Nat):List Int:=match decide (255<n)with
 | false=>[Int.ofNat n]
 | true=>[Int.ofNat (n / 256),Int.ofNat (n % 256)]
theorem grpI_len (k:Nat):(grpI k).length≤2:=by unfold grpI;split<;>simp
theorem lenI_len (n:Nat):1≤(lenI n).length∧(lenI n).length≤2:=by unfold lenI;split<;>simp
def SpGrp (F:List V→H→Ans):Prop:=∀{σ:H} {k:Nat},Tidy σ→k<16384→MakesB F [.int .u64 (Int.ofNat k)] σ (grpI k)
def SpLn (F:List V→H→Ans):Prop:=∀{σ:H} {n:Nat},Tidy σ→n<65536→MakesB F [.int .u64 (Int.ofNat n)] σ (lenI n)
section
variable {E:List (Nat × Blk)} {D:Den} {W:DrawFn} {N:Nat}
theorem shr7 (k:Nat):shrF .u64 (Int.ofNat k) 7=Int.ofNat (k / 128):=shr_nat (k := .u64) (show 7≤64 by decide)
theorem shr8 (k:Nat):shrF .u64 (Int.ofNat k) 8=Int.ofNat (k / 256):=shr_nat (k := .u64) (show 8≤64 by decide)
theorem pre_one {σ0 σ:H} {x:V} {l:List Int} (f0:Fr Nowhere σ0 σ) (hx:Nb σ0 σ x l) (c:Int) (hl:l.length≤1000) :
  ∃σ1 u σ2,newB σ (.cells [.int .u8 c])=σ1∧(∀κ:V→H→Ans,appK E 1 1 (.sl σ.next 0 1 (.ex 1)) x σ1 κ=κ u σ2)∧Nb σ0 σ2 u (c::l)∧Fr Nowhere σ0 σ2:=by
 obtain⟨σ1,e1,f1,a1,n1⟩:=mkB f0.tidy (u8s [c])
 have f01:=f0.trans f1 (fun _ _ h=>h)
 have x1:=Bx.of (E:=E) (hx.fr f1 f0.tidy).by_ f1.tidy
 obtain⟨u,σ2,g,h,f,_⟩:=app_bx (E:=E) (Nb.lit (σ0:=σ0) a1 f0.le) f01 x1 (by simp;omega)
 exact⟨σ1,u,σ2,e1,g,h,f⟩
theorem rgrp_F (hN:3<N):SpGrp (F28 E D W N):=by
 intro σ k ht hk
 obtain⟨N,rfl⟩:∃m,N=m+4:=⟨N-4,by omega⟩
 obtain⟨σ1,e1,f1,a1,n1⟩:=mkB ht [.int .u8 (Int.ofNat (k % 128))]
 have b1:Nb σ σ1 (.sl σ.next 0 1 (.ex 1)) [Int.ofNat (k % 128)]:=Nb.lit (l:=[Int.ofNat (k % 128)]) a1 (Nat.le_refl _)
 have w1:wrapF .u8 (Int.ofNat (k % 128))=Int.ofNat (k % 128):=wrapF_nat (k := .u8) (show k % 128≤255 by omega)
 have an:=and127_64 (x:=k) (by omega)
 have key0:∀K,T28_0 E D W K (Int.ofNat k) σ=K (Int.ofNat k) (.sl σ.next 0 1 (.ex 1)) σ1:=fun K=>by
  unfold T28_0
  simp -implicitDefEqProofs only [↓rP,rA,Nat.reduceEqDiff,Nat.reduceLT,Nat.reduceLeDiff,an,w1,↓e1]
 have endd:∀(R:Int→V→H→Ans) (j:Nat) (u:V) (σ':H),j≤127→T28_2 E D W (T28_1 E D W) R (Int.ofNat j) u σ'=some (u,σ'):=fun R j u σ' hj=>by
  have d:decide (127<j)=false:=decide_eq_false (by omega)
  unfold T28_2 T28_1
  simp -implicitDefEqProofs only [↓rP,rA,Nat.reduceEqDiff,Nat.reduceLT,Nat.reduceLeDiff,d]
 cases hd:decide (127<k)with
 | false=>
  have hk':=of_decide_eq_false hd
  refine⟨.sl σ.next 0 1 (.ex 1),σ1,?_,?_,f1⟩
  ·exact(key0 _).trans (endd _ k _ _ (by omega))
  ·unfold grpI;rw[hd]
   rw[Nat.mod_eq_of_lt (by omega)]at b1;exact b1
 | true=>
  have hk':=of_decide_eq_true hd
  obtain⟨σ2,u,σ3,e2,g2,h2,f2⟩:=pre_one (E:=E) f1 b1 (orF .u8 (Int.ofNat (k / 128)) (Int.ofNat 128)) (by simp)
  have an2:=and127_64 (x:=k / 128) (by omega)
  rw[Nat.mod_eq_of_lt (show k / 128<128 by omega)]at an2
  have w2:wrapF .u8 (Int.ofNat (k / 128))=Int.ofNat (k / 128):=wrapF_nat (k := .u8) (show k / 128≤255 by omega)
  have step:∀K R,T28_2 E D W K R (Int.ofNat k) (.sl σ.next 0 1 (.ex 1)) σ1=R (Int.ofNat (k / 128)) u σ3:=fun K R=>by
   unfold T28_2
   simp -implicitDefEqProofs only [↓rP,rA,Nat.reduceEqDiff,Nat.reduceLT,Nat.reduceLeDiff,hd,shr7,an2,w2,↓e2,↓g2,↓rtOne_of h2.1.one]
  refine⟨u,σ3,?_,?_,f2⟩
  ·exact(key0 _).trans ((step _ _).trans (endd _ (k / 128) _ _ (by omega)))
  ·unfold grpI;rw[hd];exact h2
theorem ogrp_F (hN:3<N):SpGrp (F116 E D W N):=by
 intro σ k ht hk
 obtain⟨N,rfl⟩:∃m,N=m+4:=⟨N-4,by omega⟩
 obtain⟨σ1,e1,f1,a1,n1⟩:=mkB ht [.int .u8 (Int.ofNat (k % 128))]
 have b1:Nb σ σ1 (.sl σ.next 0 1 (.ex 1)) [Int.ofNat (k % 128)]:=Nb.lit (l:=[Int.ofNat (k % 128)]) a1 (Nat.le_refl _)
 have w1:=wrap8_nat k
 have an:=and127_8 (x:=k % 256) (by omega)
 rw[show k % 256 % 128=k % 128 by omega]at an
 have key0:∀K,T116_0 E D W K (Int.ofNat k) σ=K (Int.ofNat (k / 128)) (.sl σ.next 0 1 (.ex 1)) σ1:=fun K=>by
  unfold T116_0
  simp -implicitDefEqProofs only [↓rP,rA,Nat.reduceEqDiff,Nat.reduceLT,Nat.reduceLeDiff,w1,an,↓e1,shr7]
 have endd:∀(R:Int→V→H→Ans) (u:V) (σ':H),T116_2 E D W (T116_1 E D W) R (Int.ofNat 0) u σ'=some (u,σ'):=fun R u σ'=>by
  unfold T116_2 T116_1
  simp -implicitDefEqProofs only [↓rP,rA,Nat.reduceEqDiff,Nat.reduceLT,Nat.reduceLeDiff,Nat.lt_irrefl]
 cases hd:decide (127<k)with
 | false=>
  have hk':=of_decide_eq_false hd
  refine⟨.sl σ.next 0 1 (.ex 1),σ1,?_,?_,f1⟩
  ·simp only[show k / 128=0 by omega]at key0
   exact(key0 _).trans (endd _ _ _)
  ·unfold grpI;rw[hd]
   rw[Nat.mod_eq_of_lt (by omega)]at b1;exact b1
 | true=>
  have hk':=of_decide_eq_true hd
  obtain⟨σ2,u,σ3,e2,g2,h2,f2⟩:=pre_one (E:=E) f1 b1 (orF .u8 (Int.ofNat (k / 128)) (Int.ofNat 128)) (by simp)
  have w2:wrapF .u8 (Int.ofNat (k / 128))=Int.ofNat (k / 128):=wrapF_nat (k := .u8) (show k / 128≤255 by omega)
  have d2:decide (0<k / 128)=true:=decide_eq_true (by omega)
  have s2:k / 128 / 128=0:=by omega
  have step:∀K R,T116_2 E D W K R (Int.ofNat (k / 128)) (.sl σ.next 0 1 (.ex 1)) σ1=R (Int.ofNat 0) u σ3:=fun K R=>by
   unfold T116_2
   simp -implicitDefEqProofs only [↓rP,rA,Nat.reduceEqDiff,Nat.reduceLT,Nat.reduceLeDiff,d2,shr7,w2,↓e2,↓g2,↓rtOne_of h2.1.one,s2]
  refine⟨u,σ3,?_,?_,f2⟩
  ·exact(key0 _).trans ((step _ _).trans (endd _ _ _))
  ·unfold grpI;rw[hd];exact h2
theorem rlen_F (hN:3<N):SpLn (F29 E D W N):=by
 intro σ k ht hk
 obtain⟨N,rfl⟩:∃m,N=m+4:=⟨N-4,by omega⟩
 obtain⟨σ1,e1,f1,a1,n1⟩:=mkB ht [.int .u8 (Int.ofNat (k % 256))]
 have b1:Nb σ σ1 (.sl σ.next 0 1 (.ex 1)) [Int.ofNat (k % 256)]:=Nb.lit (l:=[Int.ofNat (k % 256)]) a1 (Nat.le_refl _)
 have w1:=wrap8_nat k
 have key0:∀K,T29_0 E D W K (Int.ofNat k) σ=K (Int.ofNat k) (.sl σ.next 0 1 (.ex 1)) σ1:=fun K=>by
  unfold T29_0
  simp -implicitDefEqProofs only [↓rP,rA,Nat.reduceEqDiff,Nat.reduceLT,Nat.reduceLeDiff,w1,↓e1]
 have endd:∀(R:Int→V→H→Ans) (j:Nat) (u:V) (σ':H),j≤255→T29_2 E D W (T29_1 E D W) R (Int.ofNat j) u σ'=some (u,σ'):=fun R j u σ' hj=>by
  have d:decide (255<j)=false:=decide_eq_false (by omega)
  unfold T29_2 T29_1
  simp -implicitDefEqProofs only [↓rP,rA,Nat.reduceEqDiff,Nat.reduceLT,Nat.reduceLeDiff,d]
 cases hd:decide (255<k)with
 | false=>
  have hk':=of_decide_eq_false hd
  refine⟨.sl σ.next 0 1 (.ex 1),σ1,?_,?_,f1⟩
  ·exact(key0 _).trans (endd _ k _ _ (by omega))
  ·unfold lenI;rw[hd]
   rw[Nat.mod_eq_of_lt (by omega)]at b1;exact b1
 | true=>
  have hk':=of_decide_eq_true hd
  obtain⟨σ2,u,σ3,e2,g2,h2,f2⟩:=pre_one (E:=E) f1 b1 (Int.ofNat (k / 256)) (by simp)
  have w2:wrapF .u8 (Int.ofNat (k / 256))=Int.ofNat (k / 256):=wrapF_nat (k := .u8) (show k / 256≤255 by omega)
  have step:∀K R,T29_2 E D W K R (Int.ofNat k) (.sl σ.next 0 1 (.ex 1)) σ1=R (Int.ofNat (k / 256)) u σ3:=fun K R=>by
   unfold T29_2
   simp -implicitDefEqProofs only [↓rP,rA,Nat.reduceEqDiff,Nat.reduceLT,Nat.reduceLeDiff,hd,shr8,w2,↓e2,↓g2,↓rtOne_of h2.1.one]
  refine⟨u,σ3,?_,?_,f2⟩
  ·exact(key0 _).trans ((step _ _).trans (endd _ (k / 256) _ _ (by omega)))
  ·unfold lenI;rw[hd];exact h2
end
theorem octN_lenI {n:Nat} (h:n<65536):nI (octN n (lenU n))=lenI n:=by
 unfold lenI
 cases hd:decide (255<n)with
 | false=>
  have:=of_decide_eq_false hd
  have e:lenU n=1:=by unfold lenU;rw[if_pos (by omega)]
  rw[e]
  show [Int.ofNat (n / 2 ^ (8*0) % 256)]=_
  simp only[Nat.mul_zero,Nat.pow_zero,Nat.div_one]
  rw[Nat.mod_eq_of_lt (by omega)]
 | true=>
  have:=of_decide_eq_true hd
  have e:lenU n=2:=by unfold lenU;rw[if_neg (by omega),if_pos (by omega)]
  rw[e]
  show [Int.ofNat (n / 2 ^ (8*1) % 256),Int.ofNat (n / 2 ^ (8*0) % 256)]=[Int.ofNat (n / 256),Int.ofNat (n % 256)]
  simp only[Nat.mul_zero,Nat.pow_zero,Nat.div_one,Nat.mul_one]
  rw[show (2:Nat) ^ 8=256 from rfl,Nat.mod_eq_of_lt (show n / 256<256 by omega)]
theorem oln_of {F:List V→H→Ans} (h:SpUnsigned F):SpLn F:=fun {σ n} ht hn=>by
 have:=h (σ:=σ) (x:=n) (by omega) ht
 rw[octN_lenI hn]at this
 exact this
def catI (pl:Nat→List Int):Nat→Nat→List Int
 | 0,_=>[]
 | m+1,i=>pl i++catI pl m (i+1)
def SpJoinB (E:List (Nat × Blk)) (F:List V→H→Ans):Prop:=∀{σ:H} {n:Nat} {v:V} {pv:Nat→V} {pl:Nat→List Int},Tidy σ→Row σ 1 n v (fun k=>[pv k])→(∀k,k<n→Bx E σ (pv k) (pl k))→(catI pl n 0).length≤1000000→n≤10000 →
 ∃u σ',F [v] σ=some (u,σ')∧Nb σ σ' u (catI pl n 0)∧Fr Nowhere σ σ'
section
variable {E:List (Nat × Blk)} {D:Den} {W:DrawFn} {N:Nat} {σ σ':H}
theorem joinB_F (hN:10000<N):SpJoinB E (F58 E D W N):=by
 intro σ n v pv pl ht hr hp hs hn
 have loop:∀(m n' i:Nat) (A:List Int) (u:V) (σ1:H),i+m=n→m<n'→Fr Nowhere σ σ1→Nb σ σ1 u A→A.length+(catI pl m i).length≤1000000 →
   ∃u' σ',L58_2 E D W N n' u v (Int.ofNat n) (Int.ofNat i) σ1=some (u',σ')∧Nb σ σ' u' (A++catI pl m i)∧Fr Nowhere σ σ':=by
  intro m
  induction m with
  | zero=>
   intro n' i A u σ1 hi hn' f1 hu hl
   obtain⟨n',rfl⟩:∃k,n'=k+1:=⟨n'-1,by omega⟩
   refine⟨u,σ1,?_,by rw[show catI pl 0 i=[] from rfl,List.append_nil];exact hu,f1⟩
   show T58_2 E D W _ _ u v (Int.ofNat n) (Int.ofNat i) σ1=_
   unfold T58_2
   rw[ltF_nat,decide_eq_false (by omega),condK_false];rfl
  | succ m ih=>
   intro n' i A u σ1 hi hn' f1 hu hl
   obtain⟨n',rfl⟩:∃k,n'=k+1:=⟨n'-1,by omega⟩
   have hlt:i<n:=by omega
   simp only[catI,List.length_append]at hl
   obtain⟨u2,σ2,g2,h2,f2,_⟩:=app_bx (E:=E) hu f1 ((hp i hlt).fr f1) (by omega)
   obtain⟨u3,σ3,g3,h3,f3⟩:=ih n' (i+1) (A++pl i) u2 σ2 (by omega) (by omega) f2 h2 (by rw[List.length_append];omega)
   refine⟨u3,σ3,?_,by rw[show catI pl (m+1) i=pl i++catI pl m (i+1)from rfl,←List.append_assoc];exact h3,f3⟩
   have rd:∀κ,iaddrSK 1 v (Int.ofNat i) (fun b o=>ldK E σ1 b o κ)=κ (pv i):=fun κ=>(hr.fr0 f1 ht).one (j:=0) hlt rfl κ
   have d1:decide (i<n)=true:=decide_eq_true hlt
   have key:∀K1 K2,T58_2 E D W K1 K2 u v (Int.ofNat n) (Int.ofNat i) σ1=K2 u2 v (Int.ofNat n) (Int.ofNat (i+1)) σ2:=by
    intro K1 K2
    unfold T58_2
    simp -implicitDefEqProofs only [↓rP,rA,Nat.reduceEqDiff,Nat.reduceLT,Nat.reduceLeDiff,d1,↓rd,↓g2,↓rtOne_of h2.1.one,addF_nat (show i+1≤9223372036854775807 by omega)]
   exact(key _ _).trans g3
 obtain⟨u,σ',h1,h2,h3⟩:=loop n N 0 [] .nils σ (by omega) (by omega) (Fr.refl ht) (Nb.nil σ σ) (by simpa using hs)
 refine⟨u,σ',?_,h2,h3⟩
 show T58_0 E D W (L58_2 E D W N N) v σ=_
 unfold T58_0
 rw[hr.len.2]
 exact h1
end
def clsN (c:Nat) (made:Bool):Nat:=(if c=0 then 0 else 128)+(if made=true then 32 else 0)
def tagI (c:Nat) (made:Bool) (k:Nat):List Int:=match decide (k<31)with
 | true=>[orF .u8 (Int.ofNat (clsN c made)) (Int.ofNat k)]
 | false=>orF .u8 (Int.ofNat (clsN c made)) (Int.ofNat 31)::grpI k
def lnI (n:Nat):List Int:=match decide (n<128)with
 | true=>[Int.ofNat n]
 | false=>orF .u8 (Int.ofNat 128) (Int.ofNat (lenI n).length)::lenI n
def elI (c:Nat) (made:Bool) (k:Nat) (l:List Int):List Int:=(tagI c made k++lnI l.length)++l
theorem tagI_len (c:Nat) (made:Bool) (k:Nat):(tagI c made k).length≤3:=by
 have:=grpI_len k
 unfold tagI;split
 ·simp
 ·rw[List.length_cons];omega
theorem lnI_len (n:Nat):(lnI n).length≤3:=by
 have:=(lenI_len n).2
 unfold lnI;split
 ·simp
 ·rw[List.length_cons];omega
theorem elI_len (c:Nat) (made:Bool) (k:Nat) (l:List Int):(elI c made k l).length≤l.length+6:=by
 have:=tagI_len c made k
 have:=lnI_len l.length
 unfold elI;rw[List.length_append,List.length_append];omega
theorem mx0 (n:Nat):maxF (Int.ofNat 0) (Int.ofNat n)=Int.ofNat n:=by
 unfold maxF
 split
 ·rfl
 ·rename_i h
  have:n=0:=by
   have h:¬((0:Int)<(n:Int)):=h
   omega
  subst this;rfl
theorem mx1 (n:Nat):maxF (Int.ofNat n) (Int.ofNat 0)=Int.ofNat n:=by
 unfold maxF;cases n<;>rfl
def SpHd (F:List V→H→Ans):Prop:=∀{σ:H} {c k n:Nat} (made:Bool),Tidy σ→c=0∨c=2→k<16384→n<65536→MakesB F [.agg [.int .i64 (Int.ofNat c),.int .i64 (Int.ofNat k)],.bool made,.int .i64 (Int.ofNat n)] σ (tagI c made k++lnI n)
def SpElR (E:List (Nat × Blk)) (F:List V→H→Ans):Prop:=∀{σ:H} {c k:Nat} {x:V} {l:List Int} (made:Bool),Tidy σ→c=0∨c=2→k<16384→l.length<60000→Bx E σ x l→MakesB F [.agg [.int .i64 (Int.ofNat c),.int .i64 (Int.ofNat k)],.bool made,x] σ (elI c made k l)
section
variable {E:List (Nat × Blk)} {D:Den} {W:DrawFn} {N:Nat} {σ0 σ σ':H}
theorem r_1 (hG:SpGrp (D 28)) {q c k n:Nat} {made:Bool} (f0:Fr Nowhere σ0 σ) (aq:Atc σ q [.int .i64 (Int.ofNat c),.int .i64 (Int.ofNat k)]) (hk:k<16384) :
  ∃u σ2,(∀K,T15_1 E D W K (Int.ofNat n) q 0 (Int.ofNat (clsN c made)) σ=K (Int.ofNat n) u σ2)∧Nb σ0 σ2 u (tagI c made k)∧Fr Nowhere σ0 σ2:=by
 have ht:=f0.tidy
 unfold tagI
 cases hd:decide (k<31)with
 | true=>
  have:=of_decide_eq_true hd
  obtain⟨σ2,e2,f2,a2,n2⟩:=mkB ht (u8s [orF .u8 (Int.ofNat (clsN c made)) (Int.ofNat k)])
  have e2':newB σ (.cells [V.int .u8 (orF .u8 (Int.ofNat (clsN c made)) (Int.ofNat k))])=σ2:=e2
  have w1:wrapF .u8 (Int.ofNat k)=Int.ofNat k:=wrapF_nat (k := .u8) (show k≤255 by omega)
  refine⟨.sl σ.next 0 1 (.ex 1),σ2,fun K=>?_,Nb.lit a2 f0.le,f0.trans f2 (fun _ _ h=>h)⟩
  unfold T15_1
  simp -implicitDefEqProofs only [↓rP,rA,Nat.reduceEqDiff,Nat.reduceLT,Nat.reduceLeDiff,↓ldK_is aq,mx0,hd,w1,↓e2']
 | false=>
  obtain⟨σ2,e2,f2,a2,n2⟩:=mkB ht (u8s [orF .u8 (Int.ofNat (clsN c made)) (Int.ofNat 31)])
  have e2':newB σ (.cells [V.int .u8 (orF .u8 (Int.ofNat (clsN c made)) (Int.ofNat 31))])=σ2:=e2
  have w1:wrapF .u64 (Int.ofNat k)=Int.ofNat k:=wrapF_nat (k := .u64) (show k≤18446744073709551615 by omega)
  have f02:=f0.trans f2 (fun _ _ h=>h)
  obtain⟨u3,σ3,g3,h3,f3⟩:=hG f2.tidy hk
  have f03:=f02.trans f3 (fun _ _ h=>h)
  have b2:Nb σ0 σ2 (.sl σ.next 0 1 (.ex 1)) [orF .u8 (Int.ofNat (clsN c made)) (Int.ofNat 31)]:=Nb.lit a2 f0.le
  have:=grpI_len k
  obtain⟨u4,σ4,g4,h4,f4,_⟩:=app_bx (E:=E) (b2.fr f3 f2.tidy) f03 (Bx.of h3.by_ f3.tidy) (by simp;omega)
  refine⟨u4,σ4,fun K=>?_,h4,f4⟩
  unfold T15_1
  simp -implicitDefEqProofs only [↓rP,rA,Nat.reduceEqDiff,Nat.reduceLT,Nat.reduceLeDiff,↓ldK_is aq,mx0,hd,w1,↓e2',↓g3,↓rtOne_of h3.1.one,↓g4,↓rtOne_of h4.1.one]
theorem r_2 (hL:SpLn (D 29)) {n:Nat} {u:V} {A:List Int} (f0:Fr Nowhere σ0 σ) (hu:Nb σ0 σ u A) (hA:A.length≤10) (hn:n<65536) :
  ∃u' σ2,T15_2 E D W (Int.ofNat n) u σ=some (u',σ2)∧Nb σ0 σ2 u' (A++lnI n)∧Fr Nowhere σ0 σ2:=by
 have ht:=f0.tidy
 unfold lnI
 cases hd:decide (n<128)with
 | true=>
  have:=of_decide_eq_true hd
  obtain⟨σ2,e2,f2,a2,n2⟩:=mkB ht (u8s [Int.ofNat n])
  have e2':newB σ (.cells [V.int .u8 (Int.ofNat n)])=σ2:=e2
  have w1:wrapF .u8 (Int.ofNat n)=Int.ofNat n:=wrapF_nat (k := .u8) (show n≤255 by omega)
  have f02:=f0.trans f2 (fun _ _ h=>h)
  obtain⟨u4,σ4,g4,h4,f4,_⟩:=app_bx (E:=E) (hu.fr f2 ht) f02 (Bx.of (Nb.lit (σ0:=σ) (l:=[Int.ofNat n]) a2 (Nat.le_refl _)).by_ f2.tidy) (by simp;omega)
  refine⟨u4,σ4,?_,h4,f4⟩
  have g4:∀κ:V→H→Ans,appK E 1 1 u (.sl σ.next 0 1 (.ex 1)) σ2 κ=κ u4 σ4:=g4
  unfold T15_2
  simp -implicitDefEqProofs only [↓rP,rA,Nat.reduceEqDiff,Nat.reduceLT,Nat.reduceLeDiff,mx0,hd,w1,↓e2',↓g4,↓rtOne_of h4.1.one]
 | false=>
  have w1:wrapF .u64 (Int.ofNat n)=Int.ofNat n:=wrapF_nat (k := .u64) (show n≤18446744073709551615 by omega)
  obtain⟨u3,σ3,g3,h3,f3⟩:=hL ht hn
  have f03:=f0.trans f3 (fun _ _ h=>h)
  have ll:=lenI_len n
  have w2:wrapF .u8 (Int.ofNat (lenI n).length)=Int.ofNat (lenI n).length:=wrapF_nat (k := .u8) (show (lenI n).length≤255 by omega)
  obtain⟨σ4,e4,f4,a4,n4⟩:=mkB f3.tidy (u8s [orF .u8 (Int.ofNat 128) (Int.ofNat (lenI n).length)])
  have e4':newB σ3 (.cells [V.int .u8 (orF .u8 (Int.ofNat 128) (Int.ofNat (lenI n).length))])=σ4:=e4
  have f04:=f03.trans f4 (fun _ _ h=>h)
  have hu4:=(hu.fr f3 ht).fr f4 f3.tidy
  obtain⟨u5,σ5,g5,h5,f5,f5'⟩:=app_bx (E:=E) hu4 f04 (Bx.of (Nb.lit (σ0:=σ3) (l:=[orF .u8 (Int.ofNat 128) (Int.ofNat (lenI n).length)]) a4 (Nat.le_refl _)).by_ f4.tidy) (by simp;omega)
  have g5:∀κ:V→H→Ans,appK E 1 1 u (.sl σ3.next 0 1 (.ex 1)) σ4 κ=κ u5 σ5:=g5
  have b3:By σ5 u3 (lenI n):=Src.fr (h3.fr f4 f3.tidy).by_ f5' f4.tidy (fun b hb e=>by have:=h3.2 b hb;have:=hu.1.lt ht e;omega)
  obtain⟨u6,σ6,g6,h6,f6,_⟩:=app_bx (E:=E) h5 f5 (Bx.of b3 f5.tidy) (by simp;omega)
  have sl:=h3.by_.slen
  refine⟨u6,σ6,?_,?_,f6⟩
  ·unfold T15_2
   simp -implicitDefEqProofs only [↓rP,rA,Nat.reduceEqDiff,Nat.reduceLT,Nat.reduceLeDiff,mx0,hd,w1,↓g3,↓rtOne_of h3.1.one,↓sl,w2,↓e4',↓g5,↓rtOne_of h5.1.one,↓g6,↓rtOne_of h6.1.one]
  ·rw[List.append_assoc]at h6;exact h6
theorem rhead_G (hG:SpGrp (D 28)) (hL:SpLn (D 29)):SpHd (F15 E D W N):=by
 intro σ c k n made ht hc hk hn
 obtain⟨σ1,e1,f1,a1,n1⟩:=mkB ht [.int .i64 (Int.ofNat c),.int .i64 (Int.ofNat k)]
 obtain⟨u2,σ2,g2,h2,f2⟩:=r_1 (E:=E) (W:=W) (n:=n) (c:=c) (made:=made) hG f1 a1 hk
 have tl:=tagI_len c made k
 obtain⟨u3,σ3,g3,h3,f3⟩:=r_2 (E:=E) (W:=W) hL f2 h2 (by omega) hn
 refine⟨u3,σ3,?_,h3,f3⟩
 have tail:T15_1 E D W (T15_2 E D W) (Int.ofNat n) σ.next 0 (Int.ofNat (clsN c made)) σ1=some (u3,σ3):=(g2 _).trans g3
 show T15_0 E D W (T15_1 E D W (T15_2 E D W)) (Int.ofNat c) (Int.ofNat k) made (Int.ofNat n) σ=_
 unfold T15_0
 simp -implicitDefEqProofs only [↓rP,rS,↓e1,↓ldK_is a1]
 rcases hc with rfl|rfl<;>cases made
 ·exact tail
 ·exact tail
 ·exact tail
 ·exact tail
theorem relem_G (hH:SpHd (D 15)):SpElR E (F9 E D W N):=by
 intro σ c k x l made ht hc hk hl hx
 obtain⟨σ1,e1,f1,a1,n1⟩:=mkB ht [.int .i64 (Int.ofNat c),.int .i64 (Int.ofNat k)]
 obtain⟨u2,σ2,g2,h2,f2⟩:=hH (σ:=σ1) (n:=l.length) made f1.tidy hc hk (by omega)
 have f02:=f1.trans f2 (fun _ _ h=>h)
 have tl:=tagI_len c made k
 have ll:=lnI_len l.length
 have h2':Nb σ σ2 u2 (tagI c made k++lnI l.length):=h2.mono f1.le
 obtain⟨u3,σ3,g3,h3,f3,_⟩:=app_bx (E:=E) h2' f02 (hx.fr f02) (by rw[List.length_append];omega)
 refine⟨u3,σ3,?_,h3,f3⟩
 have hs:=hx.s
 show T9_0 E D W (Int.ofNat c) (Int.ofNat k) made x σ=_
 unfold T9_0
 simp -implicitDefEqProofs only [↓rP,rS,↓e1,↓ldnK_is a1,↓hs,↓g2,↓g3,↓rtOne_of h2.1.one,↓rtOne_of h3.1.one]
end
theorem rowL1 {σ:H} {b:Nat} {v:V} (h:Atc σ b [v]):Row σ 1 1 (.sl b 0 1 (.ex 1)) (fun _=>[v]):=⟨.inr ⟨b,_,_,rfl,h,fun k hk=>by
 obtain rfl:k=0:=by omega
 exact⟨Nat.le_refl _,rfl⟩⟩⟩
theorem rowL2 {σ:H} {b:Nat} {v w:V} (h:Atc σ b [v,w]):Row σ 1 2 (.sl b 0 2 (.ex 2)) (fun k=>[if k=0 then v else w]):=⟨.inr ⟨b,_,_,rfl,h,fun k hk=>by
 have:k=0∨k=1:=by omega
 rcases this with rfl|rfl
 ·exact⟨by simp,rfl⟩
 ·exact⟨by simp,rfl⟩⟩⟩
theorem rowL3 {σ:H} {b:Nat} {v w x:V} (h:Atc σ b [v,w,x]):Row σ 1 3 (.sl b 0 3 (.ex 3)) (fun k=>[if k=0 then v else if k=1 then w else x]):=⟨.inr ⟨b,_,_,rfl,h,fun k hk=>by
 have:k=0∨k=1∨k=2:=by omega
 rcases this with rfl|rfl|rfl
 ·exact⟨by simp,rfl⟩
 ·exact⟨by simp,rfl⟩
 ·exact⟨by simp,rfl⟩⟩⟩
def SpElP (E:List (Nat × Blk)) (F:List V→H→Ans):Prop:=∀{σ:H} {c k n:Nat} {v:V} {pv:Nat→V} {pl:Nat→List Int} (made:Bool),Tidy σ→c=0∨c=2→k<16384→Row σ 1 n v (fun k=>[pv k])→(∀k,k<n→Bx E σ (pv k) (pl k))→(catI pl n 0).length<60000→n≤10000→MakesB F [.agg [.int .i64 (Int.ofNat c),.int .i64 (Int.ofNat k)],.bool made,v] σ (elI c made k (catI pl n 0))
section
variable {E:List (Nat × Blk)} {D:Den} {W:DrawFn} {N:Nat} {σ0 σ σ':H}
theorem join2 (hJ:SpJoinB E (D 58)) (f0:Fr Nowhere σ0 σ) {u w:V} {A B:List Int} (hu:Bx E σ u A) (hw:Bx E σ w B) (hl:A.length+B.length≤100000) :
  ∃σ1 x σ2,newB σ (.cells [u,w])=σ1∧D 58 [.sl σ.next 0 2 (.ex 2)] σ1=some (x,σ2)∧Nb σ0 σ2 x (A++B)∧Fr Nowhere σ0 σ2:=by
 obtain⟨σ1,e1,f1,a1,n1⟩:=mkB f0.tidy [u,w]
 obtain⟨x,σ2,g,h,f⟩:=hJ (σ:=σ1) (n:=2) (pv:=fun q=>if q=0 then u else w) (pl:=fun q=>if q=0 then A else B) f1.tidy (rowL2 a1) (fun q hq=>by
  have:q=0∨q=1:=by omega
  rcases this with rfl|rfl
  ·exact hu.fr f1
  ·exact hw.fr f1) (by simp[catI];omega) (by omega)
 have f01:=f0.trans f1 (fun _ _ h=>h)
 refine⟨σ1,x,σ2,e1,g,?_,f01.trans f (fun _ _ h=>h)⟩
 have e:catI (fun q=>if q=0 then A else B) 2 0=A++B:=by simp[catI]
 rw[e]at h
 exact h.mono f01.le
theorem join3 (hJ:SpJoinB E (D 58)) (f0:Fr Nowhere σ0 σ) {u w y:V} {A B C:List Int} (hu:Bx E σ u A) (hw:Bx E σ w B) (hy:Bx E σ y C) (hl:A.length+B.length+C.length≤100000) :
  ∃σ1 x σ2,newB σ (.cells [u,w,y])=σ1∧D 58 [.sl σ.next 0 3 (.ex 3)] σ1=some (x,σ2)∧Nb σ0 σ2 x (A++(B++C))∧Fr Nowhere σ0 σ2:=by
 obtain⟨σ1,e1,f1,a1,n1⟩:=mkB f0.tidy [u,w,y]
 obtain⟨x,σ2,g,h,f⟩:=hJ (σ:=σ1) (n:=3) (pv:=fun q=>if q=0 then u else if q=1 then w else y) (pl:=fun q=>if q=0 then A else if q=1 then B else C) f1.tidy (rowL3 a1) (fun q hq=>by
  have:q=0∨q=1∨q=2:=by omega
  rcases this with rfl|rfl|rfl
  ·exact hu.fr f1
  ·exact hw.fr f1
  ·exact hy.fr f1) (by simp[catI];omega) (by omega)
 have f01:=f0.trans f1 (fun _ _ h=>h)
 refine⟨σ1,x,σ2,e1,g,?_,f01.trans f (fun _ _ h=>h)⟩
 have e:catI (fun q=>if q=0 then A else if q=1 then B else C) 3 0=A++(B++C):=by simp[catI]
 rw[e]at h
 exact h.mono f01.le
theorem o_1 (hJ:SpJoinB E (D 58)) (hG:SpGrp (D 116)) {q c k n:Nat} {made:Bool} (f0:Fr Nowhere σ0 σ) (aq:Atc σ q [.int .i64 (Int.ofNat c),.int .i64 (Int.ofNat k)]) (hk:k<16384) :
  ∃u σ2,(∀K,T94_1 E D W K (Int.ofNat n) q 0 (Int.ofNat (clsN c made)) σ=K (Int.ofNat n) u σ2)∧Nb σ0 σ2 u (tagI c made k)∧Fr Nowhere σ0 σ2:=by
 have ht:=f0.tidy
 unfold tagI
 cases hd:decide (k<31)with
 | true=>
  have:=of_decide_eq_true hd
  obtain⟨σ2,e2,f2,a2,n2⟩:=mkB ht (u8s [orF .u8 (Int.ofNat (clsN c made)) (Int.ofNat k)])
  have e2':newB σ (.cells [V.int .u8 (orF .u8 (Int.ofNat (clsN c made)) (Int.ofNat k))])=σ2:=e2
  have w1:wrapF .u8 (Int.ofNat k)=Int.ofNat k:=wrapF_nat (k := .u8) (show k≤255 by omega)
  refine⟨.sl σ.next 0 1 (.ex 1),σ2,fun K=>?_,Nb.lit a2 f0.le,f0.trans f2 (fun _ _ h=>h)⟩
  unfold T94_1
  simp -implicitDefEqProofs only [↓rP,rA,Nat.reduceEqDiff,Nat.reduceLT,Nat.reduceLeDiff,↓ldK_is aq,mx1,hd,w1,↓e2']
 | false=>
  obtain⟨σ2,e2,f2,a2,n2⟩:=mkB ht (u8s [orF .u8 (Int.ofNat (clsN c made)) (Int.ofNat 31)])
  have e2':newB σ (.cells [V.int .u8 (orF .u8 (Int.ofNat (clsN c made)) (Int.ofNat 31))])=σ2:=e2
  have w1:wrapF .u64 (Int.ofNat k)=Int.ofNat k:=wrapF_nat (k := .u64) (show k≤18446744073709551615 by omega)
  have f02:=f0.trans f2 (fun _ _ h=>h)
  obtain⟨u3,σ3,g3,h3,f3⟩:=hG f2.tidy hk
  have f03:=f02.trans f3 (fun _ _ h=>h)
  have b2:Nb σ σ2 (.sl σ.next 0 1 (.ex 1)) [orF .u8 (Int.ofNat (clsN c made)) (Int.ofNat 31)]:=Nb.lit a2 (Nat.le_refl _)
  have:=grpI_len k
  obtain⟨σ4,u5,σ5,e4,g5,h5,f5⟩:=join2 (D:=D) hJ f03 (Bx.of (b2.fr f3 f2.tidy).by_ f3.tidy) (Bx.of h3.by_ f3.tidy) (by simp;omega)
  refine⟨u5,σ5,fun K=>?_,h5,f5⟩
  have o3:=h3.1.one
  unfold T94_1
  simp -implicitDefEqProofs only [↓rP,rA,Nat.reduceEqDiff,Nat.reduceLT,Nat.reduceLeDiff,↓ldK_is aq,mx1,hd,w1,↓e2',↓g3,↓rtOne_of o3,↓fill2 (show (V.sl σ.next 0 1 (.ex 1)).one=true from rfl) o3,o3,↓e4,↓g5,↓rtOne_of h5.1.one]
theorem o_2 (hJ:SpJoinB E (D 58)) (hL:SpLn (D 117)) {n:Nat} {u:V} {A:List Int} (f0:Fr Nowhere σ0 σ) (hu:Nb σ0 σ u A) (hA:A.length≤10) (hn:n<65536) :
  ∃u' σ2,T94_2 E D W (Int.ofNat n) u σ=some (u',σ2)∧Nb σ0 σ2 u' (A++lnI n)∧Fr Nowhere σ0 σ2:=by
 have ht:=f0.tidy
 unfold lnI
 cases hd:decide (n<128)with
 | true=>
  have:=of_decide_eq_true hd
  obtain⟨σ2,e2,f2,a2,n2⟩:=mkB ht (u8s [Int.ofNat n])
  have e2':newB σ (.cells [V.int .u8 (Int.ofNat n)])=σ2:=e2
  have w1:wrapF .u8 (Int.ofNat n)=Int.ofNat n:=wrapF_nat (k := .u8) (show n≤255 by omega)
  have f02:=f0.trans f2 (fun _ _ h=>h)
  obtain⟨u4,σ4,g4,h4,f4,_⟩:=app_bx (E:=E) (hu.fr f2 ht) f02 (Bx.of (Nb.lit (σ0:=σ) (l:=[Int.ofNat n]) a2 (Nat.le_refl _)).by_ f2.tidy) (by simp;omega)
  refine⟨u4,σ4,?_,h4,f4⟩
  have g4:∀κ:V→H→Ans,appK E 1 1 u (.sl σ.next 0 1 (.ex 1)) σ2 κ=κ u4 σ4:=g4
  unfold T94_2
  simp -implicitDefEqProofs only [↓rP,rA,Nat.reduceEqDiff,Nat.reduceLT,Nat.reduceLeDiff,mx1,hd,w1,↓e2',↓g4,↓rtOne_of h4.1.one]
 | false=>
  have w1:wrapF .u64 (Int.ofNat n)=Int.ofNat n:=wrapF_nat (k := .u64) (show n≤18446744073709551615 by omega)
  obtain⟨u3,σ3,g3,h3,f3⟩:=hL ht hn
  have f03:=f0.trans f3 (fun _ _ h=>h)
  have ll:=lenI_len n
  have w2:wrapF .u8 (Int.ofNat (lenI n).length)=Int.ofNat (lenI n).length:=wrapF_nat (k := .u8) (show (lenI n).length≤255 by omega)
  obtain⟨σ4,e4,f4,a4,n4⟩:=mkB f3.tidy (u8s [orF .u8 (Int.ofNat 128) (Int.ofNat (lenI n).length)])
  have e4':newB σ3 (.cells [V.int .u8 (orF .u8 (Int.ofNat 128) (Int.ofNat (lenI n).length))])=σ4:=e4
  have f04:=f03.trans f4 (fun _ _ h=>h)
  have hu4:=(hu.fr f3 ht).fr f4 f3.tidy
  have b4:Bx E σ4 (.sl σ3.next 0 1 (.ex 1)) [orF .u8 (Int.ofNat 128) (Int.ofNat (lenI n).length)]:=Bx.of (Nb.lit (σ0:=σ3) (l:=[orF .u8 (Int.ofNat 128) (Int.ofNat (lenI n).length)]) a4 (Nat.le_refl _)).by_ f4.tidy
  obtain⟨σ5,u6,σ6,e5,g6,h6,f6⟩:=join3 (D:=D) hJ f04 (Bx.of hu4.by_ f4.tidy) b4 (Bx.of (h3.fr f4 f3.tidy).by_ f4.tidy) (by simp;omega)
  have sl:=h3.by_.slen
  have o3:=h3.1.one
  have ou:=hu.1.one
  refine⟨u6,σ6,?_,h6,f6⟩
  unfold T94_2
  simp -implicitDefEqProofs only [↓rP,rA,Nat.reduceEqDiff,Nat.reduceLT,Nat.reduceLeDiff,mx1,hd,w1,↓g3,↓rtOne_of o3,↓sl,w2,↓e4',↓fill3 ou (show (V.sl σ3.next 0 1 (.ex 1)).one=true from rfl) o3,ou,o3,↓e5,↓g6,↓rtOne_of h6.1.one]
theorem ohead_G (hJ:SpJoinB E (D 58)) (hG:SpGrp (D 116)) (hL:SpLn (D 117)):SpHd (F94 E D W N):=by
 intro σ c k n made ht hc hk hn
 obtain⟨σ1,e1,f1,a1,n1⟩:=mkB ht [.int .i64 (Int.ofNat c),.int .i64 (Int.ofNat k)]
 obtain⟨u2,σ2,g2,h2,f2⟩:=o_1 (E:=E) (W:=W) (n:=n) (c:=c) (made:=made) hJ hG f1 a1 hk
 have tl:=tagI_len c made k
 obtain⟨u3,σ3,g3,h3,f3⟩:=o_2 (E:=E) (W:=W) hJ hL f2 h2 (by omega) hn
 refine⟨u3,σ3,?_,h3,f3⟩
 have tail:T94_1 E D W (T94_2 E D W) (Int.ofNat n) σ.next 0 (Int.ofNat (clsN c made)) σ1=some (u3,σ3):=(g2 _).trans g3
 show T94_0 E D W (T94_1 E D W (T94_2 E D W)) (Int.ofNat c) (Int.ofNat k) made (Int.ofNat n) σ=_
 unfold T94_0
 simp -implicitDefEqProofs only [↓rP,rS,↓e1,↓ldK_is a1]
 rcases hc with rfl|rfl<;>cases made
 ·exact tail
 ·exact tail
 ·exact tail
 ·exact tail
theorem oel_G (hJ:SpJoinB E (D 58)) (hH:SpHd (D 94)):SpElP E (F59 E D W N):=by
 intro σ c k n v pv pl made ht hc hk hr hp hl hn
 obtain⟨σ1,e1,f1,a1,n1⟩:=mkB ht [.int .i64 (Int.ofNat c),.int .i64 (Int.ofNat k)]
 obtain⟨u2,σ2,g2,h2,f2⟩:=hJ f1.tidy (hr.fr0 f1 ht) (fun k hk=>(hp k hk).fr f1) (by omega) hn
 have f02:=f1.trans f2 (fun _ _ h=>h)
 have a12:=f2.at_ a1 f1.tidy (fun h=>h)
 obtain⟨u3,σ3,g3,h3,f3⟩:=hH (σ:=σ2) (n:=(catI pl n 0).length) made f2.tidy hc hk (by omega)
 have f03:=f02.trans f3 (fun _ _ h=>h)
 have tl:=tagI_len c made k
 have ll:=lnI_len (catI pl n 0).length
 obtain⟨σ4,u5,σ5,e4,g5,h5,f5⟩:=join2 (D:=D) hJ f03 (Bx.of h3.by_ f3.tidy) (Bx.of (h2.fr f3 f2.tidy).by_ f3.tidy) (by rw[List.length_append];omega)
 refine⟨u5,σ5,?_,h5,f5⟩
 have sl:=h2.by_.slen
 have o2:=h2.1.one
 have o3:=h3.1.one
 show T59_0 E D W (Int.ofNat c) (Int.ofNat k) made v σ=_
 unfold T59_0
 simp -implicitDefEqProofs only [↓rP,rS,hr.len.1,↓e1,↓ldnK_is a12,↓sl,↓g2,↓g3,↓fill2 o3 o2,o3,o2,↓e4,↓g5,↓rtOne_of o2,↓rtOne_of o3,↓rtOne_of h5.1.one]
end
theorem src_tag {E:List (Nat × Blk)} {σ:H} {l:List (Nat × Nat)} {v:V} (h:Src σ 2 l.length v (tgC l)) {i:Nat} {t:Nat × Nat} (hi:l[i]? = some t) (hl:l.length≤2) (κ:List V→Ans) :
  iaddrSK 2 v (Int.ofNat i) (fun b o=>ldnK E σ b o 2 κ)=κ [.int .i64 (Int.ofNat t.1),.int .i64 (Int.ofNat t.2)]:=by
 have hlt:i<l.length:=(List.getElem?_eq_some_iff.1 hi).1
 rcases h with ⟨h0,_⟩|⟨b,o,c,L,rfl,ha,hle,hm⟩
 ·omega
 ·rw[iaddrSK_lt hlt,ldnK_is ha]
  show subK L (o+i*2) 2 κ=_
  rw[subK_of (by omega)]
  congr 1
  have e:(L.drop (o+i*2)).take 2=((tgC l).drop (i*2)).take 2:=by
   rw[hm,List.drop_take,List.drop_drop,List.take_take,Nat.min_eq_left (by omega)]
  rw[e]
  match l,hl with
  | [],_=>simp at hlt
  | [a],_=>
   have:i=0:=by simpa using hlt
   subst this
   cases hi;rfl
  | [a,b],_=>
   have:i=0∨i=1:=by simp at hlt;omega
   rcases this with rfl|rfl<;>(cases hi;rfl)
  | _::_::_::_,h=>simp at h
def nestI (made:Bool):List (Nat × Nat)→List Int→List Int
 | [],x=>x
 | [t],x=>elI t.1 made t.2 x
 | t::s::_,x=>elI t.1 true t.2 (elI s.1 made s.2 x)
def TagOk (l:List (Nat × Nat)):Prop:=(l.length=1∨l.length=2)∧∀t∈l,(t.1=0∨t.1=2)∧t.2<16384
def SpWi (E:List (Nat × Blk)) (F:List V→H→Ans):Prop:=∀{σ:H} {l:List (Nat × Nat)} {tv v p:V} {x:List Int} (made:Bool),Tidy σ→Src σ 2 l.length tv (tgC l)→TagOk l→Row σ 1 1 v (fun _=>[p])→Bx E σ p x→x.length<50000→MakesB F [tv,.bool made,v] σ (nestI made l x)
section
variable {E:List (Nat × Blk)} {D:Den} {W:DrawFn} {N:Nat}
theorem within_G (hJ:SpJoinB E (D 58)) (hE:SpElP E (D 59)) (hN:4<N):SpWi E (F34 E D W N):=by
 intro σ l tv v p x made ht hs hok hr hp hl
 obtain⟨N,rfl⟩:∃m,N=m+5:=⟨N-5,by omega⟩
 obtain⟨u1,σ1,g1,h1,f1⟩:=hJ (pl:=fun _=>x) ht hr (fun k hk=>hp) (by simp[catI];omega) (by omega)
 have e1:catI (fun _=>x) 1 0=x:=by simp[catI]
 rw[e1]at h1
 have one:∀(σ0:H) (u:V) (y:List Int) (t:Nat × Nat) (mk:Bool),Fr Nowhere σ σ0→Nb σ σ0 u y→((t.1=0∨t.1=2)∧t.2<16384)→y.length<60000 →
   ∃σ2 u3 σ3,newB σ0 (.cells [u])=σ2∧D 59 [.agg [.int .i64 (Int.ofNat t.1),.int .i64 (Int.ofNat t.2)],.bool mk,.sl σ0.next 0 1 (.ex 1)] σ2=some (u3,σ3)∧Nb σ σ3 u3 (elI t.1 mk t.2 y)∧Fr Nowhere σ σ3:=fun σ0 u y t mk f0 hu htg hy=>by
  obtain⟨σ2,e2,f2,a2,n2⟩:=mkB f0.tidy [u]
  obtain⟨u3,σ3,g3,h3,f3⟩:=hE (σ:=σ2) (n:=1) (pv:=fun _=>u) (pl:=fun _=>y) mk f2.tidy htg.1 htg.2 (rowL1 a2) (fun k hk=>Bx.of (hu.fr f2 f0.tidy).by_ f2.tidy) (by simp[catI];omega) (by omega)
  have f02:=f0.trans f2 (fun _ _ h=>h)
  have e:catI (fun _=>y) 1 0=y:=by simp[catI]
  rw[e]at h3
  exact⟨σ2,u3,σ3,e2,g3,h3.mono f02.le,f02.trans f3 (fun _ _ h=>h)⟩
 have sl:∀κ:Nat→Ans,slenK tv κ=κ l.length:=fun κ=>hs.slen
 have key0:∀K,T34_0 E D W K tv made v σ=K tv made u1 (subF .i64 (Int.ofNat l.length) (Int.ofNat 1)) σ1:=fun K=>by
  have o1:=h1.1.one
  unfold T34_0
  simp -implicitDefEqProofs only [↓rP,rA,Nat.reduceEqDiff,Nat.reduceLT,Nat.reduceLeDiff,↓g1,↓rtOne_of o1,↓sl]
 have endd:∀(R:V→Bool→V→Int→H→Ans) (u:V) (σ':H),T34_2 E D W (T34_1 E D W) R tv made u (Int.negSucc 0) σ'=some (u,σ'):=fun R u σ'=>rfl
 obtain⟨hlen,htags⟩:=hok
 match l,hlen,hs,htags,sl,key0 with
 | [t],_,hs,htags,sl,key0=>
  obtain⟨σ2,u3,σ3,e2,g3,h3,f3⟩:=one σ1 u1 x t made f1 h1 (htags t (by simp)) (by omega)
  have rd:=src_tag (E:=E) (hs.fr f1 ht (fun _ _ h=>h)) (i:=0) (t:=t) rfl (by simp)
  have o1:=h1.1.one
  have o3:=h3.1.one
  have fl1:∀κ:List V→Ans,fillK [(0,1,u1)] [V.nils] κ=κ [u1]:=fun κ=>Go.Og.fill1 o1 κ
  have fl3:∀κ:List V→Ans,fillK [(0,1,u3)] [V.nils] κ=κ [u3]:=fun κ=>Go.Og.fill1 o3 κ
  have oo1:allOne [u1]=true:=by simp[allOne_cons,allOne_nil,o1]
  have oo3:allOne [u3]=true:=by simp[allOne_cons,allOne_nil,o3]
  have sb:subF .i64 (Int.ofNat 1) (Int.ofNat 1)=Int.ofNat 0:=rfl
  have sb2:subF .i64 (Int.ofNat 0) (Int.ofNat 1)=Int.negSucc 0:=rfl
  have sl:∀κ:Nat→Ans,slenK tv κ=κ 1:=sl
  have step:∀K R,T34_2 E D W K R tv made u1 (Int.ofNat 0) σ1=R tv made u3 (Int.negSucc 0) σ3:=fun K R=>by
   unfold T34_2
   cases made with
   | true=>simp -implicitDefEqProofs only [↓rP,rA,Nat.reduceEqDiff,Nat.reduceLT,Nat.reduceLeDiff,↓rd,↓fl1,o1,↓e2,↓g3,↓rtOne_of o3,sb2,Nat.le_refl]
   | false=>simp -implicitDefEqProofs only [↓rP,rA,Nat.reduceEqDiff,Nat.reduceLT,Nat.reduceLeDiff,↓rd,↓sl,sb,Nat.lt_irrefl,↓fl1,o1,↓e2,↓g3,↓rtOne_of o3,sb2,Nat.le_refl]
  refine⟨u3,σ3,?_,h3,f3⟩
  exact(key0 _).trans ((step _ _).trans (endd _ _ _))
 | [t,s],_,hs,htags,sl,key0=>
  obtain⟨σ2,u3,σ3,e2,g3,h3,f3⟩:=one σ1 u1 x s made f1 h1 (htags s (by simp)) (by omega)
  have le:=elI_len s.1 made s.2 x
  obtain⟨σ4,u5,σ5,e4,g5,h5,f5⟩:=one σ3 u3 _ t true f3 h3 (htags t (by simp)) (by omega)
  have rd1:=src_tag (E:=E) (hs.fr f1 ht (fun _ _ h=>h)) (i:=1) (t:=s) rfl (by simp)
  have rd0:=src_tag (E:=E) (hs.fr f3 ht (fun _ _ h=>h)) (i:=0) (t:=t) rfl (by simp)
  have o1:=h1.1.one
  have o3:=h3.1.one
  have fl1:∀κ:List V→Ans,fillK [(0,1,u1)] [V.nils] κ=κ [u1]:=fun κ=>Go.Og.fill1 o1 κ
  have fl3:∀κ:List V→Ans,fillK [(0,1,u3)] [V.nils] κ=κ [u3]:=fun κ=>Go.Og.fill1 o3 κ
  have oo1:allOne [u1]=true:=by simp[allOne_cons,allOne_nil,o1]
  have oo3:allOne [u3]=true:=by simp[allOne_cons,allOne_nil,o3]
  have o5:=h5.1.one
  have sb:subF .i64 (Int.ofNat 2) (Int.ofNat 1)=Int.ofNat 1:=rfl
  have sb1:subF .i64 (Int.ofNat 1) (Int.ofNat 1)=Int.ofNat 0:=rfl
  have sb2:subF .i64 (Int.ofNat 0) (Int.ofNat 1)=Int.negSucc 0:=rfl
  have sl:∀κ:Nat→Ans,slenK tv κ=κ 2:=sl
  have d01:decide (0≤1)=true:=rfl
  have l01:decide (0<1)=true:=rfl
  have step1:∀K R,T34_2 E D W K R tv made u1 (Int.ofNat 1) σ1=R tv made u3 (Int.ofNat 0) σ3:=fun K R=>by
   unfold T34_2
   cases made with
   | true=>simp -implicitDefEqProofs only [↓rP,rA,Nat.reduceEqDiff,Nat.reduceLT,Nat.reduceLeDiff,↓rd1,↓fl1,o1,↓e2,↓g3,↓rtOne_of o3,sb1,d01]
   | false=>simp -implicitDefEqProofs only [↓rP,rA,Nat.reduceEqDiff,Nat.reduceLT,Nat.reduceLeDiff,↓rd1,↓sl,sb,Nat.lt_irrefl,↓fl1,o1,↓e2,↓g3,↓rtOne_of o3,sb1,d01]
  have step0:∀K R,T34_2 E D W K R tv made u3 (Int.ofNat 0) σ3=R tv made u5 (Int.negSucc 0) σ5:=fun K R=>by
   unfold T34_2
   cases made with
   | true=>simp -implicitDefEqProofs only [↓rP,rA,Nat.reduceEqDiff,Nat.reduceLT,Nat.reduceLeDiff,↓rd0,↓fl3,o3,↓e4,↓g5,↓rtOne_of o5,sb2,Nat.le_refl]
   | false=>simp -implicitDefEqProofs only [↓rP,rA,Nat.reduceEqDiff,Nat.reduceLT,Nat.reduceLeDiff,↓rd0,↓sl,sb,l01,↓fl3,o3,↓e4,↓g5,↓rtOne_of o5,sb2,Nat.le_refl]
  refine⟨u5,σ5,?_,h5,f5⟩
  exact(key0 _).trans ((step1 _ _).trans ((step0 _ _).trans (endd _ _ _)))
end
theorem tyC_sub:∀(tl:List TyS) (ws:List (V × V × V)) (i:Nat) (t:TyS) (w:V × V × V),tl[i]? = some t→ws[i]? = some w→((tyCs tl ws).drop (i*13)).take 13=t.c w
 | [],_,i,t,w,h,_=>by simp at h
 | _::_,[],i,t,w,_,h=>by simp at h
 | x::tl,y::ws,0,t,w,h,h'=>by simp at h h';subst h;subst h';rfl
 | x::tl,y::ws,i+1,t,w,h,h'=>by
  have h:tl[i]? = some t:=by simpa using h
  have h':ws[i]? = some w:=by simpa using h'
  show ((x.c y++tyCs tl ws).drop ((i+1)*13)).take 13=_
  rw[show (i+1)*13=13+i*13 by omega,←List.drop_drop,show (x.c y++tyCs tl ws).drop 13=tyCs tl ws from rfl]
  exact tyC_sub tl ws i t w h h'
theorem TbS.one4 {n0:Nat} {σ:H} {az:List (List Nat)} {rs:List Nat} {tl:List TyS} {u rv lv:V} (h:TbS n0 σ az rs tl u rv lv):u.one=true∧rv.one=true∧lv.one=true:=by
 obtain⟨ws,h1,_⟩:=h.t
 exact⟨h.n.one,h.r.one,h1.one⟩
theorem TbS.len {n0:Nat} {σ:H} {az:List (List Nat)} {rs:List Nat} {tl:List TyS} {u rv lv:V} (h:TbS n0 σ az rs tl u rv lv) (κ:Nat→Ans):slenK lv κ=κ tl.length:=by
 obtain⟨ws,h1,_⟩:=h.t
 exact h1.slen
theorem TbS.fr0 {n0:Nat} {σ σ':H} {az:List (List Nat)} {rs:List Nat} {tl:List TyS} {u rv lv:V} (h:TbS n0 σ az rs tl u rv lv) (f:Fr Nowhere σ σ') (ht:Tidy σ):TbS n0 σ' az rs tl u rv lv:=h.fr f ht (fun _ _ _ h=>h)
structure TyIs (σ:H) (x:Ty) (t:TyS):Prop where
 tags:Tgl σ t.tags x.tags
 kind:x.kind=Int.ofNat t.kind
 has:x.has=t.con.has
 hasLow:x.hasLow=t.con.hasLow
 hasHigh:x.hasHigh=t.con.hasHigh
 conMore:x.conMore=t.con.more
 low:x.low=t.con.low
 high:x.high=t.con.high
 root:x.root=Int.ofNat t.root
 more:x.more=t.more
 of_:x.of_=Int.ofNat t.of_
 items:Src σ 3 t.items.length x.items (itC t.items)
 fields:Src σ 11 t.fields.length x.fields (fdC t.fields)
def tyZ:Ty:=⟨0,.nils,false,false,false,false,0,0,.nils,.nils,0,false,0,rfl,rfl,rfl⟩
theorem TbS.rows {n0:Nat} {σ:H} {az:List (List Nat)} {rs:List Nat} {tl:List TyS} {u rv lv:V} (h:TbS n0 σ az rs tl u rv lv) :
  ∃ty:Nat→Ty,Row σ 13 tl.length lv (fun i=>(ty i).c)∧∀(i:Nat) (t:TyS),tl[i]? = some t→TyIs σ (ty i) t:=by
 obtain⟨ws,h1,h2,h3⟩:=h.t
 have H:∀i:Nat,∃x:Ty,∀(t:TyS) (w:V × V × V),tl[i]? = some t→ws[i]? = some w→x.c=t.c w∧TyIs σ x t:=by
  intro i
  cases ht:tl[i]? with
  | none=>exact⟨tyZ,fun t w e=>by cases e⟩
  | some t=>
   have hlt:i<tl.length:=(List.getElem?_eq_some_iff.1 ht).1
   obtain⟨w,hw⟩:∃w,ws[i]? = some w:=⟨ws[i],List.getElem?_eq_getElem (by omega)⟩
   obtain⟨a,b,c,_⟩:=h3 i t w ht hw
   refine⟨⟨Int.ofNat t.kind,w.1,t.con.has,t.con.hasLow,t.con.hasHigh,t.con.more,t.con.low,t.con.high,w.2.1,w.2.2,Int.ofNat t.root,t.more,Int.ofNat t.of_,a.one,b.one,c.one⟩,fun t' w' e e'=>?_⟩
   cases e
   rw[hw]at e';cases e'
   exact⟨rfl,a,rfl,rfl,rfl,rfl,rfl,rfl,rfl,rfl,rfl,rfl,b,c⟩
 refine⟨fun i=>(H i).choose,?_,fun i t ht=>?_⟩
 ·have hz:=h.z
  rcases h1 with ⟨e0,e,_⟩|⟨b,o,c,L,e,ha,hle,hm⟩
  ·rw[e0,e];exact⟨.inl ⟨rfl,rfl⟩⟩
  ·rcases hz with hz|⟨b',n',c',hz⟩
   ·rw[e]at hz;cases hz
   ·rw[e]at hz;cases hz
    rw[e]
    rw[List.drop_zero]at hm
    refine⟨.inr ⟨b,c,L,rfl,ha,fun k hk=>⟨by omega,?_⟩⟩⟩
    obtain⟨t,ht⟩:∃t,tl[k]? = some t:=⟨tl[k],List.getElem?_eq_getElem hk⟩
    obtain⟨w,hw⟩:∃w,ws[k]? = some w:=⟨ws[k],List.getElem?_eq_getElem (by omega)⟩
    have:=tyC_sub tl ws k t w ht hw
    rw[hm,List.drop_take,List.take_take,Nat.min_eq_left (by omega)]at this
    rw[this]
    exact((H k).choose_spec t w ht hw).1.symm
 ·have hlt:i<tl.length:=(List.getElem?_eq_some_iff.1 ht).1
  obtain⟨w,hw⟩:∃w,ws[i]? = some w:=⟨ws[i],List.getElem?_eq_getElem (by omega)⟩
  exact((H i).choose_spec t w ht hw).2
section
variable {E:List (Nat × Blk)} {D:Den} {W:DrawFn} {N:Nat} {σ σ':H}
theorem src_beq2 {l:List (Nat × Nat)} {v:V} (h:Tgl σ l v):V.beq v v=true:=by
 rcases h.s with ⟨_,rfl,_⟩|⟨b,o,c,L,rfl,_⟩<;>exact beq_self _ rfl
theorem dreg_int (hS:SpSigned (D 35)) (hW:SpWi E (D 34)) {v:Int} (hv:In64i v) {x:Ty} {tl:List (Nat × Nat)} (ht:Tidy σ) {b5 b7:Nat} (a5:Atc σ b5 (intC v)) (a7:Atc σ b7 x.c) (hT:Tgl σ tl x.tags) (hok:TagOk tl) :
    ∃env u σ',drawW E D G18_0 H18_0 [(5,.ptr b5 0),(7,.ptr b7 0)] σ=some (env,σ')∧Go.Og.look env 6=some u∧Nb σ σ' u (nestI false tl (nI (octN (toU v) (lenS v))))∧Fr Nowhere σ σ':=by
  obtain⟨u1,σ1,g1,h1,f1⟩:=hS (σ:=⟨σ.next+8,σ.bl⟩) hv (ht.wide 8)
  have le1:σ.next+8≤σ1.next:=f1.le
  have f01:Fr Nowhere σ σ1:=f1.wide
  have ln:=(lenS_range v).2
  have fb:Fr Nowhere σ ⟨σ1.next,(σ.next+5,.cells [u1])::σ1.bl⟩:=⟨fun c hc=>by
    have hc:σ1.next≤c:=hc
    show lookF ((σ.next+5,_)::σ1.bl) c=none
    rw[lookF_cons,if_neg (by simp only[];omega)];exact f1.tidy c hc,f01.le,fun c hc _=>by
    show lookF ((σ.next+5,_)::σ1.bl) c=_
    rw[lookF_cons,if_neg (by simp only[];omega)];exact f01.same c hc (fun h=>h)⟩
  have ab:Atc ⟨σ1.next,(σ.next+5,.cells [u1])::σ1.bl⟩ (σ.next+5) [u1]:=by
    show lookF ((σ.next+5,_)::σ1.bl) _=_
    rw[lookF_cons,if_pos rfl]
  have hu:By ⟨σ1.next,(σ.next+5,.cells [u1])::σ1.bl⟩ u1 (nI (octN (toU v) (lenS v))):=by
    have hs:=h1.by_
    rcases hs with h|⟨b,o,c,L,rfl,ha,hl,hm⟩
    · exact .inl h
    · have hb:σ.next+8≤b:=h1.2 b rfl
      refine .inr ⟨b,o,c,L,rfl,?_,hl,hm⟩
      show lookF ((σ.next+5,_)::σ1.bl) b=_
      rw[lookF_cons,if_neg (by simp only[];omega)];exact ha
  obtain⟨u2,σ2,g2,h2,f2⟩:=hW (σ:=⟨σ1.next,(σ.next+5,.cells [u1])::σ1.bl⟩) (v := .sl (σ.next+5) 0 1 (.ex 1)) (p:=u1) false fb.tidy (hT.s.fr fb ht (fun _ _ h=>h)) hok (rowL1 ab) (Bx.of hu fb.tidy) (by rw[nI_length,octN_length];omega)
  have go:Goes E D σ 8 0 Nowhere G18_0 H18_0 ⟨[(5,.ptr b5 0),(7,.ptr b7 0)],σ.next+8,[σ.bl],[],0,[]⟩ _ σ2:=
    go_p (.ptr b7 1) rfl rfl <|
    go_l x.tags (go_start ht) rfl (old_ld1 (b:=b7) (off:=1) rfl a7 rfl ht (fun h=>h) (src_beq2 hT)) fun _ r1=>
    go_p (.ptr b5 1) rfl rfl <|
    go_l (.int .i64 v) r1 rfl (old_ld1 (b:=b5) (off:=1) rfl a5 rfl ht (fun h=>h) (beq_self _ rfl)) fun _ r2=>
    go_k u1 r2 rfl (by decide) f1 (fun _ _ h=>h) (fun _ h _ _=>h) g1 fun _ _ _ r3=>
    go_a (.sl (σ.next+5) 0 1 (.ex 1)) (.cells [u1]) 32 r3 rfl (by decide) (by decide) (build1 rfl h1.1.one) fun _ r4=>
    go_k u2 r4 rfl (by decide) f2 (fun _ _ h=>h) (fun _ h _ _=>h) (call_of (vs:=[x.tags,.bool false,.sl (σ.next+5) 0 1 (.ex 1)]) rfl (by rw[List.all_cons,live_of x.oneT];rfl) g2) fun _ _ _ r5=>
    go_p u2 rfl (mov_of rfl (live_of h2.1.one)) <|
    go_nil r5
  obtain⟨d1,d2⟩:=go_draw (ops:=G18_0) go
  exact⟨_,u2,σ2,d1,rfl,h2.mono f01.le,d2⟩
end
inductive Lf (E:List (Nat × Blk)) (σ:H):Vc→List Int→Prop
 | b1:Lf E σ ⟨Int.ofNat 1,Int.ofNat 1,.nils,.nils,Int.ofNat 0,.nils,rfl,rfl,rfl⟩ [Int.ofNat 255]
 | b0:Lf E σ ⟨Int.ofNat 1,Int.ofNat 0,.nils,.nils,Int.ofNat 0,.nils,rfl,rfl,rfl⟩ [Int.ofNat 0]
 | int {n:Int} (h:In64i n):Lf E σ (Vc.int n) (nI (octN (toU n) (lenS n)))
 | oct {b:V} {hb:b.one=true} {x:List Int} (h:Bx E σ b x) (hl:x.length≤40000):Lf E σ ⟨Int.ofNat 5,Int.ofNat 0,b,.nils,Int.ofNat 0,.nils,hb,rfl,rfl⟩ x
 | nul:Lf E σ ⟨Int.ofNat 4,Int.ofNat 0,.nils,.nils,Int.ofNat 0,.nils,rfl,rfl,rfl⟩ []
theorem Lf.fr {E:List (Nat × Blk)} {σ σ':H} {v:Vc} {x:List Int} (h:Lf E σ v x) (f:Fr Nowhere σ σ'):Lf E σ' v x:=by
 cases h with
 | b1=>exact .b1
 | b0=>exact .b0
 | int h=>exact .int h
 | oct h hl=>exact .oct (h.fr f) hl
 | nul=>exact .nul
def SpDe (E:List (Nat × Blk)) (F:List V→H→Ans):Prop:=∀{σ:H} {p nT i:Nat} {ty:Nat→Ty} {nm:BS} {nv rv tv:V} {v:Vc} {x:List Int} {tl:List (Nat × Nat)},Tidy σ→Ck σ p nT ty nm nv rv tv []→i<nT→(ty i).kind=v.k→Tgl σ tl (ty i).tags→TagOk tl→Lf E σ v x →
 MakesB F [.ptr p 0,.int .i64 (Int.ofNat i),.agg v.c] σ (nestI false tl x)
theorem nils_bx (E:List (Nat × Blk)) (σ:H):Bx E σ .nils []:=⟨fun _=>rfl,rfl,rfl,rfl,fun _=>rfl,fun _ h=>h.elim⟩
section
variable {E:List (Nat × Blk)} {D:Den} {N:Nat}
theorem delem_G (hS:SpSigned (D 35)) (hW:SpWi E (D 34)):SpDe E (F18 E D (drawW E D) N):=by
 intro σ p nT i ty nm nv rv tv v x tl ht hc hi hk hT hok hv
 obtain⟨σ1,e1,f1,a1,n1⟩:=mk_new ht v.c
 have c1:=hc.fr f1 ht
 have rd:∀κ,iaddrSK 13 tv (Int.ofNat i) (fun b o=>ldnK E σ1 b o 13 κ)=κ (ty i).c:=fun κ=>c1.row.all hi κ
 obtain⟨σ2,e2,f2,a2,n2⟩:=mk_new f1.tidy [.int .i64 (Int.ofNat 0),.nils,.bool false,.bool false,.bool false,.bool false,.int .i64 (Int.ofNat 0),.int .i64 (Int.ofNat 0),.nils,.nils,.int .i64 (Int.ofNat 0),.bool false,.int .i64 (Int.ofNat 0)]
 obtain⟨σ3,e3,f3,a3⟩:=mk_set f2.tidy a2 (ty i).c
 have f02:=f1.trans f2 (fun _ _ h=>h)
 have le1:=f1.le
 have f03:Fr Nowhere σ σ3:=f02.trans f3 (fun c hc h=>by have h:c=σ1.next:=h;omega)
 have a13:Atc σ3 σ.next v.c:=f3.at_ (f2.at_ a1 f1.tidy (fun h=>h)) f2.tidy (by show ¬σ.next=σ1.next;omega)
 have st:∀κ:H→Ans,stK 13 σ1.next 0 (.agg (ty i).c) σ2 κ=κ σ3:=fun κ=>by
  rw[stK_at a2 (by unfold Ty.c;simp[cells_agg,allOne_cons,allOne_nil,one_int,one_bool,(ty i).oneT,(ty i).oneI,(ty i).oneF])]
  show κ (setF σ2 σ1.next (.cells (ty i).c))=_
  rw[e3]
 have hT3:=hT.fr f03 ht (fun _ _ h=>h)
 have ttp:=fun κ=>c1.types (E:=E) (κ:=κ)
 have put:∀(σ0:H) (q:V),Fr Nowhere σ σ0→q.one=true→Bx E σ0 q x→x.length≤40000→∃σ4 u σ5,newB σ0 (.cells [q])=σ4∧D 34 [(ty i).tags,.bool false,.sl σ0.next 0 1 (.ex 1)] σ4=some (u,σ5)∧Nb σ σ5 u (nestI false tl x)∧Fr Nowhere σ σ5:=fun σ0 q f0 ho hb hl=>by
  obtain⟨σ4,e4,f4,a4,n4⟩:=mkB f0.tidy [q]
  have f04:=f0.trans f4 (fun _ _ h=>h)
  obtain⟨u,σ5,g5,h5,f5⟩:=hW (σ:=σ4) (p:=q) false f4.tidy (hT.fr f04 ht (fun _ _ h=>h)).s hok (rowL1 a4) (hb.fr f4) (by omega)
  exact⟨σ4,u,σ5,e4,g5,h5.mono f04.le,f04.trans f5 (fun _ _ h=>h)⟩
 show ∃u σ',T18_0 E D (drawW E D) (J18_2 E D (drawW E D) N) p 0 (Int.ofNat i) v.k v.n v.b v.l v.r v.m σ=some (u,σ')∧_
 have hv3:=hv.fr f03
 unfold Vc.c at e1 a13
 unfold Ty.c at rd st a3
 cases hv with
 | b1=>
  have hk:(ty i).kind=Int.ofNat 1:=hk
  obtain⟨σ4,e4,f4,a4,n4⟩:=mkB f3.tidy (u8s [Int.ofNat 255])
  have e4':newB σ3 (.cells [V.int .u8 (Int.ofNat 255)])=σ4:=e4
  obtain⟨σ5,u,σ6,e5,g6,h6,f6⟩:=put σ4 (.sl σ3.next 0 1 (.ex 1)) (f03.trans f4 (fun _ _ h=>h)) rfl (Bx.of (Nb.lit (σ0:=σ3) (l:=[Int.ofNat 255]) a4 (Nat.le_refl _)).by_ f4.tidy) (by simp)
  refine⟨u,σ6,?_,h6,f6⟩
  have o6:=h6.1.one
  unfold T18_0
  simp -implicitDefEqProofs only [↓rP,rA,Nat.reduceEqDiff,Nat.reduceLT,Nat.reduceLeDiff,↓e1,↓ttp,↓rd,(ty i).oneT,(ty i).oneI,(ty i).oneF,↓e2,↓st,↓ldK_is a3,hk,↓ldK_is a13,↓e4',↓e5,↓g6,↓rtOne_of o6]
 | b0=>
  have hk:(ty i).kind=Int.ofNat 1:=hk
  obtain⟨σ4,e4,f4,a4,n4⟩:=mkB f3.tidy (u8s [Int.ofNat 0])
  have e4':newB σ3 (.cells [V.int .u8 (Int.ofNat 0)])=σ4:=e4
  obtain⟨σ5,u,σ6,e5,g6,h6,f6⟩:=put σ4 (.sl σ3.next 0 1 (.ex 1)) (f03.trans f4 (fun _ _ h=>h)) rfl (Bx.of (Nb.lit (σ0:=σ3) (l:=[Int.ofNat 0]) a4 (Nat.le_refl _)).by_ f4.tidy) (by simp)
  refine⟨u,σ6,?_,h6,f6⟩
  have o6:=h6.1.one
  unfold T18_0
  simp -implicitDefEqProofs only [↓rP,rA,Nat.reduceEqDiff,Nat.reduceLT,Nat.reduceLeDiff,↓e1,↓ttp,↓rd,(ty i).oneT,(ty i).oneI,(ty i).oneF,↓e2,↓st,↓ldK_is a3,hk,↓ldK_is a13,↓e4',↓e5,↓g6,↓rtOne_of o6]
 | int h=>
  rename_i n
  have hk:(ty i).kind=Int.ofNat 2:=hk
  have e1':newB σ (.cells (intC n))=σ1:=e1
  unfold intC vc at e1'
  obtain⟨env,u,σ4,g4,l4,h4,f4⟩:=dreg_int (E:=E) (D:=D) (x:=ty i) hS hW h f3.tidy (b5:=σ.next) (b7:=σ1.next) a13 a3 hT3 hok
  refine⟨u,σ4,?_,h4.mono f03.le,f03.trans f4 (fun _ _ h=>h)⟩
  have gd:∀κ:Env→H→Ans,gdrawK (drawW E D G18_0 H18_0 [(5,.ptr σ.next 0),(7,.ptr σ1.next 0)] σ3) κ=κ env σ4:=fun κ=>by rw[g4];rfl
  have m6:∀κ:V→Ans,getL env 6 κ=κ u:=fun κ=>getL_of l4 (live_of h4.1.one)
  have key:∀K,T18_0 E D (drawW E D) K p 0 (Int.ofNat i) (Int.ofNat 2) n .nils .nils (Int.ofNat 0) .nils σ=K p 0 σ.next 0 σ1.next 0 (Int.ofNat 2) true σ3:=fun K=>by
   unfold T18_0
   simp -implicitDefEqProofs only [↓rP,rA,Nat.reduceEqDiff,Nat.reduceLT,Nat.reduceLeDiff,↓e1',↓ttp,↓rd,(ty i).oneT,(ty i).oneI,(ty i).oneF,↓e2,↓st,↓ldK_is a3,hk]
  refine(key _).trans ?_
  show T18_2 E D (drawW E D) _ _ p 0 σ.next 0 σ1.next 0 (Int.ofNat 2) true σ3=_
  unfold T18_2
  simp -implicitDefEqProofs only [↓rP,rA,Nat.reduceEqDiff,Nat.reduceLT,Nat.reduceLeDiff,↓gd,↓m6]
 | oct h hl=>
  rename_i b hb
  have hk:(ty i).kind=Int.ofNat 5:=hk
  obtain⟨σ5,u,σ6,e5,g6,h6,f6⟩:=put σ3 b f03 hb (h.fr f03) hl
  refine⟨u,σ6,?_,h6,f6⟩
  have o6:=h6.1.one
  have fl:∀κ:List V→Ans,fillK [(0,1,b)] [V.nils] κ=κ [b]:=fun κ=>Go.Og.fill1 hb κ
  have key:∀K,T18_0 E D (drawW E D) K p 0 (Int.ofNat i) (Int.ofNat 5) (Int.ofNat 0) b .nils (Int.ofNat 0) .nils σ=K p 0 σ.next 0 σ1.next 0 (Int.ofNat 5) false σ3:=fun K=>by
   unfold T18_0
   simp -implicitDefEqProofs only [↓rP,rA,Nat.reduceEqDiff,Nat.reduceLT,Nat.reduceLeDiff,hb,↓e1,↓ttp,↓rd,(ty i).oneT,(ty i).oneI,(ty i).oneF,↓e2,↓st,↓ldK_is a3,hk]
  refine(key _).trans ?_
  show T18_2 E D (drawW E D) _ (T18_5 E D (drawW E D) (T18_1 E D (drawW E D))) p 0 σ.next 0 σ1.next 0 (Int.ofNat 5) false σ3=_
  unfold T18_2 T18_5 T18_1
  simp -implicitDefEqProofs only [↓rP,rA,Nat.reduceEqDiff,Nat.reduceLT,Nat.reduceLeDiff,↓ldK_is a3,↓ldK_is a13,↓fl,hb,↓e5,↓g6,↓rtOne_of o6]
 | nul=>
  have hk:(ty i).kind=Int.ofNat 4:=hk
  obtain⟨σ5,u,σ6,e5,g6,h6,f6⟩:=put σ3 .nils f03 rfl (nils_bx E σ3) (by simp)
  refine⟨u,σ6,?_,h6,f6⟩
  have o6:=h6.1.one
  have fl:∀κ:List V→Ans,fillK [(0,1,V.nils)] [V.nils] κ=κ [V.nils]:=fun κ=>Go.Og.fill1 rfl κ
  have key:∀K,T18_0 E D (drawW E D) K p 0 (Int.ofNat i) (Int.ofNat 4) (Int.ofNat 0) .nils .nils (Int.ofNat 0) .nils σ=K p 0 σ.next 0 σ1.next 0 (Int.ofNat 4) false σ3:=fun K=>by
   unfold T18_0
   simp -implicitDefEqProofs only [↓rP,rA,Nat.reduceEqDiff,Nat.reduceLT,Nat.reduceLeDiff,↓e1,↓ttp,↓rd,(ty i).oneT,(ty i).oneI,(ty i).oneF,↓e2,↓st,↓ldK_is a3,hk]
  refine(key _).trans ?_
  show T18_2 E D (drawW E D) _ (T18_5 E D (drawW E D) (T18_1 E D (drawW E D))) p 0 σ.next 0 σ1.next 0 (Int.ofNat 4) false σ3=_
  unfold T18_2 T18_5 T18_1
  simp -implicitDefEqProofs only [↓rP,rA,Nat.reduceEqDiff,Nat.reduceLT,Nat.reduceLeDiff,↓ldK_is a3,↓ldK_is a13,↓fl,↓e5,↓g6,↓rtOne_of o6]
end
def SpStr (E:List (Nat × Blk)) (F:List V→H→Ans):Prop:=∀{σ:H} {a b:V} {x:Ty} {n:Nat},Tidy σ→x.kind=Int.ofNat 5→x.has=false→Len b n→n≤40000 →
 ∃σ',F [a,.agg x.c,.agg [.int .i64 (Int.ofNat 5),.int .i64 (Int.ofNat 0),b,.nils,.int .i64 (Int.ofNat 0),.nils]] σ=some (.bool true,σ')∧Fr Nowhere σ σ'
section
variable {E:List (Nat × Blk)} {D:Den} {W:DrawFn} {N:Nat} {σ:H}
theorem str_G (hP:SpPlain (D 51)) (hW:SpWithin (D 52)):SpStr E (F54 E D W N):=by
 intro σ a b x n ht hk hh hb hn
 obtain⟨kd,tg,has,hlw,hhg,cm,lo,hi,its,fds,rt,mr,ofv,o1,o2,o3⟩:=x
 dsimp only at hk hh
 subst hk
 subst hh
 obtain⟨σ1,e1,f1,a1,n1⟩:=mk_new ht [.int .i64 (Int.ofNat 5),tg,.bool false,.bool hlw,.bool hhg,.bool cm,.int .i64 lo,.int .i64 hi,its,fds,.int .i64 rt,.bool mr,.int .i64 ofv]
 obtain⟨σ2,e2,f2,a2,n2⟩:=mk_new f1.tidy [.int .i64 (Int.ofNat 5),.int .i64 (Int.ofNat 0),b,.nils,.int .i64 (Int.ofNat 0),.nils]
 obtain⟨σ3,g3,f3⟩:=hP σ2 (Int.ofNat 2) (Int.ofNat 5) (Int.ofNat 0) (Int.ofNat 0) b .nils .nils n 0 0 f2.tidy hb Len.nils Len.nils
 obtain⟨σ4,g4,f4⟩:=hW σ3 false hlw hhg cm lo hi (Int.ofNat n) f3.tidy
 have hp:plainB (Int.ofNat 2) (Int.ofNat 5) (Int.ofNat 0) n 0 (Int.ofNat 0) 0=true:=rfl
 have hw:withinB false hlw hhg lo hi (Int.ofNat n)=true:=rfl
 rw[hp]at g3
 rw[hw]at g4
 have f13:=(f2.trans f3 (fun _ _ h=>h))
 have a13:=f13.at_ a1 f1.tidy (fun h=>h)
 have a23:=f3.at_ a2 f2.tidy (fun h=>h)
 have a14:=f4.at_ a13 f3.tidy (fun h=>h)
 have bo:=hb.1
 have bs:=hb.2
 have d1:decide (n≤70000)=true:=decide_eq_true (by omega)
 have f03:=f1.trans f13 (fun _ _ h=>h)
 unfold vc at g3
 show ∃σ',T54_0 E D W a (Int.ofNat 5) tg false hlw hhg cm lo hi its fds rt mr ofv (Int.ofNat 5) (Int.ofNat 0) b .nils (Int.ofNat 0) .nils σ=_∧_
 unfold T54_0
 cases cm with
 | true=>
  refine⟨σ3,?_,f03⟩
  simp -implicitDefEqProofs only [↓rP,rA,Nat.reduceEqDiff,Nat.reduceLT,Nat.reduceLeDiff,o1,o2,o3,bo,↓e1,↓e2,↓ldnK_is a2,↓g3,↓ldK_is a23,↓bs,d1,↓ldK_is a13]
 | false=>
  refine⟨σ4,?_,f03.trans f4 (fun _ _ h=>h)⟩
  simp -implicitDefEqProofs only [↓rP,rA,Nat.reduceEqDiff,Nat.reduceLT,Nat.reduceLeDiff,o1,o2,o3,bo,↓e1,↓e2,↓ldnK_is a2,↓g3,↓ldK_is a23,↓bs,d1,↓ldK_is a13,↓ldnK_is a13,↓g4,↓ldK_is a14]
end
section
variable {E:List (Nat × Blk)} {D:Den} {W:DrawFn} {N:Nat} {σ:H} {n p nT:Nat} {ty:Nat→Ty} {nm:BS} {nv rv tv:V} {rest:List V}
theorem bx_len {σ:H} {b:V} {x:List Int} (h:Bx E σ b x):Len b x.length:=⟨h.o,h.s⟩
theorem fitLf_G (hP:SpPlain (D 51)) (hW:SpWithin (D 52)) (hS:SpStr E (D 54)) {i dp:Nat} {v:Vc} {x:List Int} (ht:Tidy σ) (hc:Ck σ p nT ty nm nv rv tv rest) (hi:i<nT) (hd:dp≤17) (hk:(ty i).kind=v.k) (hh:(ty i).has=false) (hv:Lf E σ v x) :
  ∃σ',F30 E D W N [.ptr p 0,.int .i64 (Int.ofNat i),.agg v.c,.int .i64 (Int.ofNat dp)] σ=some (.bool true,σ')∧Fr Nowhere σ σ':=by
 have d1:decide (nT≤i)=false:=decide_eq_false (by omega)
 have d2:decide (17<dp)=false:=decide_eq_false (by omega)
 obtain⟨σ1,e1,f1,a1,n1⟩:=mk_new ht v.c
 have c1:=hc.fr f1 ht
 have rd:∀κ,iaddrSK 13 tv (Int.ofNat i) (fun b o=>ldnK E σ1 b o 13 κ)=κ (ty i).c:=fun κ=>c1.row.all hi κ
 have hl:=c1.row.len
 have ttp:=fun κ=>c1.types (E:=E) (κ:=κ)
 cases hv with
 | int h=>
  exact fitsInt_F hP hW ht hc hi hd hk (by rw[hh];exact Bool.or_true _)
 | b1=>
  have hk:(ty i).kind=Int.ofNat 1:=hk
  obtain⟨σ2,g2,f2⟩:=hP σ1 (Int.ofNat 1) (Int.ofNat 1) (Int.ofNat 1) (Int.ofNat 0) .nils .nils .nils 0 0 0 f1.tidy Len.nils Len.nils Len.nils
  have hp:plainB (Int.ofNat 1) (Int.ofNat 1) (Int.ofNat 1) 0 0 (Int.ofNat 0) 0=true:=rfl
  rw[hp]at g2
  unfold vc at g2
  unfold Vc.c at e1 a1
  have a2:=f2.at_ a1 f1.tidy (fun h=>h)
  refine⟨σ2,?_,f1.trans f2 (fun _ _ h=>h)⟩
  show T30_0 E D W _ p 0 (Int.ofNat i) (Int.ofNat 1) (Int.ofNat 1) .nils .nils (Int.ofNat 0) .nils (Int.ofNat dp) σ=_
  unfold T30_0
  simp -implicitDefEqProofs only [↓rP,rA,Nat.reduceEqDiff,Nat.reduceLT,Nat.reduceLeDiff,Nat.not_lt_zero,↓e1,↓ttp,↓hl.2,d1,d2,↓rd,Ty.c,hk,(ty i).oneT,(ty i).oneI,(ty i).oneF,↓ldK_is a1,↓ldnK_is a1,↓g2,↓ldK_is a2]
 | b0=>
  have hk:(ty i).kind=Int.ofNat 1:=hk
  obtain⟨σ2,g2,f2⟩:=hP σ1 (Int.ofNat 1) (Int.ofNat 1) (Int.ofNat 0) (Int.ofNat 0) .nils .nils .nils 0 0 0 f1.tidy Len.nils Len.nils Len.nils
  have hp:plainB (Int.ofNat 1) (Int.ofNat 1) (Int.ofNat 0) 0 0 (Int.ofNat 0) 0=true:=rfl
  rw[hp]at g2
  unfold vc at g2
  unfold Vc.c at e1 a1
  have a2:=f2.at_ a1 f1.tidy (fun h=>h)
  refine⟨σ2,?_,f1.trans f2 (fun _ _ h=>h)⟩
  show T30_0 E D W _ p 0 (Int.ofNat i) (Int.ofNat 1) (Int.ofNat 0) .nils .nils (Int.ofNat 0) .nils (Int.ofNat dp) σ=_
  unfold T30_0
  simp -implicitDefEqProofs only [↓rP,rA,Nat.reduceEqDiff,Nat.reduceLT,Nat.reduceLeDiff,Nat.not_lt_zero,↓e1,↓ttp,↓hl.2,d1,d2,↓rd,Ty.c,hk,(ty i).oneT,(ty i).oneI,(ty i).oneF,↓ldK_is a1,↓ldnK_is a1,↓g2,↓ldK_is a2]
 | nul=>
  have hk:(ty i).kind=Int.ofNat 4:=hk
  obtain⟨σ2,g2,f2⟩:=hP σ1 (Int.ofNat 0) (Int.ofNat 4) (Int.ofNat 0) (Int.ofNat 0) .nils .nils .nils 0 0 0 f1.tidy Len.nils Len.nils Len.nils
  have hp:plainB (Int.ofNat 0) (Int.ofNat 4) (Int.ofNat 0) 0 0 (Int.ofNat 0) 0=true:=rfl
  rw[hp]at g2
  unfold vc at g2
  unfold Vc.c at e1 a1
  refine⟨σ2,?_,f1.trans f2 (fun _ _ h=>h)⟩
  show T30_0 E D W _ p 0 (Int.ofNat i) (Int.ofNat 4) (Int.ofNat 0) .nils .nils (Int.ofNat 0) .nils (Int.ofNat dp) σ=_
  unfold T30_0
  simp -implicitDefEqProofs only [↓rP,rA,Nat.reduceEqDiff,Nat.reduceLT,Nat.reduceLeDiff,Nat.not_lt_zero,↓e1,↓ttp,↓hl.2,d1,d2,↓rd,Ty.c,hk,(ty i).oneT,(ty i).oneI,(ty i).oneF,↓ldK_is a1,↓ldnK_is a1,↓g2]
 | oct h hl'=>
  rename_i b hb
  have hk:(ty i).kind=Int.ofNat 5:=hk
  obtain⟨σ2,g2,f2⟩:=hS (σ:=σ1) (a := .ptr p 0) (x:=ty i) f1.tidy hk hh (bx_len (h.fr f1)) hl'
  unfold Vc.c at e1 a1
  unfold Ty.c at g2
  rw[hk]at g2
  refine⟨σ2,?_,f1.trans f2 (fun _ _ h=>h)⟩
  have key:∀K,T30_0 E D W K p 0 (Int.ofNat i) (Int.ofNat 5) (Int.ofNat 0) b .nils (Int.ofNat 0) .nils (Int.ofNat dp) σ=K p 0 (Int.ofNat i) (Int.ofNat dp) σ.next 0 (Int.ofNat 5) true (Int.ofNat 5) (ty i).tags (ty i).has (ty i).hasLow (ty i).hasHigh (ty i).conMore (ty i).low (ty i).high (ty i).items (ty i).fields (ty i).root (ty i).more (ty i).of_ σ1:=fun K=>by
   unfold T30_0
   simp -implicitDefEqProofs only [↓rP,rA,Nat.reduceEqDiff,Nat.reduceLT,Nat.reduceLeDiff,Nat.not_lt_zero,hb,↓e1,↓ttp,↓hl.2,d1,d2,↓rd,Ty.c,hk,(ty i).oneT,(ty i).oneI,(ty i).oneF,↓ldK_is a1,↓ldnK_is a1]
  show T30_0 E D W (J30_2 E D W N) p 0 (Int.ofNat i) (Int.ofNat 5) (Int.ofNat 0) b .nils (Int.ofNat 0) .nils (Int.ofNat dp) σ=_
  refine(key _).trans ?_
  show T30_2 E D W _ p 0 (Int.ofNat i) (Int.ofNat dp) σ.next 0 (Int.ofNat 5) true (Int.ofNat 5) (ty i).tags (ty i).has (ty i).hasLow (ty i).hasHigh (ty i).conMore (ty i).low (ty i).high (ty i).items (ty i).fields (ty i).root (ty i).more (ty i).of_ σ1=_
  unfold T30_2
  simp -implicitDefEqProofs only [↓rP,rA,Nat.reduceEqDiff,Nat.reduceLT,Nat.reduceLeDiff,hb,↓ldnK_is a1,↓g2]
end
theorem nestI_len {tl:List (Nat × Nat)} (h:TagOk tl) (made:Bool) (x:List Int):(nestI made tl x).length≤x.length+12:=by
 match tl,h.1 with
 | [t],_=>have:=elI_len t.1 made t.2 x;show (elI t.1 made t.2 x).length≤_;omega
 | [t,s],_=>
  have a:=elI_len s.1 made s.2 x
  have b:=elI_len t.1 true t.2 (elI s.1 made s.2 x)
  show (elI t.1 true t.2 (elI s.1 made s.2 x)).length≤_;omega
theorem Lf.len {E:List (Nat × Blk)} {σ:H} {v:Vc} {x:List Int} (h:Lf E σ v x):x.length≤40000:=by
 cases h with
 | b1=>simp
 | b0=>simp
 | int h=>rw[nI_length,octN_length];have:=(lenS_range (by assumption)).2;omega
 | oct h hl=>exact hl
 | nul=>simp
section
variable {E:List (Nat × Blk)} {D:Den} {W:DrawFn} {N:Nat} {nT:Nat} {ty:Nat→Ty} {nm:BS} {nv rv tv:V}
theorem dEnc_G {i:Nat} {v:Vc} {x:List Int} {tl:List (Nat × Nat)} {σ:H} (ht:Tidy σ) (hr:Row σ 13 nT tv fun i=>(ty i).c) (h1:nv.one=true) (h2:rv.one=true) (h3:tv.one=true) (hi:i<nT) (hk:(ty i).kind=v.k) (hT:Tgl σ tl (ty i).tags) (hok:TagOk tl) (hv:Lf E σ v x)
  (hFi:∀σ1,Tidy σ1→Fr Nowhere σ σ1→∃σ',D 16 [.agg [.str nm,nv,rv,tv],.int .i64 (Int.ofNat i),.agg v.c] σ1=some (.bool true,σ')∧Fr Nowhere σ1 σ')
  (hRu:∀σ1,Tidy σ1→Fr Nowhere σ σ1→∃σ',D 17 [.agg v.c,.int .i64 (Int.ofNat 1)] σ1=some (.bool true,σ')∧Fr Nowhere σ1 σ')
  (hE:SpDe E (D 18)) :
  ∃b σ',F10 E D W N [.agg [.str nm,nv,rv,tv],.int .i64 (Int.ofNat i),.agg v.c] σ=some (.tup [b,.int .i64 (Int.ofNat 0)],σ')∧Nb σ σ' b (nestI false tl x)∧Fr Nowhere σ σ':=by
 obtain⟨σ1,e1,f1,a1,n1⟩:=mk_new ht [.str nm,nv,rv,tv]
 obtain⟨σ2,e2,f2,a2,n2⟩:=mk_new f1.tidy v.c
 have f02:=f1.trans f2 (fun _ _ h=>h)
 obtain⟨σ3,g3,f3⟩:=hFi σ2 f02.tidy f02
 have f03:=f02.trans f3 (fun _ _ h=>h)
 obtain⟨σ4,g4,f4⟩:=hRu σ3 f03.tidy f03
 have f04:=f03.trans f4 (fun _ _ h=>h)
 obtain⟨σ5,e5,f5,a5,n5⟩:=mk_new f04.tidy [.str nm,nv,rv,tv]
 have f05:=f04.trans f5 (fun _ _ h=>h)
 have r5:=hr.fr0 f05 ht
 have c5:Ck σ5 σ4.next nT ty nm nv rv tv []:=⟨a5,h1,h2,h3,r5,fun b hb e=>by
  subst e
  have lo:=f04.le
  rcases hr.is with ⟨_,rfl⟩|⟨b,c,L,rfl,ha,_⟩
  ·exact hb
  ·have:=ha.lt ht
   have hb:σ4.next=b:=hb
   omega⟩
 obtain⟨u,σ6,g6,h6,f6⟩:=hE (σ:=σ5) f05.tidy c5 hi hk (hT.fr f05 ht (fun _ _ h=>h)) hok (hv.fr f05)
 refine⟨u,σ6,?_,h6.mono f05.le,f05.trans f6 (fun _ _ h=>h)⟩
 have a12:=f2.at_ a1 f1.tidy (fun h=>h)
 have a13:=f3.at_ a12 f02.tidy (fun h=>h)
 have a14:=f4.at_ a13 f03.tidy (fun h=>h)
 have a23:=f3.at_ a2 f02.tidy (fun h=>h)
 have a24:=f4.at_ a23 f03.tidy (fun h=>h)
 have a25:=f5.at_ a24 f04.tidy (fun h=>h)
 have sl:=h6.by_.slen
 have nl:=nestI_len hok false x
 have xl:=hv.len
 have d7:decide (70000<(nestI false tl x).length)=false:=decide_eq_false (by omega)
 have o6:=h6.1.one
 unfold Vc.c at e2 a2 a23 a24 a25 g3 g4 g6
 show T10_0 E D W nm nv rv tv (Int.ofNat i) v.k v.n v.b v.l v.r v.m σ=_
 unfold T10_0
 simp -implicitDefEqProofs only [↓rP,rA,Nat.reduceEqDiff,Nat.reduceLT,Nat.reduceLeDiff,h1,h2,h3,v.oneB,v.oneL,v.oneM,↓e1,↓ldnK_is a12,↓e2,↓ldnK_is a2,↓g3,↓ldnK_is a23,↓g4,↓ldnK_is a14,↓e5,↓ldnK_is a25,↓g6,↓rtOne_of o6,↓sl,d7]
end
section
variable {E:List (Nat × Blk)} {D:Den} {W:DrawFn} {N:Nat} {σ σ':H}
theorem rsigned_F {v:Int} (hv:In64i v) (hN:8<N) (ht:Tidy σ):Makes (F8 E D W N) [.int .i64 v] σ (sOct v):=by
  have hr:=lenS_range v
  have loop:∀(m n' j:Nat) (u:V) (σ1:H),j+1+m=lenS v→m<n'→Fr Nowhere σ σ1→Nb σ σ1 u (octBE v (j+1)) →
      ∃u' σ',L8_2 E D W N n' (v / 2 ^ (8*j)) u σ1=some (u',σ')∧Nb σ σ' u' (sOct v)∧Fr Nowhere σ σ':=by
    intro m
    induction m with
    | zero=>
      intro n' j u σ1 hj hn' f1 hu
      obtain⟨n',rfl⟩:∃k,n'=k+1:=⟨n'-1,by omega⟩
      have hw:=lenS_enough hv
      have hjl:lenS v=j+1:=by omega
      rw[hjl,small_iff v (by omega),Nat.add_sub_cancel,Bool.and_eq_true,decide_eq_true_eq,decide_eq_true_eq]at hw
      refine⟨u,σ1,?_,by unfold sOct;rw[hjl];exact hu,f1⟩
      show T8_2 E D W _ _ (v / 2 ^ (8*j)) u σ1=_
      unfold T8_2
      simp -implicitDefEqProofs only [join_or,ltF_eq]
      rw[condK_iff (by
        simp only[Bool.or_eq_false_iff,decide_eq_false_iff_not]
        refine⟨?_,?_⟩
        · show ¬(v / 2 ^ (8*j) < -128);omega
        · show ¬((127:Int)<v / 2 ^ (8*j));omega)]
      rfl
    | succ m ih=>
      intro n' j u σ1 hj hn' f1 hu
      obtain⟨n',rfl⟩:∃k,n'=k+1:=⟨n'-1,by omega⟩
      have hw:=lenS_less v (n:=j+1) (by omega) (by omega)
      rw[small_iff v (by omega),Nat.add_sub_cancel,Bool.and_eq_false_iff,decide_eq_false_iff_not,decide_eq_false_iff_not]at hw
      obtain⟨σ2,e2,f2,a2,n2⟩:=mk_new f1.tidy (u8s [byteAt v (j+1)])
      have f02:=f1.trans f2 (fun _ _ h=>h)
      obtain⟨u3,σ3,g3,h3,f3,_⟩:=app_by (E:=E) (σ0:=σ) (σ:=σ2) (v := .sl σ1.next 0 1 (.ex 1)) (l:=[byteAt v (j+1)]) (x:=u) (m:=octBE v (j+1)) (Nb.lit a2 f1.le) f02 (hu.fr f2 f1.tidy).by_ (by rw[octBE_length];simp;omega)
      obtain⟨u4,σ4,g4,h4,f4⟩:=ih n' (j+1) u3 σ3 (by omega) (by omega) f3 h3
      refine⟨u4,σ4,?_,h4,f4⟩
      have key:∀K1 K2,T8_2 E D W K1 K2 (v / 2 ^ (8*j)) u σ1=K2 (v / 2 ^ (8*(j+1))) u3 σ3:=by
        intro K1 K2
        unfold T8_2
        simp -implicitDefEqProofs only [join_or,ltF_eq]
        rw[condK_ift (by
          simp only[Bool.or_eq_true,decide_eq_true_eq]
          rcases hw with h|h
          · left;show v / 2 ^ (8*j) < -128;omega
          · right;show (127:Int)<v / 2 ^ (8*j);omega)]
        have e2':newB σ1 (.cells [V.int .u8 (byteAt v (j+1))])=σ2:=e2
        simp -implicitDefEqProofs only [down8,byte_i64,↓e2',↓g3,↓rtOne_of h3.1.one]
      exact(key _ _).trans g4
  obtain⟨σ1,e1,f1,a1,n1⟩:=mk_new ht (u8s [byteAt v 0])
  obtain⟨u,σ',g,hu,f⟩:=loop (lenS v-1) N 0 (.sl σ.next 0 1 (.ex 1)) σ1 (by omega) (by omega) f1 (Nb.lit (l:=[byteAt v 0]) a1 (Nat.le_refl _))
  refine⟨u,σ',?_,hu,f⟩
  have e1':newB σ (.cells [V.int .u8 (wrapF .u8 v)])=σ1:=by
    rw[←e1]
    have:wrapF .u8 v=byteAt v 0:=by rw[←byte_i64];congr 1;simp
    rw[this];rfl
  have hz:v / 2 ^ (8*0)=v:=by simp
  rw[hz]at g
  show T8_0 E D W (L8_2 E D W N N) v σ=_
  unfold T8_0
  rw[e1']
  exact g
theorem rsgn_F (hN:8<N):SpSigned (F8 E D W N):=fun {σ v} hv ht=>by
 have h:=rsigned_F (E:=E) (D:=D) (W:=W) hv hN ht
 unfold sOct at h
 rw[octBE_N v (lenS v) (lenS_range v).2]at h
 exact h
end
def dlP0:List Nat:=[77,32,68,69,70,73,78,73,84,73,79,78,83,32,58,58,61,32,66,69,71,73,78,32,65,32,58,58,61,32]
def dlP1:List Nat:=[66,79,79,76,69,65,78,32,66,32,58,58,61,32]
def dlP2:List Nat:=[73,78,84,69,71,69,82,32,67,32,58,58,61,32]
def dlP3:List Nat:=[79,67,84,69,84,32,83,84,82,73,78,71,32,68,32,58,58,61,32]
def dlP4:List Nat:=[78,85,76,76,32,69,78,68]
def dlM (ex:Bool):List Nat:=match ex with
 | true=>[69,88,80,76,73,67,73,84,32]
 | false=>[73,77,80,76,73,67,73,84,32]
def dlMB (ex:Bool):BS:=match ex with
 | true=>BS.mk 9 596369269913283483717
 | false=>BS.mk 9 596369269913283480905
theorem dlMB_is (ex:Bool):dlMB ex=ofN (dlM ex):=by cases ex<;>decide +kernel
def dlMk (ex:Bool) (w:List Nat):List Nat:=(([91]++w)++[93,32])++dlM ex
theorem dlText_is (ex:Bool) (w:List Nat):(((((((dlP0++dlMk ex w)++dlP1)++dlMk ex w)++dlP2)++dlMk ex w)++dlP3)++dlMk ex w)++dlP4=dlText ex w:=by
 unfold dlP0 dlP1 dlP2 dlP3 dlP4 dlMk dlM dlText
 cases ex with
 | true=>unfold dlR0 dlR1 dlR2 dlR3;simp only[List.append_assoc,List.cons_append,List.nil_append]
 | false=>unfold dlR0 dlR1 dlR2 dlR3;simp only[List.append_assoc,List.cons_append,List.nil_append]
theorem dnum_lt {v:Int} (h:In64 v):∀c∈numC v,c<256:=by
 obtain⟨m,ds,e,ok,_⟩:=numC_ok h (r:=[]) rfl rfl
 rw[e];exact numT_lt ok
theorem dnum_len {v:Int} (h:In64 v):(numC v).length≤21:=by
 obtain⟨m,ds,e,ok,_⟩:=numC_ok h (r:=[]) rfl rfl
 rw[e]
 have:=ok.n19
 unfold numT
 split
 ·rw[List.length_cons];omega
 ·omega
section
variable {E:List (Nat × Blk)} {D:Den} {W:DrawFn} {N:Nat}
theorem dlaw_1 (hDg:SpDigits 19 (D 6)) (hTb:SpTableT (fun m=>nodK m 2) N (D 7)) (hN:100≤N) {σ:H} (ht:Tidy σ) {k:Nat} (hk:k<3000) (a ex:Bool) (b:Int) (c:V) :
  ∃u rv lv bit σ',(∀K,T3_1 E D W K a b c (Int.ofNat k) ex (dlMB ex) σ=K b c (Int.ofNat k) ex (Int.ofNat (match a with | true=>1 | false=>0)) bit (ofN [77]) u rv lv σ')∧TbS σ.next σ' [[65],[66],[67],[68]] [0,1,2,3] [dlTy ex k 1,dlTy ex k 2,dlTy ex k 5,dlTy ex k 4] u rv lv∧By σ' bit [Int.ofNat (match a with | true=>255 | false=>0)]∧Fr Nowhere σ σ':=by
 have ik:In64 (Int.ofNat k):=⟨by simp only[Int.ofNat_eq_natCast];omega,by simp only[Int.ofNat_eq_natCast];omega⟩
 have lt1:=dnum_lt ik
 have ln1:=dnum_len ik
 obtain⟨w,hw⟩:∃w,w=numC (Int.ofNat k):=⟨_,rfl⟩
 obtain⟨N',hN'⟩:∃k,N=k+10:=⟨N-10,by omega⟩
 have app:∀{l m:List Nat},(∀c∈l,c<256)→(∀c∈m,c<256)→∀c∈l++m,c<256:=fun h1 h2 c hc=>(List.mem_append.1 hc).elim (h1 c) (h2 c)
 have hp0:∀c∈dlP0,c<256:=by decide
 have lp0:dlP0.length=30:=rfl
 have pp0:BS.mk 30 222506571868557908864840178738838794715991869943048379564569277948502093=ofN dlP0:=by decide +kernel
 have hp1:∀c∈dlP1,c<256:=by decide
 have lp1:dlP1.length=14:=rfl
 have pp1:BS.mk 14 653888045630826294252513155567426=ofN dlP1:=by decide +kernel
 have hp2:∀c∈dlP2,c<256:=by decide
 have lp2:dlP2.length=14:=rfl
 have pp2:BS.mk 14 653888045630844742126893291294281=ofN dlP2:=by decide +kernel
 have hp3:∀c∈dlP3,c<256:=by decide
 have lp3:dlP3.length=19:=rfl
 have pp3:BS.mk 19 718957509434857746226029963610990240362414927=ofN dlP3:=by decide +kernel
 have hp4:∀c∈dlP4,c<256:=by decide
 have lp4:dlP4.length=8:=rfl
 have pp4:BS.mk 8 4921947447783871822=ofN dlP4:=by decide +kernel
 have hm:∀c∈dlM ex,c<256:=by cases ex<;>decide
 have lm:(dlM ex).length=9:=by cases ex<;>rfl
 have h91:∀c∈([91]:List Nat),c<256:=by decide
 have h93:∀c∈([93,32]:List Nat),c<256:=by decide
 have p91:BS.mk 1 91=ofN [91]:=by decide +kernel
 have p93:BS.mk 2 8285=ofN [93,32]:=by decide +kernel
 rw[←hw]at lt1 ln1
 obtain⟨σ1,g1,f1⟩:=hDg σ k ht (by show k<100000000000000000000;omega) (by omega)
 have g1:D 6 [.int .u64 (Int.ofNat k)] σ=some (.str (ofN w),σ1):=by rw[hw];exact g1
 have ew:wrapF .u64 (Int.ofNat k)=Int.ofNat k:=wrapF_nat (k := .u64) (show k≤18446744073709551615 by omega)
 obtain⟨m1,hm1⟩:∃t,t=[91]++w:=⟨_,rfl⟩
 have c1:∀c∈m1,c<256:=by rw[hm1];exact app h91 lt1
 have s1:m1.length≤22:=by rw[hm1,List.length_append];simp only[List.length_cons,List.length_nil];omega
 obtain⟨m2,hm2⟩:∃t,t=m1++[93,32]:=⟨_,rfl⟩
 have c2:∀c∈m2,c<256:=by rw[hm2];exact app c1 h93
 have s2:m2.length≤24:=by rw[hm2,List.length_append];simp only[List.length_cons,List.length_nil];omega
 obtain⟨mk,hmk⟩:∃t,t=m2++dlM ex:=⟨_,rfl⟩
 have c3:∀c∈mk,c<256:=by rw[hmk];exact app c2 hm
 have s3:mk.length≤33:=by rw[hmk,List.length_append];omega
 have emk:mk=dlMk ex w:=by rw[hmk,hm2,hm1];rfl
 have k1:∀κ:BS→Ans,catK (BS.mk 1 91) (ofN w) κ=κ (ofN m1):=fun κ=>by rw[p91,hm1];exact catK_ofN h91 lt1 (by simp only[List.length_cons,List.length_nil];omega) κ
 have k2:∀κ:BS→Ans,catK (ofN m1) (BS.mk 2 8285) κ=κ (ofN m2):=fun κ=>by rw[p93,hm2];exact catK_ofN c1 h93 (by simp only[List.length_cons,List.length_nil];omega) κ
 have k3:∀κ:BS→Ans,catK (ofN m2) (ofN (dlM ex)) κ=κ (ofN mk):=fun κ=>by rw[hmk];exact catK_ofN c2 hm (by omega) κ
 obtain⟨t0,e0⟩:∃t,t=dlP0++mk:=⟨_,rfl⟩
 have d0:∀c∈t0,c<256:=by rw[e0];exact app hp0 c3
 have z0:t0.length≤70:=by rw[e0,List.length_append];omega
 have q0:∀κ:BS→Ans,catK (BS.mk 30 222506571868557908864840178738838794715991869943048379564569277948502093) (ofN mk) κ=κ (ofN t0):=fun κ=>by rw[pp0,e0];exact catK_ofN hp0 c3 (by omega) κ
 obtain⟨t1,e1⟩:∃t,t=t0++dlP1:=⟨_,rfl⟩
 have d1:∀c∈t1,c<256:=by rw[e1];exact app d0 hp1
 have z1:t1.length≤84:=by rw[e1,List.length_append];omega
 have q1:∀κ:BS→Ans,catK (ofN t0) (BS.mk 14 653888045630826294252513155567426) κ=κ (ofN t1):=fun κ=>by rw[pp1,e1];exact catK_ofN d0 hp1 (by omega) κ
 obtain⟨t2,e2⟩:∃t,t=t1++mk:=⟨_,rfl⟩
 have d2:∀c∈t2,c<256:=by rw[e2];exact app d1 c3
 have z2:t2.length≤117:=by rw[e2,List.length_append];omega
 have q2:∀κ:BS→Ans,catK (ofN t1) (ofN mk) κ=κ (ofN t2):=fun κ=>by rw[e2];exact catK_ofN d1 c3 (by omega) κ
 obtain⟨t3,e3⟩:∃t,t=t2++dlP2:=⟨_,rfl⟩
 have d3:∀c∈t3,c<256:=by rw[e3];exact app d2 hp2
 have z3:t3.length≤131:=by rw[e3,List.length_append];omega
 have q3:∀κ:BS→Ans,catK (ofN t2) (BS.mk 14 653888045630844742126893291294281) κ=κ (ofN t3):=fun κ=>by rw[pp2,e3];exact catK_ofN d2 hp2 (by omega) κ
 obtain⟨t4,e4⟩:∃t,t=t3++mk:=⟨_,rfl⟩
 have d4:∀c∈t4,c<256:=by rw[e4];exact app d3 c3
 have z4:t4.length≤164:=by rw[e4,List.length_append];omega
 have q4:∀κ:BS→Ans,catK (ofN t3) (ofN mk) κ=κ (ofN t4):=fun κ=>by rw[e4];exact catK_ofN d3 c3 (by omega) κ
 obtain⟨t5,e5⟩:∃t,t=t4++dlP3:=⟨_,rfl⟩
 have d5:∀c∈t5,c<256:=by rw[e5];exact app d4 hp3
 have z5:t5.length≤183:=by rw[e5,List.length_append];omega
 have q5:∀κ:BS→Ans,catK (ofN t4) (BS.mk 19 718957509434857746226029963610990240362414927) κ=κ (ofN t5):=fun κ=>by rw[pp3,e5];exact catK_ofN d4 hp3 (by omega) κ
 obtain⟨t6,e6⟩:∃t,t=t5++mk:=⟨_,rfl⟩
 have d6:∀c∈t6,c<256:=by rw[e6];exact app d5 c3
 have z6:t6.length≤216:=by rw[e6,List.length_append];omega
 have q6:∀κ:BS→Ans,catK (ofN t5) (ofN mk) κ=κ (ofN t6):=fun κ=>by rw[e6];exact catK_ofN d5 c3 (by omega) κ
 obtain⟨t7,e7⟩:∃t,t=t6++dlP4:=⟨_,rfl⟩
 have d7:∀c∈t7,c<256:=by rw[e7];exact app d6 hp4
 have z7:t7.length≤224:=by rw[e7,List.length_append];omega
 have q7:∀κ:BS→Ans,catK (ofN t6) (BS.mk 8 4921947447783871822) κ=κ (ofN t7):=fun κ=>by rw[pp4,e7];exact catK_ofN d6 hp4 (by omega) κ
 have etx:t7=dlText ex w:=by
  rw[e7,e6,e5,e4,e3,e2,e1,e0,emk];exact dlText_is ex w
 have hlen:(ofN t7).len≤3000:=by rw[ofN_len];omega
 obtain⟨tk0,i0⟩:=dl_tk ex ik N' (ofN t7).len
 rw[←hw]at tk0 i0
 have tk:Tks N (ofN t7).len (ofN t7).nats (dlToks ex (ofN t7).len w):=by
  rw[ofN_nats d7,hN',etx]
  rw[etx]at tk0
  exact tk0
 have bad:mBad w=false:=by
  unfold mBad
  rw[i0]
  rw[ltF_nat,ltF_nat,decide_eq_false (by omega),decide_eq_false (by omega)];rfl
 have hmod:=dl_mod ex (ofN t7).len bad
 rw[i0]at hmod
 obtain⟨u,rv,lv,σ2,g2,s2',f2⟩:=hTb σ1 _ _ _ _ _ f1.tidy hlen tk hmod (dl_ok ex (Int.ofNat k)) (dl_roots ex (n:=k) (by omega))
 have s2':TbS σ1.next σ2 [[65],[66],[67],[68]] [0,1,2,3] [dlTy ex k 1,dlTy ex k 2,dlTy ex k 5,dlTy ex k 4] u rv lv:=s2'
 obtain⟨o1,o2,o3⟩:=s2'.one4
 have slr:∀κ:Nat→Ans,slenK rv κ=κ 4:=fun κ=>s2'.r.slen
 obtain⟨σ3,e3',f3,a3,n3⟩:=mkB f2.tidy (u8s [Int.ofNat 0])
 have e3':newB σ2 (.cells [V.int .u8 (Int.ofNat 0)])=σ3:=e3'
 obtain⟨σ4,e4',f4,a4,n4⟩:=mkB f3.tidy (u8s [Int.ofNat 255])
 have e4':newB σ3 (.cells [V.int .u8 (Int.ofNat 255)])=σ4:=e4'
 have f02:=f1.trans f2 (fun _ _ h=>h)
 have f03:=f02.trans f3 (fun _ _ h=>h)
 have s3':=(s2'.fr0 f3 f2.tidy).low f1.le
 have nmm:(dlMd ex (Int.ofNat k)).nm=[77]:=rfl
 rw[nmm]at g2
 unfold tbC at g2
 have dl:decide ([dlTy ex k 1,dlTy ex k 2,dlTy ex k 5,dlTy ex k 4].length≤120)=true:=rfl
 rw[dl]at g2
 cases a with
 | true=>
  refine⟨u,rv,lv,.sl σ3.next 0 1 (.ex 1),σ4,fun K=>?_,s3'.fr0 f4 f3.tidy,(Nb.lit (σ0:=σ3) (l:=[Int.ofNat 255]) a4 (Nat.le_refl _)).by_,f03.trans f4 (fun _ _ h=>h)⟩
  rw[dlMB_is]
  unfold T3_1
  simp -implicitDefEqProofs only [↓rP,rA,Nat.reduceEqDiff,Nat.reduceLT,Nat.reduceLeDiff,ew,↓g1,↓k1,↓k2,↓k3,↓q0,↓q1,↓q2,↓q3,↓q4,↓q5,↓q6,↓q7,↓g2,o1,o2,o3,↓slr,↓e3',↓e4']
 | false=>
  refine⟨u,rv,lv,.sl σ2.next 0 1 (.ex 1),σ3,fun K=>?_,s3',(Nb.lit (σ0:=σ2) (l:=[Int.ofNat 0]) a3 (Nat.le_refl _)).by_,f03⟩
  rw[dlMB_is]
  unfold T3_1
  simp -implicitDefEqProofs only [↓rP,rA,Nat.reduceEqDiff,Nat.reduceLT,Nat.reduceLeDiff,ew,↓g1,↓k1,↓k2,↓k3,↓q0,↓q1,↓q2,↓q3,↓q4,↓q5,↓q6,↓q7,↓g2,o1,o2,o3,↓slr,↓e3',↓e4']
end
def bN (a:Bool) (x y:Nat):Nat:=match a with | true=>x | false=>y
def dlVal (a:Bool) (n:Int) (b:V) (hb:b.one=true):Nat→Vc
 | 0=>⟨Int.ofNat 1,Int.ofNat (bN a 1 0),.nils,.nils,Int.ofNat 0,.nils,rfl,rfl,rfl⟩
 | 1=>Vc.int n
 | 2=>⟨Int.ofNat 5,Int.ofNat 0,b,.nils,Int.ofNat 0,.nils,hb,rfl,rfl⟩
 | _=>⟨Int.ofNat 4,Int.ofNat 0,.nils,.nils,Int.ofNat 0,.nils,rfl,rfl,rfl⟩
def dlCont (a:Bool) (n:Int) (x:List Int):Nat→List Int
 | 0=>[Int.ofNat (bN a 255 0)]
 | 1=>nI (octN (toU n) (lenS n))
 | 2=>x
 | _=>[]
def dlOwn:Nat→Nat
 | 0=>1
 | 1=>2
 | 2=>4
 | _=>5
def dlKind:Nat→Nat
 | 0=>1
 | 1=>2
 | 2=>5
 | _=>4
structure DlS (E:List (Nat × Blk)) (σ:H) (a:Bool) (n:Int) (b:V) (hb:b.one=true) (x:List Int) (vv cv ov:V):Prop where
 ht:Tidy σ
 v:Row σ 6 4 vv (fun i=>(dlVal a n b hb i).c)
 c:∃cont:Nat→V,Row σ 1 4 cv (fun i=>[cont i])∧∀i,i<4→Bx E σ (cont i) (dlCont a n x i)
 o:Row σ 1 4 ov (fun i=>[.int .i64 (Int.ofNat (dlOwn i))])
 oc:Bx E σ b x
theorem DlS.fr {E:List (Nat × Blk)} {σ σ':H} {a:Bool} {n:Int} {b:V} {hb:b.one=true} {x:List Int} {vv cv ov:V} (h:DlS E σ a n b hb x vv cv ov) (f:Fr Nowhere σ σ'):DlS E σ' a n b hb x vv cv ov:=by
 obtain⟨cont,r,q⟩:=h.c
 exact⟨f.tidy,h.v.fr0 f h.ht,⟨cont,r.fr0 f h.ht,fun i hi=>(q i hi).fr f⟩,h.o.fr0 f h.ht,h.oc.fr f⟩
theorem DlS.lf {E:List (Nat × Blk)} {σ:H} {a:Bool} {n:Int} {b:V} {hb:b.one=true} {x:List Int} {vv cv ov:V} (h:DlS E σ a n b hb x vv cv ov) (hn:In64i n) (hl:x.length≤300) (i:Nat):Lf E σ (dlVal a n b hb i) (dlCont a n x i):=by
 match i with
 | 0=>cases a;exact .b0;exact .b1
 | 1=>exact .int hn
 | 2=>exact .oct h.oc (Nat.le_trans hl (by decide))
 | _+3=>exact .nul
def dlWant (ex:Bool) (k i:Nat) (x:List Int):List Int:=match ex with
 | true=>elI 2 true k (elI 0 false (dlOwn i) x)
 | false=>elI 2 false k x
theorem dlWant_is (ex:Bool) (k:Nat) {i:Nat} (hi:i<4) (x:List Int):nestI false (wrapP k (!ex) [(0,uniP (dlKind i))]) x=dlWant ex k i x:=by
 have:i=0∨i=1∨i=2∨i=3:=by omega
 rcases this with rfl|rfl|rfl|rfl<;>cases ex<;>rfl
theorem dlTag_ok (ex:Bool) {k:Nat} (hk:k<3000) {i:Nat} (hi:i<4):TagOk (wrapP k (!ex) [(0,uniP (dlKind i))]):=by
 have hu:uniP (dlKind i)<16384:=by
  have:i=0∨i=1∨i=2∨i=3:=by omega
  rcases this with rfl|rfl|rfl|rfl<;>decide
 cases ex with
 | true=>
  refine⟨.inr rfl,fun t ht=>?_⟩
  have ht:t=(2,k)∨t=(0,uniP (dlKind i)):=by simpa[wrapP]using ht
  rcases ht with rfl|rfl
  ·exact⟨.inr rfl,by show k<16384;omega⟩
  ·exact⟨.inl rfl,hu⟩
 | false=>
  refine⟨.inl rfl,fun t ht=>?_⟩
  have ht:t=(2,k):=by simpa[wrapP]using ht
  subst ht
  exact⟨.inr rfl,by show k<16384;omega⟩
theorem dlCont_len (a:Bool) (n:Int) {x:List Int} (hl:x.length≤300) (i:Nat):(dlCont a n x i).length≤300:=by
 match i with
 | 0=>simp[dlCont]
 | 1=>show (nI _).length≤_;rw[nI_length,octN_length];have:=(lenS_range n).2;omega
 | 2=>exact hl
 | _+3=>simp[dlCont]
def SpEncD (E:List (Nat × Blk)) (F:List V→H→Ans):Prop:=∀{n0:Nat} {σ:H} {az:List (List Nat)} {rs:List Nat} {nm:BS} {u rv lv:V} {ex:Bool} {k i:Nat} {v:Vc} {x:List Int},Tidy σ→TbS n0 σ az rs [dlTy ex k 1,dlTy ex k 2,dlTy ex k 5,dlTy ex k 4] u rv lv→k<3000→i<4→v.k=Int.ofNat (dlKind i)→Lf E σ v x →
 ∃b σ',F [.agg [.str nm,u,rv,lv],.int .i64 (Int.ofNat i),.agg v.c] σ=some (.tup [b,.int .i64 (Int.ofNat 0)],σ')∧Nb σ σ' b (dlWant ex k i x)∧Fr Nowhere σ σ'
def SpSame (E:List (Nat × Blk)) (F:List V→H→Ans):Prop:=∀{σ:H} {x y:V} {l:List Int},By σ x l→By σ y l→F [x,y] σ=some (.bool true,σ)
section
variable {E:List (Nat × Blk)} {D:Den} {W:DrawFn} {N:Nat}
theorem dsame_F:SpSame E (F11 E D W N):=by
 intro σ x y l hx hy
 show T11_0 E D W x y σ=_
 unfold T11_0
 rw[hx.str,hy.str,BS.beq_nats,decide_eq_true rfl]
end
theorem dl_rd {E:List (Nat × Blk)} {σ:H} {n k:Nat} {x v:V} {m:List V} (h:Src σ 1 n x m) (hv:m[k]? = some v) (κ:V→Ans):iaddrSK 1 x (Int.ofNat k) (fun b o=>ldK E σ b o κ)=κ v:=by
 have hk:k<m.length:=(List.getElem?_eq_some_iff.1 hv).1
 rw[h.length]at hk
 rcases h with ⟨_,_,rfl⟩|⟨b,o,c,L,rfl,ha,hl,rfl⟩
 ·cases hv
 ·rw[iaddrSK_lt (by omega)]
  refine ldK_get ha ?_
  rw[List.getElem?_take_of_lt (by omega),List.getElem?_drop]at hv
  rw[←hv]
  show L[o+k*1]? = _
  rw[Nat.mul_one]
theorem ui_rdx {E:List (Nat × Blk)} {σ:H} {i:Nat} {x:V} (h:Src σ 1 4 x (ksC [0,1,2,3])) (hi:i<4) (κ:V→Ans):iaddrSK 1 x (Int.ofNat i) (fun b o=>ldK E σ b o κ)=κ (.int .i64 (Int.ofNat i)):=by
 have:i=0∨i=1∨i=2∨i=3:=by omega
 rcases this with rfl|rfl|rfl|rfl<;>exact dl_rd h rfl κ
section
variable {E:List (Nat × Blk)} {D:Den} {W:DrawFn} {N:Nat}
theorem dl_want (hEl:SpElR E (D 9)) {σ:H} {k:Nat} (hk:k<3000) (ex:Bool) {a:Bool} {n:Int} {b:V} {hb:b.one=true} {x:List Int} {vv cv ov:V} (h:DlS E σ a n b hb x vv cv ov) (hl:x.length≤300) {i:Nat} (hi:i<4) {nm:BS} {u rv lv:V} :
  ∃w σ',(∀K3 K6,T3_4 E D W K3 K6 (Int.ofNat k) ex vv cv ov (Int.ofNat i) nm u rv lv σ=K6 (Int.ofNat k) ex vv cv ov (Int.ofNat i) w nm u rv lv σ')∧Nb σ σ' w (dlWant ex k i (dlCont a n x i))∧Fr Nowhere σ σ':=by
 obtain⟨cont,rc,bc⟩:=h.c
 have cl:=dlCont_len a n hl i
 have d4:decide (i<4)=true:=decide_eq_true hi
 have r1:∀κ,iaddrSK 1 cv (Int.ofNat i) (fun b o=>ldK E σ b o κ)=κ (cont i):=fun κ=>rc.one (j:=0) hi rfl κ
 obtain⟨u1,σ1,g1,h1,f1⟩:=hEl (σ:=σ) (c:=2) (k:=k) false h.ht (.inr rfl) (by omega) (by omega) (bc i hi)
 have o1:=h1.1.one
 cases ex with
 | false=>
  refine⟨u1,σ1,fun K3 K6=>?_,h1,f1⟩
  unfold T3_4
  simp -implicitDefEqProofs only [↓rP,rA,Nat.reduceEqDiff,Nat.reduceLT,Nat.reduceLeDiff,d4,↓r1,↓g1,↓rtOne_of o1]
 | true=>
  have r2:∀κ,iaddrSK 1 ov (Int.ofNat i) (fun b o=>ldK E σ1 b o κ)=κ (.int .i64 (Int.ofNat (dlOwn i))):=fun κ=>(h.fr f1).o.one (j:=0) hi rfl κ
  have r3:∀κ,iaddrSK 1 cv (Int.ofNat i) (fun b o=>ldK E σ1 b o κ)=κ (cont i):=fun κ=>(rc.fr0 f1 h.ht).one (j:=0) hi rfl κ
  have ho:dlOwn i<16384:=by
   have:i=0∨i=1∨i=2∨i=3:=by omega
   rcases this with rfl|rfl|rfl|rfl<;>decide
  obtain⟨u2,σ2,g2,h2,f2⟩:=hEl (σ:=σ1) (c:=0) (k:=dlOwn i) false f1.tidy (.inl rfl) ho (by omega) ((bc i hi).fr f1)
  have el:=elI_len 0 false (dlOwn i) (dlCont a n x i)
  obtain⟨u3,σ3,g3,h3,f3⟩:=hEl (σ:=σ2) (c:=2) (k:=k) true f2.tidy (.inr rfl) (by omega) (by omega) (Bx.of h2.by_ f2.tidy)
  have o2:=h2.1.one
  have o3:=h3.1.one
  have f12:=f1.trans f2 (fun _ _ h=>h)
  refine⟨u3,σ3,fun K3 K6=>?_,h3.mono f12.le,f12.trans f3 (fun _ _ h=>h)⟩
  unfold T3_4
  simp -implicitDefEqProofs only [↓rP,rA,Nat.reduceEqDiff,Nat.reduceLT,Nat.reduceLeDiff,d4,↓r1,↓g1,↓rtOne_of o1,↓r2,↓r3,↓g2,↓rtOne_of o2,↓g3,↓rtOne_of o3]
theorem dl_check (hEn:SpEncD E (D 10)) (hSm:SpSame E (D 11)) {σ:H} {k:Nat} (hk:k<3000) (ex:Bool) {a:Bool} {n:Int} (hn:In64i n) {b:V} {hb:b.one=true} {x:List Int} {vv cv ov:V} (h:DlS E σ a n b hb x vv cv ov) (hl:x.length≤300) {i n0:Nat} (hi:i<4) {az:List (List Nat)} {nm:BS} {u rv lv w:V} (hs:TbS n0 σ az [0,1,2,3] [dlTy ex k 1,dlTy ex k 2,dlTy ex k 5,dlTy ex k 4] u rv lv) (hw:By σ w (dlWant ex k i (dlCont a n x i))) :
  ∃σ',(∀R,T3_6 E D W (T3_5 E D W R) (Int.ofNat k) ex vv cv ov (Int.ofNat i) w nm u rv lv σ=R (Int.ofNat k) ex vv cv ov (Int.ofNat (i+1)) nm u rv lv σ')∧Fr Nowhere σ σ':=by
 have hvk:(dlVal a n b hb i).k=Int.ofNat (dlKind i):=by
  have:i=0∨i=1∨i=2∨i=3:=by omega
  rcases this with rfl|rfl|rfl|rfl<;>rfl
 obtain⟨v,hv⟩:∃v,v=dlVal a n b hb i:=⟨_,rfl⟩
 have rr:∀κ:V→Ans,iaddrSK 1 rv (Int.ofNat i) (fun b o=>ldK E σ b o κ)=κ (.int .i64 (Int.ofNat i)):=fun κ=>ui_rdx hs.r hi κ
 have r6:∀κ,iaddrSK 6 vv (Int.ofNat i) (fun b o=>ldnK E σ b o 6 κ)=κ v.c:=fun κ=>by rw[hv];exact h.v.all hi κ
 have lf:=h.lf hn hl i
 rw[←hv]at lf hvk
 obtain⟨q,σ1,g1,h1,f1⟩:=hEn (nm:=nm) h.ht hs hk hi hvk lf
 have g2:=hSm h1.by_ (hw.fr f1 h.ht)
 refine⟨σ1,fun R=>?_,f1⟩
 unfold Vc.c at r6 g1
 have ad:addF .i64 (Int.ofNat i) (Int.ofNat 1)=Int.ofNat (i+1):=addF_nat (by omega)
 unfold T3_6 T3_5
 simp -implicitDefEqProofs only [↓rP,rA,Nat.reduceEqDiff,Nat.reduceLT,Nat.reduceLeDiff,↓rr,↓r6,v.oneB,v.oneL,v.oneM,↓g1,↓g2,ad]
end
theorem dfill2 {b:V} (hb:b.one=true) (κ:List V→Ans):fillK [(0,1,(V.int .i64 (Int.ofNat 5))),(2,1,b)] [(V.int .i64 (Int.ofNat 0)),(V.int .i64 (Int.ofNat 0)),V.nils,V.nils,(V.int .i64 (Int.ofNat 0)),V.nils] κ=κ [.int .i64 (Int.ofNat 5),.int .i64 (Int.ofNat 0),b,.nils,.int .i64 (Int.ofNat 0),.nils]:=by
 obtain⟨h1,h2⟩:=one_live hb
 unfold fillK fillA fillA
 rw[h1,h2]
 rfl
theorem dfill4 {a b c:V} (ha:a.one=true) (hb:b.one=true) (hc:c.one=true) (κ:List V→Ans):fillK [(0,1,a),(1,1,b),(2,1,c),(3,1,V.nils)] [V.nils,V.nils,V.nils,V.nils] κ=κ [a,b,c,.nils]:=by
 obtain⟨a1,a2⟩:=one_live ha
 obtain⟨b1,b2⟩:=one_live hb
 obtain⟨c1,c2⟩:=one_live hc
 unfold fillK fillA fillA fillA fillA
 rw[a1,a2,b1,b2,c1,c2]
 rfl
section
variable {E:List (Nat × Blk)} {D:Den} {W:DrawFn} {N:Nat}
theorem dl_vals (hS:SpSigned (D 8)) {σ:H} (ht:Tidy σ) {k:Nat} (ex:Bool) {a:Bool} {n:Int} (hn:In64i n) {b bit:V} (hb:b.one=true) {x:List Int} (hx:Bx E σ b x) (hbit:By σ bit [Int.ofNat (bN a 255 0)]) {nm:BS} {u rv lv:V} :
  ∃vv cv ov σ',(∀K4,T3_2 E D W K4 n b (Int.ofNat k) ex (Int.ofNat (bN a 1 0)) bit nm u rv lv σ=K4 (Int.ofNat k) ex vv cv ov (Int.ofNat 0) nm u rv lv σ')∧DlS E σ' a n b hb x vv cv ov∧Fr Nowhere σ σ':=by
 obtain⟨σ1,e1,f1,a1,n1⟩:=mkB ht [.int .i64 (Int.ofNat 1),.int .i64 (Int.ofNat (bN a 1 0)),.nils,.nils,.int .i64 (Int.ofNat 0),.nils,.int .i64 (Int.ofNat 2),.int .i64 n,.nils,.nils,.int .i64 (Int.ofNat 0),.nils,.int .i64 (Int.ofNat 5),.int .i64 (Int.ofNat 0),b,.nils,.int .i64 (Int.ofNat 0),.nils,.int .i64 (Int.ofNat 4),.int .i64 (Int.ofNat 0),.nils,.nils,.int .i64 (Int.ofNat 0),.nils]
 obtain⟨s,σ2,g2,h2,f2⟩:=hS (σ:=σ1) hn f1.tidy
 have f02:=f1.trans f2 (fun _ _ h=>h)
 have os:=h2.1.one
 have ob:=hbit.one
 obtain⟨σ3,e3,f3,a3,n3⟩:=mkB f2.tidy [bit,s,b,.nils]
 have f03:=f02.trans f3 (fun _ _ h=>h)
 obtain⟨σ4,e4,f4,a4,n4⟩:=mkB f3.tidy [.int .i64 (Int.ofNat 1),.int .i64 (Int.ofNat 2),.int .i64 (Int.ofNat 4),.int .i64 (Int.ofNat 5)]
 have f04:=f03.trans f4 (fun _ _ h=>h)
 have a14:=f4.at_ (f3.at_ (f2.at_ a1 f1.tidy (fun h=>h)) f2.tidy (fun h=>h)) f3.tidy (fun h=>h)
 have a34:=f4.at_ a3 f3.tidy (fun h=>h)
 have four:∀{i:Nat},i<4→i=0∨i=1∨i=2∨i=3:=fun h=>by omega
 refine⟨.sl σ.next 0 4 (.ex 4),.sl σ2.next 0 4 (.ex 4),.sl σ3.next 0 4 (.ex 4),σ4,fun K4=>?_,⟨f4.tidy,⟨.inr ⟨_,_,_,rfl,a14,fun i hi=>?_⟩⟩,⟨fun i=>match i with | 0=>bit | 1=>s | 2=>b | _ => .nils,⟨.inr ⟨_,_,_,rfl,a34,fun i hi=>?_⟩⟩,fun i hi=>?_⟩,⟨.inr ⟨_,_,_,rfl,a4,fun i hi=>?_⟩⟩,hx.fr f04⟩,f04⟩
 ·have ff:=dfill2 hb
  have f4':=dfill4 ob os hb
  unfold T3_2
  simp -implicitDefEqProofs only [↓rP,rA,Nat.reduceEqDiff,Nat.reduceLT,Nat.reduceLeDiff,↓ff,hb,↓e1,↓g2,↓rtOne_of os,↓f4',ob,os,↓e3,↓e4]
 ·rcases four hi with rfl|rfl|rfl|rfl<;>exact⟨by simp,rfl⟩
 ·rcases four hi with rfl|rfl|rfl|rfl<;>exact⟨by simp,rfl⟩
 ·rcases four hi with rfl|rfl|rfl|rfl
  ·exact Bx.of (hbit.fr f04 ht) f4.tidy
  ·exact(Bx.of h2.by_ f2.tidy).fr (f3.trans f4 (fun _ _ h=>h))
  ·exact hx.fr f04
  ·exact nils_bx E σ4
 ·rcases four hi with rfl|rfl|rfl|rfl<;>exact⟨by simp,rfl⟩
end
theorem wu64 (v:Int):wrapF .u64 v=v % 18446744073709551616:=by rw[wrapF_eq];rfl
theorem rem_m (a:Int) (m:Nat) (h0:0<m) (hm:m≤1000000):∃r:Nat,r<m∧wrapF .i64 (Int.tmod (wrapF .u64 a) (Int.ofNat m))=Int.ofNat r:=by
 obtain⟨k,hk⟩:∃k:Nat,wrapF .u64 a=Int.ofNat k:=by
  rw[wu64]
  exact Int.eq_ofNat_of_zero_le (Int.emod_nonneg _ (by decide))
 have h2:Int.tmod (Int.ofNat k) (Int.ofNat m)=Int.ofNat (k % m):=rfl
 have:=Nat.mod_lt k h0
 exact⟨k % m,this,by rw[hk,h2];exact wrapF_nat (show k % m≤9223372036854775807 by omega)⟩
def SpAwk (F:List V→H→Ans):Prop:=∀(σ:H),Tidy σ→∃σ',F [] σ=some (.bool true,σ')∧Fr Nowhere σ σ'
section
variable {E:List (Nat × Blk)} {D:Den} {W:DrawFn} {N:Nat}
theorem dl_loop (hEl:SpElR E (D 9)) (hEn:SpEncD E (D 10)) (hSm:SpSame E (D 11)) (hA:SpAwk (D 5)) {k:Nat} (hk:k<3000) (ex:Bool) {a:Bool} {n:Int} (hn:In64i n) {b:V} {hb:b.one=true} {x:List Int} {vv cv ov:V} (hl:x.length≤300) {n0:Nat} {az:List (List Nat)} {nm:BS} {u rv lv:V} :
  ∀(m n' i:Nat) (σ:H),i+m=4→m<n'→DlS E σ a n b hb x vv cv ov→TbS n0 σ az [0,1,2,3] [dlTy ex k 1,dlTy ex k 2,dlTy ex k 5,dlTy ex k 4] u rv lv→∃σ',L3_4 E D W N n' (Int.ofNat k) ex vv cv ov (Int.ofNat i) nm u rv lv σ=some (.bool true,σ'):=by
 intro m
 induction m with
 | zero=>
  intro n' i σ hi hn' h hs
  obtain⟨n',rfl⟩:∃q,n'=q+1:=⟨n'-1,by omega⟩
  obtain⟨σ1,g1,f1⟩:=hA σ h.ht
  refine⟨σ1,?_⟩
  have d4:decide (i<4)=false:=decide_eq_false (by omega)
  have key:∀K6,T3_4 E D W (T3_3 E D W) K6 (Int.ofNat k) ex vv cv ov (Int.ofNat i) nm u rv lv σ=some (.bool true,σ1):=fun K6=>by
   unfold T3_4 T3_3
   simp -implicitDefEqProofs only [↓rP,rA,Nat.reduceEqDiff,Nat.reduceLT,Nat.reduceLeDiff,d4,↓g1]
  exact key _
 | succ m ih=>
  intro n' i σ hi hn' h hs
  obtain⟨n',rfl⟩:∃q,n'=q+1:=⟨n'-1,by omega⟩
  obtain⟨w,σ1,g1,h1,f1⟩:=dl_want (W:=W) hEl hk ex h hl (i:=i) (by omega) (nm:=nm) (u:=u) (rv:=rv) (lv:=lv)
  have hs1:=hs.fr0 f1 h.ht
  obtain⟨σ2,g2,f2⟩:=dl_check (W:=W) hEn hSm hk ex hn (h.fr f1) hl (i:=i) (by omega) hs1 (nm:=nm) h1.by_
  obtain⟨σ3,g3⟩:=ih n' (i+1) σ2 (by omega) (by omega) ((h.fr f1).fr f2) (hs1.fr0 f2 f1.tidy)
  exact⟨σ3,(g1 _ _).trans ((g2 _).trans g3)⟩
theorem dl_law_F (hDg:SpDigits 19 (D 6)) (hTb:SpTableT (fun m=>nodK m 2) N (D 7)) (hS:SpSigned (D 8)) (hEl:SpElR E (D 9)) (hEn:SpEncD E (D 10)) (hSm:SpSame E (D 11)) (hA:SpAwk (D 5)) (hN:100≤N) {σ:H} (ht:Tidy σ) (a ex:Bool) {n:Int} (hn:In64i n) (tag:Int) {b:V} {x:List Int} (hx:Bx E σ b x) :
  ∃σ',F3 E D W N [.bool a,.int .i64 n,b,.int .i64 tag,.bool ex] σ=some (.bool true,σ'):=by
 have bo:=hx.o
 have sl:=hx.s
 show ∃σ',T3_0 E D W (J3_1 E D W N) a n b tag ex σ=some (.bool true,σ')
 cases hd:decide (300<x.length)with
 | true=>
  obtain⟨σ1,g1,f1⟩:=hA σ ht
  refine⟨σ1,?_⟩
  unfold T3_0
  simp -implicitDefEqProofs only [↓rP,rA,Nat.reduceEqDiff,Nat.reduceLT,Nat.reduceLeDiff,↓sl,hd,↓g1]
 | false=>
  have hl:x.length≤300:=by have:=of_decide_eq_false hd;omega
  obtain⟨k,hk,ek⟩:=rem_m tag 3000 (by decide) (by decide)
  have k0:∀K,T3_0 E D W K a n b tag ex σ=K a n b (Int.ofNat k) ex (dlMB ex) σ:=fun K=>by
   unfold T3_0
   cases ex with
   | true=>simp -implicitDefEqProofs only [↓rP,rA,Nat.reduceEqDiff,Nat.reduceLT,Nat.reduceLeDiff,↓sl,hd,ek];rfl
   | false=>simp -implicitDefEqProofs only [↓rP,rA,Nat.reduceEqDiff,Nat.reduceLT,Nat.reduceLeDiff,↓sl,hd,ek];rfl
  obtain⟨u,rv,lv,bit,σ1,g1,s1,b1,f1⟩:=dlaw_1 (E:=E) (W:=W) hDg hTb hN ht hk a ex n b
  have b1':By σ1 bit [Int.ofNat (bN a 255 0)]:=b1
  obtain⟨vv,cv,ov,σ2,g2,h2,f2⟩:=dl_vals (E:=E) (W:=W) hS f1.tidy (k:=k) ex (a:=a) hn bo (hx.fr f1) b1' (nm:=ofN [77]) (u:=u) (rv:=rv) (lv:=lv)
  obtain⟨σ3,g3⟩:=dl_loop (E:=E) (W:=W) (N:=N) hEl hEn hSm hA hk ex hn hl 4 N 0 σ2 rfl (by omega) h2 (s1.fr0 f2 f1.tidy) (nm:=ofN [77])
  refine⟨σ3,?_⟩
  rw[k0]
  exact(g1 _).trans ((g2 _).trans g3)
end
def SpFitI (E:List (Nat × Blk)) (F:List V→H→Ans):Prop:=∀{σ:H} {p nT i dp:Nat} {ty:Nat→Ty} {nm:BS} {nv rv tv:V} {rest:List V} {v:Vc} {x:List Int},Tidy σ→Ck σ p nT ty nm nv rv tv rest→i<nT→dp≤17→(ty i).kind=v.k→(ty i).has=false→Lf E σ v x →
 ∃σ',F [.ptr p 0,.int .i64 (Int.ofNat i),.agg v.c,.int .i64 (Int.ofNat dp)] σ=some (.bool true,σ')∧Fr Nowhere σ σ'
def SpCn0 (F:List V→H→Ans):Prop:=∀{σ:H} (v:Vc),Tidy σ→v.l = .nils→∃σ',F [.agg v.c] σ=some (.int .i64 (Int.ofNat 1),σ')∧Fr Nowhere σ σ'
def SpRu0 (F:List V→H→Ans):Prop:=∀{σ:H} (v:Vc) (ru:Int),Tidy σ→v.l = .nils→v.r=Int.ofNat 0→∃σ',F [.agg v.c,.int .i64 ru] σ=some (.bool true,σ')∧Fr Nowhere σ σ'
def SpFitL (E:List (Nat × Blk)) (F:List V→H→Ans):Prop:=∀{σ:H} {nT i:Nat} {ty:Nat→Ty} {nm:BS} {nv rv tv:V} {v:Vc} {x:List Int},Tidy σ→Row σ 13 nT tv (fun i=>(ty i).c)→nv.one=true→rv.one=true→tv.one=true→i<nT→(ty i).kind=v.k→(ty i).has=false→Lf E σ v x →
 ∃σ',F [.agg [.str nm,nv,rv,tv],.int .i64 (Int.ofNat i),.agg v.c] σ=some (.bool true,σ')∧Fr Nowhere σ σ'
theorem Lf.l0 {E:List (Nat × Blk)} {σ:H} {v:Vc} {x:List Int} (h:Lf E σ v x):v.l = .nils∧v.r=Int.ofNat 0:=by
 cases h<;>exact⟨rfl,rfl⟩
section
variable {E:List (Nat × Blk)} {D:Den} {W:DrawFn} {N:Nat}
theorem fitI_G (hP:SpPlain (D 51)) (hW:SpWithin (D 52)) (hS:SpStr E (D 54)):SpFitI E (F30 E D W N):=fun ht hc hi hd hk hh hv=>fitLf_G hP hW hS ht hc hi hd hk hh hv
theorem fitL_G (hF:SpFitI E (D 30)) (hC:SpCn0 (D 31)):SpFitL E (F16 E D W N):=by
 intro σ nT i ty nm nv rv tv v x ht hr h1 h2 h3 hi hk hh hv
 exact Fits_F (v:=v) (n:=1) (by omega) ht hr h1 h2 h3 (fun σ1 p t1 f hc=>hF t1 hc hi (by decide) hk hh (hv.fr f)) (fun σ1 t1 f=>hC v t1 hv.l0.1)
theorem encD_G (hF:SpFitL E (D 16)) (hRu:SpRu0 (D 17)) (hE:SpDe E (D 18)):SpEncD E (F10 E D W N):=by
 intro n0 σ az rs nm u rv lv ex k i v x ht hs hk hi hvk hv
 obtain⟨ty,row,is⟩:=hs.rows
 obtain⟨o1,o2,o3⟩:=hs.one4
 have i0:TyIs σ (ty i) (dlTy ex k (dlKind i)):=by
  have:i=0∨i=1∨i=2∨i=3:=by omega
  rcases this with rfl|rfl|rfl|rfl<;>exact is _ _ rfl
 have hkk:(ty i).kind=v.k:=by rw[i0.kind,hvk];rfl
 have hT:Tgl σ (wrapP k (!ex) [(0,uniP (dlKind i))]) (ty i).tags:=i0.tags
 obtain⟨b,σ',g,n,f⟩:=dEnc_G (E:=E) (D:=D) (W:=W) (N:=N) (nT:=4) (ty:=ty) (nm:=nm) (nv:=u) (rv:=rv) (tv:=lv) (i:=i) ht row o1 o2 o3 hi hkk hT (dlTag_ok ex hk hi) hv
  (fun σ1 t1 f=>hF t1 (row.fr0 f ht) o1 o2 o3 hi hkk i0.has (hv.fr f))
  (fun σ1 t1 f=>hRu v _ t1 hv.l0.1 hv.l0.2) hE
 rw[dlWant_is ex k hi]at n
 exact⟨b,σ',g,n,f⟩
end
theorem bx_arg {E:List (Nat × Blk)} {len cap:Nat} {f:Nat→Int} (h:len≠0→lookF E 50=some (.cells ((List.range len).map fun i => .int .u8 (f i)))) (h0:len≠0):Bx E ⟨100,[]⟩ (.sl 50 0 len (.ex cap)) ((List.range len).map f):=by
 have hl:=h h0
 have e:u8s ((List.range len).map f)=(List.range len).map fun i => .int .u8 (f i):=by unfold u8s;rw[List.map_map];rfl
 have ln:((List.range len).map f).length=len:=by simp
 unfold Bx
 rw[ln,e]
 refine⟨fun κ=>?_,?_,by simp,rfl,fun κ=>rfl,fun b hb=>by cases hb;decide⟩
 ·show rdK E ⟨100,[]⟩ 50 (fun l=>subK l 0 (len*1) fun l'=>κ len l')=_
  unfold rdK
  show (match lookF E 50 with | some (.cells l)=>_ | _=>none)=_
  rw[hl]
  show subK _ 0 (len*1) _=_
  rw[subK_of (by simp)]
  rw[List.drop_zero,List.take_of_length_le (by simp)]
 ·show (rdN E ⟨100,[]⟩ 50 0 (len*1)).map _=_
  unfold rdN rd
  simp only[←lookF_eq]
  rw[show lookF ([]:List (Nat × Blk)) 50=none from rfl]
  simp only[hl]
  simp
  exact List.take_of_length_le (by simp)
theorem hit1 {e:Few} {F:List V→H→Ans} {args:List V} {σ:H} {ρ:Nat→Nat} (hm:e.Fits ρ args σ):∃ρ',e.Fits ρ' args σ∧locF [e] F args σ=some (e.ans ρ' σ):=by
 obtain⟨e',ρ',he,hf,hr⟩:=locF_hit (F:=F) (l:=[e]) (List.mem_singleton.2 rfl) hm
 have:=List.mem_singleton.1 he
 subst this
 exact⟨ρ',hf,hr⟩
theorem Has.nil {ρ:Nat→Nat} {σ:H}:Has [] ρ σ:=fun id b h=>by cases h
theorem Inj.nil {ρ:Nat→Nat}:Inj [] ρ:=fun id id' h=>by cases h
variable {E:List (Nat × Blk)}
theorem xRat (d:Nat):SpRat (TW E (d+1) 64):=by rw[DE64];exact rat_F
theorem xLet (d:Nat):SpLet (TW E (d+1) 65):=by rw[DE65];exact rlet_F
theorem xDig (d:Nat):SpDig (TW E (d+1) 68):=by rw[DE68];exact rdig_F
theorem xWht (d:Nat):SpWht 600000 (TW E (d+2) 37):=by rw[DE37];exact wht_F (xRat d) (by decide)
theorem xInS (d:Nat):SpInS (TW E (d+1) 43):=by rw[DE43];exact inS_F (by decide)
theorem xWords (d:Nat):∀σ:H,(TW E (d+1) 98) [] σ=some (.sl σ.next 0 25 (.ex 25),newB σ (.cells (wordsV.map .str))):=by rw[DE98];exact rwords_F
theorem xWord (d:Nat):SpRword (TW E (d+2) 67):=by rw[DE67];exact rword_F (xInS d) (xWords d)
theorem xName (d:Nat):SpRname (TW E (d+2) 66):=by rw[DE66];exact rname_F (xRat d) (xLet d) (xDig d) (by decide)
theorem xSign (d:Nat):SpRsign (TW E (d+1) 72):=by rw[DE72];exact rsign_F (by decide)
theorem xNum (d:Nat):SpRnum (TW E (d+2) 69):=by rw[DE69];exact rnum_F (xRat d) (xLet d) (xDig d) (by decide)
theorem xOne (d:Nat):SpOne (TW E (d+3) 38):=by rw[DE38];exact one_F (xRat (d+1)) (xLet (d+1)) (xDig (d+1)) (xName d) (xWord d) (xNum d) (xSign (d+1))
theorem xToks (d:Nat):SpTks 600000 (TW E (d+4) 19):=by rw[DE19];exact rtokens_F (xWht (d+1)) (xOne d) (by decide)
theorem xNow (d:Nat):SpNow (TW E (d+1) 23):=by rw[DE23];exact now_F
theorem xNext (d:Nat):SpNext (TW E (d+1) 39):=by rw[DE39];exact next_F
theorem xIs (d:Nat):SpIs (TW E (d+2) 22):=by rw[DE22];exact is_F (xNow d) (xNext d)
theorem xMust (d:Nat):SpMust (TW E (d+3) 21):=by rw[DE21];exact must_F (xIs d)
theorem xKind (d:Nat):SpKind (TW E (d+2) 20):=by rw[DE20];exact kind_F (xNow d) (xNext d)
theorem xWhole (d:Nat):SpWhole (TW E (d+1) 73):=by rw[DE73];exact whole_F (by decide)
theorem xNumb (d:Nat):SpNumb (TW E (d+3) 41):=by rw[DE41];exact numb_F (xKind d) (xWhole (d+1))
theorem xBnds (d:Nat):SpBounds (TW E (d+4) 75):=by rw[DE75];exact bounds_F (xIs (d+1)) (xMust d) (xNumb d)
theorem xSize (d:Nat):SpSize5 (TW E (d+5) 74):=by rw[DE74];exact size_F (xIs (d+2)) (xMust (d+1)) (xBnds d)
theorem xBeg (d:Nat):SpBeg (TW E (d+1) 40):=by rw[DE40];exact beg_F (by decide)
theorem xItems (d:Nat):SpItems (TW E d 76):=by
 unfold SpItems
 intros
 rename_i h
 cases h
theorem xTyp0 (d:Nat):SpTypT (typP 0) (TW E d 25):=by
 intro σ xb lv ts l l' R ns ns' Q d i _ _ _ h
 cases h
theorem xFields0 (d:Nat):SpFieldsT (typP 0) (TW E d 77):=by
 unfold SpFieldsT
 intros
 rename_i h
 cases h
theorem xBase0 (d:Nat):SpBaseT (typP 0) (TW E (d+6) 42):=by rw[DE42];exact base_F (xNow (d+4)) (xIs (d+3)) (xMust (d+2)) (xSize d) (xBnds (d+1)) (xItems (d+5)) (xFields0 (d+5)) (xTyp0 (d+5))
theorem xTyp1 (d:Nat):SpTypT (typP 1) (TW E (d+7) 25):=by rw[DE25];exact typ_F (typP_mon 0) (xNow (d+5)) (xBeg (d+5)) (xIs (d+4)) (xMust (d+3)) (xNumb (d+3)) (xBase0 d)
theorem xFields1 (d:Nat):SpFieldsT (typP 1) (TW E d 77):=by
 unfold SpFieldsT
 intros
 rename_i h
 cases h
theorem xBase1 (d:Nat):SpBaseT (typP 1) (TW E (d+8) 42):=by rw[DE42];exact base_F (xNow (d+6)) (xIs (d+5)) (xMust (d+4)) (xSize (d+2)) (xBnds (d+3)) (xItems (d+7)) (xFields1 (d+7)) (xTyp1 d)
theorem xTyp2 (d:Nat):SpTypT (typP 2) (TW E (d+9) 25):=by rw[DE25];exact typ_F (typP_mon 1) (xNow (d+7)) (xBeg (d+7)) (xIs (d+6)) (xMust (d+5)) (xNumb (d+5)) (xBase1 d)
theorem xParse (d:Nat):SpParse 600000 (typP 2) (TW E (d+10) 13):=by rw[DE13];exact parse_F (xNow (d+8)) (xIs (d+7)) (xMust (d+6)) (xKind (d+7)) (xToks (d+5)) (xTyp2 d) (by decide)
theorem xUni (d:Nat):SpUni (TW E (d+1) 79):=by rw[DE79];exact uni_F
theorem xCheck (d:Nat):SpCheck (TW E (d+1) 80):=by rw[DE80];exact check_F
theorem xInI (d:Nat):SpInI (TW E (d+1) 12):=by rw[DE12];exact inI_F (by decide)
theorem xUsesQ {m:ModS} (hm:MdOk m) (d:Nat):∀q:Nat,SpUses m q (TW E (d+(q+1)) 44)
 | 0=>by rw[show d+(0+1)=d+1 from rfl,DE44];exact uses_F hm (by decide) (fun p e=>by cases e)
 | q+1=>by
  rw[show d+(q+1+1)=(d+(q+1))+1 from rfl,DE44]
  exact uses_F hm (by decide) (fun p e=>by cases e;exact xUsesQ hm d q)
theorem xUses {m:ModS} (hm:MdOk m) (d:Nat):SpUses m 17 (TW E (d+18) 44):=xUsesQ hm d 17
theorem xReach (d:Nat):SpReach (TW E (d+1) 45):=by rw[DE45];exact reach_F (by decide)
theorem xOrder {m:ModS} (hm:MdOk m) (d:Nat):SpOrder m (TW E (d+19) 26):=by rw[DE26];exact order_F hm (xInS (d+17)) (xInI (d+17)) (xUses hm d) (xReach (d+17)) (by decide)
theorem xWrap (d:Nat):SpWrap (TW E (d+1) 83):=by rw[DE83];exact wrap_F
theorem xMsoft (m:ModS) (d:Nat):SpMsoft m (TW E (d+1) 48):=by rw[DE48];exact msoft_F m
theorem xMwrap (m:ModS) (d:Nat):SpMwrap m (TW E (d+2) 49):=by rw[DE49];exact mwrap_F m (xWrap d)
theorem xMnode0 (m:ModS) (d:Nat):SpMnode m (nodK m 0) (TW E d 27):=by
 intro σ0 σ xb nv tv dv lv tl tl' d k i Q _ _ _ _ _ h
 cases h
theorem xMmade0 (m:ModS) (d:Nat):SpMmade m (nodK m 0) (TW E (d+2) 47):=by rw[DE47];exact made_F (xUni d) (xCheck d) (xMnode0 m (d+1))
theorem xMnode1 (m:ModS) (d:Nat):SpMnode m (nodK m 1) (TW E (d+3) 27):=by rw[DE27];exact nodeK_F (xMmade0 m d) (xMsoft m (d+1)) (xMwrap m d)
theorem xMmade1 (m:ModS) (d:Nat):SpMmade m (nodK m 1) (TW E (d+4) 47):=by rw[DE47];exact made_F (xUni (d+2)) (xCheck (d+2)) (xMnode1 m d)
theorem xMnode2 (m:ModS) (d:Nat):SpMnode m (nodK m 2) (TW E (d+5) 27):=by rw[DE27];exact nodeK_F (xMmade1 m d) (xMsoft m (d+3)) (xMwrap m (d+2))
theorem xMake {m:ModS} (hm:MdOk m) (d:Nat):SpMake m (nodK m 2) (TW E (d+20) 14):=by rw[DE14];exact make_F hm (xOrder hm d) (xMnode2 m (d+14)) (by decide)
theorem xTable (d:Nat):SpTableT (fun m=>nodK m 2) 600000 (TW E (d+21) 7):=by rw[DE7];exact tableT_F (xParse (d+10)) (fun _ hm=>xMake hm d)
theorem xDigitsQ (d:Nat):∀k:Nat,k≤31→SpDigits k (TW E (d+(k+1)) 6)
 | 0,_=>by rw[show d+(0+1)=d+1 from rfl,DE6];exact digits0_F _ _ _ _
 | k+1,h=>by
  rw[show d+(k+1+1)=(d+(k+1))+1 from rfl,DE6]
  exact digits_F (xDigitsQ d k (by omega)) (by omega)
theorem xDigits (d:Nat):SpDigits 19 (TW E (d+20) 6):=xDigitsQ d 19 (by decide)
theorem xO8 (d:Nat):SpO8 (TW E (d+1) 60):=by rw[DE60];exact o8_F (by decide)
theorem xSgn (d:Nat):SpSigned (TW E (d+2) 35):=by rw[DE35];exact sgn_F (xO8 d) (by decide)
theorem xUns (d:Nat):SpUnsigned (TW E (d+2) 117):=by rw[DE117];exact uns_F (xO8 d) (by decide)
theorem xRsg (d:Nat):SpSigned (TW E (d+1) 8):=by rw[DE8];exact rsgn_F (by decide)
theorem xRgr (d:Nat):SpGrp (TW E (d+1) 28):=by rw[DE28];exact rgrp_F (by decide)
theorem xRln (d:Nat):SpLn (TW E (d+1) 29):=by rw[DE29];exact rlen_F (by decide)
theorem xOgr (d:Nat):SpGrp (TW E (d+1) 116):=by rw[DE116];exact ogrp_F (by decide)
theorem xOln (d:Nat):SpLn (TW E (d+2) 117):=oln_of (xUns d)
theorem xJoin (d:Nat):SpJoinB E (TW E (d+1) 58):=by rw[DE58];exact joinB_F (by decide)
theorem xRhd (d:Nat):SpHd (TW E (d+2) 15):=by rw[DE15];exact rhead_G (xRgr d) (xRln d)
theorem xRel (d:Nat):SpElR E (TW E (d+3) 9):=by rw[DE9];exact relem_G (xRhd d)
theorem xOhd (d:Nat):SpHd (TW E (d+3) 94):=by rw[DE94];exact ohead_G (xJoin (d+1)) (xOgr (d+1)) (xOln d)
theorem xOel (d:Nat):SpElP E (TW E (d+4) 59):=by rw[DE59];exact oel_G (xJoin (d+2)) (xOhd d)
theorem xWi (d:Nat):SpWi E (TW E (d+5) 34):=by rw[DE34];exact within_G (xJoin (d+3)) (xOel d) (by decide)
theorem xDel (d:Nat):SpDe E (TW E (d+6) 18):=by rw[DE18];exact delem_G (xSgn (d+3)) (xWi d)
theorem xPlain (d:Nat):SpPlain (TW E (d+1) 51):=by rw[DE51];exact plain_F
theorem xWithin (d:Nat):SpWithin (TW E (d+1) 52):=by rw[DE52];exact fun σ h hl hh mo lo hi v ht=>within_F ht h hl hh mo lo hi v
theorem xIx (d:Nat):SpIx (TW E (d+1) 57) (TW E d):=by rw[DE57];exact fun ht hr hq hn=>ixV_F ht hr hq (by omega) (by omega)
theorem xCf (d:Nat):SpCf (TW E (d+2) 32) (TW E d):=by rw[DE32];exact cfV_F (xIx d)
theorem xCount0 (d:Nat) {σ:H} (ht:Tidy σ) (v:Vc) (hl:v.l = .nils):∃σ',TW E (d+1) 31 [.agg v.c] σ=some (.int .i64 (Int.ofNat 1),σ')∧Fr Nowhere σ σ':=by
 rw[DE31];exact count_F (n:=0) (g:=fun _=>v) (by omega) (by omega) ht ⟨.inl ⟨rfl,hl⟩⟩ (fun _ k hk=>absurd hk (Nat.not_lt_zero _))
theorem xRules0 (d:Nat) {σ:H} (ht:Tidy σ) (v:Vc) (hl:v.l = .nils) (hr:v.r=Int.ofNat 0) (ru:Int):∃σ',TW E (d+3) 17 [.agg v.c,.int .i64 ru] σ=some (.bool true,σ')∧Fr Nowhere σ σ':=by
 rw[DE17];exact rules_F (n:=0) (g:=fun _=>v) (xCf d) (by omega) (by rw[hr];rfl) ht ⟨.inl ⟨rfl,hl⟩⟩ (fun _ _ k hk=>absurd hk (Nat.not_lt_zero _))
theorem xCn0 (d:Nat):SpCn0 (TW E (d+1) 31):=fun v ht hl=>xCount0 d ht v hl
theorem xRu0 (d:Nat):SpRu0 (TW E (d+3) 17):=fun v ru ht hl hr=>xRules0 d ht v hl hr ru
theorem xStr (d:Nat):SpStr E (TW E (d+2) 54):=by rw[DE54];exact str_G (xPlain d) (xWithin d)
theorem xFitI (d:Nat):SpFitI E (TW E (d+3) 30):=by rw[DE30];exact fitI_G (xPlain (d+1)) (xWithin (d+1)) (xStr d)
theorem xFitL (d:Nat):SpFitL E (TW E (d+4) 16):=by rw[DE16];exact fitL_G (xFitI d) (xCn0 (d+2))
theorem xEnc (d:Nat):SpEncD E (TW E (d+7) 10):=by rw[DE10];exact encD_G (xFitL (d+2)) (xRu0 (d+3)) (xDel d)
theorem xSm (d:Nat):SpSame E (TW E (d+1) 11):=by rw[DE11];exact dsame_F
theorem xAwk (d:Nat):SpAwk (TW E (d+1) 5):=by
 intro σ ht
 obtain⟨ρ,hf,hr⟩:=hit1 (e:=eAw) (F:=BD E 600000 (TW E d) 5) (fits_of (e:=eAw) (ρ:=fun x=>x) (args:=[]) (σ:=σ) rfl Has.nil Inj.nil)
 exact⟨_,by rw[DE5,hr];rfl,Few.fr0 eAw_shape (by kernel_rfl) hf ht⟩
theorem dl_run {E:List (Nat × Blk)} (a ex:Bool) {n:Int} (hn:In64i n) (tag:Int) {b:V} {x:List Int} (hx:Bx E ⟨100,[]⟩ b x):okB (F3 E (TW E 59) (drawW E (TW E 59)) 600000 [.bool a,.int .i64 n,b,.int .i64 tag,.bool ex] ⟨100,[]⟩)=true:=by
 have ht:Tidy ⟨100,[]⟩:=fun _ _=>rfl
 obtain⟨σ',h⟩:=dl_law_F (E:=E) (D:=TW E 59) (W:=drawW E (TW E 59)) (N:=600000) (xDigits 39) (xTable 38) (xRsg 58) (xRel 56) (xEnc 52) (xSm 58) (xAwk 58) (by decide) ht a ex hn tag hx
 rw[h];rfl
end
end Go.Proofs.YtgblfbajgpboiaaGreatDoor
set_option maxHeartbeats 0
namespace Go.Proofs.YtgblfbajgpboiaaGreatDoor.derLeaves
open Go
theorem k_inPlace:(Rows.derLeavesRow.inPlace==Tryz.pinned.checked.prog.inPlace 3)=true:=by kernel_rfl
theorem k_unfollowed:(Rows.derLeavesRow.unfollowed==Tryz.pinned.checked.prog.unfollowed 3)=true:=by kernel_rfl
theorem k_recurses:(Rows.derLeavesRow.recurses==Tryz.pinned.checked.prog.recurses 3)=true:=by kernel_rfl
theorem k_varsNamed:(Rows.derLeavesRow.named==Tryz.pinned.checked.prog.varsNamed 3)=true:=by kernel_rfl
end Go.Proofs.YtgblfbajgpboiaaGreatDoor.derLeaves
