/- What the last text leans on, part 6 of 7: merged out of smaller texts. No condition. -/
import Derived.Test.YtnpcmeaplmfdlaaDoorQ4
open Int renaming ofNat -> AA
open Nat renaming reduceLeDiff -> AB,reduceEqDiff -> AD,reduceLT -> AE,le_refl -> AG,le_trans -> AN,add -> AU,ble -> Ab,lt_or_ge -> Ad,beq -> Ag,ble_eq -> Ai,zero_add -> B2,zero_le -> CD,lt_of_lt_of_le -> Cz,beq_refl -> EU,mul_one -> FC,mul_le_mul_right -> FD,le_add_right -> GD,le_succ_of_le -> HE,eq_zero_or_pos -> PF,add_mul -> PJ,succ_le_succ -> UI,min_eq_left -> aq,succ_pos -> eI,sub_self -> eJ
open Bool renaming and_eq_true -> AF,or_eq_false_iff -> BN,and_true -> Be,true_and -> CQ,false_and -> EW,false_or -> E1,or_false -> JK
open List renaming length_cons -> AM,getElem?_eq_getElem -> AY,length_drop -> Aa,getElem?_eq_none -> Af,mem_cons_of_mem -> Ah,mem_cons_self -> As,length_append -> Aw,getElem?_append_left -> Ay,length_nil -> A0,mem_cons -> BF,getElem?_append_right -> BX,mem_of_mem_drop -> Bf,getElem?_map -> Bk,suffix_refl -> CI,getElem?_drop -> CL,mem_singleton -> Cc,length_set -> Ck,length_take -> Cl,drop_drop -> C5,append_assoc -> DD,getElem?_take -> DN,mem_of_mem_take -> D4,mem_of_getElem? -> D5,drop_zero -> EV,append_nil -> Eb,not_mem_nil -> Ey,mem_append -> G1,length -> Ij,nil_append -> JI,map_append -> au,drop_take -> nM
set_option linter.all false
set_option maxRecDepth 100000
namespace Go.Proofs.YtnpcmeaplmfdlaaDoor
open Go Go.Og
noncomputable section
structure C1 where
 lo:Nat
 go0:Nat->List A4->Er->List AL->Bool × Nat × List A4 × Er × List AL
def C1.go (T:C1) (d:Nat) (l:List A4) (er:Er) (ns:List AL):Bool × Nat × List A4 × Er × List AL:=T.go0 d l er ns
abbrev RU:=Bool × AL × List A4 × Er × List AL
def LB (nb:Nat) (iv:V) (fv:FV):Nat->Prop:=fun b=>b=nb\/AS iv b\/NF fv b
def Rp.wd (R:Rp) (dv:V):Rp:=⟨R.nm,R.tg,R.nv,R.tv,dv,R.er⟩
def AL.af (x:AL) (f:CT):AL:=⟨x.kind,x.name,x.mHas,x.mNum,x.mMode,x.con,x.items,x.fields++[f],x.root,x.more,x.of_⟩
def Ks (nd:AL) (w:List Nat) (g i:Nat) (l:List A4) (er:Er):Bool × CT × List A4 × Er:=
 match decide (nd.kind=9)with
 | true=>(true,⟨w,i,false,false,0,0,[],g⟩,l,er)
 | false=>match CE (BS.mk 8 5494759122808361039) l with
  | (true,l3)=>(true,⟨w,i,true,false,0,0,[],g⟩,l3,er)
  | (false,l3)=>match CE (BS.mk 7 23727827094750532) l3 with
   | (true,l4)=>match JN l4 er with
    | (b,v,l5,er5)=>(b,⟨w,i,false,true,v.1,v.2.1,v.2.2,g⟩,l5,er5)
   | (false,l4)=>(true,⟨w,i,false,false,0,0,[],g⟩,l4,er)
def CH (T:C1) (d g:Nat) (nd:AL) (l:List A4) (er:Er) (ns:List AL):RU:=match IL 2 l er with
 | (false,l1,er1)=>(false,nd,l1,er1,ns)
 | (true,l1,er1)=>match T.go (d+1) l1 er1 ns with
  | (false,_,l2,er2,ns2)=>(false,nd,l2,er2,ns2)
  | (true,i,l2,er2,ns2)=>match Ks nd (CF l).2.1 g i l2 er2 with
   | (b,x,l3,er3)=>(b,nd.af x,l3,er3,ns2)
def Dg (T:C1) (F:List V->H->AH):Prop:=∀{Z:H} {pb:Nat} {lv:V} {ts l:List A4} {R:Rp} {ns:List AL} {Q:Nat->Prop} {d:Nat},Pn Z pb lv ts l R ns Q->(∀b,Q b->b<Z.next)->(T.lo<=d/\d<=1000) ->
 ∃dv' Z',F [.ptr pb 0,.int .i64 (AA d)] Z=some (.tup [.int .i64 (AA (T.go d l R.er ns).2.1),.bool (T.go d l R.er ns).1],Z')/\Pn Z' pb lv ts (T.go d l R.er ns).2.2.1 ((R.wd dv').e (T.go d l R.er ns).2.2.2.1) (T.go d l R.er ns).2.2.2.2 Q/\Fr (PB pb R.dv) Z Z'/\(∀b,AS dv' b->AS R.dv b\/Z.next<=b)
structure Bz (Z Z':H) (pb:Nat) (lv:V) (ts l':List A4) (R:Rp) (er':Er) (ns':List AL) (Q:Nat->Prop) (nb:Nat) (nd':AL) (iv:V) (fv fv':FV) (dv':V):Prop where
 p:Pn Z' pb lv ts l' ((R.wd dv').e er') ns' (fun b=>Q b\/LB nb iv fv' b)
 q:Nq Z' nb nd' iv fv'
 ap:Aq pb lv dv' nb iv fv'
 mf:∀b,NF fv' b->NF fv b\/Z.next<=b
 md:∀b,AS dv' b->AS R.dv b\/Z.next<=b
 f:Fr (fun b=>PB pb R.dv b\/b=nb\/NF fv b) Z Z'
def CZ (T:C1) (F:List V->H->AH):Prop:=∀{Z:H} {pb:Nat} {lv:V} {ts l:List A4} {R:Rp} {ns:List AL} {Q:Nat->Prop} {nb:Nat} {nd:AL} {iv:V} {fv:FV} {d g:Nat},
 Pn Z pb lv ts l R ns (fun b=>Q b\/LB nb iv fv b)->(∀b,Q b->b<Z.next)->Nq Z nb nd iv fv->Aq pb lv R.dv nb iv fv->nd.fields.length<=9000->(T.lo<=d+1/\d<=900)->g<=9000 ->
 ∃dv' fv' Z',F [.ptr pb 0,.ptr nb 0,.int .i64 (AA g),.int .i64 (AA d)] Z=some (.bool (CH T d g nd l R.er ns).1,Z') /\
  Bz Z Z' pb lv ts (CH T d g nd l R.er ns).2.2.1 R (CH T d g nd l R.er ns).2.2.2.1 (CH T d g nd l R.er ns).2.2.2.2 Q nb (CH T d g nd l R.er ns).2.1 iv fv fv' dv'
section
variable {Z Z1 Z2:H} {pb:Nat} {lv:V} {ts l l1 l2:List A4} {R:Rp} {er1 er2:Er} {ns ns1 ns2:List AL} {Q:Nat->Prop} {nb:Nat} {nd nd1 nd2:AL} {iv:V} {fv fv1 fv2:FV} {dv1 dv2:V}
theorem Bz.trans (h:Bz Z Z1 pb lv ts l1 R er1 ns1 Q nb nd1 iv fv fv1 dv1) (k:Bz Z1 Z2 pb lv ts l2 ((R.wd dv1).e er1) er2 ns2 Q nb nd2 iv fv1 fv2 dv2):Bz Z Z2 pb lv ts l2 R er2 ns2 Q nb nd2 iv fv fv2 dv2:=by
 have le:=h.f.le
 refine⟨k.p,k.q,k.ap,fun b hb=>(k.mf b hb).elim (h.mf b) (fun e => .inr (by omega)),fun b hb=>(k.md b hb).elim (h.md b) (fun e => .inr (by omega)),h.f.trans k.f fun b hb e=>?_⟩
 rcases e with (e|e)|e|e
 ·exact .inl (.inl e)
 ·exact(h.md b e).elim (fun h => .inl (.inr h)) (fun h=>by omega)
 ·exact .inr (.inl e)
 ·exact(h.mf b e).elim (fun h => .inr (.inr h)) (fun h=>by omega)
theorem Bz.go (h:Pn Z pb lv ts l R ns (fun b=>Q b\/LB nb iv fv b)) (q:Nq Z nb nd iv fv) (ap:Aq pb lv R.dv nb iv fv) (p:Ps Z1 pb lv ts l1 (R.e er1)) (f:Fr (fun k=>k=pb) Z Z1):Bz Z Z1 pb lv ts l1 R er1 ns Q nb nd iv fv fv R.dv:=
 ⟨h.goe p f,q.frx f h.p.ht ap.a,ap,fun _ h => .inl h,fun _ h => .inl h,f.mono fun _ _ e => .inl (.inl e)⟩
theorem Bz.own (h:Pn Z pb lv ts l R ns (fun b=>Q b\/LB nb iv fv b)) (ap:Aq pb lv R.dv nb iv fv) (q:Nq Z1 nb nd1 iv fv) (f:Fr (fun k=>k=nb) Z Z1):Bz Z Z1 pb lv ts l R R.er ns Q nb nd1 iv fv fv R.dv:=
 ⟨h.fr f (fun e=>ap.a.x e.symm) (fun b hb e=>ap.a.l (e ▸ hb)) (fun b hb e=>ap.d (e ▸ hb)) (fun b _ e => .inr (.inl e)),q,ap,fun _ h => .inl h,fun _ h => .inl h,f.mono fun _ _ e => .inr (.inl e)⟩
end
section
variable {E:EB} {D:BB} {N:Nat}
theorem DF {T:C1} (hO:Oh (D 15)) (hI:Ft (D 38)) (hV:UB (D 78)) (hT:Dg T (D 39)):CZ T (uG E D (A2 E D) N):=by
 intro Z pb lv ts l R ns Q nb nd iv fv d g h hQ q ap hfl hd hg
 obtain⟨Z1,g1,p1,f1⟩:=hO 2 h.p h.p.llt
 have g1:D 15 [.ptr pb 0,.int .i64 (AA 2)] Z=some (.tup [.agg (Ca (CF l)),.bool (IL 2 l R.er).1],Z1):=g1
 unfold Ca at g1
 have s1:=Bz.go h q ap p1 f1
 show ∃dv' fv' Z',Mi E D (A2 E D) (U9 E D (A2 E D)) pb 0 nb 0 (AA g) (AA d) Z=_/\_
 unfold CH
 generalize IL 2 l R.er=i1 at g1 p1 s1 ⊢
 obtain⟨b1,l1,er1⟩:=i1
 simp only[]at g1 p1 s1 ⊢
 cases b1 with
 | false=>
  refine⟨R.dv,fv,Z1,?_,s1⟩
  unfold Mi
  simp -implicitDefEqProofs only [↓rP,rS,↓g1]
 | true=>
  obtain⟨Z2,e2,f2,a2,n2⟩:=Nx p1.ht [.str ⟨0,0⟩,.int .i64 (AA 0),.bool false,.bool false,.int .i64 (AA 0),.int .i64 (AA 0),.nils,.nils,.int .i64 (AA 0),.nils,.int .i64 (AA 0)]
  obtain⟨w,hw⟩:∃w,w=(CF l).2.1:=⟨_,rfl⟩
  rw[<-hw]at g1 ⊢
  obtain⟨Z3,s3,a3,f3⟩:=MX (n:=11) (o:=0) (v := .agg [.str (Cj w),.int .i64 (AA 0),.bool false,.bool false,.int .i64 (AA 0),.int .i64 (AA 0),.nils,.nils,.int .i64 (AA 0),.nils,.int .i64 (AA g)]) (l':=CT.c ⟨w,0,false,false,0,0,[],g⟩ .nils) f2.tidy a2 rfl rfl
  have h1:=s1.p
  have q1:=s1.q
  have f13:Fr BQ Z1 Z3:=f2.trans f3 (fun b hb e=>by omega)
  have le1:=f1.le
  have le3:=f13.le
  have lfb:Z1.next<Z3.next:=a3.lt f3.tidy
  have h3:Pn Z3 pb lv ts l1 (R.e er1) ns (fun b=>(Q b\/LB nb iv fv b)\/b=Z1.next):=(h1.ext (Q':=fun b=>(Q b\/LB nb iv fv b)\/b=Z1.next) fun b hb=>hb.elim .inl fun e => .inr (by omega)).fr f13 (fun h=>h) (fun _ _ h=>h) (fun _ _ h=>h) (fun _ _ h=>h.elim)
  have q3:=q1.fr f13 p1.ht (fun h=>h) (fun _ _ h=>h) (fun _ _ h=>h)
  have lnb:=q1.a.lt p1.ht
  have lif:∀b,AS iv b->b<Z1.next:=fun b hb=>q1.lt_i p1.ht hb
  have lff:∀b,NF fv b->b<Z1.next:=fun b hb=>q1.lt_f p1.ht hb
  obtain⟨dv',Z4,g4,h4,f4,m4⟩:=hT (d:=d+1) h3 (fun b hb=>by
   rcases hb with (hb|hb|hb|hb)|hb
   ·have:=hQ b hb;omega
   ·omega
   ·have:=lif b hb;omega
   ·have:=lff b hb;omega
   ·omega) (by omega)
  have er:(R.e er1).er=er1:=rfl
  rw[er]at g4 h4
  have xlt:=p1.lt
  have dlt:∀b,AS R.dv b->b<Z1.next:=fun b hb=>h1.dlt hb
  have b4:=f4.at_ a3 f3.tidy (fun e=>by
   rcases e with e|e
   ·omega
   ·have:=dlt _ e;omega)
  have q4:=q3.frq f4 f3.tidy ap
  have ap4:Aq pb lv dv' nb iv fv:=ap.ndv q3 f3.tidy m4
  have le4:=f4.le
  have ad:CJ .i64 (AA d) (AA 1)=AA (d+1):=Bw (by omega)
  have dlt4:∀b,AS dv' b->b≠Z1.next:=fun b hb e=>by
   rcases m4 b hb with h|h
   ·have:=dlt b h;omega
   ·omega
  have llt:∀b,AS lv b->b<Z1.next:=fun b hb=>p1.llt b hb
  simp only[]at ⊢
  obtain⟨i4,hi4⟩:∃r,T.go (d+1) l1 er1 ns=r:=⟨_,rfl⟩
  rw[hi4]at g4 h4 ⊢
  clear hi4
  obtain⟨b4',i,l2,er2,ns2⟩:=i4
  simp only[]at g4 h4 ⊢
  obtain⟨Z5,g5,a5,f5⟩:=MX (n:=1) (o:=1) (v := .int .i64 (AA i)) (l':=CT.c ⟨w,i,false,false,0,0,[],g⟩ .nils) h4.p.ht b4 rfl rfl
  have h5:=h4.fr f5 (by omega) (fun b hb e=>by have:=llt b hb;omega) dlt4 (fun b _ e => .inr e)
  have q5:=q4.fr f5 h4.p.ht (by omega) (fun b hb e=>by have:=lif b hb;omega) (fun b hb e=>by have:=lff b hb;omega)
  have q5a:=q5.a
  unfold AL.c at q5a
  have f05:Fr (fun b=>PB pb R.dv b\/b=nb\/NF fv b) Z Z5:=(((f1.mono (fun _ _ h => .inl (.inl h)):Fr (fun b=>PB pb R.dv b\/b=nb\/NF fv b) Z Z1).trans f13 (fun _ _ h=>h.elim)).trans f4 (fun _ _ h => .inl h)).trans f5 (fun b hb e=>by omega)
  have le5:=f5.le
  have mdv:∀b,AS dv' b->AS R.dv b\/Z.next<=b:=fun b hb=>(m4 b hb).imp id fun h=>by omega
  cases b4' with
  | false=>
   refine⟨dv',fv,Z5,?_,⟨h5.ext fun b hb => .inl (.inl hb),q5,ap4,fun _ h => .inl h,mdv,f05⟩⟩
   unfold Mi
   simp -implicitDefEqProofs only [↓rP,rA,AD,AE,AB,↓g1,↓e2,↓s3,ad,↓g4,↓g5]
  | true=>
   simp only[]at ⊢
   have er5:((R.wd dv').e er2).er=er2:=rfl
   have l5:=h5.p.lt
   have fin:∀(x:CT) (v:V) (ok:Bool) (Z6:H) (l6:List A4) (er6:Er),Pn Z6 pb lv ts l6 ((R.wd dv').e er6) ns2 (fun b=>((Q b\/LB nb iv fv b)\/b=Z1.next)\/Z5.next<=b)->Nq Z6 nb nd iv fv->DZ Z6 Z1.next (x.c v)->GA Z6 1 x.db.length v (Jb x.db)->wH v->(∀b,AS v b->Z5.next<=b) ->
     Fr (fun b=>PB pb R.dv b\/b=nb\/NF fv b) Z Z6->Z5.next<=Z6.next ->
     ∃fv' Z',U9 E D (A2 E D) nb 0 ok Z1.next 0 Z6=some (.bool ok,Z')/\Bz Z Z' pb lv ts l6 R er6 ns2 Q nb (nd.af x) iv fv fv' dv':=by
    intro x v ok Z6 l6 er6 p6 q6 b6 hv sv nv f06 le56
    have q6a:=q6.a
    unfold AL.c at q6a
    unfold CT.c at b6
    obtain⟨e',u,Z7,g7,t1,a7,d7,m7,n7,f7⟩:=Tp (E:=E) (D:=D) (v:=fv.1) (p0:=ok) p6.p.ht q6a rfl b6 q6.f (by omega) (by omega) (fun h=>q6.nf (.inl h)) (fun h=>by have:=lff _ (.inl h);omega) sv
    have le6:=f06.le
    have vlt:∀b,AS v b->b<Z6.next:=fun b hb=>hv.lt p6.p.ht hb
    have nu:∀b,NF (u,fv.2++[v]) b->NF fv b\/Z5.next<=b:=fun b hb=>by
     rcases hb with hb|⟨y,hy,hb⟩
     ·exact(m7 b hb).elim (fun h => .inl (.inl h)) (fun h => .inr (by omega))
     ·rcases G1.1 hy with hy|hy
      ·exact .inl (.inr ⟨y,hy,hb⟩)
      ·rw[Cc]at hy
       subst hy
       exact .inr (nv b hb)
    have g7':eH Z7 (nd.fields++[x]) (fv.2++[v]):=by
     have g0:=q6.g.fr f7 p6.p.ht (fun y hy b hb e=>by
      rcases e with e|e
      ·exact q6.nf (e ▸ .inr ⟨y,hy,hb⟩)
      ·exact q6.gd y hy b hb e)
     refine⟨by rw[Aw,Aw,g0.1];rfl,fun k y z hy hz=>?_⟩
     rcases Ad k nd.fields.length with hk|hk
     ·rw[Ay hk]at hy
      rw[Ay (by rw[g0.1];exact hk)]at hz
      exact g0.2 k y z hy hz
     ·rw[BX hk]at hy
      rw[BX (by rw[g0.1];exact hk),g0.1]at hz
      have hk0:k-nd.fields.length=0:=by
       rcases PF (k-nd.fields.length)with h|h
       ·exact h
       ·rw[Af (by simp only[AM,A0];omega)]at hy;cases hy
      rw[hk0]at hy hz
      cases hy
      cases hz
      exact hv.fr f7 p6.p.ht (fun b hb e=>by
       have:=nv b hb
       rcases e with e|e
       ·omega
       ·have:=lff b (.inl e);omega)
    have q7:Nq Z7 nb (nd.af x) iv (u,fv.2++[v]):=⟨a7,q6.i.fr f7 p6.p.ht (fun b hb e=>by
      rcases e with e|e
      ·exact q6.ni (e ▸ hb)
      ·exact q6.d b hb (.inl e)),by
      have e1:(nd.fields++[x]).length=nd.fields.length+1:=by simp
      show E6 Z7 11 (nd.fields++[x]).length u (TP (nd.fields++[x]) (fv.2++[v]))
      rw[e1,Uw _ _ _ _ q6.g.1];exact d7,g7',q6.ni,fun e=>(nu _ e).elim q6.nf (fun h=>by omega),fun b hb hu=>by
      rcases nu b hu with h|h
      ·exact q6.d b hb h
      ·have:=lif b hb;omega,fun y hy b hb e=>by
      rcases G1.1 hy with hy|hy
      ·rcases m7 b e with h|h
       ·exact q6.gd y hy b hb h
       ·have:=lff b (.inr ⟨y,hy,hb⟩);omega
      ·rw[Cc]at hy
       subst hy
       have:=nv b hb
       have:=vlt b hb
       rcases m7 b e with h|h
       ·have:=lff b (.inl h);omega
       ·omega⟩
    have dl5:∀b,AS dv' b->b<Z5.next:=fun b hb=>h5.dlt hb
    have h7:=p6.fr f7 (fun e=>by
      rcases e with e|e
      ·exact ap.a.x e.symm
      ·exact(ap.a.f _ (.inl e)).1 rfl) (fun b hb e=>by
      rcases e with e|e
      ·exact ap.a.l (e ▸ hb)
      ·exact(ap.a.f _ (.inl e)).2 hb) (fun b hb e=>by
      rcases e with e|e
      ·exact ap4.d (e ▸ hb)
      ·exact ap4.f _ (.inl e) hb) (fun b _ e => .inl (.inl (.inr (e.elim .inl fun e => .inr (.inr (.inl e))))))
    have s7:Bz Z Z7 pb lv ts l6 R er6 ns2 Q nb (nd.af x) iv fv (u,fv.2++[v]) dv':=by
     refine⟨h7.ext fun b hb => .inl ?_,q7,⟨⟨ap.a.x,ap.a.l,ap.a.i,fun b hb=>?_⟩,ap4.d,ap4.i,fun b hb=>?_⟩,fun b hb=>(nu b hb).elim .inl (fun h => .inr (by omega)),mdv,f06.trans f7 (fun b _ e => .inr (e.elim .inl fun e => .inr (.inl e)))⟩
     ·rcases hb with hb|hb|hb|hb
      ·exact .inl (.inl (.inl hb))
      ·exact .inl (.inl (.inr (.inl hb)))
      ·exact .inl (.inl (.inr (.inr (.inl hb))))
      ·rcases nu b hb with h|h
       ·exact .inl (.inl (.inr (.inr (.inr h))))
       ·exact .inr h
     ·rcases nu b hb with h|h
      ·exact ap.a.f b h
      ·exact⟨by omega,fun hn=>by have:=llt b hn;omega⟩
     ·rcases nu b hb with h|h
      ·exact ap4.f b h
      ·exact fun hn=>by have:=dl5 b hn;omega
    refine⟨_,Z7,?_,s7⟩
    have gd:∀J:Bt->H->AH,Ee (A2 E D QX Mq [(1,.ptr nb 0),(10,.bool ok),(11,.ptr Z1.next 0)] Z6) J=J e' Z7:=fun J=>by rw[g7];rfl
    have m1:∀J:V->AH,E0 e' 10 J=J (.bool ok):=fun J=>Ez t1 rfl
    unfold U9
    simp -implicitDefEqProofs only [↓rP,rS,↓gd,↓m1]
   have h5':Pn Z5 pb lv ts l2 ((R.wd dv').e er2) ns2 (fun b=>((Q b\/LB nb iv fv b)\/b=Z1.next)\/Z5.next<=b):=h5.ext fun b hb=>hb
   unfold Ks
   cases hk9:decide (nd.kind=9)with
   | true=>
    simp only[]at ⊢
    obtain⟨fv',Z',g',s'⟩:=fin ⟨w,i,false,false,0,0,[],g⟩ .nils true Z5 _ _ h5' q5 a5 (GA.nil0 _) (.inl rfl) (fun _ h=>h.elim) f05 (AG _)
    refine⟨dv',fv',Z',?_,s'⟩
    rw[<-g']
    unfold Mi
    simp -implicitDefEqProofs only [↓rP,rA,AD,AE,AB,↓g1,↓e2,↓s3,ad,↓g4,↓g5,↓Av q5a,hk9]
   | false=>
    simp only[]at ⊢
    obtain⟨Z6,g6,p6,f6⟩:=hI (BS.mk 8 5494759122808361039) h5.p
    have h6:=h5'.goe (er:=er2) p6 f6
    have q6:=q5.frx f6 h5.p.ht ap.a
    have b6:=f6.at_ a5 h5.p.ht (by omega)
    have f06:=f05.trans f6 (fun _ _ h => .inl (.inl h))
    have le6:=f6.le
    generalize CE (BS.mk 8 5494759122808361039) l2=i6 at g6 p6 h6 ⊢
    obtain⟨b6',l3⟩:=i6
    cases b6' with
    | true=>
     obtain⟨Z7,g7,a7,f7⟩:=MX (n:=1) (o:=2) (v := .bool true) (l':=CT.c ⟨w,i,true,false,0,0,[],g⟩ .nils) p6.ht b6 rfl rfl
     have h7:=h6.fr f7 (by omega) (fun b hb e=>by have:=llt b hb;omega) dlt4 (fun b _ e => .inl (.inr e))
     have q7:=q6.fr f7 p6.ht (by omega) (fun b hb e=>by have:=lif b hb;omega) (fun b hb e=>by have:=lff b hb;omega)
     obtain⟨fv',Z',g',s'⟩:=fin ⟨w,i,true,false,0,0,[],g⟩ .nils true Z7 _ _ h7 q7 a7 (GA.nil0 _) (.inl rfl) (fun _ h=>h.elim) (f06.trans f7 (fun b hb e=>by omega)) (by have:=f7.le;omega)
     refine⟨dv',fv',Z',?_,s'⟩
     rw[<-g']
     unfold Mi
     simp -implicitDefEqProofs only [↓rP,rA,AD,AE,AB,↓g1,↓e2,↓s3,ad,↓g4,↓g5,↓Av q5a,hk9,↓g6,↓g7]
    | false=>
     simp only[]at g6 p6 h6 ⊢
     obtain⟨Z7,g7,p7,f7⟩:=hI (BS.mk 7 23727827094750532) p6
     have h7:=h6.goe (er:=er2) p7 f7
     have q7:=q6.frx f7 p6.ht ap.a
     have b7:=f7.at_ b6 p6.ht (by omega)
     have f07:=f06.trans f7 (fun _ _ h => .inl (.inl h))
     have le7:=f7.le
     generalize CE (BS.mk 7 23727827094750532) l3=i7 at g7 p7 h7 ⊢
     obtain⟨b7',l4⟩:=i7
     cases b7' with
     | false=>
      simp only[]at g7 p7 h7 ⊢
      obtain⟨fv',Z',g',s'⟩:=fin ⟨w,i,false,false,0,0,[],g⟩ .nils true Z7 _ _ h7 q7 b7 (GA.nil0 _) (.inl rfl) (fun _ h=>h.elim) f07 (by omega)
      refine⟨dv',fv',Z',?_,s'⟩
      rw[<-g']
      unfold Mi
      simp -implicitDefEqProofs only [↓rP,rA,AD,AE,AB,↓g1,↓e2,↓s3,ad,↓g4,↓g5,↓Av q5a,hk9,↓g6,↓g7]
     | true=>
      simp only[]at g7 p7 h7 ⊢
      obtain⟨Z8,g8,a8,f8⟩:=MX (n:=1) (o:=3) (v := .bool true) (l':=CT.c ⟨w,i,false,true,0,0,[],g⟩ .nils) p7.ht b7 rfl rfl
      have h8:=h7.fr f8 (by omega) (fun b hb e=>by have:=llt b hb;omega) dlt4 (fun b _ e => .inl (.inr e))
      have q8:=q7.fr f8 p7.ht (by omega) (fun b hb e=>by have:=lif b hb;omega) (fun b hb e=>by have:=lff b hb;omega)
      have f08:=f07.trans f8 (fun b hb e=>by omega)
      have le8:=f8.le
      obtain⟨v,Z9,g9,p9,hs9,sv,nv,f9⟩:=hV h8.p
      have er8:((((R.wd dv').e er2).e er2).e er2).er=er2:=rfl
      rw[er8]at g9 p9 hs9
      have h9:=h8.goe p9 f9
      have q9:=q8.frx f9 h8.p.ht ap.a
      have b9:=f9.at_ a8 h8.p.ht (by omega)
      have f09:=f08.trans f9 (fun _ _ h => .inl (.inl h))
      have le9:=f9.le
      generalize JN l4 er2=i9 at g9 p9 hs9 h9 ⊢
      obtain⟨bk,x9,l9,er9⟩:=i9
      obtain⟨dk,dn,db⟩:=x9
      simp only[]at g9 p9 hs9 h9 ⊢
      unfold qY.c at g9
      simp only[]at g9
      have vo:=hs9.one
      obtain⟨Za,ga,aa,fa⟩:=MX (n:=6) (o:=4) (v := .agg [.int .i64 (AA dk),.int .i64 dn,v,.nils,.int .i64 (AA 0),.nils]) (l':=CT.c ⟨w,i,false,true,dk,dn,db,g⟩ v) p9.ht b9 (by
       show (Ag 6 6&&Ab (AU 4 6) 11&&BJ [.int .i64 (AA dk),.int .i64 dn,v,.nils,.int .i64 (AA 0),.nils])=true
       simp only[B8,CS,G5,HR,vo,Be];rfl) rfl
      have ha:=h9.fr fa (by omega) (fun b hb e=>by have:=llt b hb;omega) dlt4 (fun b _ e => .inl (.inr e))
      have qa:=q9.fr fa p9.ht (by omega) (fun b hb e=>by have:=lif b hb;omega) (fun b hb e=>by have:=lff b hb;omega)
      obtain⟨fv',Z',g',s'⟩:=fin ⟨w,i,false,true,dk,dn,db,g⟩ v bk Za _ _ ha qa aa (hs9.fr fa p9.ht (fun b hb e=>by have:=nv b hb;omega)) sv (fun b hb=>by have:=nv b hb;omega) (f09.trans fa (fun b hb e=>by omega)) (by have:=fa.le;omega)
      refine⟨dv',fv',Z',?_,s'⟩
      rw[<-g']
      unfold Mi
      simp -implicitDefEqProofs only [↓rP,rA,AD,AE,AB,↓g1,↓e2,↓s3,ad,↓g4,↓g5,↓Av q5a,hk9,↓g6,↓g7,↓g8,↓g9,↓ga]
end
def RH (T:C1) (d g:Nat):Nat->AL->List A4->Er->List AL->RU
 | 0,nd,l,er,ns=>(false,nd,l,FH er 0 5,ns)
 | n+1,nd,l,er,ns=>match CH T d g nd l er ns with
  | (false,nd1,l1,er1,ns1)=>(false,nd1,l1,er1,ns1)
  | (true,nd1,l1,er1,ns1)=>match CE (BS.mk 1 44) l1 with
   | (true,l2)=>RH T d g n nd1 l2 er1 ns1
   | (false,l2)=>match Aj [BS.mk 2 23901] l2 er1 with
    | (b,l3,er3)=>(b,nd1,l3,er3,ns1)
@[irreducible] def Y2 (T:C1) (d g:Nat) (nd:AL) (l:List A4) (er:Er) (ns:List AL):RU:=RH T d g 9001 nd l er ns
def PH (T:C1) (d:Nat):Nat->Nat->AL->List A4->Er->List AL->RU
 | 0,_,nd,l,er,ns=>(false,nd,l,FH er 0 5,ns)
 | n+1,g,nd,l,er,ns=>match CE (BS.mk 1 44) l with
  | (false,l1)=>(true,nd,l1,er,ns)
  | (true,l1)=>match CE (BS.mk 2 23387) l1 with
   | (true,l2)=>match Y2 T d (g+1) nd l2 er ns with
    | (false,nd3,l3,er3,ns3)=>(false,nd3,l3,er3,ns3)
    | (true,nd3,l3,er3,ns3)=>PH T d n (g+1) nd3 l3 er3 ns3
   | (false,l2)=>match CH T d 0 nd l2 er ns with
    | (false,nd3,l3,er3,ns3)=>(false,nd3,l3,er3,ns3)
    | (true,nd3,l3,er3,ns3)=>PH T d n g nd3 l3 er3 ns3
@[irreducible] def ZC (T:C1) (d:Nat) (nd:AL) (l:List A4) (er:Er) (ns:List AL):RU:=PH T d 9001 0 nd l er ns
def AL.mr (x:AL) (m:Bool) (r:Nat):AL:=⟨x.kind,x.name,x.mHas,x.mNum,x.mMode,x.con,x.items,x.fields,r,m,x.of_⟩
def Re (T:C1) (d:Nat):Nat->Bool->AL->List A4->Er->List AL->RU
 | 0,_,nd,l,er,ns=>(false,nd,l,FH er 0 5,ns)
 | n+1,f,nd,l,er,ns=>match f with
  | false=>match Aj [BS.mk 1 125] l er with
   | (b,l1,er1)=>(b,nd.mr nd.more nd.fields.length,l1,er1,ns)
  | true=>match CE (BS.mk 3 3026478) l with
   | (true,l1)=>match ZC T d (nd.mr true nd.fields.length) l1 er ns with
    | (b,nd2,l2,er2,ns2)=>match Fh b [BS.mk 1 125] l2 er2 with
     | (ok,l3,er3)=>(ok,nd2,l3,er3,ns2)
   | (false,l1)=>match CH T d 0 nd l1 er ns with
    | (false,nd2,l2,er2,ns2)=>(false,nd2,l2,er2,ns2)
    | (true,nd2,l2,er2,ns2)=>match CE (BS.mk 1 44) l2 with
     | (m,l3)=>Re T d n m nd2 l3 er2 ns2
@[irreducible] def qL (T:C1) (d:Nat) (f:Bool) (nd:AL) (l:List A4) (er:Er) (ns:List AL):RU:=Re T d 9002 f nd l er ns
def DC (T:C1) (d:Nat) (nd:AL) (l:List A4) (er:Er) (ns:List AL):RU:=match Aj [BS.mk 1 123] l er with
 | (false,l1,er1)=>(false,nd,l1,er1,ns)
 | (true,l1,er1)=>qL T d (!MY (BS.mk 1 125) l1) nd l1 er1 ns
def qb (T:C1):Prop:=∀d l er ns,(T.go d l er ns).2.2.1.length<=l.length
theorem bL (l:List A4) (er:Er):(JN l er).2.2.1.length<=l.length:=by
 unfold JN
 have h1:=Cs (BS.mk 4 1163219540) l
 generalize CE (BS.mk 4 1163219540) l=i1 at h1 ⊢
 obtain⟨b1,l1⟩:=i1
 cases b1 with
 | true=>exact h1
 | false=>
  have h2:=Cs (BS.mk 5 297750249798) l1
  simp only[]at h1 ⊢
  generalize CE (BS.mk 5 297750249798) l1=i2 at h2 ⊢
  obtain⟨b2,l2⟩:=i2
  cases b2 with
  | true=>exact AN h2 h1
  | false=>
   have h3:=Cs (BS.mk 4 1280070990) l2
   simp only[]at h2 ⊢
   generalize CE (BS.mk 4 1280070990) l2=i3 at h3 ⊢
   obtain⟨b3,l3⟩:=i3
   cases b3 with
   | true=>exact AN h3 (AN h2 h1)
   | false=>
    simp only[]at h3 ⊢
    have hn:=MI l3
    have h4:=J5 l3 er
    generalize Ed l3 er=i4 at h4 ⊢
    obtain⟨b4,n,l4,er4⟩:=i4
    simp only[]at h4 ⊢
    cases decide ((CF l).1=3)with
    | true=>simp only[]at ⊢;omega
    | false=>cases decide ((CF l).1=2)with
     | true=>simp only[]at ⊢;omega
     | false=>cases decide ((CF l).1=7)with
      | true=>simp only[]at ⊢;omega
      | false=>cases decide ((CF l).1=4)with
       | true=>simp only[]at ⊢;omega
       | false=>simp only[]at ⊢;omega
theorem cd (nd:AL) (w:List Nat) (g i:Nat) (l:List A4) (er:Er):(Ks nd w g i l er).2.2.1.length<=l.length:=by
 unfold Ks
 cases decide (nd.kind=9)with
 | true=>exact AG _
 | false=>
  have h1:=Cs (BS.mk 8 5494759122808361039) l
  simp only[]at ⊢
  generalize CE (BS.mk 8 5494759122808361039) l=i1 at h1 ⊢
  obtain⟨b1,l1⟩:=i1
  cases b1 with
  | true=>exact h1
  | false=>
   have h2:=Cs (BS.mk 7 23727827094750532) l1
   simp only[]at h1 ⊢
   generalize CE (BS.mk 7 23727827094750532) l1=i2 at h2 ⊢
   obtain⟨b2,l2⟩:=i2
   cases b2 with
   | false=>exact AN h2 h1
   | true=>
    have h3:=bL l2 er
    simp only[]at h2 ⊢
    generalize JN l2 er=i3 at h3 ⊢
    obtain⟨b3,v,l3,er3⟩:=i3
    simp only[]at h3 ⊢
    omega
theorem P7 {T:C1} (hT:qb T) (d g:Nat) (nd:AL) (l:List A4) (er:Er) (ns:List AL):(CH T d g nd l er ns).2.2.1.length<=l.length/\(∀(k:Nat),(∀l' er',IL 2 l er=(true,l',er')->l'.length+k<=l.length)->(CH T d g nd l er ns).1=true->(CH T d g nd l er ns).2.2.1.length+k<=l.length/\(CH T d g nd l er ns).2.1.fields.length=nd.fields.length+1):=by
 unfold CH
 have h1:=Tc 2 l er
 generalize IL 2 l er=i1 at h1 ⊢
 obtain⟨b1,l1,er1⟩:=i1
 cases b1 with
 | false=>exact⟨h1,fun k _ h=>by cases h⟩
 | true=>
  have h2:=hT (d+1) l1 er1 ns
  simp only[]at h1 ⊢
  generalize T.go (d+1) l1 er1 ns=i2 at h2 ⊢
  obtain⟨b2,i,l2,er2,ns2⟩:=i2
  cases b2 with
  | false=>exact⟨AN h2 h1,fun k _ h=>by cases h⟩
  | true=>
   have h3:=cd nd (CF l).2.1 g i l2 er2
   simp only[]at h2 ⊢
   generalize Ks nd (CF l).2.1 g i l2 er2=i3 at h3 ⊢
   obtain⟨b3,x,l3,er3⟩:=i3
   simp only[]at h3 ⊢
   refine⟨by omega,fun k hk hb=>⟨?_,?_⟩⟩
   ·have:=hk l1 er1 rfl
    omega
   ·show (nd.fields++[x]).length=_
    simp
structure Wr (r:RU) (Z Z':H) (pb:Nat) (lv:V) (ts l:List A4) (R:Rp) (Q:Nat->Prop) (nb:Nat) (nd:AL) (iv:V) (fv fv':FV) (dv':V):Prop where
 s:Bz Z Z' pb lv ts r.2.2.1 R r.2.2.2.1 r.2.2.2.2 Q nb r.2.1 iv fv fv' dv'
 le:r.2.2.1.length<=l.length
 me:r.1=true->r.2.1.fields.length+r.2.2.1.length<=nd.fields.length+l.length
def Fu (T:C1) (F:List V->H->AH):Prop:=∀{Z:H} {pb:Nat} {lv:V} {ts l:List A4} {R:Rp} {ns:List AL} {Q:Nat->Prop} {nb:Nat} {nd:AL} {iv:V} {fv:FV} {d g:Nat},
 Pn Z pb lv ts l R ns (fun b=>Q b\/LB nb iv fv b)->(∀b,Q b->b<Z.next)->Nq Z nb nd iv fv->Aq pb lv R.dv nb iv fv->nd.fields.length+l.length<=9000->(T.lo<=d+1/\d<=900)->g<=9000 ->
 ∃dv' fv' Z',F [.ptr pb 0,.ptr nb 0,.int .i64 (AA g),.int .i64 (AA d)] Z=some (.bool (Y2 T d g nd l R.er ns).1,Z')/\Wr (Y2 T d g nd l R.er ns) Z Z' pb lv ts l R Q nb nd iv fv fv' dv'
def Fv (T:C1) (F:List V->H->AH):Prop:=∀{Z:H} {pb:Nat} {lv:V} {ts l:List A4} {R:Rp} {ns:List AL} {Q:Nat->Prop} {nb:Nat} {nd:AL} {iv:V} {fv:FV} {d:Nat},
 Pn Z pb lv ts l R ns (fun b=>Q b\/LB nb iv fv b)->(∀b,Q b->b<Z.next)->Nq Z nb nd iv fv->Aq pb lv R.dv nb iv fv->nd.fields.length+l.length<=9000->(T.lo<=d+1/\d<=900) ->
 ∃dv' fv' Z',F [.ptr pb 0,.ptr nb 0,.int .i64 (AA d)] Z=some (.bool (ZC T d nd l R.er ns).1,Z')/\Wr (ZC T d nd l R.er ns) Z Z' pb lv ts l R Q nb nd iv fv fv' dv'
def CP (T:C1) (F:List V->H->AH):Prop:=∀{Z:H} {pb:Nat} {lv:V} {ts l:List A4} {R:Rp} {ns:List AL} {Q:Nat->Prop} {nb:Nat} {nd:AL} {iv:V} {fv:FV} {d:Nat},
 Pn Z pb lv ts l R ns (fun b=>Q b\/LB nb iv fv b)->(∀b,Q b->b<Z.next)->Nq Z nb nd iv fv->Aq pb lv R.dv nb iv fv->nd.fields=[]->(T.lo<=d+1/\d<=900) ->
 ∃dv' fv' Z',F [.ptr pb 0,.ptr nb 0,.int .i64 (AA d)] Z=some (.bool (DC T d nd l R.er ns).1,Z')/\Bz Z Z' pb lv ts (DC T d nd l R.er ns).2.2.1 R (DC T d nd l R.er ns).2.2.2.1 (DC T d nd l R.er ns).2.2.2.2 Q nb (DC T d nd l R.er ns).2.1 iv fv fv' dv'
section
variable {E:EB} {D:BB} {N:Nat}
theorem To {T:C1} (hT:qb T) (hF:CZ T (D 71)) {Z:H} {pb:Nat} {lv:V} {ts l:List A4} {R:Rp} {ns:List AL} {Q:Nat->Prop} {nb:Nat} {nd:AL} {iv:V} {fv:FV} {d g:Nat}
  (h:Pn Z pb lv ts l R ns (fun b=>Q b\/LB nb iv fv b)) (hQ:∀b,Q b->b<Z.next) (q:Nq Z nb nd iv fv) (ap:Aq pb lv R.dv nb iv fv) (hl:nd.fields.length+l.length<=9000) (hd:(T.lo<=d+1/\d<=900)) (hg:g<=9000) :
  ∃dv' fv' Z',D 71 [.ptr pb 0,.ptr nb 0,.int .i64 (AA g),.int .i64 (AA d)] Z=some (.bool (CH T d g nd l R.er ns).1,Z')/\Wr (CH T d g nd l R.er ns) Z Z' pb lv ts l R Q nb nd iv fv fv' dv'/\((CH T d g nd l R.er ns).1=true->(CH T d g nd l R.er ns).2.2.1.length+1<=l.length):=by
 obtain⟨dv',fv',Z',g',s⟩:=hF h hQ q ap (by omega) hd hg
 obtain⟨h1,h2⟩:=P7 hT d g nd l R.er ns
 have h2:=h2 1 fun l' er' e=>h.p.ofS_lt (by decide) e
 exact⟨dv',fv',Z',g',⟨s,h1,fun hb=>by have:=h2 hb;omega⟩,fun hb=>(h2 hb).1⟩
theorem Gm {T:C1} (hT:qb T) (hI:Ft (D 38)) (hW:Di (D 16)) (hF:CZ T (D 71)) (hN:9002<N):Fu T (nh E D (A2 E D) N):=by
 intro Z pb lv ts l R ns Q nb nd iv fv d g h hQ q ap hl hd hg
 have loop:∀(n k:Nat) {Z:H} {l:List A4} {R:Rp} {ns:List AL} {nd:AL} {fv:FV},Pn Z pb lv ts l R ns (fun b=>Q b\/LB nb iv fv b)->(∀b,Q b->b<Z.next)->Nq Z nb nd iv fv->Aq pb lv R.dv nb iv fv->nd.fields.length+l.length<=9000->l.length<n->l.length<k ->
   ∃dv' fv' Z',Ve E D (A2 E D) N k pb 0 (.ptr nb 0) (AA g) (AA d) Z=some (.bool (RH T d g n nd l R.er ns).1,Z')/\Wr (RH T d g n nd l R.er ns) Z Z' pb lv ts l R Q nb nd iv fv fv' dv':=by
  intro n
  induction n with
  | zero=>intro k Z l R ns nd fv h hQ q ap hl hn;omega
  | succ n ih=>
   intro k Z l R ns nd fv h hQ q ap hl hn hk
   obtain⟨k,rfl⟩:∃j,k=j+1:=⟨k-1,by omega⟩
   obtain⟨dv1,fv1,Z1,g1,s1,lt1⟩:=To hT hF h hQ q ap hl hd hg
   unfold RH
   generalize CH T d g nd l R.er ns=i1 at g1 s1 lt1 ⊢
   obtain⟨b1,nd1,l1,er1,ns1⟩:=i1
   show ∃dv' fv' Z',QF E D (A2 E D) (Ve E D (A2 E D) N k) pb 0 (.ptr nb 0) (AA g) (AA d) Z=_/\_
   cases b1 with
   | false=>
    refine⟨dv1,fv1,Z1,?_,s1⟩
    unfold QF
    simp -implicitDefEqProofs only [↓rP,rS,↓g1]
   | true=>
    obtain⟨s1,le1,me1⟩:=s1
    have me1:=me1 rfl
    have lt1:=lt1 rfl
    simp only[]at g1 s1 le1 me1 lt1 ⊢
    obtain⟨Z2,g2,p2,f2⟩:=hI (BS.mk 1 44) s1.p.p
    have s2:=s1.trans (Bz.go s1.p s1.q s1.ap p2 f2)
    have le2:=Cs (BS.mk 1 44) l1
    have lex:=s2.f.le
    generalize CE (BS.mk 1 44) l1=i2 at g2 p2 s2 le2 ⊢
    obtain⟨b2,l2⟩:=i2
    simp only[]at g2 p2 s2 le2 ⊢
    cases b2 with
    | true=>
     simp only[]at ⊢
     obtain⟨dv',fv',Z',g',s',le',me'⟩:=ih k s2.p (fun b hb=>by have:=hQ b hb;omega) s2.q s2.ap (by omega) (by omega) (by omega)
     refine⟨dv',fv',Z',?_,s2.trans s',AN le' (by omega),fun hb=>AN (me' hb) (by omega)⟩
     unfold QF
     simp -implicitDefEqProofs only [↓rP,rS,↓g1,↓g2]
     exact g'
    | false=>
     simp only[]at ⊢
     obtain⟨Z3,Z4,e3,g4,p4,f4⟩:=Dh hW s2.p.p [BS.mk 2 23901] (by decide)
     have e3:CO Z2 (.cells [.str (BS.mk 2 23901)])=Z3:=e3
     have g4:D 16 [.ptr pb 0,.sl Z2.next 0 1 (.ex 1)] Z3=some (.bool (Aj [BS.mk 2 23901] l2 er1).1,Z4):=g4
     have p4:Ps Z4 pb lv ts (Aj [BS.mk 2 23901] l2 er1).2.1 (((R.wd dv1).e er1).e (Aj [BS.mk 2 23901] l2 er1).2.2):=p4
     have s4:=s2.trans (Bz.go s2.p s2.q s2.ap p4 f4)
     have le4:=Cm [BS.mk 2 23901] l2 er1
     generalize Aj [BS.mk 2 23901] l2 er1=i4 at g4 p4 s4 le4 ⊢
     obtain⟨b4,l4,er4⟩:=i4
     simp only[]at g4 p4 s4 le4 ⊢
     refine⟨dv1,fv1,Z4,?_,s4,by simp only[];omega,fun hb=>by simp only[];omega⟩
     unfold QF
     simp -implicitDefEqProofs only [↓rP,rS,↓g1,↓g2,↓e3,↓g4]
 unfold Y2
 exact loop 9001 N h hQ q ap hl (by omega) (by omega)
theorem Gq {T:C1} (hT:qb T) (hI:Ft (D 38)) (hB:Fu T (D 77)) (hF:CZ T (D 71)) (hN:9002<N):Fv T (nj E D (A2 E D) N):=by
 intro Z pb lv ts l R ns Q nb nd iv fv d h hQ q ap hl hd
 have loop:∀(n k g:Nat) {Z:H} {l:List A4} {R:Rp} {ns:List AL} {nd:AL} {fv:FV},Pn Z pb lv ts l R ns (fun b=>Q b\/LB nb iv fv b)->(∀b,Q b->b<Z.next)->Nq Z nb nd iv fv->Aq pb lv R.dv nb iv fv->nd.fields.length+l.length<=9000->l.length<n->l.length<k->g+l.length<=9000 ->
   ∃dv' fv' Z',S6 E D (A2 E D) N k pb 0 (.ptr nb 0) (AA d) (AA g) Z=some (.bool (PH T d n g nd l R.er ns).1,Z')/\Wr (PH T d n g nd l R.er ns) Z Z' pb lv ts l R Q nb nd iv fv fv' dv':=by
  intro n
  induction n with
  | zero=>intro k g Z l R ns nd fv h hQ q ap hl hn;omega
  | succ n ih=>
   intro k g Z l R ns nd fv h hQ q ap hl hn hk hg
   obtain⟨k,rfl⟩:∃j,k=j+1:=⟨k-1,by omega⟩
   show ∃dv' fv' Z',Mj E D (A2 E D) (ZG E D (A2 E D)) (OX E D (A2 E D) (S6 E D (A2 E D) N k)) pb 0 (.ptr nb 0) (AA d) (AA g) Z=_/\_
   have ag:CJ .i64 (AA g) (AA 1)=AA (g+1):=Bw (by omega)
   obtain⟨Z1,g1,p1,f1⟩:=hI (BS.mk 1 44) h.p
   have s1:=Bz.go (er1:=R.er) h q ap p1 f1
   have le1:=Cs (BS.mk 1 44) l
   have lt1:∀l',CE (BS.mk 1 44) l=(true,l')->l'.length+1<=l.length:=fun l' e=>h.p.isS_lt e
   unfold PH
   generalize CE (BS.mk 1 44) l=i1 at g1 p1 s1 le1 lt1 ⊢
   obtain⟨b1,l1⟩:=i1
   cases b1 with
   | false=>
    simp only[]at g1 p1 s1 le1 ⊢
    refine⟨R.dv,fv,Z1,?_,s1,le1,fun _=>by simp only[];omega⟩
    unfold Mj ZG
    simp -implicitDefEqProofs only [↓rP,rS,↓g1]
   | true=>
    have lt1:=lt1 l1 rfl
    simp only[]at g1 p1 s1 le1 ⊢
    obtain⟨Z2,g2,p2,f2⟩:=hI (BS.mk 2 23387) s1.p.p
    have s2:=s1.trans (Bz.go (er1:=R.er) s1.p s1.q s1.ap p2 f2)
    have le2:=Cs (BS.mk 2 23387) l1
    have lex:=s2.f.le
    generalize CE (BS.mk 2 23387) l1=i2 at g2 p2 s2 le2 ⊢
    obtain⟨b2,l2⟩:=i2
    simp only[]at g2 p2 s2 le2 ⊢
    have hQ2:∀b,Q b->b<Z2.next:=fun b hb=>by have:=hQ b hb;omega
    have on:∀(nd3:AL) (l3:List A4) (er3:Er) (ns3:List AL) (g':Nat) (Z3:H) (fv3:FV) (dv3:V),Bz Z2 Z3 pb lv ts l3 R er3 ns3 Q nb nd3 iv fv fv3 dv3->l3.length<=l2.length->nd3.fields.length+l3.length<=nd.fields.length+l2.length->g'<=g+1 ->
      ∃dv' fv' Z',OX E D (A2 E D) (S6 E D (A2 E D) N k) pb 0 (.ptr nb 0) (AA d) (AA g') true Z3=some (.bool (PH T d n g' nd3 l3 er3 ns3).1,Z')/\Wr (PH T d n g' nd3 l3 er3 ns3) Z Z' pb lv ts l R Q nb nd iv fv fv' dv':=by
     intro nd3 l3 er3 ns3 g' Z3 fv3 dv3 s3 le3 me3 hg'
     have s3':=s2.trans s3
     have lex3:=s3.f.le
     obtain⟨dv',fv',Z',g4,s',le',me'⟩:=ih k g' s3'.p (fun b hb=>by have:=hQ2 b hb;omega) s3'.q s3'.ap (by omega) (by omega) (by omega) (by omega)
     refine⟨dv',fv',Z',?_,s3'.trans s',AN le' (by omega),fun hb=>AN (me' hb) (by omega)⟩
     unfold OX
     simp -implicitDefEqProofs only [↓rP,rS]
     exact g4
    have s2p:Pn Z2 pb lv ts l2 R ns (fun b=>Q b\/LB nb iv fv b):=s2.p
    cases b2 with
    | true=>
     simp only[]at ⊢
     obtain⟨dv3,fv3,Z3,g3,r3⟩:=hB (g:=g+1) s2p hQ2 s2.q s2.ap (by omega) hd (by omega)
     generalize Y2 T d (g+1) nd l2 R.er ns=i3 at g3 r3 ⊢
     obtain⟨b3,nd3,l3,er3,ns3⟩:=i3
     obtain⟨s3,le3,me3⟩:=r3
     simp only[]at g3 s3 le3 me3 ⊢
     cases b3 with
     | false=>
      refine⟨dv3,fv3,Z3,?_,s2.trans s3,by simp only[];omega,fun h=>by cases h⟩
      unfold Mj OX
      simp -implicitDefEqProofs only [↓rP,rS,↓g1,↓g2,ag,↓g3]
     | true=>
      obtain⟨dv',fv',Z',g4,r4⟩:=on _ _ _ _ (g+1) Z3 fv3 dv3 s3 le3 (me3 rfl) (AG _)
      refine⟨dv',fv',Z',?_,r4⟩
      unfold Mj
      simp -implicitDefEqProofs only [↓rP,rS,↓g1,↓g2,ag,↓g3]
      exact g4
    | false=>
     simp only[]at ⊢
     obtain⟨dv3,fv3,Z3,g3,r3,_⟩:=To (g:=0) hT hF s2p hQ2 s2.q s2.ap (by omega) hd (by omega)
     generalize CH T d 0 nd l2 R.er ns=i3 at g3 r3 ⊢
     obtain⟨b3,nd3,l3,er3,ns3⟩:=i3
     obtain⟨s3,le3,me3⟩:=r3
     simp only[]at g3 s3 le3 me3 ⊢
     cases b3 with
     | false=>
      refine⟨dv3,fv3,Z3,?_,s2.trans s3,by simp only[];omega,fun h=>by cases h⟩
      unfold Mj OX
      simp -implicitDefEqProofs only [↓rP,rS,↓g1,↓g2,↓g3]
     | true=>
      obtain⟨dv',fv',Z',g4,r4⟩:=on _ _ _ _ g Z3 fv3 dv3 s3 le3 (me3 rfl) (by omega)
      refine⟨dv',fv',Z',?_,r4⟩
      unfold Mj
      simp -implicitDefEqProofs only [↓rP,rS,↓g1,↓g2,↓g3]
      exact g4
 unfold ZC
 exact loop 9001 N 0 h hQ q ap hl (by omega) (by omega) (by omega)
theorem Co {T:C1} (hT:qb T) (hI:Ft (D 38)) (hS:Of (D 17)) (hW:Di (D 16)) (hA:Fv T (D 70)) (hF:CZ T (D 71)) (hN:9003<N):CP T (nn E D (A2 E D) N):=by
 intro Z pb lv ts l R ns Q nb nd iv fv d h hQ q ap h0 hd
 have loop:∀(n k:Nat) (f:Bool) {Z:H} {l:List A4} {R:Rp} {ns:List AL} {nd:AL} {fv:FV},Pn Z pb lv ts l R ns (fun b=>Q b\/LB nb iv fv b)->(∀b,Q b->b<Z.next)->Nq Z nb nd iv fv->Aq pb lv R.dv nb iv fv->nd.fields.length+l.length<=9000->(f=true->l.length+1<n/\l.length+1<k)->0<n->0<k ->
   ∃dv' fv' Z',S7 E D (A2 E D) N k pb 0 nb 0 (AA d) f Z=some (.bool (Re T d n f nd l R.er ns).1,Z')/\Bz Z Z' pb lv ts (Re T d n f nd l R.er ns).2.2.1 R (Re T d n f nd l R.er ns).2.2.2.1 (Re T d n f nd l R.er ns).2.2.2.2 Q nb (Re T d n f nd l R.er ns).2.1 iv fv fv' dv':=by
  intro n
  induction n with
  | zero=>intro k f Z l R ns nd fv h hQ q ap hl hf hn;omega
  | succ n ih=>
   intro k f Z l R ns nd fv h hQ q ap hl hf hn hk
   obtain⟨k,rfl⟩:∃j,k=j+1:=⟨k-1,by omega⟩
   show ∃dv' fv' Z',Mk E D (A2 E D) (ZI E D (A2 E D)) (S7 E D (A2 E D) N k) pb 0 nb 0 (AA d) f Z=_/\_
   unfold Re
   have qa:=q.a
   unfold AL.c at qa
   have sl:∀J:Nat->AH,BG fv.1 J=J nd.fields.length:=fun J=>q.f.slen
   cases f with
   | false=>
    simp only[]at ⊢
    obtain⟨Z1,g1,f1,q1⟩:=q.set (off:=13) (y := .int .i64 (AA nd.fields.length)) h.p.ht (nd.mr nd.more nd.fields.length) ⟨rfl,rfl⟩ (by decide) rfl rfl rfl
    have s1:=Bz.own h ap q1 f1
    obtain⟨Z3,Z4,e3,g4,p4,f4⟩:=Dh hW s1.p.p [BS.mk 1 125] (by decide)
    have e3:CO Z1 (.cells [.str (BS.mk 1 125)])=Z3:=e3
    have g4:D 16 [.ptr pb 0,.sl Z1.next 0 1 (.ex 1)] Z3=some (.bool (Aj [BS.mk 1 125] l R.er).1,Z4):=g4
    have p4:Ps Z4 pb lv ts (Aj [BS.mk 1 125] l R.er).2.1 (R.e (Aj [BS.mk 1 125] l R.er).2.2):=p4
    have s4:=s1.trans (Bz.go s1.p s1.q s1.ap p4 f4)
    generalize Aj [BS.mk 1 125] l R.er=i4 at g4 s4 ⊢
    obtain⟨b4,l4,er4⟩:=i4
    refine⟨_,fv,Z4,?_,s4⟩
    unfold Mk ZI
    simp -implicitDefEqProofs only [↓rP,rA,AD,AE,AB,↓Av qa,↓sl,↓g1,↓e3,↓g4]
   | true=>
    obtain⟨hf1,hf2⟩:=hf rfl
    simp only[]at ⊢
    obtain⟨Z1,g1,p1,f1⟩:=hI (BS.mk 3 3026478) h.p
    have s1:=Bz.go (er1:=R.er) h q ap p1 f1
    have le1:=Cs (BS.mk 3 3026478) l
    have lex1:=s1.f.le
    generalize CE (BS.mk 3 3026478) l=i1 at g1 p1 s1 le1 ⊢
    obtain⟨b1,l1⟩:=i1
    have q1a:=s1.q.a
    unfold AL.c at q1a
    have sl1:∀J:Nat->AH,BG fv.1 J=J nd.fields.length:=fun J=>s1.q.f.slen
    cases b1 with
    | true=>
     simp only[]at g1 p1 s1 le1 ⊢
     obtain⟨Z2,g2,f2,q2⟩:=s1.q.set (off:=14) (y := .bool true) p1.ht (nd.mr true nd.root) ⟨rfl,rfl⟩ (by decide) rfl rfl rfl
     obtain⟨Z3,g3,f3,q3⟩:=q2.set (off:=13) (y := .int .i64 (AA nd.fields.length)) f2.tidy (nd.mr true nd.fields.length) ⟨rfl,rfl⟩ (by decide) rfl rfl rfl
     have s3:=s1.trans (Bz.own s1.p s1.ap q3 (f2.trans f3 (fun _ _ h=>h)))
     have lex3:=s3.f.le
     have s3p:Pn Z3 pb lv ts l1 R ns (fun b=>Q b\/LB nb iv fv b):=s3.p
     obtain⟨dv4,fv4,Z4,g4,s4,le4,_⟩:=hA s3p (fun b hb=>by have:=hQ b hb;omega) s3.q s3.ap (by show nd.fields.length+l1.length<=9000;omega) hd
     have s4:=s3.trans s4
     generalize ZC T d (nd.mr true nd.fields.length) l1 R.er ns=i4 at g4 s4 ⊢
     obtain⟨b4,nd4,l4,er4,ns4⟩:=i4
     simp only[]at g4 s4 ⊢
     cases b4 with
     | false=>
      refine⟨dv4,fv4,Z4,?_,s4⟩
      unfold Mk
      simp -implicitDefEqProofs only [↓rP,rA,AD,AE,AB,↓g1,↓Av q1a,↓sl1,↓g2,↓g3,↓g4]
      rfl
     | true=>
      obtain⟨Z5,Z6,e5,g6,p6,f6⟩:=Dh hW s4.p.p [BS.mk 1 125] (by decide)
      have e5:CO Z4 (.cells [.str (BS.mk 1 125)])=Z5:=e5
      have g6:D 16 [.ptr pb 0,.sl Z4.next 0 1 (.ex 1)] Z5=some (.bool (Aj [BS.mk 1 125] l4 er4).1,Z6):=g6
      have p6:Ps Z6 pb lv ts (Aj [BS.mk 1 125] l4 er4).2.1 (((R.wd dv4).e er4).e (Aj [BS.mk 1 125] l4 er4).2.2):=p6
      have s6:=s4.trans (Bz.go s4.p s4.q s4.ap p6 f6)
      refine⟨_,fv4,Z6,?_,s6⟩
      unfold Mk
      simp -implicitDefEqProofs only [↓rP,rA,AD,AE,AB,↓g1,↓Av q1a,↓sl1,↓g2,↓g3,↓g4,↓e5,↓g6]
      rfl
    | false=>
     simp only[]at g1 p1 s1 le1 ⊢
     have s1p:Pn Z1 pb lv ts l1 R ns (fun b=>Q b\/LB nb iv fv b):=s1.p
     obtain⟨dv2,fv2,Z2,g2,⟨s2,le2,me2⟩,lt2⟩:=To (g:=0) hT hF s1p (fun b hb=>by have:=hQ b hb;omega) s1.q s1.ap (by omega) hd (by omega)
     have s2:=s1.trans s2
     generalize CH T d 0 nd l1 R.er ns=i2 at g2 s2 le2 me2 lt2 ⊢
     obtain⟨b2,nd2,l2,er2,ns2⟩:=i2
     simp only[]at g2 s2 le2 me2 lt2 ⊢
     cases b2 with
     | false=>
      refine⟨dv2,fv2,Z2,?_,s2⟩
      unfold Mk
      simp -implicitDefEqProofs only [↓rP,rA,AD,AE,AB,↓g1,↓g2]
     | true=>
      have me2:=me2 rfl
      have lt2:=lt2 rfl
      simp only[]at ⊢
      obtain⟨Z3,g3,p3,f3⟩:=hI (BS.mk 1 44) s2.p.p
      have s3:=s2.trans (Bz.go (er1:=er2) s2.p s2.q s2.ap p3 f3)
      have le3:=Cs (BS.mk 1 44) l2
      have lex3:=s3.f.le
      generalize CE (BS.mk 1 44) l2=i3 at g3 s3 le3 ⊢
      obtain⟨m,l3⟩:=i3
      simp only[]at g3 s3 le3 ⊢
      have s3p:Pn Z3 pb lv ts l3 ((R.wd dv2).e er2) ns2 (fun b=>Q b\/LB nb iv fv2 b):=s3.p
      obtain⟨dv',fv',Z',g',s'⟩:=ih k m s3p (fun b hb=>by have:=hQ b hb;omega) s3.q s3.ap (by omega) (fun _=>⟨by omega,by omega⟩) (by omega) (by omega)
      have er3:((R.wd dv2).e er2).er=er2:=rfl
      rw[er3]at g' s'
      refine⟨dv',fv',Z',?_,s3.trans s'⟩
      unfold Mk
      simp -implicitDefEqProofs only [↓rP,rA,AD,AE,AB,↓g1,↓g2,↓g3]
      exact g'
 obtain⟨Z1,Z2,e1,g2,p2,f2⟩:=Dh hW h.p [BS.mk 1 123] (by decide)
 have e1:CO Z (.cells [.str (BS.mk 1 123)])=Z1:=e1
 have g2:D 16 [.ptr pb 0,.sl Z.next 0 1 (.ex 1)] Z1=some (.bool (Aj [BS.mk 1 123] l R.er).1,Z2):=g2
 have p2:Ps Z2 pb lv ts (Aj [BS.mk 1 123] l R.er).2.1 (R.e (Aj [BS.mk 1 123] l R.er).2.2):=p2
 have hle:=Cm [BS.mk 1 123] l R.er
 have s2:=Bz.go h q ap p2 f2
 have hfew:=h.p.few
 have lex:=f2.le
 show ∃dv' fv' Z',Sj E D (A2 E D) (S7 E D (A2 E D) N N) pb 0 nb 0 (AA d) Z=_/\_
 unfold DC
 generalize Aj [BS.mk 1 123] l R.er=i2 at g2 p2 s2 hle ⊢
 obtain⟨b2,l2,er2⟩:=i2
 simp only[]at g2 p2 s2 hle ⊢
 cases b2 with
 | false=>
  refine⟨R.dv,fv,Z2,?_,s2⟩
  unfold Sj
  simp -implicitDefEqProofs only [↓rP,rS,↓e1,↓g2]
 | true=>
  have g3:=hS (BS.mk 1 125) p2
  simp only[]at ⊢
  unfold qL
  have s2p:Pn Z2 pb lv ts l2 (R.e er2) ns (fun b=>Q b\/LB nb iv fv b):=s2.p
  obtain⟨dv',fv',Z',g',s'⟩:=loop 9002 N (!MY (BS.mk 1 125) l2) s2p (fun b hb=>by have:=hQ b hb;omega) s2.q s2.ap (by rw[h0];simp only[A0];omega) (fun _=>⟨by omega,by omega⟩) (by omega) (by omega)
  have er3:(R.e er2).er=er2:=rfl
  rw[er3]at g' s'
  refine⟨dv',fv',Z',?_,s2.trans s'⟩
  unfold Sj
  simp -implicitDefEqProofs only [↓rP,rS,↓e1,↓g2,↓g3]
  exact g'
end
def AL.kd (x:AL) (k:Nat):AL:=⟨k,x.name,x.mHas,x.mNum,x.mMode,x.con,x.items,x.fields,x.root,x.more,x.of_⟩
def AL.lo (x:AL) (i:Nat):AL:=⟨x.kind,x.name,x.mHas,x.mNum,x.mMode,x.con,x.items,x.fields,x.root,x.more,i⟩
def JU (T:C1) (d:Nat) (nd:AL) (l:List A4) (er:Er) (ns:List AL):RU:=match MY (BS.mk 1 123) l with
 | true=>DC T d (nd.kd 7) l er ns
 | false=>match Da nd.con l er with
  | (false,c,l1,er1)=>(false,(nd.kd 10).cn c,l1,er1,ns)
  | (true,c,l1,er1)=>match Aj [BS.mk 2 17999] l1 er1 with
   | (false,l2,er2)=>(false,(nd.kd 10).cn c,l2,er2,ns)
   | (true,l2,er2)=>match T.go (d+1) l2 er2 ns with
    | (b,i,l3,er3,ns3)=>(b,((nd.kd 10).cn c).lo i,l3,er3,ns3)
structure PC (Z Z':H) (pb:Nat) (lv:V) (ts l':List A4) (R:Rp) (er':Er) (ns':List AL) (Q:Nat->Prop) (nb:Nat) (nd':AL) (iv:V) (fv:FV) (iv':V) (fv':FV) (dv':V):Prop where
 p:Pn Z' pb lv ts l' ((R.wd dv').e er') ns' (fun b=>Q b\/LB nb iv' fv' b)
 q:Nq Z' nb nd' iv' fv'
 ap:Aq pb lv dv' nb iv' fv'
 mi:∀b,AS iv' b->AS iv b\/Z.next<=b
 mf:∀b,NF fv' b->NF fv b\/Z.next<=b
 md:∀b,AS dv' b->AS R.dv b\/Z.next<=b
 f:Fr (fun b=>PB pb R.dv b\/LB nb iv fv b) Z Z'
def ES (T:C1) (F:List V->H->AH):Prop:=∀{Z:H} {pb:Nat} {lv:V} {ts l:List A4} {R:Rp} {ns:List AL} {Q:Nat->Prop} {nb:Nat} {nd:AL} {iv:V} {fv:FV} {d:Nat},
 Pn Z pb lv ts l R ns (fun b=>Q b\/LB nb iv fv b)->(∀b,Q b->b<Z.next)->Nq Z nb nd iv fv->Aq pb lv R.dv nb iv fv->nd.fields=[]->(T.lo<=d+1/\d<=900) ->
 ∃dv' fv' Z',F [.ptr pb 0,.ptr nb 0,.int .i64 (AA d)] Z=some (.bool (JU T d nd l R.er ns).1,Z')/\Bz Z Z' pb lv ts (JU T d nd l R.er ns).2.2.1 R (JU T d nd l R.er ns).2.2.2.1 (JU T d nd l R.er ns).2.2.2.2 Q nb (JU T d nd l R.er ns).2.1 iv fv fv' dv'
section
variable {Z Z1 Z2:H} {pb:Nat} {lv:V} {ts l l1 l2:List A4} {R:Rp} {er er1 er2:Er} {ns ns1 ns2:List AL} {Q:Nat->Prop} {nb:Nat} {nd nd1 nd2:AL} {iv:V} {fv fv1 fv2:FV} {dv1 dv2:V}
theorem Bz.base (h:Bz Z Z1 pb lv ts l1 R er ns1 Q nb nd1 iv fv fv1 dv1):PC Z Z1 pb lv ts l1 R er ns1 Q nb nd1 iv fv iv fv1 dv1:=
 ⟨h.p,h.q,h.ap,fun _ h => .inl h,h.mf,h.md,h.f.mono fun _ _ e=>e.imp id fun e=>e.imp id .inr⟩
theorem Aq.an (ap:Aq pb lv dv1 nb iv fv):An pb lv nb:=⟨ap.a.x,fun b hb e=>ap.a.l (e ▸ hb)⟩
theorem Bz.cel (h:Pn Z pb lv ts l R ns (fun b=>Q b\/LB nb iv fv b)) (q:Nq Z nb nd iv fv) (ap:Aq pb lv R.dv nb iv fv) (p:Ps Z1 pb lv ts l1 (R.e er1)) (a:DZ Z1 nb (nd1.c iv fv.1)) (h1:nd1.items=nd.items) (h2:nd1.fields=nd.fields) (f:Fr (fun k=>k=pb\/k=nb) Z Z1):Bz Z Z1 pb lv ts l1 R er1 ns Q nb nd1 iv fv fv R.dv:=by
 obtain⟨ws,k1,k2,k3⟩:=h.w
 have fi:=q.i.fr f h.p.ht (fun b hb e=>e.elim (ap.a.i b hb).1 (fun e=>q.ni (e ▸ hb)))
 have ff:=q.f.fr f h.p.ht (fun b hb e=>e.elim (ap.a.f b (.inl hb)).1 (fun e=>q.nf (e ▸ .inl hb)))
 have fg:=q.g.fr f h.p.ht (fun v hv b hb e=>e.elim (ap.a.f b (.inr ⟨v,hv,hb⟩)).1 (fun e=>q.nf (e ▸ .inr ⟨v,hv,hb⟩)))
 refine⟨⟨p,⟨ws,k1.fr f h.p.ht fun b hb e=>e.elim (h.dx b hb).1 (fun e=>ap.d (e ▸ hb)),k2,fun k nd u hn hu=>?_⟩,h.dx⟩,⟨a,by rw[h1];exact fi,by rw[h2];exact ff,by rw[h2];exact fg,q.ni,q.nf,q.d,q.gd⟩,ap,fun _ h => .inl h,fun _ h => .inl h,f.mono fun _ _ e=>e.elim (fun e => .inl (.inl e)) (fun e => .inr (.inl e))⟩
 have hN:=k3 k nd u hn hu
 exact hN.fr f h.p.ht fun x hb e=>e.elim (hN.n x hb).1 (fun e=>(hN.n x hb).2.2 (.inr (.inl e)))
theorem qD (h:Nq Z nb nd iv fv) (ht:Ci Z) (hQ:∀b,Q b->b<Z.next):∀b,(Q b\/LB nb iv fv b)->b<Z.next:=fun b hb=>by
 rcases hb with hb|hb|hb|hb
 ·exact hQ b hb
 ·have:=h.a.lt ht;omega
 ·exact h.lt_i ht hb
 ·exact h.lt_f ht hb
end
section
variable {E:EB} {D:BB} {W:AJ} {N:Nat}
theorem En {T:C1} (hS:Of (D 17)) (hZ:VP (D 58)) (hW:Di (D 16)) (hF:CP T (D 61)) (hT:Dg T (D 39)):ES T (uJ E D W N):=by
 intro Z pb lv ts l R ns Q nb nd iv fv d h hQ q ap h0 hd
 have g1:=hS (BS.mk 1 123) h.p
 show ∃dv' fv' Z',QH E D W pb 0 nb 0 (AA d) Z=_/\_
 unfold JU
 cases hb:MY (BS.mk 1 123) l with
 | true=>
  rw[hb]at g1
  simp only[]at ⊢
  obtain⟨Z2,g2,f2,q2⟩:=q.set (off:=0) (y := .int .i64 (AA 7)) h.p.ht (nd.kd 7) ⟨rfl,rfl⟩ (by decide) rfl rfl rfl
  have s2:=Bz.own h ap q2 f2
  have s2p:Pn Z2 pb lv ts l R ns (fun b=>Q b\/LB nb iv fv b):=s2.p
  have le2:=f2.le
  obtain⟨dv',fv',Z',g',s'⟩:=hF s2p (fun b hb=>by have:=hQ b hb;omega) s2.q s2.ap h0 hd
  refine⟨dv',fv',Z',?_,s2.trans s'⟩
  unfold QH
  simp -implicitDefEqProofs only [↓rP,rA,AD,AE,AB,↓g1,↓g2,↓g']
 | false=>
  rw[hb]at g1
  simp only[]at ⊢
  obtain⟨Z2,g2,f2,q2⟩:=q.set (off:=0) (y := .int .i64 (AA 10)) h.p.ht (nd.kd 10) ⟨rfl,rfl⟩ (by decide) rfl rfl rfl
  have s2:=Bz.own h ap q2 f2
  have s2p:Pn Z2 pb lv ts l R ns (fun b=>Q b\/LB nb iv fv b):=s2.p
  obtain⟨Z3,g3,p3,a3,f3⟩:=hZ s2p.p s2.ap.an s2.q.a
  have ec:(nd.kd 10).con=nd.con:=rfl
  rw[ec]at g3 p3 a3
  have s3:=s2.trans (Bz.cel s2p s2.q s2.ap p3 a3 rfl rfl f3)
  generalize Da nd.con l R.er=i3 at g3 s3 ⊢
  obtain⟨b3,c,l3,er3⟩:=i3
  simp only[]at g3 s3 ⊢
  cases b3 with
  | false=>
   refine⟨_,fv,Z3,?_,s3⟩
   unfold QH
   simp -implicitDefEqProofs only [↓rP,rA,AD,AE,AB,↓g1,↓g2,↓g3]
  | true=>
   simp only[]at ⊢
   have s3p:Pn Z3 pb lv ts l3 (R.e er3) ns (fun b=>Q b\/LB nb iv fv b):=s3.p
   obtain⟨Z4,Z5,e4,g5,p5,f5⟩:=Dh hW s3p.p [BS.mk 2 17999] (by decide)
   have e4:CO Z3 (.cells [.str (BS.mk 2 17999)])=Z4:=e4
   have g5:D 16 [.ptr pb 0,.sl Z3.next 0 1 (.ex 1)] Z4=some (.bool (Aj [BS.mk 2 17999] l3 er3).1,Z5):=g5
   have p5:Ps Z5 pb lv ts (Aj [BS.mk 2 17999] l3 er3).2.1 ((R.e er3).e (Aj [BS.mk 2 17999] l3 er3).2.2):=p5
   have s5:=s3.trans (Bz.go s3p s3.q s3.ap p5 f5)
   generalize Aj [BS.mk 2 17999] l3 er3=i5 at g5 s5 ⊢
   obtain⟨b5,l5,er5⟩:=i5
   simp only[]at g5 s5 ⊢
   cases b5 with
   | false=>
    refine⟨_,fv,Z5,?_,s5⟩
    unfold QH
    simp -implicitDefEqProofs only [↓rP,rA,AD,AE,AB,↓g1,↓g2,↓g3,↓e4,↓g5]
   | true=>
    simp only[]at ⊢
    have s5p:Pn Z5 pb lv ts l5 (R.e er5) ns (fun b=>Q b\/LB nb iv fv b):=s5.p
    have s5a:Aq pb lv R.dv nb iv fv:=s5.ap
    have ad:CJ .i64 (AA d) (AA 1)=AA (d+1):=Bw (by omega)
    have le5:=s5.f.le
    obtain⟨dv6,Z6,g6,h6,f6,m6⟩:=hT (d:=d+1) s5p (qD s5.q s5p.p.ht fun b hb=>by have:=hQ b hb;omega) (by omega)
    have er6:(R.e er5).er=er5:=rfl
    rw[er6]at g6 h6
    have f6:Fr (PB pb R.dv) Z5 Z6:=f6
    have m6:∀b,AS dv6 b->AS R.dv b\/Z5.next<=b:=m6
    have q6:=s5.q.frq f6 s5p.p.ht s5a
    have ap6:Aq pb lv dv6 nb iv fv:=s5a.ndv s5.q s5p.p.ht m6
    obtain⟨i6,hi6⟩:∃r,T.go (d+1) l5 er5 ns=r:=⟨_,rfl⟩
    rw[hi6]at g6 h6 ⊢
    clear hi6
    obtain⟨b6,i,l6,er6',ns6⟩:=i6
    simp only[]at g6 h6 ⊢
    have h6:Pn Z6 pb lv ts l6 ((R.wd dv6).e er6') ns6 (fun b=>Q b\/LB nb iv fv b):=h6
    obtain⟨Z7,g7,f7,q7⟩:=q6.set (off:=15) (y := .int .i64 (AA i)) h6.p.ht (((nd.kd 10).cn c).lo i) ⟨rfl,rfl⟩ (by decide) rfl rfl rfl
    have s6:Bz Z5 Z6 pb lv ts l6 (R.e er5) er6' ns6 Q nb ((nd.kd 10).cn c) iv fv fv dv6:=⟨h6,q6,ap6,fun _ h => .inl h,m6,f6.mono fun _ _ e => .inl e⟩
    have s6':=s5.trans s6
    have s7:=s6'.trans (Bz.own s6'.p s6'.ap q7 f7)
    refine⟨_,fv,Z7,?_,s7⟩
    unfold QH
    simp -implicitDefEqProofs only [↓rP,rA,AD,AE,AB,↓g1,↓g2,↓g3,↓e4,↓g5,ad,↓g6,↓g7]
end
def Tl (nd:AL) (l:List A4) (er:Er) (ns:List AL):RU:=match CE (BS.mk 1 40) l with
 | (false,l1)=>(true,nd,l1,er,ns)
 | (true,l1)=>match Ce nd.con l1 er with
  | (b,c,l2,er2)=>match Fh b [BS.mk 1 41] l2 er2 with
   | (ok,l3,er3)=>(ok,nd.cn c,l3,er3,ns)
def Nv (nd:AL) (l:List A4) (er:Er) (ns:List AL):RU:=match Aj [BS.mk 6 78401563153491] l er with
 | (false,l1,er1)=>(false,nd,l1,er1,ns)
 | (true,l1,er1)=>match Da nd.con l1 er1 with
  | (b,c,l2,er2)=>(b,nd.cn c,l2,er2,ns)
def pV (nd:AL) (l:List A4) (er:Er) (ns:List AL):RU:=match Da nd.con l er with
 | (b,c,l2,er2)=>(b,nd.cn c,l2,er2,ns)
def qR (nd:AL) (l:List A4) (er:Er) (ns:List AL):RU:=match E7 nd.is l er with
 | (b,s,l2,er2)=>(b,nd.wi s,l2,er2,ns)
def Ri:List (BS × Nat):=[(BS.mk 7 22026814072246082,1),(BS.mk 4 1280070990,4),(BS.mk 10 488440487847103610377301,6),(BS.mk 7 23157120498421321,2),(BS.mk 5 361940403023,5),(BS.mk 10 322399817400452109389381,3),(BS.mk 3 5522771,8),(BS.mk 6 76155295057987,9),(BS.mk 8 4990918871747741011,7)]
def LH:List (BS × Nat)->List A4->Nat × List A4
 | [],l=>(0,l)
 | (s,k)::r,l=>match CE s l with
  | (true,l1)=>(k,l1)
  | (false,l1)=>LH r l1
def JF (T:C1) (d:Nat) (nd:AL) (l:List A4) (er:Er) (ns:List AL):Nat->RU
 | 0=>(false,nd,l,FH er (CF l).2.2 7,ns)
 | 2=>Tl (nd.kd 2) l er ns
 | 3=>qR (nd.kd 3) l er ns
 | 5=>Nv (nd.kd 5) l er ns
 | 6=>pV (nd.kd 6) l er ns
 | 7=>JU T d nd l er ns
 | 8=>DC T d (nd.kd 8) l er ns
 | 9=>DC T d (nd.kd 9) l er ns
 | k=>(true,nd.kd k,l,er,ns)
def R9 (T:C1) (d:Nat) (nd:AL) (l:List A4) (er:Er) (ns:List AL):RU:=match LH Ri l with
 | (k,l1)=>JF T d nd l1 er ns k
def CG (m:Bool × Int × Nat):AL:=⟨0,[],m.1,m.2.1,m.2.2,qU,[],[],0,false,0⟩
def AL.rf (x:AL) (w:List Nat):AL:=⟨11,w,x.mHas,x.mNum,x.mMode,x.con,x.items,x.fields,x.root,x.more,x.of_⟩
def FZ (T:C1) (d:Nat) (l:List A4) (er:Er) (ns:List AL):RU:=match Fp l er with
 | (false,_,l1,er1)=>(false,HS,l1,er1,ns)
 | (true,m,l1,er1)=>match decide ((CF l1).1=1)with
  | true=>(true,(CG m).rf (CF l1).2.1,JE l1,er1,ns)
  | false=>R9 T d (CG m) l1 er1 ns
structure tC (Z Z':H) (pb:Nat) (lv:V) (ts l':List A4) (R:Rp) (er':Er) (ns':List AL) (Q:Nat->Prop) (nd':AL) (iv:V) (fv:FV) (dv':V):Prop where
 p:Pn Z' pb lv ts l' ((R.wd dv').e er') ns' Q
 g:dz Z' pb dv' Q nd' (iv,fv)
 md:∀b,AS dv' b->AS R.dv b\/Z.next<=b
 f:Fr (PB pb R.dv) Z Z'
def DU (T:C1) (F:List V->H->AH):Prop:=∀{Z:H} {pb:Nat} {lv:V} {ts l:List A4} {R:Rp} {ns:List AL} {Q:Nat->Prop} {d:Nat},Pn Z pb lv ts l R ns Q->(∀b,Q b->b<Z.next)->(T.lo<=d+1/\d<=900) ->
 ∃iv fv dv' Z',F [.ptr pb 0,.int .i64 (AA d)] Z=some (.tup [.agg ((FZ T d l R.er ns).2.1.c iv fv.1),.bool (FZ T d l R.er ns).1],Z')/\tC Z Z' pb lv ts (FZ T d l R.er ns).2.2.1 R (FZ T d l R.er ns).2.2.2.1 (FZ T d l R.er ns).2.2.2.2 Q (FZ T d l R.er ns).2.1 iv fv dv'
def zC:List V:=[.int .i64 (AA 0),.str (BS.mk 0 0),.bool false,.int .i64 (AA 0),.int .i64 (AA 0),.bool false,.bool false,.bool false,.bool false,.int .i64 (AA 0),.int .i64 (AA 0),.nils,.nils,.int .i64 (AA 0),.bool false,.int .i64 (AA 0)]
theorem kG {E:EB} {Z:H} {b:Nat} {nd:AL} {iv fv:V} (h:DZ Z b (nd.c iv fv)) (J:List V->AH):DB E Z b 0 16 J=J (nd.c iv fv):=by
 rw[Ho h];rfl
theorem fQ {nd:AL} {iv fv:V} (h1:iv.one=true) (h2:fv.one=true):BJ (nd.c iv fv)=true:=by
 unfold AL.c
 simp only[B8,CS,G5,Hn,IW,h1,h2,Be]
theorem ju {Z:H} {b:Nat} {z:List V} {nd:AL} {iv fv:V} (ht:Ci Z) (h:DZ Z b z) (hz:z.length=16) (h1:iv.one=true) (h2:fv.one=true):∃Z',(∀J:H->AH,Dk 16 b 0 (.agg (nd.c iv fv)) Z J=J Z')/\DZ Z' b (nd.c iv fv)/\Fr (fun k=>k=b) Z Z':=by
 obtain⟨x,hx⟩:∃x,z++[]=x:=⟨_,rfl⟩
 refine MX ht h (by
  rw[HK,fQ h1 h2,hz,Be];rfl) ?_
 rw[HK]
 have:=Nd z [] (nd.c iv fv) (by rw[hz];rfl)
 rw[Eb,Eb]at this
 exact this
section
variable {E:EB} {D:BB} {N:Nat}
theorem bm {Z:H} {rb nb tb:Nat} {nd:AL} {iv fv:V} {k a:Int} {w:List Nat} (ht:Ci Z) (hn:DZ Z nb (nd.c iv fv)) (htb:DZ Z tb [.int .i64 k,.str (Cj w),.int .i64 a]) (ne:tb≠nb) :
  ∃e' Z',A2 E D QY TJ [(4,.ptr rb 0),(8,.ptr nb 0),(9,.ptr tb 0)] Z=some (e',Z')/\Go.Og.look e' 4=some (.ptr rb 0)/\Go.Og.look e' 8=some (.ptr nb 0)/\DZ Z' nb ((nd.rf w).c iv fv)/\Fr (fun k=>k=nb) Z Z':=by
 have fw:Fr BQ Z ⟨Z.next+6,Z.bl⟩:=(Du (E:=E) (n:=6) (S:=BQ) ht).fr
 have lb:=hn.lt ht
 obtain⟨Z1,g1,f1,a1⟩:=ID (E:=E) (D:=D) (n:=1) (x := .tmp 33) (y := .con (.int .i64 (AA 11))) (e:=[(33,.ptr nb 0)]) fw.tidy (fw.at_ hn ht (fun h=>h)) rfl rfl rfl
 obtain⟨Z2,g2,f2,a2⟩:=ID (E:=E) (D:=D) (n:=1) (x := .tmp 34) (y := .tmp 32) (e:=[(34,.ptr nb 1),(32,.str (Cj w))]) f1.tidy a1 rfl rfl rfl
 have go:He E D Z 6 0 (fun k=>k=nb) QY TJ ⟨[(4,.ptr rb 0),(8,.ptr nb 0),(9,.ptr tb 0)],Z.next+6,[Z.bl],[],0,[]⟩ _ Z2:=
  HU (.ptr tb 1) rfl rfl <|
  Tn (.str (Cj w)) (Du ht) rfl (G6 (b:=tb) (off:=1) rfl htb rfl ht ne (C8 _ rfl)) fun _ r1=>
  HU (.ptr nb 0) rfl rfl <|
  SO .dead r1 rfl (by decide) (S':=fun k=>k=nb) f1 (fun _ _ h=>h) (fun b h h1 _=>by omega) g1 fun _ _ _ r2=>
  HU (.ptr nb 1) rfl rfl <|
  SO .dead r2 rfl (by decide) (S':=fun k=>k=nb) f2 (fun _ _ h=>h) (fun b h h1 _=>by omega) g2 fun _ _ _ r3=>
  OA r3
 obtain⟨d1,d2⟩:=Ld (ops:=QY) go
 exact⟨_,Z2,d1,rfl,rfl,a2,d2⟩
theorem X9 {Z Z3 Z4:H} {pb rb nb:Nat} {lv:V} {ts l4:List A4} {R:Rp} {er1 er4:Er} {ns4:List AL} {Q:Nat->Prop} {nd4:AL} {iv4:V} {fv4:FV} {dv4:V} {z:List V} (ok:Bool)
  (f03:Fr (fun k=>k=pb) Z Z3) (hrb:rb=Z.next) (hnb:Z.next<nb) (hr:DZ Z3 rb z) (hz:z.length=16) (hQ:∀b,Q b->b<Z.next) (hlv:∀b,AS lv b->b<Z.next) (hdv:∀b,AS R.dv b->b<Z.next) (hp:pb<Z.next)
  (s:PC Z3 Z4 pb lv ts l4 (R.e er1) er4 ns4 (fun b=>Q b\/b=rb) nb nd4 .nils (.nils,[]) iv4 fv4 dv4) :
  ∃Z5,Sn E D (A2 E D) rb 0 ok nb 0 Z4=some (.tup [.agg (nd4.c iv4 fv4.1),.bool ok],Z5)/\tC Z Z5 pb lv ts l4 R er4 ns4 Q nd4 iv4 fv4 dv4:=by
 have le3:=f03.le
 have l3:=hr.lt (show Ci Z3 from f03.tidy)
 have le4:=s.f.le
 have io:=s.q.i.one
 have fo:=s.q.f.one
 have md:∀b,AS dv4 b->AS R.dv b\/Z3.next<=b:=s.md
 have iF:∀b,AS iv4 b->Z3.next<=b:=fun b hb=>(s.mi b hb).elim (fun h=>h.elim) id
 have fF:∀b,NF fv4 b->Z3.next<=b:=fun b hb=>(s.mf b hb).elim (fun h=>h.elim (fun h=>h.elim) (fun⟨v,hv,_⟩=>by cases hv)) id
 have nr:rb≠nb:=by omega
 have r4:DZ Z4 rb z:=s.f.at_ hr f03.tidy (fun e=>by
  rcases e with (e|e)|e|e|e|⟨v,hv,_⟩
  ·omega
  ·have:=hdv _ e;omega
  ·omega
  ·exact e
  ·exact e
  ·cases hv)
 obtain⟨Z5,g5,a5,f5⟩:=ju (nd:=nd4) s.p.p.ht r4 hz io fo
 have l4':=kG (E:=E) s.q.a
 have l5':=kG (E:=E) a5
 refine⟨Z5,?_,?_,⟨?_,?_,?_,?_⟩,fun b hb=>(md b hb).imp id (fun h=>by omega),?_⟩
 ·unfold AL.c at l4' g5 l5' ⊢
  unfold Sn
  simp -implicitDefEqProofs only [↓rP,rA,AD,AE,AB,↓l4',↓g5,↓l5']
 ·have hnd:∀b,AS dv4 b->b≠rb:=fun b hb e=>(md b hb).elim (fun h=>by have:=hdv b h;omega) (fun h=>by omega)
  have h5:=s.p.fr f5 (by omega) (fun b hb e=>by have:=hlv b hb;omega) hnd (fun b _ e => .inl (.inr e))
  exact h5.ext fun b hb => .inl (.inl (.inl hb))
 ·exact s.q.i.src.fr f5 s.p.p.ht (fun b hb e=>by have:=iF b hb;omega)
 ·exact s.q.f.src.fr f5 s.p.p.ht (fun b hb e=>by have:=fF b (.inl hb);omega)
 ·exact s.q.g.fr f5 s.p.p.ht (fun v hv b hb e=>by have:=fF b (.inr ⟨v,hv,hb⟩);omega)
 ·intro b hb
  refine⟨?_,?_,?_⟩
  ·exact hb.elim (fun e=>(s.ap.a.i b e).1) (fun e=>(s.ap.a.f b e).1)
  ·exact hb.elim (s.ap.i b) (s.ap.f b)
  ·intro q
   have:=hQ b q
   exact hb.elim (fun e=>by have:=iF b e;omega) (fun e=>by have:=fF b e;omega)
 ·refine((f03.mono (fun _ _ e => .inl e):Fr (PB pb R.dv) Z Z3).trans s.f (fun b hb e=>?_)).trans f5 (fun b hb e=>by omega)
  rcases e with e|e|e|e|⟨v,hv,_⟩
  ·exact e
  ·omega
  ·exact e.elim
  ·exact e.elim
  ·cases hv
theorem cW {Z Z1:H} {pb nb:Nat} {lv:V} {ts l l1:List A4} {R:Rp} {er1:Er} {ns:List AL} {Q:Nat->Prop} {nd1:AL} {iv iv':V} {fv:FV}
  (h:Pn Z pb lv ts l R ns (fun b=>Q b\/LB nb iv fv b)) (ap:Aq pb lv R.dv nb iv fv) (s:Hm Z Z1 pb lv ts l1 (R.e er1) nb nd1 iv iv' fv):PC Z Z1 pb lv ts l1 R er1 ns Q nb nd1 iv fv iv' fv R.dv:=by
 have le:=s.f.le
 have lx:=h.p.lt
 obtain⟨ws,k1,k2,k3⟩:=h.w
 have hp:Pn Z1 pb lv ts l1 (R.e er1) ns (fun b=>(Q b\/LB nb iv fv b)\/Z.next<=b):=by
  refine⟨s.p,⟨ws,k1.fr s.f h.p.ht fun b hb e=>?_,k2,fun k nd u hn hu=>?_⟩,h.dx⟩
  ·rcases e with e|e|e
   ·exact(h.dx b hb).1 e
   ·exact ap.d (e ▸ hb)
   ·exact ap.i b e hb
  ·have hN:=k3 k nd u hn hu
   have hM:=hN.fr s.f h.p.ht fun x hb e=>by
    rcases e with e|e|e
    ·exact(hN.n x hb).1 e
    ·exact(hN.n x hb).2.2 (.inr (.inl e))
    ·exact(hN.n x hb).2.2 (.inr (.inr (.inl e)))
   exact⟨hM.i,hM.f,hM.g,fun b hb=>⟨(hM.n b hb).1,(hM.n b hb).2.1,fun q=>q.elim (hM.n b hb).2.2 fun h'=>by have:=hN.lt h.p.ht hb;omega⟩⟩
 refine⟨hp.ext fun b hb => .inl ?_,s.q,⟨s.ap,ap.d,fun b hb=>(s.m b hb).elim (ap.i b) (fun e hn=>by have:=h.dlt hn;omega),ap.f⟩,s.m,fun _ h => .inl h,fun _ h => .inl h,s.f.mono fun b _ e=>?_⟩
 ·rcases hb with hb|hb|hb|hb
  ·exact .inl (.inl hb)
  ·exact .inl (.inr (.inl hb))
  ·exact(s.m b hb).elim (fun e => .inl (.inr (.inr (.inl e)))) .inr
  ·exact .inl (.inr (.inr (.inr hb)))
 ·rcases e with e|e|e
  ·exact .inl (.inl e)
  ·exact .inr (.inl e)
  ·exact .inr (.inr (.inl e))
theorem Bz.tb {Z Z1 Z2:H} {pb nb:Nat} {lv:V} {ts l1 l2:List A4} {R:Rp} {er1 er2:Er} {ns ns2:List AL} {Q:Nat->Prop} {nd1 nd2:AL} {iv iv2:V} {fv fv2:FV} {dv2:V}
  (h:Bz Z Z1 pb lv ts l1 R er1 ns Q nb nd1 iv fv fv R.dv) (k:PC Z1 Z2 pb lv ts l2 (R.e er1) er2 ns2 Q nb nd2 iv fv iv2 fv2 dv2):PC Z Z2 pb lv ts l2 R er2 ns2 Q nb nd2 iv fv iv2 fv2 dv2:=by
 have le:=h.f.le
 exact⟨k.p,k.q,k.ap,fun b hb=>(k.mi b hb).imp id (fun e=>by omega),fun b hb=>(k.mf b hb).imp id (fun e=>by omega),fun b hb=>(k.md b hb).imp id (fun e=>by omega),(h.f.mono fun b _ e=>e.imp id fun e=>e.imp id .inr).trans k.f fun b _ e=>e⟩
section
variable {T:C1} {d:Nat} {nd:AL} {l:List A4} {er:Er} {ns:List AL}
theorem kn0:JF T d nd l er ns 0=(false,nd,l,FH er (CF l).2.2 7,ns):=rfl
theorem kn1:JF T d nd l er ns 1=(true,nd.kd 1,l,er,ns):=rfl
theorem kn2:JF T d nd l er ns 2=Tl (nd.kd 2) l er ns:=rfl
theorem kn3:JF T d nd l er ns 3=qR (nd.kd 3) l er ns:=rfl
theorem kn4:JF T d nd l er ns 4=(true,nd.kd 4,l,er,ns):=rfl
theorem kn5:JF T d nd l er ns 5=Nv (nd.kd 5) l er ns:=rfl
theorem kn6:JF T d nd l er ns 6=pV (nd.kd 6) l er ns:=rfl
theorem kn7:JF T d nd l er ns 7=JU T d nd l er ns:=rfl
theorem kn8:JF T d nd l er ns 8=DC T d (nd.kd 8) l er ns:=rfl
theorem kn9:JF T d nd l er ns 9=DC T d (nd.kd 9) l er ns:=rfl
end
theorem jn {l:List A4}:LH Ri l=(match CE (BS.mk 7 22026814072246082) l with | (true,l1)=>(1,l1) | (false,l1)=>LH [(BS.mk 4 1280070990,4),(BS.mk 10 488440487847103610377301,6),(BS.mk 7 23157120498421321,2),(BS.mk 5 361940403023,5),(BS.mk 10 322399817400452109389381,3),(BS.mk 3 5522771,8),(BS.mk 6 76155295057987,9),(BS.mk 8 4990918871747741011,7)] l1):=rfl
theorem jm {l:List A4}:LH [(BS.mk 4 1280070990,4),(BS.mk 10 488440487847103610377301,6),(BS.mk 7 23157120498421321,2),(BS.mk 5 361940403023,5),(BS.mk 10 322399817400452109389381,3),(BS.mk 3 5522771,8),(BS.mk 6 76155295057987,9),(BS.mk 8 4990918871747741011,7)] l=(match CE (BS.mk 4 1280070990) l with | (true,l1)=>(4,l1) | (false,l1)=>LH [(BS.mk 10 488440487847103610377301,6),(BS.mk 7 23157120498421321,2),(BS.mk 5 361940403023,5),(BS.mk 10 322399817400452109389381,3),(BS.mk 3 5522771,8),(BS.mk 6 76155295057987,9),(BS.mk 8 4990918871747741011,7)] l1):=rfl
theorem jl {l:List A4}:LH [(BS.mk 10 488440487847103610377301,6),(BS.mk 7 23157120498421321,2),(BS.mk 5 361940403023,5),(BS.mk 10 322399817400452109389381,3),(BS.mk 3 5522771,8),(BS.mk 6 76155295057987,9),(BS.mk 8 4990918871747741011,7)] l=(match CE (BS.mk 10 488440487847103610377301) l with | (true,l1)=>(6,l1) | (false,l1)=>LH [(BS.mk 7 23157120498421321,2),(BS.mk 5 361940403023,5),(BS.mk 10 322399817400452109389381,3),(BS.mk 3 5522771,8),(BS.mk 6 76155295057987,9),(BS.mk 8 4990918871747741011,7)] l1):=rfl
theorem jk {l:List A4}:LH [(BS.mk 7 23157120498421321,2),(BS.mk 5 361940403023,5),(BS.mk 10 322399817400452109389381,3),(BS.mk 3 5522771,8),(BS.mk 6 76155295057987,9),(BS.mk 8 4990918871747741011,7)] l=(match CE (BS.mk 7 23157120498421321) l with | (true,l1)=>(2,l1) | (false,l1)=>LH [(BS.mk 5 361940403023,5),(BS.mk 10 322399817400452109389381,3),(BS.mk 3 5522771,8),(BS.mk 6 76155295057987,9),(BS.mk 8 4990918871747741011,7)] l1):=rfl
theorem jj {l:List A4}:LH [(BS.mk 5 361940403023,5),(BS.mk 10 322399817400452109389381,3),(BS.mk 3 5522771,8),(BS.mk 6 76155295057987,9),(BS.mk 8 4990918871747741011,7)] l=(match CE (BS.mk 5 361940403023) l with | (true,l1)=>(5,l1) | (false,l1)=>LH [(BS.mk 10 322399817400452109389381,3),(BS.mk 3 5522771,8),(BS.mk 6 76155295057987,9),(BS.mk 8 4990918871747741011,7)] l1):=rfl
theorem ji {l:List A4}:LH [(BS.mk 10 322399817400452109389381,3),(BS.mk 3 5522771,8),(BS.mk 6 76155295057987,9),(BS.mk 8 4990918871747741011,7)] l=(match CE (BS.mk 10 322399817400452109389381) l with | (true,l1)=>(3,l1) | (false,l1)=>LH [(BS.mk 3 5522771,8),(BS.mk 6 76155295057987,9),(BS.mk 8 4990918871747741011,7)] l1):=rfl
theorem jh {l:List A4}:LH [(BS.mk 3 5522771,8),(BS.mk 6 76155295057987,9),(BS.mk 8 4990918871747741011,7)] l=(match CE (BS.mk 3 5522771) l with | (true,l1)=>(8,l1) | (false,l1)=>LH [(BS.mk 6 76155295057987,9),(BS.mk 8 4990918871747741011,7)] l1):=rfl
theorem jg {l:List A4}:LH [(BS.mk 6 76155295057987,9),(BS.mk 8 4990918871747741011,7)] l=(match CE (BS.mk 6 76155295057987) l with | (true,l1)=>(9,l1) | (false,l1)=>LH [(BS.mk 8 4990918871747741011,7)] l1):=rfl
theorem jf {l:List A4}:LH [(BS.mk 8 4990918871747741011,7)] l=(match CE (BS.mk 8 4990918871747741011) l with | (true,l1)=>(7,l1) | (false,l1)=>LH [] l1):=rfl
theorem Ds {T:C1} (hP:Fs (D 18)) (hX:Iy (D 37)) (hM:RP (D 57)) (hI:Ft (D 38)) (hFl:GX (D 36)) (hW:Di (D 16)) (hZ:VP (D 58)) (hB:RR (D 59)) (hIt:Oj (D 60)) (hF:CP T (D 61)) (hS:ES T (D 62)):DU T (uP E D (A2 E D) N):=by
 intro Z pb lv ts l R ns Q d h hQ hd
 obtain⟨Z0,e0,f0,a0,n0⟩:=Nx h.p.ht zC
 have h0:=(h.ext (Q':=fun b=>Q b\/b=Z.next) fun b hb=>hb.imp id (fun e=>by omega)).fr f0 (fun h=>h) (fun _ _ h=>h) (fun _ _ h=>h) (fun _ _ h=>h.elim)
 have lp:=h.p.lt
 have ll:=h.p.llt
 have ld:∀b,AS R.dv b->b<Z.next:=fun b hb=>h.dlt hb
 obtain⟨Z1,g1,p1,f1⟩:=hM h0.p
 have h1:=h0.goe p1 f1
 have f01:Fr (fun k=>k=pb) Z Z1:=(f0.mono fun _ _ h=>h.elim:Fr (fun k=>k=pb) Z Z0).trans f1 (fun _ _ h=>h)
 have r1:=f1.at_ a0 h0.p.ht (by omega)
 show ∃iv fv dv' Z',Gr E D (A2 E D) (Sn E D (A2 E D)) pb 0 (AA d) Z=_/\_
 unfold zC at e0 a0 r1
 unfold FZ
 generalize Fp l R.er=i1 at g1 p1 h1 ⊢
 obtain⟨b1,m,l1,er1⟩:=i1
 simp only[]at g1 p1 h1 ⊢
 cases b1 with
 | false=>
  obtain⟨Z2,g2,a2,f2⟩:=ju (nd:=HS) (iv := .nils) (fv := .nils) p1.ht r1 rfl rfl rfl
  have l2':=kG (E:=E) a2
  refine⟨.nils,(.nils,[]),R.dv,Z2,?_,⟨?_,⟨.inl ⟨rfl,rfl,rfl⟩,.inl ⟨rfl,rfl,rfl⟩,⟨rfl,fun k x v hx=>by cases hx⟩,fun b hb=>?_⟩,fun _ h => .inl h,?_⟩⟩
  ·unfold AL.c at g2 l2' ⊢
   have g2:∀J:H->AH,Dk 16 Z.next 0 (.agg zC) Z1 J=J Z2:=g2
   have l2':∀J:List V->AH,DB E Z2 Z.next 0 16 J=J zC:=l2'
   unfold zC at g2 l2'
   unfold Gr
   simp -implicitDefEqProofs only [↓rP,rA,AD,AE,AB,↓e0,↓g1,↓g2,↓l2']
   rfl
  ·exact(h1.fr f2 (by omega) (fun b hb e=>by have:=ll b hb;omega) (fun b hb e=>by have:=ld b hb;omega) (fun b _ e => .inr e)).ext fun b hb => .inl (.inl hb)
  ·rcases hb with hb|hb|⟨v,hv,_⟩
   ·exact hb.elim
   ·exact hb.elim
   ·cases hv
  ·exact(f01.mono fun _ _ e => .inl e).trans f2 (fun b hb e=>by omega)
 | true=>
  simp only[]at ⊢
  obtain⟨Z2,e2,f2,a2,n2⟩:=Nx p1.ht zC
  have le1:=f01.le
  have r1l:=r1.lt p1.ht
  have le2:=f2.le
  have h2:=(h1.ext (Q':=fun b=>(Q b\/b=Z.next)\/LB Z1.next .nils (.nils,[]) b) fun b hb=>by
   rcases hb with hb|hb|hb|hb|⟨v,hv,_⟩
   ·exact .inl hb
   ·exact .inr (by omega)
   ·exact hb.elim
   ·exact hb.elim
   ·cases hv).fr f2 (fun h=>h) (fun _ _ h=>h) (fun _ _ h=>h) (fun _ _ h=>h.elim)
  obtain⟨Z3,s3,a3,f3⟩:=ju (nd:=CG m) (iv := .nils) (fv := .nils) f2.tidy a2 rfl rfl rfl
  have h3:=h2.fr f3 (by omega) (fun b hb e=>by have:=ll b hb;omega) (fun b hb e=>by have:=ld b hb;omega) (fun b _ e => .inr (.inl e))
  have g4:=hP h3.p
  obtain⟨Z5,e5,f5,a5,n5⟩:=Nx h3.p.ht [.int .i64 (AA 0),.str ⟨0,0⟩,.int .i64 (AA 0)]
  obtain⟨Z6,s6,a6,f6⟩:=MX (n:=3) (o:=0) (v := .agg (Ca (CF l1))) (l':=Ca (CF l1)) f5.tidy a5 rfl rfl
  have f36:Fr BQ Z3 Z6:=f5.trans f6 (fun b hb e=>by omega)
  have h6:=h3.fr f36 (fun h=>h) (fun _ _ h=>h) (fun _ _ h=>h) (fun _ _ h=>h.elim)
  have le3:=f3.le
  have le6:=f36.le
  have f06:Fr (fun k=>k=pb) Z Z6:=((f01.trans f2 (fun _ _ h=>h.elim)).trans f3 (fun b hb e=>by omega)).trans f36 (fun _ _ h=>h.elim)
  have r6:DZ Z6 Z.next zC:=f36.at_ (f3.at_ (f2.at_ r1 p1.ht (fun h=>h)) f2.tidy (by omega)) h3.p.ht (fun h=>h)
  have b6:=f36.at_ a3 h3.p.ht (fun h=>h)
  have nf0:∀b,¬NF ((.nils,[]):FV) b:=fun b h=>by
   rcases h with h|⟨v,hv,_⟩
   ·exact h.elim
   ·cases hv
  have q6:Nq Z6 Z1.next (CG m) .nils (.nils,[]):=⟨b6,E6.nil _ _,E6.nil _ _,⟨rfl,fun k x v hx=>(by cases hx)⟩,fun h=>h.elim,nf0 _,fun b h=>h.elim,fun v hv=>(by cases hv)⟩
  have ap6:Aq pb lv R.dv Z1.next .nils (.nils,[]):=⟨⟨by omega,fun hn=>by have:=ll _ hn;omega,fun b h=>h.elim,fun b h=>(nf0 b h).elim⟩,fun hn=>by have:=ld _ hn;omega,fun b h=>h.elim,fun b h=>(nf0 b h).elim⟩
  have hQ6:∀b,(Q b\/b=Z.next)->b<Z6.next:=fun b hb=>hb.elim (fun e=>by have:=hQ b e;omega) (fun e=>by omega)
  unfold Ca at g4 s6 a6
  have s3:∀J:H->AH,Dk 16 Z1.next 0 (.agg [.int .i64 (AA 0),.str (BS.mk 0 0),.bool m.1,.int .i64 m.2.1,.int .i64 (AA m.2.2),.bool false,.bool false,.bool false,.bool false,.int .i64 (AA 0),.int .i64 (AA 0),.nils,.nils,.int .i64 (AA 0),.bool false,.int .i64 (AA 0)]) Z2 J=J Z3:=s3
  unfold zC at e2
  have fin:=fun(ok:Bool) {Z4:H} {l4:List A4} {er4:Er} {ns4:List AL} {nd4:AL} {iv4:V} {fv4:FV} {dv4:V} s=>X9 (E:=E) (D:=D) (Z:=Z) (Z3:=Z6) (Z4:=Z4) (ts:=ts) (l4:=l4) (R:=R) (er1:=er1) (er4:=er4) (ns4:=ns4) (nd4:=nd4) (iv4:=iv4) (fv4:=fv4) (dv4:=dv4) (rb:=Z.next) (nb:=Z1.next) ok f06 rfl r1l r6 rfl hQ ll ld lp s
  have h6p:Pn Z6 pb lv ts l1 (R.e er1) ns (fun b=>(Q b\/b=Z.next)\/LB Z1.next .nils (.nils,[]) b):=h6
  have er:(R.e er1).er=er1:=rfl
  have t0:Bz Z6 Z6 pb lv ts l1 (R.e er1) er1 ns (fun b=>Q b\/b=Z.next) Z1.next (CG m) .nils (.nils,[]) (.nils,[]) R.dv:=⟨h6p,q6,ap6,fun _ h => .inl h,fun _ h => .inl h,Fr.refl h6p.p.ht⟩
  cases hk:decide ((CF l1).1=1)with
  | true=>
   simp only[]at ⊢
   obtain⟨Z7,g7,p7,f7⟩:=hX h6p.p
   have t7:=t0.trans (Bz.go (er1:=er1) h6p q6 ap6 p7 f7)
   have a7:=f7.at_ a6 h6p.p.ht (by have:=h3.p.lt;omega)
   unfold Ca at g7
   obtain⟨e',Z8,g8,m4,m8,a8,f8⟩:=bm (E:=E) (D:=D) (rb:=Z.next) p7.ht t7.q.a a7 (by omega)
   have t8:=t7.trans (Bz.own t7.p t7.ap (⟨a8,E6.nil _ _,E6.nil _ _,⟨rfl,fun k x v hx=>by cases hx⟩,fun h=>h.elim,nf0 _,fun b h=>h.elim,fun v hv=>by cases hv⟩:Nq Z8 Z1.next ((CG m).rf (CF l1).2.1) .nils (.nils,[])) f8)
   obtain⟨Z9,g9,s9⟩:=fin true t8.base
   refine⟨_,_,_,Z9,?_,s9⟩
   have gd:∀J:Bt->H->AH,Ee (A2 E D QY TJ [(4,.ptr Z.next 0),(8,.ptr Z1.next 0),(9,.ptr Z3.next 0)] Z7) J=J e' Z8:=fun J=>by rw[g8];rfl
   have m4':∀J:V->AH,E0 e' 4 J=J (.ptr Z.next 0):=fun J=>Ez m4 rfl
   have m8':∀J:V->AH,E0 e' 8 J=J (.ptr Z1.next 0):=fun J=>Ez m8 rfl
   rw[<-g9]
   unfold Gr Sn
   simp -implicitDefEqProofs only [↓rP,rA,AD,AE,AB,↓e0,↓g1,↓e2,↓s3,↓g4,↓e5,↓s6,↓Av a6,hk,↓g7,↓gd,↓m4',↓m8']
  | false=>
   simp only[]at ⊢
   have word:∀{Z':H} {l':List A4} (s:BS),Bz Z6 Z' pb lv ts l' (R.e er1) er1 ns (fun b=>Q b\/b=Z.next) Z1.next (CG m) .nils (.nils,[]) (.nils,[]) R.dv->∃Z'',D 38 [.ptr pb 0,.str s] Z'=some (.bool (CE s l').1,Z'')/\Bz Z6 Z'' pb lv ts (CE s l').2 (R.e er1) er1 ns (fun b=>Q b\/b=Z.next) Z1.next (CG m) .nils (.nils,[]) (.nils,[]) R.dv:=by
    intro Z' l' s st
    obtain⟨Z'',g,p,f⟩:=hI s st.p.p
    exact⟨Z'',g,st.trans (Bz.go (er1:=er1) st.p st.q st.ap p f)⟩
   have kind:∀{Z':H} {l':List A4} (k:Nat),Bz Z6 Z' pb lv ts l' (R.e er1) er1 ns (fun b=>Q b\/b=Z.next) Z1.next (CG m) .nils (.nils,[]) (.nils,[]) R.dv->∃Z'',(∀J:H->AH,Dk 1 Z1.next 0 (.int .i64 (AA k)) Z' J=J Z'')/\Bz Z6 Z'' pb lv ts l' (R.e er1) er1 ns (fun b=>Q b\/b=Z.next) Z1.next ((CG m).kd k) .nils (.nils,[]) (.nils,[]) R.dv:=by
    intro Z' l' k st
    obtain⟨Z'',g,f,q'⟩:=st.q.set (off:=0) (y := .int .i64 (AA k)) st.p.p.ht ((CG m).kd k) ⟨rfl,rfl⟩ (by decide) rfl rfl rfl
    exact⟨Z'',g,st.trans (Bz.own st.p st.ap q' f)⟩
   unfold R9
   obtain⟨ZxA,gxA,txA⟩:=word (BS.mk 7 22026814072246082) t0
   rw[jn]
   generalize CE (BS.mk 7 22026814072246082) l1=ixA at gxA txA ⊢
   obtain⟨bxA,lxA⟩:=ixA
   cases bxA with
   | true=>
    simp only[]at gxA txA ⊢
    rw[kn1]
    obtain⟨Zk,gk,tk⟩:=kind 1 txA
    obtain⟨Z9,g9,s9⟩:=fin true tk.base
    refine⟨_,_,_,Z9,?_,s9⟩
    unfold Gr
    simp -implicitDefEqProofs only [↓rP,rA,AD,AE,AB,↓e0,↓g1,↓e2,↓s3,↓g4,↓e5,↓s6,↓Av a6,hk,↓gxA,↓gk]
    exact g9
   | false=>
   simp only[]at gxA txA ⊢
   obtain⟨ZyA,gyA,tyA⟩:=word (BS.mk 4 1280070990) txA
   rw[jm]
   generalize CE (BS.mk 4 1280070990) lxA=iyA at gyA tyA ⊢
   obtain⟨byA,lyA⟩:=iyA
   cases byA with
   | true=>
    simp only[]at gyA tyA ⊢
    rw[kn4]
    obtain⟨Zk,gk,tk⟩:=kind 4 tyA
    obtain⟨Z9,g9,s9⟩:=fin true tk.base
    refine⟨_,_,_,Z9,?_,s9⟩
    unfold Gr
    simp -implicitDefEqProofs only [↓rP,rA,AD,AE,AB,↓e0,↓g1,↓e2,↓s3,↓g4,↓e5,↓s6,↓Av a6,hk,↓gxA,↓gyA,↓gk]
    exact g9
   | false=>
   simp only[]at gyA tyA ⊢
   obtain⟨ZzA,gzA,tzA⟩:=word (BS.mk 10 488440487847103610377301) tyA
   rw[jl]
   generalize CE (BS.mk 10 488440487847103610377301) lyA=izA at gzA tzA ⊢
   obtain⟨bzA,lzA⟩:=izA
   cases bzA with
   | true=>
    simp only[]at gzA tzA ⊢
    rw[kn6]
    obtain⟨Zk,gk,tk⟩:=kind 6 tzA
    obtain⟨Zz,gz,pz,az,fz⟩:=hZ tk.p.p tk.ap.an tk.q.a
    have gz:D 58 [.ptr pb 0,.ptr Z1.next 5] Zk=some (.bool (Da ((CG m).kd 6).con lzA er1).1,Zz):=gz
    have pz:Ps Zz pb lv ts (Da ((CG m).kd 6).con lzA er1).2.2.1 ((R.e er1).e (Da ((CG m).kd 6).con lzA er1).2.2.2):=pz
    have az:DZ Zz Z1.next ((((CG m).kd 6).cn (Da ((CG m).kd 6).con lzA er1).2.1).c .nils .nils):=az
    have tz:=tk.trans (Bz.cel tk.p tk.q tk.ap pz az rfl rfl fz)
    unfold pV
    generalize Da ((CG m).kd 6).con lzA er1=iz at gz tz ⊢
    obtain⟨bz,c,lz,erz⟩:=iz
    simp only[]at gz tz ⊢
    obtain⟨Z9,g9,s9⟩:=fin bz tz.base
    refine⟨_,_,_,Z9,?_,s9⟩
    unfold Gr
    simp -implicitDefEqProofs only [↓rP,rA,AD,AE,AB,↓e0,↓g1,↓e2,↓s3,↓g4,↓e5,↓s6,↓Av a6,hk,↓gxA,↓gyA,↓gzA,↓gk,↓gz]
    exact g9
   | false=>
   simp only[]at gzA tzA ⊢
   obtain⟨ZuA,guA,tuA⟩:=word (BS.mk 7 23157120498421321) tzA
   rw[jk]
   generalize CE (BS.mk 7 23157120498421321) lzA=iuA at guA tuA ⊢
   obtain⟨buA,luA⟩:=iuA
   cases buA with
   | true=>
    simp only[]at guA tuA ⊢
    rw[kn2]
    obtain⟨Zk,gk,tk⟩:=kind 2 tuA
    obtain⟨Zy,gy,py,fy⟩:=hI (BS.mk 1 40) tk.p.p
    have ty:=tk.trans (Bz.go (er1:=er1) tk.p tk.q tk.ap py fy)
    unfold Tl
    generalize CE (BS.mk 1 40) luA=iy at gy ty ⊢
    obtain⟨by_,ly⟩:=iy
    cases by_ with
    | false=>
     simp only[]at gy ty ⊢
     obtain⟨Z9,g9,s9⟩:=fin true ty.base
     refine⟨_,_,_,Z9,?_,s9⟩
     unfold Gr
     simp -implicitDefEqProofs only [↓rP,rA,AD,AE,AB,↓e0,↓g1,↓e2,↓s3,↓g4,↓e5,↓s6,↓Av a6,hk,↓gxA,↓gyA,↓gzA,↓guA,↓gk,↓gy]
     exact g9
    | true=>
     simp only[]at gy ty ⊢
     obtain⟨Zz,gz,pz,az,fz⟩:=hB ty.p.p ty.ap.an ty.q.a
     have gz:D 59 [.ptr pb 0,.ptr Z1.next 5] Zy=some (.bool (Ce ((CG m).kd 2).con ly er1).1,Zz):=gz
     have pz:Ps Zz pb lv ts (Ce ((CG m).kd 2).con ly er1).2.2.1 ((R.e er1).e (Ce ((CG m).kd 2).con ly er1).2.2.2):=pz
     have az:DZ Zz Z1.next ((((CG m).kd 2).cn (Ce ((CG m).kd 2).con ly er1).2.1).c .nils .nils):=az
     have tz:=ty.trans (Bz.cel ty.p ty.q ty.ap pz az rfl rfl fz)
     generalize Ce ((CG m).kd 2).con ly er1=iz at gz tz ⊢
     obtain⟨bz,c,lz,erz⟩:=iz
     simp only[]at gz tz ⊢
     cases bz with
     | false=>
      obtain⟨Z9,g9,s9⟩:=fin false tz.base
      refine⟨_,_,_,Z9,?_,s9⟩
      unfold Gr
      simp -implicitDefEqProofs only [↓rP,rA,AD,AE,AB,↓e0,↓g1,↓e2,↓s3,↓g4,↓e5,↓s6,↓Av a6,hk,↓gxA,↓gyA,↓gzA,↓guA,↓gk,↓gy,↓gz]
      exact g9
     | true=>
      have tzp:Pn Zz pb lv ts lz (R.e erz) ns (fun b=>(Q b\/b=Z.next)\/LB Z1.next .nils (.nils,[]) b):=tz.p
      obtain⟨Z7,Z8,e7,g8,p8,f8⟩:=Dh hW tzp.p [BS.mk 1 41] (by decide)
      have e7:CO Zz (.cells [.str (BS.mk 1 41)])=Z7:=e7
      have g8:D 16 [.ptr pb 0,.sl Zz.next 0 1 (.ex 1)] Z7=some (.bool (Aj [BS.mk 1 41] lz erz).1,Z8):=g8
      have p8:Ps Z8 pb lv ts (Aj [BS.mk 1 41] lz erz).2.1 ((R.e erz).e (Aj [BS.mk 1 41] lz erz).2.2):=p8
      have t8:=tz.trans (Bz.go tzp tz.q tz.ap p8 f8)
      obtain⟨Z9,g9,s9⟩:=fin (Aj [BS.mk 1 41] lz erz).1 t8.base
      refine⟨_,_,_,Z9,?_,s9⟩
      unfold Gr
      simp -implicitDefEqProofs only [↓rP,rA,AD,AE,AB,↓e0,↓g1,↓e2,↓s3,↓g4,↓e5,↓s6,↓Av a6,hk,↓gxA,↓gyA,↓gzA,↓guA,↓gk,↓gy,↓gz,↓e7,↓g8]
      exact g9
   | false=>
   simp only[]at guA tuA ⊢
   obtain⟨ZvA,gvA,tvA⟩:=word (BS.mk 5 361940403023) tuA
   rw[jj]
   generalize CE (BS.mk 5 361940403023) luA=ivA at gvA tvA ⊢
   obtain⟨bvA,lvA⟩:=ivA
   cases bvA with
   | true=>
    simp only[]at gvA tvA ⊢
    rw[kn5]
    obtain⟨Zk,gk,tk⟩:=kind 5 tvA
    have tkp:Pn Zk pb lv ts lvA (R.e er1) ns (fun b=>(Q b\/b=Z.next)\/LB Z1.next .nils (.nils,[]) b):=tk.p
    obtain⟨Z7,Z8,e7,g8,p8,f8⟩:=Dh hW tkp.p [BS.mk 6 78401563153491] (by decide)
    have e7:CO Zk (.cells [.str (BS.mk 6 78401563153491)])=Z7:=e7
    have g8:D 16 [.ptr pb 0,.sl Zk.next 0 1 (.ex 1)] Z7=some (.bool (Aj [BS.mk 6 78401563153491] lvA er1).1,Z8):=g8
    have p8:Ps Z8 pb lv ts (Aj [BS.mk 6 78401563153491] lvA er1).2.1 ((R.e er1).e (Aj [BS.mk 6 78401563153491] lvA er1).2.2):=p8
    have t8:=tk.trans (Bz.go tkp tk.q tk.ap p8 f8)
    unfold Nv
    generalize Aj [BS.mk 6 78401563153491] lvA er1=i8 at g8 t8 ⊢
    obtain⟨b8,l8,er8⟩:=i8
    cases b8 with
    | false=>
     simp only[]at g8 t8 ⊢
     obtain⟨Z9,g9,s9⟩:=fin false t8.base
     refine⟨_,_,_,Z9,?_,s9⟩
     unfold Gr
     simp -implicitDefEqProofs only [↓rP,rA,AD,AE,AB,↓e0,↓g1,↓e2,↓s3,↓g4,↓e5,↓s6,↓Av a6,hk,↓gxA,↓gyA,↓gzA,↓guA,↓gvA,↓gk,↓e7,↓g8]
     exact g9
    | true=>
     simp only[]at g8 t8 ⊢
     obtain⟨Zz,gz,pz,az,fz⟩:=hZ t8.p.p t8.ap.an t8.q.a
     have gz:D 58 [.ptr pb 0,.ptr Z1.next 5] Z8=some (.bool (Da ((CG m).kd 5).con l8 er8).1,Zz):=gz
     have pz:Ps Zz pb lv ts (Da ((CG m).kd 5).con l8 er8).2.2.1 ((R.e er8).e (Da ((CG m).kd 5).con l8 er8).2.2.2):=pz
     have az:DZ Zz Z1.next ((((CG m).kd 5).cn (Da ((CG m).kd 5).con l8 er8).2.1).c .nils .nils):=az
     have tz:=t8.trans (Bz.cel t8.p t8.q t8.ap pz az rfl rfl fz)
     generalize Da ((CG m).kd 5).con l8 er8=iz at gz tz ⊢
     obtain⟨bz,c,lz,erz⟩:=iz
     simp only[]at gz tz ⊢
     obtain⟨Z9,g9,s9⟩:=fin bz tz.base
     refine⟨_,_,_,Z9,?_,s9⟩
     unfold Gr
     simp -implicitDefEqProofs only [↓rP,rA,AD,AE,AB,↓e0,↓g1,↓e2,↓s3,↓g4,↓e5,↓s6,↓Av a6,hk,↓gxA,↓gyA,↓gzA,↓guA,↓gvA,↓gk,↓e7,↓g8,↓gz]
     exact g9
   | false=>
   simp only[]at gvA tvA ⊢
   obtain⟨ZwA,gwA,twA⟩:=word (BS.mk 10 322399817400452109389381) tvA
   rw[ji]
   generalize CE (BS.mk 10 322399817400452109389381) lvA=iwA at gwA twA ⊢
   obtain⟨bwA,lwA⟩:=iwA
   cases bwA with
   | true=>
    simp only[]at gwA twA ⊢
    rw[kn3]
    obtain⟨Zk,gk,tk⟩:=kind 3 twA
    have tkp:Pn Zk pb lv ts lwA (R.e er1) ns (fun b=>(Q b\/b=Z.next)\/LB Z1.next .nils (.nils,[]) b):=tk.p
    obtain⟨iv',Zz,gz,sz⟩:=hIt tkp.p tk.q tk.ap.a rfl
    rw[er]at gz sz
    have bz:=tk.tb (cW tkp tk.ap sz)
    unfold qR
    generalize E7 ((CG m).kd 3).is lwA er1=iz at gz bz ⊢
    obtain⟨ok,s,lz,erz⟩:=iz
    simp only[]at gz bz ⊢
    obtain⟨Z9,g9,s9⟩:=fin ok bz
    refine⟨_,_,_,Z9,?_,s9⟩
    unfold Gr
    simp -implicitDefEqProofs only [↓rP,rA,AD,AE,AB,↓e0,↓g1,↓e2,↓s3,↓g4,↓e5,↓s6,↓Av a6,hk,↓gxA,↓gyA,↓gzA,↓guA,↓gvA,↓gwA,↓gk,↓gz]
    exact g9
   | false=>
   simp only[]at gwA twA ⊢
   obtain⟨ZpA,gpA,tpA⟩:=word (BS.mk 3 5522771) twA
   rw[jh]
   generalize CE (BS.mk 3 5522771) lwA=ipA at gpA tpA ⊢
   obtain⟨bpA,lpA⟩:=ipA
   cases bpA with
   | true=>
    simp only[]at gpA tpA ⊢
    rw[kn8]
    obtain⟨Zk,gk,tk⟩:=kind 8 tpA
    have tkp:Pn Zk pb lv ts lpA (R.e er1) ns (fun b=>(Q b\/b=Z.next)\/LB Z1.next .nils (.nils,[]) b):=tk.p
    have lek:=tk.f.le
    obtain⟨dv',fv',Zz,gz,sz⟩:=hF tkp (fun b hb=>Cz (hQ6 b hb) lek) tk.q tk.ap rfl hd
    rw[er]at gz sz
    have bz:=tk.trans sz
    generalize DC T d ((CG m).kd 8) lpA er1 ns=iz at gz bz ⊢
    obtain⟨ok,nz,lz,erz,nsz⟩:=iz
    simp only[]at gz bz ⊢
    obtain⟨Z9,g9,s9⟩:=fin ok bz.base
    refine⟨_,_,_,Z9,?_,s9⟩
    unfold Gr
    simp -implicitDefEqProofs only [↓rP,rA,AD,AE,AB,↓e0,↓g1,↓e2,↓s3,↓g4,↓e5,↓s6,↓Av a6,hk,↓gxA,↓gyA,↓gzA,↓guA,↓gvA,↓gwA,↓gpA,↓gk,↓gz]
    exact g9
   | false=>
   simp only[]at gpA tpA ⊢
   obtain⟨ZqA,gqA,tqA⟩:=word (BS.mk 6 76155295057987) tpA
   rw[jg]
   generalize CE (BS.mk 6 76155295057987) lpA=iqA at gqA tqA ⊢
   obtain⟨bqA,lqA⟩:=iqA
   cases bqA with
   | true=>
    simp only[]at gqA tqA ⊢
    rw[kn9]
    obtain⟨Zk,gk,tk⟩:=kind 9 tqA
    have tkp:Pn Zk pb lv ts lqA (R.e er1) ns (fun b=>(Q b\/b=Z.next)\/LB Z1.next .nils (.nils,[]) b):=tk.p
    have lek:=tk.f.le
    obtain⟨dv',fv',Zz,gz,sz⟩:=hF tkp (fun b hb=>Cz (hQ6 b hb) lek) tk.q tk.ap rfl hd
    rw[er]at gz sz
    have bz:=tk.trans sz
    generalize DC T d ((CG m).kd 9) lqA er1 ns=iz at gz bz ⊢
    obtain⟨ok,nz,lz,erz,nsz⟩:=iz
    simp only[]at gz bz ⊢
    obtain⟨Z9,g9,s9⟩:=fin ok bz.base
    refine⟨_,_,_,Z9,?_,s9⟩
    unfold Gr
    simp -implicitDefEqProofs only [↓rP,rA,AD,AE,AB,↓e0,↓g1,↓e2,↓s3,↓g4,↓e5,↓s6,↓Av a6,hk,↓gxA,↓gyA,↓gzA,↓guA,↓gvA,↓gwA,↓gpA,↓gqA,↓gk,↓gz]
    exact g9
   | false=>
   simp only[]at gqA tqA ⊢
   obtain⟨ZrA,grA,trA⟩:=word (BS.mk 8 4990918871747741011) tqA
   rw[jf]
   generalize CE (BS.mk 8 4990918871747741011) lqA=irA at grA trA ⊢
   obtain⟨brA,lrA⟩:=irA
   cases brA with
   | true=>
    simp only[]at grA trA ⊢
    rw[kn7]
    have tkp:Pn ZrA pb lv ts lrA (R.e er1) ns (fun b=>(Q b\/b=Z.next)\/LB Z1.next .nils (.nils,[]) b):=trA.p
    have lek:=trA.f.le
    obtain⟨dv',fv',Zz,gz,sz⟩:=hS tkp (fun b hb=>Cz (hQ6 b hb) lek) trA.q trA.ap rfl hd
    rw[er]at gz sz
    have bz:=trA.trans sz
    generalize JU T d (CG m) lrA er1 ns=iz at gz bz ⊢
    obtain⟨ok,nz,lz,erz,nsz⟩:=iz
    simp only[]at gz bz ⊢
    obtain⟨Z9,g9,s9⟩:=fin ok bz.base
    refine⟨_,_,_,Z9,?_,s9⟩
    unfold Gr
    simp -implicitDefEqProofs only [↓rP,rA,AD,AE,AB,↓e0,↓g1,↓e2,↓s3,↓g4,↓e5,↓s6,↓Av a6,hk,↓gxA,↓gyA,↓gzA,↓guA,↓gvA,↓gwA,↓gpA,↓gqA,↓grA,↓gz]
    exact g9
   | false=>
   simp only[]at grA trA ⊢
   rw[show LH [] lrA=(0,lrA)from rfl]
   simp only[]at ⊢
   rw[kn0]
   have tkp:Pn ZrA pb lv ts lrA (R.e er1) ns (fun b=>(Q b\/b=Z.next)\/LB Z1.next .nils (.nils,[]) b):=trA.p
   have gp:=hP tkp.p
   unfold Ca at gp
   obtain⟨Zz,gz,pz,fz⟩:=hFl (CF lrA).2.2 7 tkp.p
   rw[er]at pz
   have tz:=trA.trans (Bz.go tkp trA.q trA.ap pz fz)
   obtain⟨Z9,g9,s9⟩:=fin false tz.base
   refine⟨_,_,_,Z9,?_,s9⟩
   unfold Gr
   simp -implicitDefEqProofs only [↓rP,rA,AD,AE,AB,↓e0,↓g1,↓e2,↓s3,↓g4,↓e5,↓s6,↓Av a6,hk,↓gxA,↓gyA,↓gzA,↓guA,↓gvA,↓gwA,↓gpA,↓gqA,↓grA,↓gp,↓gz]
   exact g9
end
def Kc (T:C1) (d:Nat) (l:List A4) (er:Er) (ns:List AL):Bool × Nat × List A4 × Er × List AL:=match T1 (CF l)with
 | false=>(false,0,l,FH er (CF l).2.2 7,ns)
 | true=>match decide (16<d) || decide (300<=ns.length)with
  | true=>(false,0,l,FH er (CF l).2.2 5,ns)
  | false=>match FZ T d l er (ns++[HS])with
   | (false,_,l1,er1,ns1)=>(false,0,l1,er1,ns1)
   | (true,nd,l1,er1,ns1)=>(true,ns.length,l1,er1,ns1.set ns.length nd)
def XP (T:C1):C1:=⟨T.lo-1,Kc T⟩
def BK:Nat->C1
 | 0=>⟨18,fun _ l er ns=>(false,0,l,FH er 0 5,ns)⟩
 | q+1=>XP (BK q)
structure DM (l l':List A4) (ns ns':List AL):Prop where
 l:l'.length<=l.length
 n:ns.length<=ns'.length
def dY (T:C1):Prop:=∀d l er ns,DM l (T.go d l er ns).2.2.1 ns (T.go d l er ns).2.2.2.2
theorem DM.refl (l:List A4) (ns:List AL):DM l l ns ns:=⟨AG _,AG _⟩
section
variable {l l1 l2:List A4} {ns ns1 ns2:List AL}
theorem DM.trans (h:DM l l1 ns ns1) (k:DM l1 l2 ns1 ns2):DM l l2 ns ns2:=⟨AN k.l h.l,AN h.n k.n⟩
theorem DM.of (h:l1.length<=l.length):DM l l1 ns ns:=⟨h,AG _⟩
end
section
variable {T:C1} (hT:dY T)
include hT
theorem MO (d g:Nat) (nd:AL) (l:List A4) (er:Er) (ns:List AL):DM l (CH T d g nd l er ns).2.2.1 ns (CH T d g nd l er ns).2.2.2.2:=by
 refine⟨(P7 (fun d l er ns=>(hT d l er ns).l) d g nd l er ns).1,?_⟩
 unfold CH
 generalize IL 2 l er=i1
 obtain⟨b1,l1,er1⟩:=i1
 cases b1 with
 | false=>exact AG _
 | true=>
  have h2:=(hT (d+1) l1 er1 ns).n
  simp only[]at ⊢
  generalize T.go (d+1) l1 er1 ns=i2 at h2 ⊢
  obtain⟨b2,i,l2,er2,ns2⟩:=i2
  cases b2 with
  | false=>exact h2
  | true=>exact h2
theorem Y4 (d g:Nat):∀(n:Nat) (nd:AL) (l:List A4) (er:Er) (ns:List AL),DM l (RH T d g n nd l er ns).2.2.1 ns (RH T d g n nd l er ns).2.2.2.2
 | 0,nd,l,er,ns=>DM.refl _ _
 | n+1,nd,l,er,ns=>by
  unfold RH
  have h1:=MO hT d g nd l er ns
  generalize CH T d g nd l er ns=i1 at h1 ⊢
  obtain⟨b1,nd1,l1,er1,ns1⟩:=i1
  cases b1 with
  | false=>exact h1
  | true=>
   have h2:=Cs (BS.mk 1 44) l1
   simp only[]at h1 ⊢
   generalize CE (BS.mk 1 44) l1=i2 at h2 ⊢
   obtain⟨b2,l2⟩:=i2
   have h12:=h1.trans (DM.of (ns:=ns1) h2)
   cases b2 with
   | true=>exact h12.trans (Y4 d g n nd1 l2 er1 ns1)
   | false=>exact h12.trans (DM.of (ns:=ns1) (Cm [BS.mk 2 23901] l2 er1))
theorem T7 (d:Nat):∀(n g:Nat) (nd:AL) (l:List A4) (er:Er) (ns:List AL),DM l (PH T d n g nd l er ns).2.2.1 ns (PH T d n g nd l er ns).2.2.2.2
 | 0,g,nd,l,er,ns=>DM.refl _ _
 | n+1,g,nd,l,er,ns=>by
  unfold PH
  have h1:=Cs (BS.mk 1 44) l
  generalize CE (BS.mk 1 44) l=i1 at h1 ⊢
  obtain⟨b1,l1⟩:=i1
  cases b1 with
  | false=>exact DM.of h1
  | true=>
   have h2:=Cs (BS.mk 2 23387) l1
   simp only[]at h1 ⊢
   generalize CE (BS.mk 2 23387) l1=i2 at h2 ⊢
   obtain⟨b2,l2⟩:=i2
   have h12:DM l l2 ns ns:=DM.of (AN h2 h1)
   cases b2 with
   | true=>
    have h3:=Y4 hT d (g+1) 9001 nd l2 er ns
    simp only[]at ⊢
    rw[show Y2 T d (g+1) nd l2 er ns=RH T d (g+1) 9001 nd l2 er ns by unfold Y2;rfl]
    generalize RH T d (g+1) 9001 nd l2 er ns=i3 at h3 ⊢
    obtain⟨b3,nd3,l3,er3,ns3⟩:=i3
    cases b3 with
    | false=>exact h12.trans h3
    | true=>exact(h12.trans h3).trans (T7 d n (g+1) nd3 l3 er3 ns3)
   | false=>
    have h3:=MO hT d 0 nd l2 er ns
    simp only[]at ⊢
    generalize CH T d 0 nd l2 er ns=i3 at h3 ⊢
    obtain⟨b3,nd3,l3,er3,ns3⟩:=i3
    cases b3 with
    | false=>exact h12.trans h3
    | true=>exact(h12.trans h3).trans (T7 d n g nd3 l3 er3 ns3)
theorem Yg (d:Nat):∀(n:Nat) (f:Bool) (nd:AL) (l:List A4) (er:Er) (ns:List AL),DM l (Re T d n f nd l er ns).2.2.1 ns (Re T d n f nd l er ns).2.2.2.2
 | 0,f,nd,l,er,ns=>DM.refl _ _
 | n+1,false,nd,l,er,ns=>by
  unfold Re
  exact DM.of (Cm [BS.mk 1 125] l er)
 | n+1,true,nd,l,er,ns=>by
  unfold Re
  simp only[]at ⊢
  have h1:=Cs (BS.mk 3 3026478) l
  generalize CE (BS.mk 3 3026478) l=i1 at h1 ⊢
  obtain⟨b1,l1⟩:=i1
  replace h1:DM l l1 ns ns:=DM.of h1
  cases b1 with
  | true=>
   have h2:=T7 hT d 9001 0 (nd.mr true nd.fields.length) l1 er ns
   simp only[]at ⊢
   rw[show ZC T d (nd.mr true nd.fields.length) l1 er ns=PH T d 9001 0 (nd.mr true nd.fields.length) l1 er ns by unfold ZC;rfl]
   generalize PH T d 9001 0 (nd.mr true nd.fields.length) l1 er ns=i2 at h2 ⊢
   obtain⟨b2,nd2,l2,er2,ns2⟩:=i2
   exact(h1.trans h2).trans (DM.of (ns:=ns2) (J2 b2 [BS.mk 1 125] l2 er2))
  | false=>
   have h2:=MO hT d 0 nd l1 er ns
   simp only[]at ⊢
   generalize CH T d 0 nd l1 er ns=i2 at h2 ⊢
   obtain⟨b2,nd2,l2,er2,ns2⟩:=i2
   cases b2 with
   | false=>exact h1.trans h2
   | true=>
    have h3:=Cs (BS.mk 1 44) l2
    simp only[]at h2 ⊢
    generalize CE (BS.mk 1 44) l2=i3 at h3 ⊢
    obtain⟨m,l3⟩:=i3
    exact((h1.trans h2).trans (DM.of (ns:=ns2) h3)).trans (Yg d n m nd2 l3 er2 ns2)
theorem Kv (d:Nat) (nd:AL) (l:List A4) (er:Er) (ns:List AL):DM l (DC T d nd l er ns).2.2.1 ns (DC T d nd l er ns).2.2.2.2:=by
 unfold DC
 have h1:=Cm [BS.mk 1 123] l er
 generalize Aj [BS.mk 1 123] l er=i1 at h1 ⊢
 obtain⟨b1,l1,er1⟩:=i1
 cases b1 with
 | false=>exact DM.of h1
 | true=>
  simp only[]at h1 ⊢
  unfold qL
  exact(DM.of (ns:=ns) h1).trans (Yg hT d 9002 _ nd l1 er1 ns)
end
theorem cK (c:Fw) (l:List A4) (er:Er):(Je c l er).2.2.1.length<=l.length:=by
 unfold Je
 have h1:=Cs (BS.mk 3 5130573) l
 generalize CE (BS.mk 3 5130573) l=i1 at h1 ⊢
 obtain⟨b1,l1⟩:=i1
 cases b1 with
 | true=>exact h1
 | false=>
  have h2:=J5 l1 er
  simp only[]at h1 ⊢
  generalize Ed l1 er=i2 at h2 ⊢
  obtain⟨b2,n,l2,er2⟩:=i2
  cases b2<;>exact AN h2 h1
theorem Yb (c:Fw) (l:List A4) (er:Er):(Gi c l er).2.2.1.length<=l.length:=by
 unfold Gi
 have h1:=Cs (BS.mk 2 11822) l
 generalize CE (BS.mk 2 11822) l=i1 at h1 ⊢
 obtain⟨b1,l1⟩:=i1
 cases b1 with
 | false=>exact h1
 | true=>
  have h2:=Cs (BS.mk 3 5783885) l1
  simp only[]at h1 ⊢
  generalize CE (BS.mk 3 5783885) l1=i2 at h2 ⊢
  obtain⟨b2,l2⟩:=i2
  cases b2 with
  | true=>exact AN h2 h1
  | false=>
   have h3:=J5 l2 er
   simp only[]at h2 ⊢
   generalize Ed l2 er=i3 at h3 ⊢
   obtain⟨b3,n,l3,er3⟩:=i3
   cases b3<;>exact AN h3 (AN h2 h1)
theorem Ys (c:Fw) (l:List A4) (er:Er):(IY c l er).2.2.1.length<=l.length:=by
 unfold IY
 have h1:=Cs (BS.mk 1 44) l
 generalize CE (BS.mk 1 44) l=i1 at h1 ⊢
 obtain⟨b1,l1⟩:=i1
 cases b1 with
 | false=>exact h1
 | true=>exact AN (Cm [BS.mk 3 3026478] l1 er) h1
theorem OP (c:Fw) (l:List A4) (er:Er):(Ce c l er).2.2.1.length<=l.length:=by
 unfold Ce
 have h1:=cK ⟨true,c.hasLow,c.hasHigh,c.more,c.low,c.high⟩ l er
 generalize Je ⟨true,c.hasLow,c.hasHigh,c.more,c.low,c.high⟩ l er=i1 at h1 ⊢
 obtain⟨b1,c1,l1,er1⟩:=i1
 cases b1 with
 | false=>exact h1
 | true=>
  have h2:=Yb c1 l1 er1
  simp only[]at h1 ⊢
  generalize Gi c1 l1 er1=i2 at h2 ⊢
  obtain⟨b2,c2,l2,er2⟩:=i2
  cases b2 with
  | false=>exact AN h2 h1
  | true=>exact AN (Ys c2 l2 er2) (AN h2 h1)
theorem Nl (c:Fw) (l:List A4) (er:Er):(Da c l er).2.2.1.length<=l.length:=by
 unfold Da
 have h1:=Cs (BS.mk 1 40) l
 generalize CE (BS.mk 1 40) l=i1 at h1 ⊢
 obtain⟨b1,l1⟩:=i1
 cases b1 with
 | false=>exact h1
 | true=>
  have h2:=Cm [BS.mk 4 1163544915,BS.mk 1 40] l1 er
  simp only[]at h1 ⊢
  generalize Aj [BS.mk 4 1163544915,BS.mk 1 40] l1 er=i2 at h2 ⊢
  obtain⟨b2,l2,er2⟩:=i2
  cases b2 with
  | false=>exact AN h2 h1
  | true=>
   have h3:=OP c l2 er2
   simp only[]at h2 ⊢
   generalize Ce c l2 er2=i3 at h3 ⊢
   obtain⟨b3,c3,l3,er3⟩:=i3
   cases b3 with
   | false=>exact AN h3 (AN h2 h1)
   | true=>exact AN (Cm [BS.mk 1 41,BS.mk 1 41] l3 er3) (AN h3 (AN h2 h1))
theorem YI (l:List A4) (er:Er):(Fp l er).2.2.1.length<=l.length:=by
 unfold Fp
 have h1:=Cs (BS.mk 1 91) l
 generalize CE (BS.mk 1 91) l=i1 at h1 ⊢
 obtain⟨b1,l1⟩:=i1
 cases b1 with
 | false=>exact h1
 | true=>
  have h2:=J5 l1 er
  simp only[]at h1 ⊢
  generalize Ed l1 er=i2 at h2 ⊢
  obtain⟨b2,n,l2,er2⟩:=i2
  have h12:=AN h2 h1
  cases b2 with
  | false=>exact h12
  | true=>
   simp only[]at h12 ⊢
   cases (Dt n (AA 0) || Dt (AA 268435456) n)with
   | true=>exact h12
   | false=>
    have h3:=Cm [BS.mk 1 93] l2 er2
    simp only[]at ⊢
    generalize Aj [BS.mk 1 93] l2 er2=i3 at h3 ⊢
    obtain⟨b3,l3,er3⟩:=i3
    have h13:=AN h3 h12
    cases b3 with
    | false=>exact h13
    | true=>
     have h4:=Cs (BS.mk 8 6073459554577832005) l3
     simp only[]at h13 ⊢
     generalize CE (BS.mk 8 6073459554577832005) l3=i4 at h4 ⊢
     obtain⟨b4,l4⟩:=i4
     have h14:=AN h4 h13
     cases b4 with
     | true=>exact h14
     | false=>
      have h5:=Cs (BS.mk 8 6073459554577829193) l4
      simp only[]at h14 ⊢
      generalize CE (BS.mk 8 6073459554577829193) l4=i5 at h5 ⊢
      obtain⟨b5,l5⟩:=i5
      have h15:=AN h5 h14
      cases b5<;>exact h15
theorem P3:∀(n:Nat) (s:IS) (l:List A4) (er:Er),(E8 n s l er).2.2.1.length<=l.length
 | 0,s,l,er=>AG _
 | n+1,s,l,er=>by
  have h1:(Eh s l er).2.2.1.length<=l.length:=by
   have it:∀l0:List A4,l0.length<=l.length->(match ED l0 er with | (false,_,l2,er2)=>(false,s,l2,er2) | (true,x,l2,er2)=>(true,(s.1++[x],s.2.1,s.2.2),l2,er2):Bool × IS × List A4 × Er).2.2.1.length<=l.length:=by
    intro l0 h0
    have h1:=SN l0 er
    generalize ED l0 er=i1 at h1 ⊢
    obtain⟨b1,x,l1,er1⟩:=i1
    cases b1<;>exact AN h1 h0
   unfold Eh
   cases decide (0<s.1.length) && !s.2.1 with
   | false=>exact it l (AG _)
   | true=>
    have h0:=Cs (BS.mk 3 3026478) l
    simp only[]at ⊢
    generalize CE (BS.mk 3 3026478) l=i0 at h0 ⊢
    obtain⟨b0,l0⟩:=i0
    cases b0 with
    | true=>exact h0
    | false=>exact it l0 h0
  unfold E8
  generalize Eh s l er=i1 at h1 ⊢
  obtain⟨b1,s1,l1,er1⟩:=i1
  cases b1 with
  | false=>exact h1
  | true=>
   have h2:=Cs (BS.mk 1 44) l1
   simp only[]at h1 ⊢
   generalize CE (BS.mk 1 44) l1=i2 at h2 ⊢
   obtain⟨b2,l2⟩:=i2
   cases b2 with
   | true=>exact AN (P3 n s1 l2 er1) (AN h2 h1)
   | false=>exact AN (Cm [BS.mk 1 125] l2 er1) (AN h2 h1)
theorem V9 (s:IS) (l:List A4) (er:Er):(E7 s l er).2.2.1.length<=l.length:=by
 unfold E7
 have h1:=Cm [BS.mk 1 123] l er
 generalize Aj [BS.mk 1 123] l er=i1 at h1 ⊢
 obtain⟨b1,l1,er1⟩:=i1
 cases b1 with
 | false=>exact h1
 | true=>exact AN (P3 9001 s l1 er1) h1
theorem XM:∀(w:List (BS × Nat)) (l:List A4),(LH w l).2.length<=l.length
 | [],l=>AG _
 | (s,k)::r,l=>by
  unfold LH
  have h1:=Cs s l
  generalize CE s l=i1 at h1 ⊢
  obtain⟨b1,l1⟩:=i1
  cases b1 with
  | true=>exact h1
  | false=>exact AN (XM r l1) h1
section
variable {T:C1} (hT:dY T)
include hT
theorem bc (d:Nat) (nd:AL) (l:List A4) (er:Er) (ns:List AL):DM l (JU T d nd l er ns).2.2.1 ns (JU T d nd l er ns).2.2.2.2:=by
 unfold JU
 cases MY (BS.mk 1 123) l with
 | true=>exact Kv hT d _ l er ns
 | false=>
  have h1:=Nl nd.con l er
  simp only[]at ⊢
  generalize Da nd.con l er=i1 at h1 ⊢
  obtain⟨b1,c,l1,er1⟩:=i1
  cases b1 with
  | false=>exact DM.of h1
  | true=>
   have h2:=Cm [BS.mk 2 17999] l1 er1
   simp only[]at h1 ⊢
   generalize Aj [BS.mk 2 17999] l1 er1=i2 at h2 ⊢
   obtain⟨b2,l2,er2⟩:=i2
   cases b2 with
   | false=>exact DM.of (AN h2 h1)
   | true=>exact(DM.of (ns:=ns) (AN h2 h1)).trans (hT (d+1) l2 er2 ns)
theorem cT (d:Nat) (nd:AL) (l:List A4) (er:Er) (ns:List AL) (k:Nat):DM l (JF T d nd l er ns k).2.2.1 ns (JF T d nd l er ns k).2.2.2.2:=by
 unfold JF
 split
 ·exact DM.refl _ _
 ·unfold Tl
  have h1:=Cs (BS.mk 1 40) l
  generalize CE (BS.mk 1 40) l=i1 at h1 ⊢
  obtain⟨b1,l1⟩:=i1
  cases b1 with
  | false=>exact DM.of h1
  | true=>
   have h2:=OP (nd.kd 2).con l1 er
   simp only[]at h1 ⊢
   generalize Ce (nd.kd 2).con l1 er=i2 at h2 ⊢
   obtain⟨b2,c,l2,er2⟩:=i2
   exact DM.of (AN (J2 b2 [BS.mk 1 41] l2 er2) (AN h2 h1))
 ·exact DM.of (V9 _ l er)
 ·unfold Nv
  have h1:=Cm [BS.mk 6 78401563153491] l er
  generalize Aj [BS.mk 6 78401563153491] l er=i1 at h1 ⊢
  obtain⟨b1,l1,er1⟩:=i1
  cases b1 with
  | false=>exact DM.of h1
  | true=>exact DM.of (AN (Nl _ l1 er1) h1)
 ·exact DM.of (Nl _ l er)
 ·exact bc hT d nd l er ns
 ·exact Kv hT d _ l er ns
 ·exact Kv hT d _ l er ns
 ·exact DM.refl _ _
theorem R8 (d:Nat) (l:List A4) (er:Er) (ns:List AL):DM l (FZ T d l er ns).2.2.1 ns (FZ T d l er ns).2.2.2.2:=by
 unfold FZ
 have h1:=YI l er
 generalize Fp l er=i1 at h1 ⊢
 obtain⟨b1,m,l1,er1⟩:=i1
 cases b1 with
 | false=>exact DM.of h1
 | true=>
  simp only[]at h1 ⊢
  cases decide ((CF l1).1=1)with
  | true=>exact DM.of (AN (MI l1) h1)
  | false=>
   simp only[]at ⊢
   unfold R9
   have h2:=XM Ri l1
   generalize LH Ri l1=i2 at h2 ⊢
   obtain⟨k,l2⟩:=i2
   exact(DM.of (ns:=ns) (AN h2 h1)).trans (cT hT d (CG m) l2 er1 ns k)
theorem bP:dY (XP T):=by
 intro d l er ns
 show DM l (Kc T d l er ns).2.2.1 ns (Kc T d l er ns).2.2.2.2
 unfold Kc
 cases T1 (CF l)with
 | false=>exact DM.refl _ _
 | true=>
  simp only[]at ⊢
  cases decide (16<d) || decide (300<=ns.length)with
  | true=>exact DM.refl _ _
  | false=>
   have h1:=R8 hT d l er (ns++[HS])
   have h0:DM l l ns (ns++[HS]):=⟨AG _,by rw[Aw];omega⟩
   simp only[]at ⊢
   generalize FZ T d l er (ns++[HS])=i1 at h1 ⊢
   obtain⟨b1,nd,l1,er1,ns1⟩:=i1
   cases b1 with
   | false=>exact h0.trans h1
   | true=>exact⟨h1.l,by simp only[Ck];exact(h0.trans h1).n⟩
end
theorem Au:∀q,dY (BK q)
 | 0=>fun d l er ns=>DM.refl _ _
 | q+1=>bP (Au q)
section
variable {E:EB} {Z Z':H} {nd:AL} {iv:V} {fv:FV} {pb:Nat} {lv dv dv':V} {ts l l':List A4} {R:Rp} {ns:List AL} {Q Q':Nat->Prop}
theorem Pn.push (h:Pn Z pb lv ts l R ns Q) (hQ:∀b,Q b->b<Z.next) (hl:ns.length<300):∃u Z1 Z2 Z3,CO Z (.cells zC)=Z1/\(∀J:V->H->AH,Ix E 16 144 R.dv (.sl Z.next 0 1 (.ex 1)) Z1 J=J u Z2)/\u.one=true/\(∀J:H->AH,Dk 1 pb 6 u Z2 J=J Z3) /\
  Pn Z3 pb lv ts l (R.wd u) (ns++[HS]) Q/\Fr (PB pb R.dv) Z Z3/\(∀b,AS u b->AS R.dv b\/Z.next<=b):=by
 obtain⟨ws,k1,k2,k3⟩:=h.w
 obtain⟨a,ha,hl'⟩:=h.p.ex
 obtain⟨Z1,e1,f1,a1,n1⟩:=Nx h.p.ht zC
 have xs:GA Z1 16 1 (V.sl Z.next 0 1 (.ex 1)) zC := .inr ⟨_,_,_,_,rfl,a1,AG _,rfl⟩
 obtain⟨u,Z2,g2,d2,m2,f2⟩:=Hs (E:=E) (bytes:=144) (k1.fr f1 h.p.ht (fun _ _ h=>h)) f1.tidy xs rfl (by unfold Cn;simp only[AF,Ai];omega)
 have le1:=f1.le
 have le2:=f2.le
 have hx:=h.p.lt
 have ha2:=f2.at_ (f1.at_ ha h.p.ht (fun h=>h)) f1.tidy (fun e=>(h.dx pb e).1 rfl)
 obtain⟨uo1,uo2⟩:=Gc d2.one
 obtain⟨Z3,g3,a3,f3⟩:=MX (n:=1) (o:=6) (v:=u) (l':=Pq lv a (R.wd u)) f2.tidy ha2 (by
  rw[uo2]
  show (Ag 1 1&&Ab (AU 6 1) 9&&BJ [u])=true
  simp only[B8,CS,d2.one,Be];rfl) (by rw[uo2];rfl)
 have mu:∀b,AS u b->AS R.dv b\/Z.next<=b:=fun b hb=>(m2 b hb).imp id fun h=>by omega
 have ux:∀b,AS u b->b≠pb:=fun b hb=>(mu b hb).elim (fun e=>(h.dx b e).1) (fun e=>by omega)
 have f13:Fr (PB pb R.dv) Z Z3:=((f1.mono (fun _ _ h=>h.elim):Fr (PB pb R.dv) Z Z1).trans f2 (fun _ _ e => .inr e)).trans f3 (fun _ _ e => .inl e)
 refine⟨u,Z1,Z2,Z3,e1,g2,d2.one,g3,⟨⟨⟨a,a3,hl'⟩,h.p.src.fr f13 h.p.ht (fun b hb e=>e.elim (h.p.nx b hb) (fun e=>(h.dx b e).2 hb)),h.p.ne,h.p.nx,h.p.ok,f13.tidy⟩,⟨ws++[(.nils,(.nils,[]))],?_,by simp[k2],fun k nd w hn hw=>?_⟩,fun b hb=>⟨ux b hb,fun hn=>(mu b hb).elim (fun e=>(h.dx b e).2 hn) (fun e=>by have:=h.llt hn;omega)⟩⟩,f13,mu⟩
 ·rw[Aw,AM,A0,SF _ _ _ _ k2]
  exact d2.fr f3 f2.tidy (fun b hb e=>ux b hb e)
 ·rcases Ad k ns.length with hk|hk
  ·rw[Ay hk]at hn
   rw[Ay (by omega)]at hw
   have hN:=k3 k nd w hn hw
   have hM:=hN.fr f13 h.p.ht fun b hb e=>e.elim (hN.n b hb).1 (hN.n b hb).2.1
   exact⟨hM.i,hM.f,hM.g,fun b hb=>⟨(hN.n b hb).1,fun hu=>(mu b hu).elim (hN.n b hb).2.1 (fun e=>by have:=hN.lt h.p.ht hb;omega),(hN.n b hb).2.2⟩⟩
  ·rw[BX hk]at hn
   rw[BX (by omega),k2]at hw
   obtain⟨j,hj⟩:∃j,k-ns.length=j:=⟨_,rfl⟩
   rw[hj]at hn hw
   cases j with
   | succ j=>simp at hn
   | zero=>
    cases hn
    cases hw
    exact⟨.inl ⟨rfl,rfl,rfl⟩,.inl ⟨rfl,rfl,rfl⟩,⟨rfl,fun k x v hx=>(by cases hx)⟩,fun b hb=>by
     rcases hb with hb|hb|⟨v,hv,_⟩
     ·exact hb.elim
     ·exact hb.elim
     ·cases hv⟩
theorem Pn.put (h:Pn Z pb lv ts l R ns Q) (g:dz Z pb R.dv Q nd (iv,fv)) {i:Nat} (hi:i<ns.length) :
    ∃b Z',(∀J:Nat->Nat->AH,Am 16 R.dv (AA i) J=J b (i*16))/\(∀J:H->AH,Dk 16 b (i*16) (.agg (nd.c iv fv.1)) Z J=J Z')/\Pn Z' pb lv ts l R (ns.set i nd) Q/\Fr (AS R.dv) Z Z':=by
  obtain⟨ws,k1,k2,k3⟩:=h.w
  have hlen:=LX ns ws k2
  obtain⟨b,cp,hdv,hb⟩:∃b cp,R.dv = .sl b 0 ns.length cp/\DZ Z b (Gx ns ws):=by
    rcases k1 with (⟨h0,_⟩|⟨b,hv,ha,_⟩)|⟨b,hv,ha,_⟩
    · omega
    · exact⟨b,_,hv,ha⟩
    · exact⟨b,_,hv,ha⟩
  obtain⟨Z',e,f,a⟩:=fJ h.p.ht hb (Gx (ns.set i nd) (ws.set i (iv,fv)))
  have nmb:∀x,AS R.dv x↔x=b:=fun x=>by rw[hdv];exact Iff.rfl
  have f':Fr (AS R.dv) Z Z':=f.mono fun x _ e=>(nmb x).2 e
  have ho:BJ (nd.c iv fv.1)=true:=fQ g.i.one g.f.one
  have hl16:i*16+16<=(Gx ns ws).length:=by rw[hlen];omega
  refine⟨b,Z',fun J=>?_,fun J=>?_,⟨h.p.fr f' (fun e=>(h.dx pb e).1 rfl) (fun x hx e=>(h.dx x e).2 hx),⟨ws.set i (iv,fv),?_,by rw[Ck,Ck,k2],fun k nd1 w hn hw=>?_⟩,h.dx⟩,f'⟩
  · rw[hdv,Dy hi]
    show J b (0+i*16)=_
    rw[B2]
  · rw[JR hb (by
      rw[HK,ho,Q8]
      simp only[EU,CQ,Be,Ai];exact hl16),HK,SE ns ws i nd (iv,fv) k2 hi,e]
  · rw[Ck]
    rcases k1 with (⟨h0,_⟩|⟨b',hv,ha,h0,hl⟩)|⟨b',hv,ha,hl⟩
    · omega
    · have:b'=b:=by rw[hdv]at hv;cases hv;rfl
      subst this
      exact .inl (.inr ⟨b',hv,a,h0,by rw[LX _ _ (by rw[Ck,Ck,k2]),Ck]⟩)
    · have:b'=b:=by rw[hdv]at hv;cases hv;rfl
      subst this
      exact .inr ⟨b',hv,a,by rw[LX _ _ (by rw[Ck,Ck,k2]),Ck]⟩
  · by_cases hk:i=k
    · subst hk
      rw[List.getElem?_set_self hi]at hn
      rw[List.getElem?_set_self (by omega)]at hw
      cases hn
      cases hw
      exact g.fr f' h.p.ht fun x hx e=>(g.n x hx).2.1 e
    · rw[List.getElem?_set_ne hk]at hn hw
      have hN:=k3 k nd1 w hn hw
      exact hN.fr f' h.p.ht fun x hx e=>(hN.n x hx).2.1 e
end
section
variable {E:EB} {D:BB} {W:AJ} {N:Nat}
theorem Ec {T:C1} (hG:dY T) (hP:Fs (D 18)) (hBe:UF (D 47)) (hFl:GX (D 36)) (hNd:T.lo<=17->DU T (D 48)):Dg (XP T) (uT E D W N):=by
 intro Z pb lv ts l R ns Q d h hQ hd
 have g1:=hP h.p
 unfold Ca at g1
 obtain⟨Z1,g2,f2⟩:=hBe Z (CF l) h.p.ht
 unfold Ca at g2
 have h1:=h.fr f2 (fun h=>h) (fun _ _ h=>h) (fun _ _ h=>h) (fun _ _ h=>h.elim)
 obtain⟨a,ha,_⟩:=h1.p.ex
 unfold Pq at ha
 have sl:∀J:Nat->AH,BG R.dv J=J ns.length:=fun J=>by
  obtain⟨ws,k1,_⟩:=h1.w
  exact k1.slen
 show ∃dv' Z',Oa E D W pb 0 (AA d) Z=_/\_
 have hd1:T.lo-1<=d:=hd.1
 show ∃dv' Z',_=some (V.tup [.int .i64 (AA (Kc T d l R.er ns).2.1),.bool (Kc T d l R.er ns).1],Z')/\Pn Z' pb lv ts (Kc T d l R.er ns).2.2.1 ((R.wd dv').e (Kc T d l R.er ns).2.2.2.1) (Kc T d l R.er ns).2.2.2.2 Q/\_
 unfold Kc
 have le2:=f2.le
 cases hb:T1 (CF l)with
 | false=>
  rw[hb]at g2
  simp only[]at ⊢
  obtain⟨Z3,g3,p3,f3⟩:=hFl (CF l).2.2 7 h1.p
  refine⟨R.dv,Z3,?_,h1.goe p3 f3,(f2.mono fun _ _ h=>h.elim:Fr (PB pb R.dv) Z Z1).trans f3 (fun _ _ e => .inl e),fun _ h => .inl h⟩
  unfold Oa
  simp -implicitDefEqProofs only [↓rP,rA,AD,AE,AB,↓g1,↓g2,↓g3]
 | true=>
  rw[hb]at g2
  simp only[]at ⊢
  obtain⟨Z3,g3,p3,f3⟩:=hFl (CF l).2.2 5 h1.p
  cases c1:decide (16<d)with
  | true=>
   refine⟨R.dv,Z3,?_,h1.goe p3 f3,(f2.mono fun _ _ h=>h.elim:Fr (PB pb R.dv) Z Z1).trans f3 (fun _ _ e => .inl e),fun _ h => .inl h⟩
   unfold Oa
   simp -implicitDefEqProofs only [↓rP,rA,AD,AE,AB,↓g1,↓g2,c1,↓g3]
  | false=>
   cases c2:decide (300<=ns.length)with
   | true=>
    refine⟨R.dv,Z3,?_,h1.goe p3 f3,(f2.mono fun _ _ h=>h.elim:Fr (PB pb R.dv) Z Z1).trans f3 (fun _ _ e => .inl e),fun _ h => .inl h⟩
    unfold Oa
    simp -implicitDefEqProofs only [↓rP,rA,AD,AE,AB,↓g1,↓g2,c1,↓Av ha,↓sl,c2,↓g3]
   | false=>
    have hd16:¬16<d:=of_decide_eq_false c1
    have hl:ns.length<300:=by have:=of_decide_eq_false c2;omega
    simp only[JK]at ⊢
    obtain⟨u,Z4,Z5,Z6,e4,g5,uo,g6,h6,f6,m6⟩:=Pn.push (E:=E) h1 (fun b hb=>by have:=hQ b hb;omega) hl
    have le6:=f6.le
    unfold zC at e4
    obtain⟨iv,fv,dv',Z7,g7,h7,n7,m7,f7⟩:=hNd (by omega) (d:=d) h6 (fun b hb=>by have:=hQ b hb;omega) (by omega)
    have er:(R.wd u).er=R.er:=rfl
    have gr:=R8 hG d l R.er (ns++[HS])
    rw[er]at g7 h7 n7
    have md:∀b,AS dv' b->AS R.dv b\/Z.next<=b:=fun b hb=>(m7 b hb).elim (fun e=>(m6 b e).imp id (fun e=>by omega)) (fun e => .inr (by omega))
    have f07:Fr (PB pb R.dv) Z Z7:=((f2.mono fun _ _ h=>h.elim:Fr (PB pb R.dv) Z Z1).trans f6 (fun _ _ e=>e)).trans f7 (fun b hb e=>e.imp id fun e=>(m6 b e).elim id (fun e=>by omega))
    generalize FZ T d l R.er (ns++[HS])=i7 at g7 h7 n7 gr ⊢
    obtain⟨b7,nd,l7,er7,ns7⟩:=i7
    simp only[]at g7 h7 n7 ⊢
    have grn:=gr.n
    rw[Aw,AM,A0]at grn
    have io:iv.one=true:=n7.i.one
    have fo:fv.1.one=true:=n7.f.one
    unfold AL.c at g7
    cases b7 with
    | false=>
     refine⟨dv',Z7,?_,h7,f07,md⟩
     unfold Oa
     simp -implicitDefEqProofs only [↓rP,rA,AD,AE,AB,↓g1,↓g2,c1,↓Av ha,↓sl,c2,↓e4,↓g5,HQ uo,↓g6,↓g7,io,fo]
    | true=>
     obtain⟨b8,Z8,i8,g8,h8,f8⟩:=Pn.put h7 n7 (i:=ns.length) (by show ns.length<ns7.length;simp only[]at grn;omega)
     obtain⟨a7,ha7,_⟩:=h7.p.ex
     unfold Pq at ha7
     have ld7:((R.wd u).wd dv').dv=dv':=rfl
     have i8:∀J:Nat->Nat->AH,Am 16 dv' (AA ns.length) J=J b8 (ns.length*16):=i8
     have r7:∀J:V->AH,Bm E Z7 pb 6 J=J dv':=fun J=>by rw[Av ha7];rfl
     unfold AL.c at g8
     refine⟨dv',Z8,?_,h8,f07.trans f8 (fun b hb e=>(md b e).elim .inr (fun e=>by omega)),md⟩
     unfold Oa
     simp -implicitDefEqProofs only [↓rP,rA,AD,AE,AB,↓g1,↓g2,c1,↓Av ha,↓sl,c2,↓e4,↓g5,HQ uo,↓g6,↓g7,io,fo,↓r7,↓i8,↓g8]
end
theorem Nc:∀(l:List V) (o:Nat) (c:List V),(F0 l o c).length=l.length
 | [],o,c=>by cases o<;>cases c<;>rfl
 | x::l,0,[]=>rfl
 | x::l,0,c::cs=>by
  show (c::F0 l 0 cs).length=_
  rw[AM,Nc l 0 cs,AM]
 | x::l,o+1,[]=>by
  simp[F0]
 | x::l,o+1,c::cs=>by
  show (x::F0 l o (c::cs)).length=_
  rw[AM,Nc l o (c::cs),AM]
theorem Uy {Z:H} {esz k:Nat} {v:V} {m:List V} (hd:E6 Z esz k v m):V.beq v v=true:=by
 rcases hd with h|⟨b,rfl,_⟩
 ·rcases h with ⟨_,rfl,_⟩|⟨_,rfl,_⟩<;>exact C8 _ rfl
 ·exact C8 _ rfl
section
variable {E:EB} {D:BB} {N:Nat}
theorem dR {Z:H} {pb tb:Nat} {l:List V} {nv tv:V} {kn kt:Nat} {mn mt:List V} {s:BS} {k a i:Int} {c:Bool} (ht:Ci Z) (ha:DZ Z pb l) (hl:l.length=9) (hv4:l[4]? = some nv) (hv5:l[5]? = some tv) (htb:DZ Z tb [.int .i64 k,.str s,.int .i64 a]) (hd1:E6 Z 1 kn nv mn) (hd2:E6 Z 1 kt tv mt) (h1:kn<=4000) (h2:kt<=4000)
    (ne:tb≠pb) (np:¬AS nv pb) (tp:¬AS tv pb) (nt:¬AS nv tb) (tt:¬AS tv tb) (dj:∀b,AS nv b->¬AS tv b) :
    ∃e' u w Z',A2 E D QZ Ig [(0,.ptr pb 0),(3,.ptr tb 0),(4,.int .i64 i),(5,.bool c)] Z=some (e',Z')/\Go.Og.look e' 5=some (.bool c)/\DZ Z' pb (F0 (F0 l 4 [u]) 5 [w])/\E6 Z' 1 (kn+1) u (mn++[.str s])/\E6 Z' 1 (kt+1) w (mt++[.int .i64 i]) /\
      (∀b,AS u b->AS nv b\/Z.next<=b)/\(∀b,AS w b->AS tv b\/Z.next<=b)/\(∀b,AS u b->¬AS w b)/\Fr (fun b=>b=pb\/AS nv b\/AS tv b) Z Z':=by
  have lp:=ha.lt ht
  have lt:=htb.lt ht
  have nl:∀b,AS nv b->b<Z.next:=fun b hb=>hd1.lt ht hb
  have tl:∀b,AS tv b->b<Z.next:=fun b hb=>hd2.lt ht hb
  obtain⟨Za,ha'⟩:∃Za,Za=(⟨Z.next+27,(Z.next+9,.cells [.str s])::Z.bl⟩:H):=⟨_,rfl⟩
  have fa:Fr BQ Z Za:=by
    rw[ha']
    refine⟨fun b hb=>?_,GD _ _,fun b hb hn=>?_⟩
    · have hb:Z.next+27<=b:=hb
      show Bl ((Z.next+9,_)::Z.bl) b=none
      rw[Bc,if_neg (by simp only[];omega)]
      exact ht b (by omega)
    · show Bl ((Z.next+9,_)::Z.bl) b=_
      rw[Bc,if_neg (by simp only[];omega)]
  have aa:DZ Za (Z.next+9) [.str s]:=by
    rw[ha']
    show Bl ((Z.next+9,_)::Z.bl) _=_
    rw[Bc,if_pos rfl]
  have na:Za.next=Z.next+27:=by rw[ha']
  have xs:GA Za 1 1 (V.sl (Z.next+9) 0 1 (.ex 1)) [.str s] := .inr ⟨_,_,_,_,rfl,aa,AG _,rfl⟩
  obtain⟨u,Z2,g2,d2,m2,f2⟩:=Hs (E:=E) (bytes:=16) (hd1.fr fa ht (fun _ _ h=>h)) fa.tidy xs rfl (by unfold Cn;simp only[AF,Ai];omega)
  have le2:=f2.le
  obtain⟨Zb,hb'⟩:∃Zb,Zb=(⟨Z2.next,(Z.next+17,.cells [.int .i64 i])::Z2.bl⟩:H):=⟨_,rfl⟩
  have fb:Fr (fun k=>k=Z.next+17) Z2 Zb:=by
    rw[hb']
    refine⟨fun b hb=>?_,AG _,fun b hb hn=>?_⟩
    · have hb:Z2.next<=b:=hb
      show Bl ((Z.next+17,_)::Z2.bl) b=none
      rw[Bc,if_neg (by simp only[];omega)]
      exact f2.tidy b hb
    · show Bl ((Z.next+17,_)::Z2.bl) b=_
      rw[Bc,if_neg (fun e=>hn e.symm)]
  have ab:DZ Zb (Z.next+17) [.int .i64 i]:=by
    rw[hb']
    show Bl ((Z.next+17,_)::Z2.bl) _=_
    rw[Bc,if_pos rfl]
  have nb:Zb.next=Z2.next:=by rw[hb']
  have ys:GA Zb 1 1 (V.sl (Z.next+17) 0 1 (.ex 1)) [.int .i64 i] := .inr ⟨_,_,_,_,rfl,ab,AG _,rfl⟩
  have t2:E6 Zb 1 kt tv mt:=((hd2.fr fa ht (fun _ _ h=>h)).fr f2 fa.tidy (fun b hb e=>dj b e hb)).fr fb f2.tidy (fun b hb e=>by have:=tl b hb;omega)
  obtain⟨w,Z3,g3,d3,m3,f3⟩:=Hs (E:=E) (bytes:=8) t2 fb.tidy ys rfl (by unfold Cn;simp only[AF,Ai];omega)
  have le3:=f3.le
  have un:∀b,AS u b->AS nv b\/Z.next+27<=b:=fun b hb=>(m2 b hb).imp id (fun e=>by omega)
  have ul:∀b,AS u b->b<Z2.next:=fun b hb=>d2.lt f2.tidy hb
  have wn:∀b,AS w b->AS tv b\/Z2.next<=b:=fun b hb=>(m3 b hb).imp id (fun e=>by omega)
  have uw:∀b,AS u b->¬AS w b:=fun b hb e=>by
    rcases wn b e with h|h
    · rcases un b hb with h' | h'
      · exact dj b h' h
      · have:=tl b h;omega
    · have:=ul b hb;omega
  have a3:DZ Z3 pb l:=f3.at_ (fb.at_ (f2.at_ (fa.at_ ha ht (fun h=>h)) fa.tidy np) f2.tidy (by omega)) fb.tidy tp
  obtain⟨_,o2⟩:=Gc d2.one
  obtain⟨_,o3⟩:=Gc d3.one
  obtain⟨Z4,g4,f4,c4⟩:=ID (E:=E) (D:=D) (n:=1) (x := .tmp 51) (y := .tmp 40) (e:=[(51,.ptr pb 4),(40,u)]) f3.tidy a3 rfl (show (CV [(51,.ptr pb 4),(40,u)] (.tmp 40)).cells=[u] from o2) (by
    simp only[B8,CS,d2.one,Be,AM,A0,B2,EU,CQ,Ai];omega)
  have ls4:(F0 l 4 [u]).length=9:=by rw[Nc,hl]
  obtain⟨Z5,g5,f5,c5⟩:=ID (E:=E) (D:=D) (n:=1) (x := .tmp 54) (y := .tmp 48) (e:=[(54,.ptr pb 5),(48,w)]) f4.tidy c4 rfl (show (CV [(54,.ptr pb 5),(48,w)] (.tmp 48)).cells=[w] from o3) (by
    simp only[B8,CS,d3.one,Be,AM,A0,B2,EU,CQ,Ai];omega)
  have le4:=f4.le
  have go:G0 (Mt E Z 27 Ig _ Z5) E D Z 27 0 QZ Ig ⟨[(0,.ptr pb 0),(3,.ptr tb 0),(4,.int .i64 i),(5,.bool c)],Z.next+27,[Z.bl],[],0,[]⟩:=
    Dm (.ptr pb 0) rfl rfl <|
    Dm (.ptr pb 0) rfl rfl <|
    Dm (.ptr pb 0) rfl rfl <|
    Dm (.ptr pb 0) rfl rfl <|
    Dm (.ptr pb 2) rfl rfl <|
    Dm (.ptr pb 4) rfl rfl <|
    N8 nv (Du (S:=fun b=>AS nv b\/AS tv b) ht) rfl (G6 (b:=pb) (off:=4) rfl ha hv4 ht (fun(e:AS nv pb\/AS tv pb)=>e.elim np tp) (Uy hd1)) fun r1=>
    Dm (.ptr tb 1) rfl rfl <|
    N8 (.str s) r1 rfl (G6 (b:=tb) (off:=1) rfl htb rfl ht (fun(e:AS nv tb\/AS tv tb)=>e.elim nt tt) (C8 _ rfl)) fun r2=>
    Ut (.sl (Z.next+9) 0 1 (.ex 1)) (.cells [.str s]) 512 r2 rfl (by decide) (by decide) rfl fun _ r3=>
    Ur u (by rw[<-ha']at r3;exact r3) rfl (by decide) (S':=AS nv) f2 (fun _ _ h=>Or.inl h) (fun b h h1 _=>by have:=nl b h;omega) (NN rfl rfl g2) fun _ _ r4=>
    Dm (.ptr pb 0) rfl rfl <|
    Dm (.ptr pb 0) rfl rfl <|
    Dm (.ptr pb 2) rfl rfl <|
    Dm (.ptr pb 5) rfl rfl <|
    N8 tv r4 rfl (G6 (b:=pb) (off:=5) rfl ha hv5 ht (fun(e:AS nv pb\/AS tv pb)=>e.elim np tp) (Uy hd2)) fun r5=>
    Dm (.int .i64 i) rfl rfl <|
    Ut (.sl (Z.next+17) 0 1 (.ex 1)) (.cells [.int .i64 i]) 131584 r5 rfl (by decide) (by decide) rfl fun _ r6=>
    Ur w (by rw[<-hb']at r6;exact r6) rfl (by decide) (S':=AS tv) f3 (fun _ _ h=>Or.inr h) (fun b h h1 _=>by have:=tl b h;omega) (NN rfl rfl g3) fun _ _ r7=>
    Dm (.ptr pb 0) rfl rfl <|
    Dm (.ptr pb 2) rfl rfl <|
    Dm (.ptr pb 4) rfl rfl <|
    fL .dead (r7.c (pl0:=Ig)) (by omega) rfl (by decide) f4 (fun b h h1 _=>by omega) g4 (fun x hx=>by
      simp only[BF,Ey,or_false]at hx
      rcases hx with rfl|rfl|rfl
      · show (Ig.getD 22 ⟨0,[]⟩).anc.testBit 15=true
        decide
      · show (Ig.getD 22 ⟨0,[]⟩).anc.testBit 8=true
        decide
      · show (Ig.getD 22 ⟨0,[]⟩).anc.testBit 6=true
        decide) fun _ _ _ r8=>
    Dm (.ptr pb 0) rfl rfl <|
    Dm (.ptr pb 2) rfl rfl <|
    Dm (.ptr pb 5) rfl rfl <|
    fL .dead r8 (by omega) rfl (by decide) f5 (fun b h h1 _=>by omega) g5 (fun x hx=>by
      simp only[BF,Ey,or_false]at hx
      rcases hx with rfl|rfl|rfl
      · show (Ig.getD 26 ⟨0,[]⟩).anc.testBit 15=true
        decide
      · show (Ig.getD 26 ⟨0,[]⟩).anc.testBit 8=true
        decide
      · show (Ig.getD 26 ⟨0,[]⟩).anc.testBit 6=true
        decide) fun _ _ _ r9=>
    cZ r9
  have d:=N9 (ops:=QZ) go
  have f45:=f4.trans f5 (fun _ _ h=>h)
  refine⟨_,u,w,Z5,d,rfl,c5,?_,d3.fr f45 f3.tidy (fun b hb e=>?_),fun b hb=>(un b hb).imp id (fun e=>by omega),fun b hb=>(wn b hb).imp id (fun e=>by omega),uw,?_⟩
  · have f23:Fr (fun b=>b=Z.next+17\/AS tv b) Z2 Z3:=(fb.mono fun _ _ e => .inl e:Fr (fun b=>b=Z.next+17\/AS tv b) Z2 Zb).trans f3 (fun _ _ e => .inr e)
    exact(d2.fr f23 f2.tidy (fun b hb e=>by
      rcases un b hb with h|h
      · have:=nl b h
        rcases e with e|e
        · omega
        · exact dj b h e
      · rcases e with e | e
        · omega
        · have:=tl b e;omega)).fr f45 f3.tidy (fun b hb e=>by
      rcases un b hb with h|h
      · exact np (e ▸ h)
      · omega)
  · rcases wn b hb with h | h
    · exact tp (e ▸ h)
    · omega
  · exact((((fa.mono fun _ _ h=>h.elim:Fr (fun b=>b=pb\/AS nv b\/AS tv b) Z Za).trans f2 (fun _ _ e => .inr (.inl e))).trans fb (fun b hb e=>by omega)).trans f3 (fun _ _ e => .inr (.inr e))).trans f45 (fun _ _ e => .inl e)
end
abbrev NT:=List (List Nat) × List Nat
def pY (az:List (List Nat)):List V:=az.map fun w => .str (Cj w)
def nQ (ks:List Nat):List V:=ks.map fun k => .int .i64 (AA k)
def Iw (T:C1) (z:NT) (l:List A4) (er:Er) (ns:List AL):Bool × NT × List A4 × Er × List AL:=match decide (40<=z.1.length)with
 | true=>(false,z,JE l,FH er (CF l).2.2 5,ns)
 | false=>match Aj [BS.mk 3 4012602] (JE l) er with
  | (false,l2,er2)=>(false,z,l2,er2,ns)
  | (true,l2,er2)=>match T.go 0 l2 er2 ns with
   | (b,i,l3,er3,ns3)=>(b,(z.1++[(CF l).2.1],z.2++[i]),l3,er3,ns3)
structure Pm (Z:H) (pb:Nat) (lv:V) (ts l:List A4) (R:Rp) (ns:List AL) (z:NT):Prop where
 p:Pn Z pb lv ts l R ns (fun b=>(AS R.nv b\/AS R.tv b)\/b<pb)
 n:E6 Z 1 z.1.length R.nv (pY z.1)
 t:E6 Z 1 z.2.length R.tv (nQ z.2)
 nx:∀b,AS R.nv b->b≠pb/\¬AS lv b/\¬AS R.dv b/\¬AS R.tv b
 tx:∀b,AS R.tv b->b≠pb/\¬AS lv b/\¬AS R.dv b
def MB (R:Rp) (b:Nat):Prop:=AS R.dv b\/AS R.nv b\/AS R.tv b
structure W1 (Z Z':H) (pb:Nat) (lv:V) (ts l':List A4) (R R':Rp) (er':Er) (ns':List AL) (z':NT):Prop where
 p:Pm Z' pb lv ts l' R' ns' z'
 nm:R'.nm=R.nm
 tg:R'.tg=R.tg
 er:R'.er=er'
 m:∀b,MB R' b->MB R b\/Z.next<=b
 f:Fr (fun b=>b=pb\/MB R b) Z Z'
section
variable {Z Z' Z1 Z2:H} {pb:Nat} {lv:V} {ts l l' l1 l2:List A4} {R R1 R2:Rp} {er er1 er2:Er} {ns ns1 ns2:List AL} {z z1 z2:NT}
theorem Pm.q (h:Pm Z pb lv ts l R ns z):∀b,(AS R.nv b\/AS R.tv b)->b<Z.next:=fun b hb=>by
 rcases hb with hb|hb
 ·exact h.n.lt h.p.p.ht hb
 ·exact h.t.lt h.p.p.ht hb
theorem Pm.go (h:Pm Z pb lv ts l R ns z) (p:Ps Z' pb lv ts l' (R.e er)) (f:Fr (fun k=>k=pb) Z Z'):W1 Z Z' pb lv ts l' R (R.e er) er ns z:=
 ⟨⟨h.p.goe p f,h.n.fr f h.p.p.ht (fun b hb e=>(h.nx b hb).1 e),h.t.fr f h.p.p.ht (fun b hb e=>(h.tx b hb).1 e),h.nx,h.tx⟩,rfl,rfl,rfl,fun _ h => .inl h,f.mono fun _ _ e => .inl e⟩
theorem W1.trans (h:W1 Z Z1 pb lv ts l1 R R1 er1 ns1 z1) (k:W1 Z1 Z2 pb lv ts l2 R1 R2 er2 ns2 z2):W1 Z Z2 pb lv ts l2 R R2 er2 ns2 z2:=by
 have le:=h.f.le
 exact⟨k.p,k.nm.trans h.nm,k.tg.trans h.tg,k.er,fun b hb=>(k.m b hb).elim (h.m b) (fun e => .inr (by omega)),h.f.trans k.f fun b hb e=>e.imp id fun e=>(h.m b e).elim id (fun e=>by omega)⟩
theorem Pm.typ (h:Pm Z pb lv ts l R ns z) {dv':V} (p:Pn Z' pb lv ts l' ((R.wd dv').e er) ns1 (fun b=>(AS R.nv b\/AS R.tv b)\/b<pb)) (f:Fr (PB pb R.dv) Z Z') (m:∀b,AS dv' b->AS R.dv b\/Z.next<=b):W1 Z Z' pb lv ts l' R ((R.wd dv').e er) er ns1 z:=by
 have ht:=h.p.p.ht
 have lt:=h.q
 refine⟨⟨p,h.n.fr f ht (fun b hb e=>e.elim (h.nx b hb).1 (h.nx b hb).2.2.1),h.t.fr f ht (fun b hb e=>e.elim (h.tx b hb).1 (h.tx b hb).2.2),fun b hb=>?_,fun b hb=>?_⟩,rfl,rfl,rfl,fun b hb=>?_,f.mono fun _ _ e=>e.imp id .inl⟩
 ·obtain⟨h1,h2,h3,h4⟩:=h.nx b hb
  exact⟨h1,h2,fun e=>(m b e).elim h3 (fun e=>by have:=lt b (.inl hb);omega),h4⟩
 ·obtain⟨h1,h2,h3⟩:=h.tx b hb
  exact⟨h1,h2,fun e=>(m b e).elim h3 (fun e=>by have:=lt b (.inr hb);omega)⟩
 ·rcases hb with hb|hb|hb
  ·exact(m b hb).imp .inl id
  ·exact .inl (.inr (.inl hb))
  ·exact .inl (.inr (.inr hb))
end
def RS (T:C1) (F:List V->H->AH):Prop:=∀{Z:H} {pb:Nat} {lv:V} {ts l:List A4} {R:Rp} {ns:List AL} {z:NT},Pm Z pb lv ts l R ns z->z.2.length<=4000 ->
 ∃R' Z',F [.ptr pb 0] Z=some (.bool (Iw T z l R.er ns).1,Z')/\W1 Z Z' pb lv ts (Iw T z l R.er ns).2.2.1 R R' (Iw T z l R.er ns).2.2.2.1 (Iw T z l R.er ns).2.2.2.2 (Iw T z l R.er ns).2.1
section
variable {E:EB} {D:BB} {N:Nat}
theorem kc {T:C1} (hX:Iy (D 37)) (hFl:GX (D 36)) (hW:Di (D 16)) (hT:Dg T (D 39)) (hT0:T.lo=0):RS T (ub E D (A2 E D) N):=by
 intro Z pb lv ts l R ns z h hz
 obtain⟨Z1,g1,p1,f1⟩:=hX h.p.p
 unfold Ca at g1
 have s1:W1 Z Z1 pb lv ts (JE l) R (R.e R.er) R.er ns z:=h.go p1 f1
 have s1p:Pm Z1 pb lv ts (JE l) R ns z:=s1.p
 obtain⟨Z2,e2,f2,a2,n2⟩:=Nx p1.ht [.int .i64 (AA 0),.str ⟨0,0⟩,.int .i64 (AA 0)]
 obtain⟨Z3,s3,a3,f3⟩:=MX (n:=3) (o:=0) (v := .agg (Ca (CF l))) (l':=Ca (CF l)) f2.tidy a2 rfl rfl
 have f13:Fr BQ Z1 Z3:=f2.trans f3 (fun b hb e=>by omega)
 have le1:=f1.le
 have le3:=f13.le
 have lt3:=a3.lt f3.tidy
 unfold Ca at s3 a3
 have h3p:Pn Z3 pb lv ts (JE l) R ns (fun b=>((AS R.nv b\/AS R.tv b)\/b<pb)\/b=Z1.next):=(s1p.p.ext (Q':=fun b=>((AS R.nv b\/AS R.tv b)\/b<pb)\/b=Z1.next) fun b hb=>hb.elim .inl (fun e => .inr (by omega))).fr f13 (fun h=>h) (fun _ _ h=>h) (fun _ _ h=>h) (fun _ _ h=>h.elim)
 have h3:Pm Z3 pb lv ts (JE l) R ns z:=⟨h3p.ext fun b hb => .inl (.inl hb),s1p.n.fr f13 p1.ht (fun _ _ h=>h),s1p.t.fr f13 p1.ht (fun _ _ h=>h),s1p.nx,s1p.tx⟩
 have s3':W1 Z Z3 pb lv ts (JE l) R R R.er ns z:=⟨h3,rfl,rfl,rfl,fun _ h => .inl h,(f1.mono fun _ _ e => .inl e:Fr (fun b=>b=pb\/MB R b) Z Z1).trans f13 (fun _ _ h=>h.elim)⟩
 obtain⟨a,ha,_⟩:=h3.p.p.ex
 unfold Pq at ha
 have sl:∀J:Nat->AH,BG R.nv J=J z.1.length:=fun J=>h3.n.slen
 show ∃R' Z',Sz E D (A2 E D) pb 0 Z=_/\_
 unfold Iw
 cases hc:decide (40<=z.1.length)with
 | true=>
  simp only[]at ⊢
  obtain⟨Z4,g4,p4,f4⟩:=hFl (CF l).2.2 5 h3.p.p
  refine⟨_,Z4,?_,s3'.trans (h3.go p4 f4)⟩
  unfold Sz
  simp -implicitDefEqProofs only [↓rP,rA,AD,AE,AB,↓g1,↓e2,↓s3,↓Av ha,↓sl,hc,↓Av a3,↓g4]
 | false=>
  have hl:z.1.length<40:=by have:=of_decide_eq_false hc;omega
  simp only[]at ⊢
  obtain⟨Z4,Z5,e4,g5,p5,f5⟩:=Dh hW h3.p.p [BS.mk 3 4012602] (by decide)
  have e4:CO Z3 (.cells [.str (BS.mk 3 4012602)])=Z4:=e4
  have g5:D 16 [.ptr pb 0,.sl Z3.next 0 1 (.ex 1)] Z4=some (.bool (Aj [BS.mk 3 4012602] (JE l) R.er).1,Z5):=g5
  have p5:Ps Z5 pb lv ts (Aj [BS.mk 3 4012602] (JE l) R.er).2.1 (R.e (Aj [BS.mk 3 4012602] (JE l) R.er).2.2):=p5
  have s5:=s3'.trans (h3.go p5 f5)
  have h5p:=h3p.goe p5 f5
  have lp:=h.p.p.lt
  have a5:=f5.at_ a3 f3.tidy (by omega)
  generalize Aj [BS.mk 3 4012602] (JE l) R.er=i5 at g5 p5 s5 h5p ⊢
  obtain⟨b5,l5,er5⟩:=i5
  simp only[]at g5 p5 s5 h5p ⊢
  cases b5 with
  | false=>
   refine⟨_,Z5,?_,s5⟩
   unfold Sz
   simp -implicitDefEqProofs only [↓rP,rA,AD,AE,AB,↓g1,↓e2,↓s3,↓Av ha,↓sl,hc,↓e4,↓g5]
  | true=>
   simp only[]at ⊢
   have le5:=f5.le
   obtain⟨dv',Z6,g6,h6,f6,m6⟩:=hT (d:=0) h5p (fun b hb=>by
    rcases hb with (hb|hb)|hb
    ·exact s5.p.q b hb
    ·omega
    ·omega) (by omega)
   have er5':(R.e er5).er=er5:=rfl
   rw[er5']at g6 h6
   have f6:Fr (PB pb R.dv) Z5 Z6:=f6
   have m6:∀b,AS dv' b->AS R.dv b\/Z5.next<=b:=m6
   have dl:∀b,AS R.dv b->b<Z1.next:=fun b hb=>s1p.p.dlt hb
   have a6:=f6.at_ a5 p5.ht (fun e=>e.elim (by omega) (fun e=>by have:=dl _ e;omega))
   generalize T.go 0 l5 er5 ns=i6 at g6 h6 ⊢
   obtain⟨b6,i,l6,er6,ns6⟩:=i6
   simp only[]at g6 h6 ⊢
   have h6':Pn Z6 pb lv ts l6 ((R.wd dv').e er6) ns6 (fun b=>((AS R.nv b\/AS R.tv b)\/b<pb)\/b=Z1.next):=h6
   have s6:W1 Z5 Z6 pb lv ts l6 (R.e er5) ((R.wd dv').e er6) er6 ns6 z:=s5.p.typ (h6'.ext fun b hb => .inl (.inl hb)) f6 m6
   have s06:=s5.trans s6
   obtain⟨a9,ha9,hl9⟩:=h6'.p.ex
   have hn6:=s6.p.n
   have ht6:=s6.p.t
   have nl1:∀b,AS R.nv b->b<Z1.next:=fun b hb=>s1p.q b (.inl hb)
   have tl1:∀b,AS R.tv b->b<Z1.next:=fun b hb=>s1p.q b (.inr hb)
   obtain⟨e',u,w,Z7,g7,t7,a7,d7,k7,mu,mw,uw,f7⟩:=dR (E:=E) (D:=D) (i:=AA i) (c:=b6) h6'.p.ht ha9 rfl rfl rfl a6 hn6 ht6 (by omega) (by omega) (by omega) (fun e=>(h.nx _ e).1 rfl) (fun e=>(h.tx _ e).1 rfl) (fun e=>by have:=nl1 _ e;omega) (fun e=>by have:=tl1 _ e;omega) (fun b hb=>(h.nx b hb).2.2.2)
   have le6:=f6.le
   have le7:=f7.le
   have a7:DZ Z7 pb (Pq lv a9 ⟨R.nm,R.tg,u,w,dv',er6⟩):=a7
   have ll:∀b,AS lv b->b<Z6.next:=fun b hb=>h6'.llt hb
   have dl6:∀b,AS dv' b->b<Z6.next:=fun b hb=>h6'.dlt hb
   have nd':∀b,AS R.nv b->¬AS dv' b:=fun b hb e=>(s6.p.nx b hb).2.2.1 e
   have td':∀b,AS R.tv b->¬AS dv' b:=fun b hb e=>(s6.p.tx b hb).2.2 e
   have p7:Ps Z7 pb lv ts l6 ⟨R.nm,R.tg,u,w,dv',er6⟩:=⟨⟨a9,a7,hl9⟩,h6'.p.src.fr f7 h6'.p.ht (fun b hb e=>by
    rcases e with e|e|e
    ·exact h6'.p.nx b hb e
    ·exact(h.nx b e).2.1 hb
    ·exact(h.tx b e).2.1 hb),h6'.p.ne,h6'.p.nx,h6'.p.ok,f7.tidy⟩
   have hP7:Pn Z7 pb lv ts l6 ⟨R.nm,R.tg,u,w,dv',er6⟩ ns6 (fun b=>(AS u b\/AS w b)\/b<pb):=by
    obtain⟨ws,k1,k2,k3⟩:=h6'.w
    refine⟨p7,⟨ws,k1.fr f7 h6'.p.ht fun b hb e=>?_,k2,fun k nd v hn hv=>?_⟩,h6'.dx⟩
    ·rcases e with e|e|e
     ·exact(h6'.dx b hb).1 e
     ·exact nd' b e hb
     ·exact td' b e hb
    ·have hN:=k3 k nd v hn hv
     have hM:=hN.fr f7 h6'.p.ht fun x hb e=>by
      rcases e with e|e|e
      ·exact(hN.n x hb).1 e
      ·exact(hN.n x hb).2.2 (.inl (.inl (.inl e)))
      ·exact(hN.n x hb).2.2 (.inl (.inl (.inr e)))
     exact⟨hM.i,hM.f,hM.g,fun x hb=>⟨(hN.n x hb).1,(hN.n x hb).2.1,fun q=>by
      have lx:=hN.lt h6'.p.ht hb
      rcases q with (q|q)|q
      ·exact(mu x q).elim (fun e=>(hN.n x hb).2.2 (.inl (.inl (.inl e)))) (fun e=>by omega)
      ·exact(mw x q).elim (fun e=>(hN.n x hb).2.2 (.inl (.inl (.inr e)))) (fun e=>by omega)
      ·exact(hN.n x hb).2.2 (.inl (.inr q))⟩⟩
   have s7:W1 Z6 Z7 pb lv ts l6 ((R.wd dv').e er6) ⟨R.nm,R.tg,u,w,dv',er6⟩ er6 ns6 (z.1++[(CF l).2.1],z.2++[i]):=by
    refine⟨⟨hP7,?_,?_,fun b hb=>?_,fun b hb=>?_⟩,rfl,rfl,rfl,fun b hb=>?_,f7.mono fun b _ e=>?_⟩
    ·show E6 Z7 1 (z.1++[(CF l).2.1]).length u (pY (z.1++[(CF l).2.1]))
     rw[Aw,pY,au];exact d7
    ·show E6 Z7 1 (z.2++[i]).length w (nQ (z.2++[i]))
     rw[Aw,nQ,au];exact k7
    ·refine⟨?_,?_,?_,uw b hb⟩
     ·exact(mu b hb).elim (fun e=>(h.nx b e).1) (fun e=>by have:=h6'.p.lt;omega)
     ·exact(mu b hb).elim (fun e=>(h.nx b e).2.1) (fun e hn=>by have:=ll b hn;omega)
     ·exact(mu b hb).elim (fun e=>nd' b e) (fun e hn=>by have:=dl6 b hn;omega)
    ·refine⟨?_,?_,?_⟩
     ·exact(mw b hb).elim (fun e=>(h.tx b e).1) (fun e=>by have:=h6'.p.lt;omega)
     ·exact(mw b hb).elim (fun e=>(h.tx b e).2.1) (fun e hn=>by have:=ll b hn;omega)
     ·exact(mw b hb).elim (fun e=>td' b e) (fun e hn=>by have:=dl6 b hn;omega)
    ·rcases hb with hb|hb|hb
     ·exact .inl (.inl hb)
     ·exact(mu b hb).imp (fun e => .inr (.inl e)) id
     ·exact(mw b hb).imp (fun e => .inr (.inr e)) id
    ·rcases e with e|e|e
     ·exact .inl e
     ·exact .inr (.inr (.inl e))
     ·exact .inr (.inr (.inr e))
   refine⟨_,Z7,?_,s06.trans s7⟩
   have gd:∀J:Bt->H->AH,Ee (A2 E D QZ Ig [(0,.ptr pb 0),(3,.ptr Z1.next 0),(4,.int .i64 (AA i)),(5,.bool b6)] Z6) J=J e' Z7:=fun J=>by rw[g7];rfl
   have m5:∀J:V->AH,E0 e' 5 J=J (.bool b6):=fun J=>Ez t7 rfl
   have g6:D 39 [.ptr pb 0,.int .i64 (AA 0)] Z5=some (.tup [.int .i64 (AA i),.bool b6],Z6):=g6
   unfold Sz
   simp -implicitDefEqProofs only [↓rP,rA,AD,AE,AB,↓g1,↓e2,↓s3,↓Av ha,↓sl,hc,↓e4,↓g5,↓g6,↓gd,↓m5]
end
def LL:List BS:=[BS.mk 8 6073459554577832005,BS.mk 8 6073459554577829193,BS.mk 9 1241215773001651606849]
def Rl:List BS->Nat->Int->List A4->Er->Bool × Int × List A4 × Er
 | [],_,tg,l,er=>(true,tg,l,er)
 | w::ws,i,tg,l,er=>match MY w l with
  | false=>Rl ws (i+1) tg l er
  | true=>match Aj [w,BS.mk 4 1397178708] l er with
   | (b,l1,er1)=>(b,AA i,l1,er1)
def Lq (T:C1):Nat->NT->List A4->Er->List AL->Bool × NT × List A4 × Er × List AL
 | 0,z,l,er,ns=>(false,z,l,FH er 0 5,ns)
 | n+1,z,l,er,ns=>match decide ((CF l).1=1)with
  | true=>match Iw T z l er ns with
   | (false,z1,l1,er1,ns1)=>(false,z1,l1,er1,ns1)
   | (true,z1,l1,er1,ns1)=>Lq T n z1 l1 er1 ns1
  | false=>match Aj [BS.mk 3 4476485] l er with
   | (false,l1,er1)=>(false,z,l1,er1,ns)
   | (true,l1,er1)=>match IL 0 l1 er1 with
    | (b,l2,er2)=>(b,z,l2,er2,ns)
abbrev Wn:=List Nat × Int × NT × List AL
def pt:Wn:=([],0,([],[]),[])
@[irreducible] def ay (T:C1) (l:List A4) (er:Er):Bool × NT × List A4 × Er × List AL:=Lq T 9001 ([],[]) l er []
def M0 (T:C1) (l:List A4) (er:Er):Bool × Wn × Er:=match IL 1 l er with
 | (false,_,er1)=>(false,pt,er1)
 | (true,l1,er1)=>match Aj [BS.mk 11 100710650190388740279911748] l1 er1 with
  | (false,_,er2)=>(false,pt,er2)
  | (true,l2,er2)=>match Rl LL 0 0 l2 er2 with
   | (false,_,_,er3)=>(false,pt,er3)
   | (true,tg,l3,er3)=>match Aj [BS.mk 3 4012602,BS.mk 5 336236856642] l3 er3 with
    | (false,_,er4)=>(false,pt,er4)
    | (true,l4,er4)=>match ay T l4 er4 with
     | (false,_,_,er5,_)=>(false,pt,er5)
     | (true,z,_,er5,ns)=>(true,((CF l).2.1,tg,z,ns),er5)
theorem dS {T:C1} (hT:dY T) (z:NT) (l:List A4) (er:Er) (ns:List AL):(Iw T z l er ns).2.2.1.length<=(JE l).length/\((Iw T z l er ns).1=true->z.1.length<40/\(Iw T z l er ns).2.1.1.length=z.1.length+1/\(Iw T z l er ns).2.1.2.length=z.2.length+1):=by
 unfold Iw
 cases hc:decide (40<=z.1.length)with
 | true=>exact⟨AG _,fun h=>by cases h⟩
 | false=>
  have:=of_decide_eq_false hc
  have h1:=Cm [BS.mk 3 4012602] (JE l) er
  simp only[]at ⊢
  generalize Aj [BS.mk 3 4012602] (JE l) er=i1 at h1 ⊢
  obtain⟨b1,l1,er1⟩:=i1
  cases b1 with
  | false=>exact⟨h1,fun h=>by cases h⟩
  | true=>
   have h2:=(hT 0 l1 er1 ns).l
   exact⟨AN h2 h1,fun _=>⟨by omega,by simp,by simp⟩⟩
structure zk (Z Z':H) (pb:Nat) (lv:V) (ts:List A4) (R R':Rp) (r:Bool × Wn × Er):Prop where
 p:∃l' ns' z',Pm Z' pb lv ts l' R' ns' z'/\(r.1=true->R'.nm=Cj r.2.1.1/\R'.tg=r.2.1.2.1/\z'=r.2.1.2.2.1/\ns'=r.2.1.2.2.2)
 er:R'.er=r.2.2
 m:∀b,MB R' b->MB R b\/Z.next<=b
 f:Fr (fun b=>b=pb\/MB R b) Z Z'
def UE (T:C1) (F:List V->H->AH):Prop:=∀{Z:H} {pb:Nat} {lv:V} {ts l:List A4} {R:Rp},Pm Z pb lv ts l R [] ([],[])->R.tg=0 ->
 ∃R' Z',F [.ptr pb 0] Z=some (.bool (M0 T l R.er).1,Z')/\zk Z Z' pb lv ts R R' (M0 T l R.er)
section
variable {Z Z' Z1 Z2:H} {pb:Nat} {lv:V} {ts l l' l1 l2:List A4} {R R1 R2:Rp} {er er1 er2:Er} {ns ns1 ns2:List AL} {z z1 z2:NT}
theorem Pm.cel (h:Pm Z pb lv ts l R ns z) {off:Nat} {y:V} (nm:BS) (tg:Int) (hy:y.cells=[y]/\y.one=true) (ho:off<9) (hc:∀a,F0 (Pq lv a R) off [y]=Pq lv a ⟨nm,tg,R.nv,R.tv,R.dv,R.er⟩) :
    ∃Z',(∀J:H->AH,Dk 1 pb off y Z J=J Z')/\Pm Z' pb lv ts l ⟨nm,tg,R.nv,R.tv,R.dv,R.er⟩ ns z/\Fr (fun k=>k=pb) Z Z':=by
  obtain⟨a,ha,hl⟩:=h.p.p.ex
  obtain⟨Z',g,a',f⟩:=MX (n:=1) (o:=off) (v:=y) (l':=Pq lv a ⟨nm,tg,R.nv,R.tv,R.dv,R.er⟩) h.p.p.ht ha (by
    rw[hy.1]
    simp only[AM,A0,B8,CS,hy.2,Be,B2,EU,CQ,Ai,Nat.add_eq]
    show off+1<=9
    omega) (by rw[hy.1];exact hc a)
  have p':Ps Z' pb lv ts l ⟨nm,tg,R.nv,R.tv,R.dv,R.er⟩:=⟨⟨a,a',hl⟩,h.p.p.src.fr f h.p.p.ht (fun b hb e=>h.p.p.nx b hb e),h.p.p.ne,h.p.p.nx,h.p.p.ok,f.tidy⟩
  obtain⟨ws,k1,k2,k3⟩:=h.p.w
  exact⟨Z',g,⟨⟨p',⟨ws,k1.fr f h.p.p.ht fun b hb e=>(h.p.dx b hb).1 e,k2,fun k nd u hn hu=>(k3 k nd u hn hu).fr f h.p.p.ht fun b hb e=>((k3 k nd u hn hu).n b hb).1 e⟩,h.p.dx⟩,h.n.fr f h.p.p.ht (fun b hb e=>(h.nx b hb).1 e),h.t.fr f h.p.p.ht (fun b hb e=>(h.tx b hb).1 e),h.nx,h.tx⟩,f⟩
end
section
variable {E:EB} {D:BB} {N:Nat}
theorem ka {T:C1} (hG:dY T) (hP:Fs (D 18)) (hO:Oh (D 15)) (hW:Di (D 16)) (hA:RS T (D 19)) {pb:Nat} {lv:V} {ts:List A4}:∀(n k:Nat) {Z:H} {l:List A4} {R:Rp} {ns:List AL} {z:NT},Pm Z pb lv ts l R ns z->z.1.length<=40->z.2.length<=40->l.length<n->l.length<k ->
  (z.1.length=z.2.length)->∃R' Z',Zn E D (A2 E D) N k pb 0 Z=some (.bool (Lq T n z l R.er ns).1,Z')/\W1 Z Z' pb lv ts (Lq T n z l R.er ns).2.2.1 R R' (Lq T n z l R.er ns).2.2.2.1 (Lq T n z l R.er ns).2.2.2.2 (Lq T n z l R.er ns).2.1:=by
 intro n
 induction n with
 | zero=>intro k Z l R ns z h h1 h2 hn;omega
 | succ n ih=>
  intro k Z l R ns z h h1 h2 hn hk hz
  obtain⟨k,rfl⟩:∃j,k=j+1:=⟨k-1,by omega⟩
  have g1:=hP h.p.p
  unfold Ca at g1
  show ∃R' Z',T8 E D (A2 E D) (dZ E D (A2 E D)) (Zn E D (A2 E D) N k) pb 0 Z=_/\_
  unfold Lq
  cases hk1:decide ((CF l).1=1)with
  | true=>
   simp only[]at ⊢
   obtain⟨R1,Z1,g2,s1⟩:=hA h (by omega)
   obtain⟨a1,a2⟩:=dS hG z l R.er ns
   have lt:=h.p.p.less (fun e=>by have:=of_decide_eq_true hk1;omega)
   generalize Iw T z l R.er ns=i1 at g2 s1 a1 a2 ⊢
   obtain⟨b1,z1,l1,er1,ns1⟩:=i1
   simp only[]at g2 s1 a1 a2 ⊢
   cases b1 with
   | false=>
    refine⟨R1,Z1,?_,s1⟩
    unfold T8
    simp -implicitDefEqProofs only [↓rP,rA,AD,AE,AB,↓g1,hk1,↓g2]
   | true=>
    obtain⟨q1,q2,q3⟩:=a2 rfl
    obtain⟨R2,Z2,g3,s2⟩:=ih k s1.p (by omega) (by omega) (by omega) (by omega) (by omega)
    rw[s1.er]at g3 s2
    refine⟨R2,Z2,?_,s1.trans s2⟩
    unfold T8
    simp -implicitDefEqProofs only [↓rP,rA,AD,AE,AB,↓g1,hk1,↓g2]
    exact g3
  | false=>
   simp only[]at ⊢
   obtain⟨Z3,Z4,e3,g4,p4,f4⟩:=Dh hW h.p.p [BS.mk 3 4476485] (by decide)
   have e3:CO Z (.cells [.str (BS.mk 3 4476485)])=Z3:=e3
   have g4:D 16 [.ptr pb 0,.sl Z.next 0 1 (.ex 1)] Z3=some (.bool (Aj [BS.mk 3 4476485] l R.er).1,Z4):=g4
   have p4:Ps Z4 pb lv ts (Aj [BS.mk 3 4476485] l R.er).2.1 (R.e (Aj [BS.mk 3 4476485] l R.er).2.2):=p4
   have s4:=h.go p4 f4
   generalize Aj [BS.mk 3 4476485] l R.er=i4 at g4 p4 s4 ⊢
   obtain⟨b4,l4,er4⟩:=i4
   simp only[]at g4 p4 s4 ⊢
   cases b4 with
   | false=>
    refine⟨_,Z4,?_,s4⟩
    unfold T8 dZ
    simp -implicitDefEqProofs only [↓rP,rA,AD,AE,AB,↓g1,hk1,↓e3,↓g4]
   | true=>
    simp only[]at ⊢
    obtain⟨Z5,g5,p5,f5⟩:=hO 0 p4 p4.llt
    have er:(R.e er4).er=er4:=rfl
    rw[er]at g5 p5
    have g5:D 15 [.ptr pb 0,.int .i64 (AA 0)] Z4=some (.tup [.agg (Ca (CF l4)),.bool (IL 0 l4 er4).1],Z5):=g5
    unfold Ca at g5
    have s5:=s4.trans (s4.p.go p5 f5)
    generalize IL 0 l4 er4=i5 at g5 s5 ⊢
    obtain⟨b5,l5,er5⟩:=i5
    simp only[]at g5 s5 ⊢
    refine⟨_,Z5,?_,s5⟩
    unfold T8 dZ
    simp -implicitDefEqProofs only [↓rP,rA,AD,AE,AB,↓g1,hk1,↓e3,↓g4,↓g5]
theorem js {K:Nat->Nat->H->AH} (hS:Of (D 17)) (hW:Di (D 16)) {pb wb:Nat} {lv:V} {ts l:List A4} {ns:List AL} {z:NT}:∀(ws:List BS) (i k:Nat) {Z:H} {R:Rp},Pm Z pb lv ts l R ns z->LL.drop i=ws->ws.length<k->DZ Z wb (LL.map .str)->wb≠pb ->
  ∃Z',Nat.rec (motive:=fun _=>Nat->Nat->V->Int->Int->H->AH) (fun _ _ _ _ _ _=>none) (fun _ ih=>RK E D (A2 E D) K ih) k pb 0 (.sl wb 0 3 (.ex 3)) (AA 3) (AA i) Z=(match (Rl ws i R.tg l R.er).1 with | true=>K pb 0 Z' | false=>some (.bool false,Z')) /\
   Pm Z' pb lv ts (Rl ws i R.tg l R.er).2.2.1 ⟨R.nm,(Rl ws i R.tg l R.er).2.1,R.nv,R.tv,R.dv,(Rl ws i R.tg l R.er).2.2.2⟩ ns z/\Fr (fun b=>b=pb) Z Z':=by
 intro ws
 induction ws with
 | nil=>
  intro i k Z R h hw hk a ne
  obtain⟨k,rfl⟩:∃j,k=j+1:=⟨k-1,by simp only[A0]at hk;omega⟩
  have hi:3<=i:=by
   have:=congrArg Ij hw
   simp only[Aa,A0]at this
   have e:LL.length=3:=rfl
   omega
  refine⟨Z,?_,h,Fr.refl h.p.p.ht⟩
  have d:decide (i<3)=false:=decide_eq_false (by omega)
  show RK E D (A2 E D) K _ pb 0 _ _ _ Z=K pb 0 Z
  unfold RK
  simp -implicitDefEqProofs only [↓rP,rA,AD,AE,AB,d]
 | cons w ws ih=>
  intro i k Z R h hw hk a ne
  obtain⟨k,rfl⟩:∃j,k=j+1:=⟨k-1,by simp only[AM]at hk;omega⟩
  have hlen:ws.length+1=3-i:=by
   have:=congrArg Ij hw
   simp only[Aa,AM]at this
   have e:LL.length=3:=rfl
   omega
  have hi:i<3:=by omega
  have d:decide (i<3)=true:=decide_eq_true hi
  have hwi:LL[i]? = some w:=by
   have:=congrArg (fun x:List BS=>x[0]?) hw
   simpa using this
  have rd:∀J:V->AH,Am 1 (.sl wb 0 3 (.ex 3)) (AA i) (fun b o=>Bm E Z b o J)=J (.str w):=fun J=>by
   rw[Dy hi]
   show Bm E Z wb (0+i*1) J=_
   rw[show 0+i*1=i by omega,Av a]
   match i,hi,hwi with
   | 0,_,h=>cases h;rfl
   | 1,_,h=>cases h;rfl
   | 2,_,h=>cases h;rfl
  have ai:CJ .i64 (AA i) (AA 1)=AA (i+1):=Bw (by omega)
  have g1:=hS w h.p.p
  show ∃Z',RK E D (A2 E D) K (Nat.rec (motive:=fun _=>Nat->Nat->V->Int->Int->H->AH) (fun _ _ _ _ _ _=>none) (fun _ ih=>RK E D (A2 E D) K ih) k) pb 0 (.sl wb 0 3 (.ex 3)) (AA 3) (AA i) Z=_/\_
  unfold Rl
  cases hb:MY w l with
  | false=>
   rw[hb]at g1
   obtain⟨Z',g',p',f'⟩:=ih (i+1) k h (by rw[<-C5,hw];rfl) (by simp only[AM]at hk;omega) a ne
   refine⟨Z',?_,p',f'⟩
   unfold RK
   simp -implicitDefEqProofs only [↓rP,rA,AD,AE,AB,d,↓rd,↓g1,ai]
   exact g'
  | true=>
   rw[hb]at g1
   simp only[]at ⊢
   obtain⟨Z2,g2,p2,f2⟩:=h.cel (off:=3) (y := .int .i64 (AA i)) R.nm (AA i) ⟨rfl,rfl⟩ (by decide) (fun _=>rfl)
   obtain⟨Z3,Z4,e3,g4,p4,f4⟩:=Dh hW p2.p.p [w,BS.mk 4 1397178708] (by show 2<=10;decide)
   have e3:CO Z2 (.cells [.str w,.str (BS.mk 4 1397178708)])=Z3:=e3
   have g4:D 16 [.ptr pb 0,.sl Z2.next 0 2 (.ex 2)] Z3=some (.bool (Aj [w,BS.mk 4 1397178708] l R.er).1,Z4):=g4
   have p4:Ps Z4 pb lv ts (Aj [w,BS.mk 4 1397178708] l R.er).2.1 ((⟨R.nm,AA i,R.nv,R.tv,R.dv,R.er⟩:Rp).e (Aj [w,BS.mk 4 1397178708] l R.er).2.2):=p4
   have s4:=p2.go p4 f4
   generalize Aj [w,BS.mk 4 1397178708] l R.er=i4 at g4 s4 ⊢
   obtain⟨b4,l4,er4⟩:=i4
   simp only[]at g4 s4 ⊢
   refine⟨Z4,?_,s4.p,f2.trans f4 (fun _ _ e=>e)⟩
   unfold RK
   cases b4<;>simp -implicitDefEqProofs only [↓rP,rA,AD,AE,AB,d,↓rd,↓g1,↓g2,↓e3,↓g4]
end
structure zj (Z:H) (nd:AL) (u:V × FV):Prop where
 i:GA Z 3 nd.items.length u.1 (kK nd.items)
 f:GA Z 11 nd.fields.length u.2.1 (TP nd.fields u.2.2)
 g:eH Z nd.fields u.2.2
structure tD (Z:H) (m:Wn) (nv tv dv:V):Prop where
 n:E6 Z 1 m.2.2.1.1.length nv (pY m.2.2.1.1)
 t:GA Z 1 m.2.2.1.2.length tv (nQ m.2.2.1.2)
 d:∃ws:List (V × FV),GA Z 16 m.2.2.2.length dv (Gx m.2.2.2 ws)/\ws.length=m.2.2.2.length/\∀(k:Nat) (nd:AL) (u:V × FV),m.2.2.2[k]? = some nd->ws[k]? = some u->zj Z nd u
def xz (m:Wn) (nv tv dv:V):List V:=[.str (Cj m.1),.int .i64 m.2.1,nv,tv,dv]
@[irreducible] def Ja:C1:=BK 18
def JZ (M:Nat) (s:BS):Except (Nat × Nat) Wn:=match PQ M s with
 | .error e => .error e
 | .ok ts=>match M0 Ja ts (0,0)with
  | (true,m,_) => .ok m
  | (false,_,er) => .error er
def Lv (E:EB) (M:Nat) (F:List V->H->AH):Prop:=∀(Z:H) (s:BS),Ci Z->OW E Z ->
 match JZ M s with
 | .ok m=>∃nv tv dv Z',F [.str s] Z=some (.tup [.agg (xz m nv tv dv),.int .i64 (AA 0),.int .i64 (AA 0)],Z')/\tD Z' m nv tv dv/\(∀b,AS nv b\/AS tv b\/AS dv b->Z.next<=b)/\Fr BQ Z Z'
 | .error e=>∃Z',F [.str s] Z=some (.tup [.agg [.str (BS.mk 0 0),.int .i64 (AA 0),.nils,.nils,.nils],.int .i64 (AA e.1),.int .i64 (AA e.2)],Z')/\Fr BQ Z Z'
section
variable {E:EB} {D:BB} {N:Nat}
theorem kB {T:C1} (hG:dY T) (hP:Fs (D 18)) (hS:Of (D 17)) (hO:Oh (D 15)) (hW:Di (D 16)) (hA:RS T (D 19)) (hN:9002<N):UE T (F8 E D (A2 E D) N):=by
 intro Z pb lv ts l R h htg
 obtain⟨Z1,g1,p1,f1⟩:=hO 1 h.p.p h.p.p.llt
 have g1:D 15 [.ptr pb 0,.int .i64 (AA 1)] Z=some (.tup [.agg (Ca (CF l)),.bool (IL 1 l R.er).1],Z1):=g1
 unfold Ca at g1
 have s1:=h.go p1 f1
 have le1:=Tc 1 l R.er
 have hfew:=h.p.p.few
 show ∃R' Z',Sh E D (A2 E D) (Wo E D (A2 E D) N N) pb 0 Z=_/\_
 unfold M0
 generalize IL 1 l R.er=i1 at g1 p1 s1 le1 ⊢
 obtain⟨b1,l1,er1⟩:=i1
 simp only[]at g1 p1 s1 le1 ⊢
 cases b1 with
 | false=>
  refine⟨R.e er1,Z1,?_,⟨⟨_,_,_,s1.p,fun h=>by cases h⟩,rfl,s1.m,s1.f⟩⟩
  unfold Sh
  simp -implicitDefEqProofs only [↓rP,rA,AD,AE,AB,↓g1]
 | true=>
  simp only[]at ⊢
  obtain⟨Z3,Z4,e3,g4,p4,f4⟩:=Dh hW s1.p.p.p [BS.mk 11 100710650190388740279911748] (by decide)
  have e3:CO Z1 (.cells [.str (BS.mk 11 100710650190388740279911748)])=Z3:=e3
  have g4:D 16 [.ptr pb 0,.sl Z1.next 0 1 (.ex 1)] Z3=some (.bool (Aj [BS.mk 11 100710650190388740279911748] l1 er1).1,Z4):=g4
  have p4:Ps Z4 pb lv ts (Aj [BS.mk 11 100710650190388740279911748] l1 er1).2.1 ((R.e er1).e (Aj [BS.mk 11 100710650190388740279911748] l1 er1).2.2):=p4
  have s4:=s1.trans (s1.p.go p4 f4)
  have le4:=Cm [BS.mk 11 100710650190388740279911748] l1 er1
  generalize Aj [BS.mk 11 100710650190388740279911748] l1 er1=i4 at g4 s4 le4 ⊢
  obtain⟨b4,l4,er4⟩:=i4
  simp only[]at g4 s4 le4 ⊢
  cases b4 with
  | false=>
   refine⟨R.e er4,Z4,?_,⟨⟨_,_,_,s4.p,fun h=>by cases h⟩,rfl,s4.m,s4.f⟩⟩
   unfold Sh
   simp -implicitDefEqProofs only [↓rP,rA,AD,AE,AB,↓g1,↓e3,↓g4]
  | true=>
   simp only[]at ⊢
   have s4p:Pm Z4 pb lv ts l4 (R.e er4) [] ([],[]):=s4.p
   obtain⟨Z5,g5,h5,f5⟩:=s4p.cel (off:=2) (y := .str (Cj (CF l).2.1)) (Cj (CF l).2.1) R.tg ⟨rfl,rfl⟩ (by decide) (fun _=>rfl)
   have h5:Pm Z5 pb lv ts l4 ⟨Cj (CF l).2.1,R.tg,R.nv,R.tv,R.dv,er4⟩ [] ([],[]):=h5
   obtain⟨Z6,e6,f6,a6,n6⟩:=Nx f5.tidy (LL.map .str)
   have h6:Pm Z6 pb lv ts l4 ⟨Cj (CF l).2.1,R.tg,R.nv,R.tv,R.dv,er4⟩ [] ([],[]):=⟨h5.p.fr f6 (fun h=>h) (fun _ _ h=>h) (fun _ _ h=>h) (fun _ _ h=>h.elim),h5.n.fr f6 f5.tidy (fun _ _ h=>h),h5.t.fr f6 f5.tidy (fun _ _ h=>h),h5.nx,h5.tx⟩
   have lp:=h5.p.p.lt
   obtain⟨Z7,g7,h7,f7⟩:=js (E:=E) (K:=Zt E D (A2 E D) N) hS hW LL 0 N h6 rfl (by show 3<N;omega) a6 (by omega)
   have f07:Fr (fun b=>b=pb\/MB R b) Z Z7:=((s4.f.trans f5 (fun _ _ e => .inl e)).trans f6 (fun _ _ h=>h.elim)).trans f7 (fun _ _ e => .inl e)
   have tle:∀(ws:List BS) (i:Nat) (tg:Int) (l:List A4) (er:Er),(Rl ws i tg l er).2.2.1.length<=l.length:=by
    intro ws
    induction ws with
    | nil=>intro i tg l er;exact AG _
    | cons w ws ih=>
     intro i tg l er
     unfold Rl
     cases MY w l with
     | false=>exact ih _ _ _ _
     | true=>exact Cm _ _ _
   have le7:=tle LL 0 0 l4 er4
   rw[htg]at g7 h7
   simp only[]at g7 h7
   generalize Rl LL 0 0 l4 er4=i7 at g7 h7 le7 ⊢
   obtain⟨b7,tg,l7,er7⟩:=i7
   simp only[]at g7 h7 le7 ⊢
   have e6:CO Z5 (.cells [.str (BS.mk 8 6073459554577832005),.str (BS.mk 8 6073459554577829193),.str (BS.mk 9 1241215773001651606849)])=Z6:=e6
   have m7:∀b,MB (⟨Cj (CF l).2.1,tg,R.nv,R.tv,R.dv,er7⟩:Rp) b->MB R b\/Z.next<=b:=fun b hb => .inl hb
   cases b7 with
   | false=>
    have g7':Wo E D (A2 E D) N N pb 0 (.sl Z5.next 0 3 (.ex 3)) (AA 3) (AA 0) Z6=some (.bool false,Z7):=g7
    refine⟨_,Z7,?_,⟨⟨_,_,_,h7,fun h=>by cases h⟩,rfl,m7,f07⟩⟩
    unfold Sh
    simp -implicitDefEqProofs only [↓rP,rA,AD,AE,AB,↓g1,↓e3,↓g4,↓g5,↓e6,↓g7']
   | true=>
    have g7':Wo E D (A2 E D) N N pb 0 (.sl Z5.next 0 3 (.ex 3)) (AA 3) (AA 0) Z6=Zt E D (A2 E D) N pb 0 Z7:=g7
    simp only[]at ⊢
    obtain⟨Z8,Z9,e8,g9,p9,f9⟩:=Dh hW h7.p.p [BS.mk 3 4012602,BS.mk 5 336236856642] (by decide)
    have e8:CO Z7 (.cells [.str (BS.mk 3 4012602),.str (BS.mk 5 336236856642)])=Z8:=e8
    have g9:D 16 [.ptr pb 0,.sl Z7.next 0 2 (.ex 2)] Z8=some (.bool (Aj [BS.mk 3 4012602,BS.mk 5 336236856642] l7 er7).1,Z9):=g9
    have p9:Ps Z9 pb lv ts (Aj [BS.mk 3 4012602,BS.mk 5 336236856642] l7 er7).2.1 ((⟨Cj (CF l).2.1,tg,R.nv,R.tv,R.dv,er7⟩:Rp).e (Aj [BS.mk 3 4012602,BS.mk 5 336236856642] l7 er7).2.2):=p9
    have s9:=h7.go p9 f9
    have le9:=Cm [BS.mk 3 4012602,BS.mk 5 336236856642] l7 er7
    have f09:Fr (fun b=>b=pb\/MB R b) Z Z9:=f07.trans f9 (fun _ _ e => .inl e)
    have lef:=f09.le
    have key:Sh E D (A2 E D) (Wo E D (A2 E D) N N) pb 0 Z=Zt E D (A2 E D) N pb 0 Z7:=by
     unfold Sh
     simp -implicitDefEqProofs only [↓rP,rA,AD,AE,AB,↓g1,↓e3,↓g4,↓g5,↓e6,↓g7']
    rw[key]
    show ∃R' Z',Wj E D (A2 E D) (Zn E D (A2 E D) N N) pb 0 Z7=_/\_
    generalize Aj [BS.mk 3 4012602,BS.mk 5 336236856642] l7 er7=i9 at g9 s9 le9 ⊢
    obtain⟨b9,l9,er9⟩:=i9
    simp only[]at g9 s9 le9 ⊢
    cases b9 with
    | false=>
     refine⟨_,Z9,?_,⟨⟨_,_,_,s9.p,fun h=>by cases h⟩,rfl,m7,f09⟩⟩
     unfold Wj
     simp -implicitDefEqProofs only [↓rP,rA,AD,AE,AB,↓e8,↓g9]
    | true=>
     obtain⟨Rz,Zz,gz,sz⟩:=ka (E:=E) hG hP hO hW hA 9001 N s9.p (by show 0<=40;omega) (by show 0<=40;omega) (by omega) (by omega) rfl
     have ez:ay T l9 er9=Lq T 9001 ([],[]) l9 er9 []:=by unfold ay;rfl
     have er:((⟨Cj (CF l).2.1,tg,R.nv,R.tv,R.dv,er7⟩:Rp).e er9).er=er9:=rfl
     rw[er,<-ez]at gz sz
     simp only[]at ⊢
     generalize ay T l9 er9=iz at gz sz ⊢
     obtain⟨bz,zz,lz,erz,nsz⟩:=iz
     simp only[]at gz sz ⊢
     have fz:Fr (fun b=>b=pb\/MB R b) Z Zz:=f09.trans sz.f (fun b hb e=>e.imp id id)
     have mz:∀b,MB Rz b->MB R b\/Z.next<=b:=fun b hb=>(sz.m b hb).imp id (fun e=>by omega)
     cases bz with
     | false=>
      refine⟨Rz,Zz,?_,⟨⟨_,_,_,sz.p,fun h=>by cases h⟩,sz.er,mz,fz⟩⟩
      unfold Wj
      simp -implicitDefEqProofs only [↓rP,rA,AD,AE,AB,↓e8,↓g9]
      exact gz
     | true=>
      refine⟨Rz,Zz,?_,⟨⟨_,_,_,sz.p,fun _=>⟨sz.nm,sz.tg,rfl,rfl⟩⟩,sz.er,mz,fz⟩⟩
      unfold Wj
      simp -implicitDefEqProofs only [↓rP,rA,AD,AE,AB,↓e8,↓g9]
      exact gz
end
structure bB (r:List Nat) (x:Sg):Prop where
 bd:∀c∈x.2.1,c<256
 ln:x.2.1.length<=r.length
 nm:x.1=1\/x.1=2->x.2.1≠[]
 nu:x.1=3->∃m ds,x.2.1=EC m ds/\(∀d∈ds,Bj d=true)/\ds≠[]/\EL 0 ds<=M2 m
 hx:x.1=4->∀c∈x.2.1,DK c=true
 rs:∀c∈x.2.2,c∈r
theorem LQ:∀(b:Bool) (r:List Nat) (p:List Nat × List Nat),Ik b r=some p->(∀c∈p.1,c∈r\/c=34)/\p.1.length<=r.length/\∀c∈p.2,c∈r
 | false,[],p,h=>(by cases h)
 | true,[],p,h=>by cases h;exact⟨fun c hc=>(by cases hc),AG _,fun c hc=>(by cases hc)⟩
 | false,c::r,p,h=>by
  have h:(match decide (c=34)with | true=>Ik true r | false=>(Ik false r).map fun p:List Nat × List Nat=>(c::p.1,p.2))=some p:=h
  cases hd:decide (c=34)with
  | true=>
   rw[hd]at h
   obtain⟨h1,h2,h3⟩:=LQ true r p h
   exact⟨fun x hx=>(h1 x hx).imp (Ah _) id,HE h2,fun x hx=>Ah _ (h3 x hx)⟩
  | false=>
   rw[hd]at h
   cases hq:Ik false r with
   | none=>rw[hq]at h;cases h
   | some q=>
    rw[hq]at h
    cases h
    obtain⟨h1,h2,h3⟩:=LQ false r q hq
    refine⟨fun x hx=>?_,UI h2,fun x hx=>Ah _ (h3 x hx)⟩
    rcases BF.1 hx with rfl|hx
    ·exact .inl (As ..)
    ·exact(h1 x hx).imp (Ah _) id
 | true,c::r,p,h=>by
  have h:(match decide (c=34)with | true=>(Ik false r).map fun p:List Nat × List Nat=>(34::p.1,p.2) | false=>some ([],c::r))=some p:=h
  cases hd:decide (c=34)with
  | false=>rw[hd]at h;cases h;exact⟨fun c hc=>(by cases hc),CD _,fun x hx=>hx⟩
  | true=>
   rw[hd]at h
   cases hq:Ik false r with
   | none=>rw[hq]at h;cases h
   | some q=>
    rw[hq]at h
    cases h
    obtain⟨h1,h2,h3⟩:=LQ false r q hq
    refine⟨fun x hx=>?_,UI h2,fun x hx=>Ah _ (h3 x hx)⟩
    rcases BF.1 hx with rfl|hx
    ·exact .inr rfl
    ·exact(h1 x hx).imp (Ah _) id
theorem bB.none (r q:List Nat) (h:∀c∈q,c∈r):bB r (0,[],q):=⟨fun c hc=>(by cases hc),CD _,fun e=>(by rcases e with e | e<;>cases e),fun e=>(by cases e),fun e=>(by cases e),h⟩
theorem pU {c:Nat} {r:List Nat} (hb:∀x∈c::r,x<256):bB (c::r) (MW (c::r)):=by
 have eT:MW (c::r)=(if IX c=true then Q7 c r else if(Bj c || (decide (c=45)&&Bj (r.headD 0)))=true then SG (c::r)else if c=39 then Up (c::r)else if c=34 then bQ (c::r)else Vy (c::r)):=rfl
 rw[eT]
 by_cases c1:IX c=true
 ·rw[if_pos c1]
  have h1:YD c r=true:=by unfold YD;rw[c1];rfl
  have h2:1<=LI (c::r):=by unfold LI;rw[h1];exact eI _
  unfold Q7
  cases SC ((c::r).take (LI (c::r)))with
  | true=>exact bB.none _ _ fun x hx=>Bf hx
  | false=>
   refine⟨fun x hx=>hb x (D4 hx),by simp only[Cl];omega,fun _ e=>?_,fun e=>?_,fun e=>?_,fun x hx=>Bf hx⟩
   ·have:=congrArg Ij e
    simp only[Cl,AM,A0]at this
    omega
   ·exfalso
    simp only[]at e
    split at e
    ·omega
    ·split at e<;>omega
   ·exfalso
    simp only[]at e
    split at e
    ·omega
    ·split at e<;>omega
 ·rw[if_neg c1]
  by_cases c2:(Bj c || (decide (c=45)&&Bj (r.headD 0)))=true
  ·rw[if_pos c2]
   obtain⟨q,hq⟩:∃q,q=(if decide (c=45)=true then r else c::r):=⟨_,rfl⟩
   have hqs:∀x∈q,x∈c::r:=by
    rw[hq]
    split
    ·exact fun x hx=>Ah _ hx
    ·exact fun x hx=>hx
   have e:SG (c::r)=(if Jc (decide (c=45)) (q.take (B0 Bj q)) ((q.drop (B0 Bj q)).headD 0)=true then((3,EC (decide (c=45)) (q.take (B0 Bj q)),q.drop (B0 Bj q)):Sg)else(0,[],q.drop (B0 Bj q))):=by rw[hq];rfl
   rw[e]
   by_cases hn:Jc (decide (c=45)) (q.take (B0 Bj q)) ((q.drop (B0 Bj q)).headD 0)=true
   ·rw[if_pos hn]
    have hv:EL 0 (q.take (B0 Bj q))<=M2 (decide (c=45)):=by
     unfold Jc at hn
     rw[AF]at hn
     exact of_decide_eq_true hn.1
    have hne:q.take (B0 Bj q)≠[]:=by
     by_cases h45:c=45
     ·have hq':q=r:=by rw[hq,decide_eq_true h45,if_pos rfl]
      have hd:Bj (r.headD 0)=true:=by
       subst h45
       have:Bj 45=false:=by decide
       rw[this,E1,AF]at c2
       exact c2.2
      rw[hq']
      cases r with
      | nil=>exact absurd hd (by decide)
      | cons d r=>
       rw[FX]
       have hd:Bj d=true:=hd
       rw[hd]
       simp
     ·have hq':q=c::r:=by rw[hq,decide_eq_false h45,if_neg (by decide)]
      rw[decide_eq_false h45,EW,JK]at c2
      rw[hq',FX,c2]
      simp
    have hln:(EC (decide (c=45)) (q.take (B0 Bj q))).length<=(c::r).length:=by
     unfold EC
     have:(q.take (B0 Bj q)).length<=q.length:=by rw[Cl];omega
     by_cases h45:c=45
     ·have hq':q=r:=by rw[hq,decide_eq_true h45,if_pos rfl]
      rw[decide_eq_true h45,if_pos rfl]
      rw[hq']at this ⊢
      simp only[AM];omega
     ·have hq':q=c::r:=by rw[hq,decide_eq_false h45,if_neg (by decide)]
      rw[decide_eq_false h45,if_neg (by decide)]
      rw[hq']at this ⊢
      exact this
    refine⟨fun x hx=>?_,hln,fun e=>(by rcases e with e | e<;>cases e),fun _=>⟨_,_,rfl,LO Bj q,hne,hv⟩,fun e=>(by cases e),fun x hx=>hqs x (Bf hx)⟩
    have hx:x∈EC (decide (c=45)) (q.take (B0 Bj q)):=hx
    unfold EC at hx
    split at hx
    ·rcases BF.1 hx with rfl|hx
     ·omega
     ·exact hb x (hqs x (D4 hx))
    ·exact hb x (hqs x (D4 hx))
   ·rw[if_neg hn]
    exact bB.none _ _ fun x hx=>hqs x (Bf hx)
  ·rw[if_neg c2]
   by_cases c3:c=39
   ·rw[if_pos c3]
    have e:Up (c::r)=(if(decide ((r.take (B0 DK r)).length % 2=0)&&Wf (BS.mk 2 18471) (r.drop (B0 DK r)))=true then((4,r.take (B0 DK r),(r.drop (B0 DK r)).drop 2):Sg)else(0,[],r.drop (B0 DK r))):=rfl
    rw[e]
    split
    ·exact⟨fun x hx=>hb x (Ah _ (D4 hx)),by simp only[Cl,AM];omega,fun e=>(by rcases e with e | e<;>cases e),fun e=>(by cases e),fun _=>LO DK r,fun x hx=>Ah _ (Bf (Bf hx))⟩
    ·exact bB.none _ _ fun x hx=>Ah _ (Bf hx)
   ·rw[if_neg c3]
    by_cases c4:c=34
    ·rw[if_pos c4]
     show bB _ (IU [] r)
     unfold IU
     cases hq:quo r with
     | none=>exact bB.none _ _ fun x hx=>(by cases hx)
     | some p=>
      obtain⟨h1,h2,h3⟩:=LQ false r p hq
      simp only[JI]
      cases C9 p.1 with
      | true=>
       refine⟨fun x hx=>?_,HE h2,fun e=>(by rcases e with e | e<;>cases e),fun e=>(by cases e),fun e=>(by cases e),fun x hx=>Ah _ (h3 x hx)⟩
       rcases h1 x hx with h|h
       ·exact hb x (Ah _ h)
       ·omega
      | false=>exact bB.none _ _ fun x hx=>Ah _ (h3 x hx)
    ·rw[if_neg c4]
     unfold Vy
     cases MG D9 (c::r)with
     | zero=>exact bB.none _ _ fun x hx=>hx
     | succ n=>exact⟨fun x hx=>hb x (D4 hx),by simp only[Cl];omega,fun e=>(by rcases e with e | e<;>cases e),fun e=>(by cases e),fun e=>(by cases e),fun x hx=>Bf hx⟩
theorem M9:∀(n:Nat) (r:List Nat),∀c∈PG n r,c∈r
 | 0,r,c,h=>h
 | n+1,[],c,h=>h
 | n+1,x::r,c,h=>by
  unfold PG at h
  split at h
  ·exact Ah _ (M9 n r c h)
  ·split at h
   ·obtain⟨k,_,hk⟩:=UW (r.drop 1)
    have:=M9 n _ c h
    rw[hk]at this
    exact Ah _ (Bf (Bf this))
   ·exact h
structure TkQ (len:Nat) (t:A4):Prop where
 bd:∀c∈t.2.1,c<256
 ln:t.2.1.length<=len
 nm:t.1=1\/t.1=2->t.2.1≠[]
 nu:t.1=3->∃m ds,t.2.1=EC m ds/\(∀d∈ds,Bj d=true)/\ds≠[]/\EL 0 ds<=M2 m
 hx:t.1=4->∀c∈t.2.1,DK c=true
 at_:t.2.2<=len
theorem YN {M len:Nat}:∀(k:Nat) (r:List Nat) (ts:List A4),r.length<=len->(∀c∈r,c<256)->Lb M len k r = .ok ts->∀t∈ts,TkQ len t
 | 0,r,ts,_,_,h=>(by cases h)
 | k+1,[],ts,_,_,h=>by
  cases h
  intro t ht
  rw[Cc]at ht
  subst ht
  exact⟨fun c hc=>(by cases hc),CD _,fun e=>(by rcases e with e | e<;>cases e),fun e=>(by cases e),fun e=>(by cases e),AG _⟩
 | k+1,c::r,ts,hl,hb,h=>by
  have hp:=pU hb
  have hr:∀x∈PG M (MW (c::r)).2.2,x<256:=fun x hx=>hb x (hp.rs x (M9 M _ x hx))
  unfold Lb at h
  cases hk:(MW (c::r)).1 with
  | zero=>rw[hk]at h;cases h
  | succ kd=>
   have hlt:=XU (c:=c) (r:=r) (by omega)
   have hw:=MD M (MW (c::r)).2.2
   rw[hk]at h
   cases hq:Lb M len k (PG M (MW (c::r)).2.2)with
   | error e=>simp only[hq]at h;cases h
   | ok ts'=>
    simp only[hq]at h
    cases h
    intro t ht
    rcases BF.1 ht with rfl|ht
    ·rw[<-hk]
     exact⟨hp.bd,AN hp.ln hl,hp.nm,hp.nu,hp.hx,Nat.sub_le _ _⟩
    ·exact YN k _ ts' (by omega) hr hq t ht
theorem Wi.fin_ {len:Nat} {ts:List A4} (h:Wi len ts):∃p e,ts=p++[e]/\e.1=0/\∀t∈p,t.1≠0:=by
 induction h with
 | fin=>exact⟨[],_,rfl,rfl,fun t ht=>(by cases ht)⟩
 | @cons t ts h0 _ ih=>
  obtain⟨p,e,rfl,h1,h2⟩:=ih
  exact⟨t::p,e,rfl,h1,fun x hx=>by
   rcases BF.1 hx with rfl|hx
   ·exact h0
   ·exact h2 x hx⟩
theorem Uj {M:Nat} {s:BS} {ts:List A4} (h:PQ M s = .ok ts):TsX ts/\∀t∈ts,TkQ 8000 t:=by
 unfold PQ at h
 cases hd:decide (8000<s.len)with
 | true=>rw[hd]at h;cases h
 | false=>
  rw[hd]at h
  have hs:s.len<=8000:=by have:=of_decide_eq_false hd;omega
  cases hl:Lb M s.len (s.len+1) (PG M s.nats)with
  | error e=>simp only[hl]at h;cases h
  | ok ts'=>
   simp only[hl]at h
   cases h
   obtain⟨h1,h2⟩:=Uk _ _ _ hl
   have hn:s.nats.length=s.len:=BS.length_nats s
   have hq:=YN _ _ _ (by have:=MD M s.nats;omega) (fun c hc=>s.nats_lt c (M9 M _ c hc)) hl
   refine⟨⟨by omega,h1.fin_,fun t ht hk=>(hq t ht).nu hk,fun t ht=>by have:=(hq t ht).at_;omega,fun t ht=>⟨by have:=(hq t ht).ln;omega,(hq t ht).bd⟩,fun t ht hk=>(hq t ht).hx hk⟩,fun t ht=>?_⟩
   have:=hq t ht
   exact⟨this.bd,by have:=this.ln;omega,this.nm,this.nu,this.hx,by have:=this.at_;omega⟩
theorem SK {M:Nat} {s:BS} {e:Nat × Nat} (h:PQ M s = .error e):e.2≠0:=by
 unfold PQ at h
 cases hd:decide (8000<s.len)with
 | true=>rw[hd]at h;cases h;decide
 | false=>
  rw[hd]at h
  cases hl:Lb M s.len (s.len+1) (PG M s.nats)with
  | error e=>
   simp only[hl]at h
   cases h
   show (6:Nat)≠0
   decide
  | ok ts'=>simp only[hl]at h;cases h
theorem fM {u a:V} (h:u.one=true) (J:List V->AH):Lk [(0,1,u)] [.nils,a] J=J [u,a]:=by
 obtain⟨lv,o⟩:=Gc h
 unfold Lk Hq
 rw[o]
 simp only[B8,CS,h,Be,AM,A0,B2,EU,lv]
 rfl
def R0:Rp:=⟨BS.mk 0 0,AA 0,.nils,.nils,.nils,(0,0)⟩
def zM:List V:=[.str (BS.mk 0 0),.int .i64 (AA 0),.nils,.nils,.nils]
section
variable {E:EB} {D:BB} {N M:Nat}
theorem br {Z:H} {rb pb a:Nat} {lv:V} {R:Rp} (ht:Ci Z) (ha:DZ Z pb (Pq lv a R)) (hr:DZ Z rb zM) (ne:rb≠pb) :
  ∃e' Z',A2 E D Wq aE [(2,.ptr rb 0),(8,.ptr pb 0)] Z=some (e',Z')/\Go.Og.look e' 2=some (.ptr rb 0)/\Go.Og.look e' 3=some (.int .i64 (AA R.er.1))/\Go.Og.look e' 4=some (.int .i64 (AA R.er.2))/\DZ Z' rb zM/\Fr (fun k=>k=rb) Z Z':=by
 have fw:Fr BQ Z ⟨Z.next+12,Z.bl⟩:=(Du (E:=E) (n:=12) (S:=BQ) ht).fr
 have lr:=hr.lt ht
 obtain⟨Z3,g3,f3,c3⟩:=ID (E:=E) (D:=D) (n:=5) (x := .tmp 2) (y := .tmp 27) (e:=[(2,.ptr rb 0),(27,.agg zM)]) fw.tidy (fw.at_ hr ht (fun h=>h)) rfl rfl rfl
 have go:He E D Z 12 0 (fun k=>k=rb) Wq aE ⟨[(2,.ptr rb 0),(8,.ptr pb 0)],Z.next+12,[Z.bl],[],0,[]⟩ _ Z3:=
  HU (.agg zM) rfl rfl <|
  HU (.ptr pb 0) rfl rfl <|
  HU (.ptr pb 0) rfl rfl <|
  HU (.ptr pb 7) rfl rfl <|
  Tn (.int .i64 (AA R.er.1)) (Du ht) rfl (G6 (b:=pb) (off:=7) rfl ha rfl ht (fun e=>ne e.symm) (C8 _ rfl)) fun _ r1=>
  HU (.ptr pb 0) rfl rfl <|
  HU (.ptr pb 0) rfl rfl <|
  HU (.ptr pb 8) rfl rfl <|
  Tn (.int .i64 (AA R.er.2)) r1 rfl (G6 (b:=pb) (off:=8) rfl ha rfl ht (fun e=>ne e.symm) (C8 _ rfl)) fun _ r2=>
  SO .dead r2 rfl (by decide) (S':=fun k=>k=rb) f3 (fun _ _ h=>h) (fun b h h1 _=>by omega) g3 fun _ _ _ r3=>
  HU (.int .i64 (AA R.er.1)) rfl rfl <|
  HU (.int .i64 (AA R.er.2)) rfl rfl <|
  OA r3
 obtain⟨d1,d2⟩:=Ld (ops:=Wq) go
 exact⟨_,Z3,d1,rfl,rfl,rfl,c3,d2⟩
theorem yB {Z:H} {b:Nat} {x y z u w:V} (h:DZ Z b [x,y,z,u,w]) (J:List V->AH):DB E Z b 0 5 J=J [x,y,z,u,w]:=by
 rw[Ho h];rfl
theorem X2 (hL:Zd E M (D 7)) (hM:UE Ja (D 8)):Lv E M (F5 E D (A2 E D) N):=by
 intro Z s ht hu
 obtain⟨Z0,e0,f0,a0,n0⟩:=Nx ht zM
 have u0:OW E Z0:=hu.fr f0 (fun _ h=>h.elim)
 have hl:=hL Z0 s f0.tidy u0
 have hlr:=@Uj M s
 have hle:=@SK M s
 unfold zM at e0 a0
 unfold JZ
 cases hx:PQ M s with
 | error e=>
  rw[hx]at hl
  obtain⟨Z1,g1,f1⟩:=hl
  have he:=hle hx
  have d1:decide (e.2=0)=false:=decide_eq_false he
  have a1:=f1.at_ a0 f0.tidy (fun h=>h)
  have le1:=f1.le
  obtain⟨Z2,g2,a2,f2⟩:=MX (n:=5) (o:=0) (v := .agg zM) (l':=zM) f1.tidy a1 rfl rfl
  unfold zM at g2 a2
  have l2:=yB (E:=E) a2
  show ∃Z',UA E D (A2 E D) s Z=_/\_
  refine⟨Z2,?_,(f0.trans f1 (fun _ _ h=>h)).trans f2 (fun b hb e=>by omega)⟩
  unfold UA
  simp -implicitDefEqProofs only [↓rP,rA,AD,AE,AB,↓e0,↓g1,d1,↓g2,↓l2]
 | ok ts=>
  rw[hx]at hl
  obtain⟨v,Z1,g1,dv1,nv1,f1⟩:=hl
  obtain⟨hts,_⟩:=hlr hx
  have le1:=f1.le
  have vl:∀b,AS v b->b<Z1.next:=fun b hb=>dv1.lt f1.tidy hb
  obtain⟨Z2,e2,f2,a2,n2⟩:=Nx f1.tidy (Pq v 0 R0)
  have vo:v.one=true:=dv1.one
  have fl:=fM (a := .int .i64 (AA 0)) dv1.one
  have ao:BJ [v,.int .i64 (AA 0),.str (BS.mk 0 0),.int .i64 (AA 0),.nils,.nils,.nils,.int .i64 (AA 0),.int .i64 (AA 0)]=true:=by
   simp only[B8,CS,G5,Hn,HR,dv1.one,Be]
  have hp:Pm Z2 Z1.next v ts ts R0 [] ([],[]):=by
   refine⟨⟨⟨⟨0,a2,rfl⟩,dv1.src.fr f2 f1.tidy (fun _ _ h=>h),?_,fun b hb=>by have:=vl b hb;omega,hts,f2.tidy⟩,⟨[],E6.nil _ _,rfl,fun k nd u hn=>by cases hn⟩,fun b h=>h.elim⟩,E6.nil _ _,E6.nil _ _,fun b h=>h.elim,fun b h=>h.elim⟩
   obtain⟨p,e,rfl,_⟩:=hts.fin
   simp
  obtain⟨R',Z3,g3,s3⟩:=hM hp rfl
  have er0:R0.er=(0,0):=rfl
  rw[er0]at g3 s3
  have nm0:∀b,¬MB R0 b:=fun b h=>by rcases h with h | h | h<;>exact h.elim
  have a3:DZ Z3 Z.next [.str (BS.mk 0 0),.int .i64 (AA 0),.nils,.nils,.nils]:=s3.f.at_ (f2.at_ (f1.at_ a0 f0.tidy (fun h=>h)) f1.tidy (fun h=>h)) f2.tidy (fun e=>e.elim (by omega) (nm0 _))
  have f03:Fr BQ Z Z3:=((f0.trans f1 (fun _ _ h=>h)).trans f2 (fun _ _ h=>h)).trans s3.f (fun b hb e=>e.elim (by omega) (nm0 _))
  unfold Pq R0 at e2
  simp only[]at e2
  have e2:CO Z1 (.cells [v,.int .i64 (AA 0),.str (BS.mk 0 0),.int .i64 (AA 0),.nils,.nils,.nils,.int .i64 (AA 0),.int .i64 (AA 0)])=Z2:=e2
  have le3:=s3.f.le
  simp only[]at ⊢
  generalize M0 Ja ts (0,0)=r at g3 s3 ⊢
  obtain⟨b3,m,er⟩:=r
  obtain⟨⟨l',ns',z',hq,hqe⟩,her,hmm,hf⟩:=s3
  obtain⟨a,ha,_⟩:=hq.p.p.ex
  cases b3 with
  | false=>
   obtain⟨e',Z4,g4,t2,t3,t4,a4,f4⟩:=br (E:=E) (D:=D) hq.p.p.ht ha a3 (by omega)
   have her:R'.er=er:=her
   rw[her]at t3 t4
   unfold zM at a4
   have l4:=yB (E:=E) a4
   show ∃Z',UA E D (A2 E D) s Z=_/\_
   refine⟨Z4,?_,f03.trans f4 (fun b hb e=>by omega)⟩
   have gd:∀J:Bt->H->AH,Ee (A2 E D Wq aE [(2,.ptr Z.next 0),(8,.ptr Z1.next 0)] Z3) J=J e' Z4:=fun J=>by rw[g4];rfl
   have m2:∀J:V->AH,E0 e' 2 J=J (.ptr Z.next 0):=fun J=>Ez t2 rfl
   have m3:∀J:V->AH,E0 e' 3 J=J (.int .i64 (AA er.1)):=fun J=>Ez t3 rfl
   have m4:∀J:V->AH,E0 e' 4 J=J (.int .i64 (AA er.2)):=fun J=>Ez t4 rfl
   unfold UA PO
   simp -implicitDefEqProofs only [↓rP,rA,AD,AE,AB,↓e0,↓g1,↓fl,ao,↓e2,↓g3,↓gd,↓m2,↓m3,↓m4,↓l4,vo]
  | true=>
   obtain⟨q1,q2,rfl,rfl⟩:=hqe rfl
   simp only[]at q1 q2
   have no:=hq.n.one
   have to:=hq.t.one
   have dn:∃ws:List (V × FV),E6 Z3 16 m.2.2.2.length R'.dv (Gx m.2.2.2 ws)/\ws.length=m.2.2.2.length/\∀(k:Nat) (nd:AL) (u:V × FV),m.2.2.2[k]? = some nd->ws[k]? = some u->dz Z3 Z1.next R'.dv (fun b=>(AS R'.nv b\/AS R'.tv b)\/b<Z1.next) nd u:=hq.p.w
   obtain⟨ws,k1,k2,k3⟩:=dn
   have do_:=k1.one
   obtain⟨Z4,g4,a4,f4⟩:=MX (n:=5) (o:=0) (v := .agg [.str R'.nm,.int .i64 R'.tg,R'.nv,R'.tv,R'.dv]) (l':=[.str R'.nm,.int .i64 R'.tg,R'.nv,R'.tv,R'.dv]) hq.p.p.ht a3 (by
    show (Ag 5 5&&Ab (AU 0 5) 5&&BJ [.str R'.nm,.int .i64 R'.tg,R'.nv,R'.tv,R'.dv])=true
    simp only[B8,CS,G5,Hn,no,to,do_,Be];rfl) rfl
   have l4:=yB (E:=E) a4
   have big:∀b,MB R' b->Z2.next<=b:=fun b hb=>(hmm b hb).elim (fun e=>(nm0 b e).elim) id
   have l3:∀J:List V->AH,DB E Z3 Z1.next 2 5 J=J [.str R'.nm,.int .i64 R'.tg,R'.nv,R'.tv,R'.dv]:=fun J=>by
    rw[Ho ha];rfl
   show ∃nv tv dv Z',UA E D (A2 E D) s Z=_/\_
   refine⟨R'.nv,R'.tv,R'.dv,Z4,?_,⟨hq.n.fr f4 hq.p.p.ht (fun b hb e=>by have:=big b (.inr (.inl hb));omega),hq.t.src.fr f4 hq.p.p.ht (fun b hb e=>by have:=big b (.inr (.inr hb));omega),⟨ws,k1.src.fr f4 hq.p.p.ht (fun b hb e=>by have:=big b (.inl hb);omega),k2,fun k nd u hn hw=>?_⟩⟩,fun b hb=>?_,f03.trans f4 (fun b hb e=>by omega)⟩
   ·unfold UA PO xz
    rw[<-q1,<-q2]
    simp -implicitDefEqProofs only [↓rP,rA,AD,AE,AB,↓e0,↓g1,↓fl,ao,↓e2,↓g3,↓l3,↓g4,↓l4,vo]
   ·have hN:=k3 k nd u hn hw
    have hM:=hN.fr f4 hq.p.p.ht fun b hb e=>(hN.n b hb).2.2 (.inr (by omega))
    exact⟨hM.i,hM.f,hM.g⟩
   ·rcases hb with hb|hb|hb
    ·have:=big b (.inr (.inl hb));omega
    ·have:=big b (.inr (.inr hb));omega
    ·have:=big b (.inl hb);omega
end
theorem Ko (l:List A4):JE l <:+ l:=by
 unfold JE
 split
 ·exact List.suffix_cons _ _
 ·exact CI _
theorem Db (s:BS) (l:List A4):(CE s l).2 <:+ l:=by
 unfold CE
 cases MY s l with
 | true=>exact Ko l
 | false=>exact CI _
theorem C6:∀(ss:List BS) (l:List A4) (er:Er),(Aj ss l er).2.1 <:+ l
 | [],l,er=>CI _
 | s::ss,l,er=>by
  unfold Aj
  cases MY s l with
  | true=>exact List.IsSuffix.trans (C6 ss _ er) (Ko l)
  | false=>exact CI _
theorem PY (b:Bool) (ss:List BS) (l:List A4) (er:Er):(Fh b ss l er).2.1 <:+ l:=by
 cases b with
 | true=>exact C6 ss l er
 | false=>exact CI _
theorem Tb (k:Nat) (l:List A4) (er:Er):(IL k l er).2.1 <:+ l:=by
 unfold IL
 cases decide ((CF l).1=k)with
 | true=>exact Ko l
 | false=>exact CI _
theorem LU (l:List A4) (er:Er):(Ed l er).2.2.1 <:+ l:=by
 unfold Ed
 cases decide ((CF l).1=3)with
 | true=>exact Ko l
 | false=>exact CI _
theorem YV (l:List A4) (er:Er):(ED l er).2.2.1 <:+ l:=by
 unfold ED
 have h1:=Tb 2 l er
 generalize IL 2 l er=i1 at h1 ⊢
 obtain⟨b1,l1,er1⟩:=i1
 cases b1 with
 | false=>exact h1
 | true=>
  have h2:=Db (BS.mk 1 40) l1
  simp only[]at h1 ⊢
  generalize CE (BS.mk 1 40) l1=i2 at h2 ⊢
  obtain⟨b2,l2⟩:=i2
  cases b2 with
  | false=>exact h2.trans h1
  | true=>
   have h3:=LU l2 er1
   simp only[]at h2 ⊢
   generalize Ed l2 er1=i3 at h3 ⊢
   obtain⟨b3,n,l3,er3⟩:=i3
   exact(PY b3 [BS.mk 1 41] l3 er3).trans (h3.trans (h2.trans h1))
theorem bJ (l:List A4) (er:Er):(JN l er).2.2.1 <:+ l:=by
 unfold JN
 have h1:=Db (BS.mk 4 1163219540) l
 generalize CE (BS.mk 4 1163219540) l=i1 at h1 ⊢
 obtain⟨b1,l1⟩:=i1
 cases b1 with
 | true=>exact h1
 | false=>
  have h2:=Db (BS.mk 5 297750249798) l1
  simp only[]at h1 ⊢
  generalize CE (BS.mk 5 297750249798) l1=i2 at h2 ⊢
  obtain⟨b2,l2⟩:=i2
  cases b2 with
  | true=>exact h2.trans h1
  | false=>
   have h3:=Db (BS.mk 4 1280070990) l2
   simp only[]at h2 ⊢
   generalize CE (BS.mk 4 1280070990) l2=i3 at h3 ⊢
   obtain⟨b3,l3⟩:=i3
   have h123:=h3.trans (h2.trans h1)
   cases b3 with
   | true=>exact h123
   | false=>
    have h4:=(LU l3 er).trans h123
    have hn:=(Ko l3).trans h123
    simp only[]at h123 ⊢
    generalize Ed l3 er=i4 at h4 ⊢
    obtain⟨b4,n,l4,er4⟩:=i4
    cases decide ((CF l).1=3)with
    | true=>exact h4
    | false=>cases decide ((CF l).1=2)with
     | true=>exact hn
     | false=>cases decide ((CF l).1=7)with
      | true=>exact hn
      | false=>cases decide ((CF l).1=4)with
       | true=>exact hn
       | false=>exact h123
theorem ca (nd:AL) (w:List Nat) (g i:Nat) (l:List A4) (er:Er):(Ks nd w g i l er).2.2.1 <:+ l:=by
 unfold Ks
 cases decide (nd.kind=9)with
 | true=>exact CI _
 | false=>
  have h1:=Db (BS.mk 8 5494759122808361039) l
  simp only[]at ⊢
  generalize CE (BS.mk 8 5494759122808361039) l=i1 at h1 ⊢
  obtain⟨b1,l1⟩:=i1
  cases b1 with
  | true=>exact h1
  | false=>
   have h2:=Db (BS.mk 7 23727827094750532) l1
   simp only[]at h1 ⊢
   generalize CE (BS.mk 7 23727827094750532) l1=i2 at h2 ⊢
   obtain⟨b2,l2⟩:=i2
   cases b2 with
   | false=>exact h2.trans h1
   | true=>exact(bJ l2 er).trans (h2.trans h1)
theorem cI (c:Fw) (l:List A4) (er:Er):(Je c l er).2.2.1 <:+ l:=by
 unfold Je
 have h1:=Db (BS.mk 3 5130573) l
 generalize CE (BS.mk 3 5130573) l=i1 at h1 ⊢
 obtain⟨b1,l1⟩:=i1
 cases b1 with
 | true=>exact h1
 | false=>
  have h2:=LU l1 er
  simp only[]at h1 ⊢
  generalize Ed l1 er=i2 at h2 ⊢
  obtain⟨b2,n,l2,er2⟩:=i2
  cases b2<;>exact List.IsSuffix.trans h2 h1
theorem YZ (c:Fw) (l:List A4) (er:Er):(Gi c l er).2.2.1 <:+ l:=by
 unfold Gi
 have h1:=Db (BS.mk 2 11822) l
 generalize CE (BS.mk 2 11822) l=i1 at h1 ⊢
 obtain⟨b1,l1⟩:=i1
 cases b1 with
 | false=>exact h1
 | true=>
  have h2:=Db (BS.mk 3 5783885) l1
  simp only[]at h1 ⊢
  generalize CE (BS.mk 3 5783885) l1=i2 at h2 ⊢
  obtain⟨b2,l2⟩:=i2
  cases b2 with
  | true=>exact List.IsSuffix.trans h2 h1
  | false=>
   have h3:=LU l2 er
   simp only[]at h2 ⊢
   generalize Ed l2 er=i3 at h3 ⊢
   obtain⟨b3,n,l3,er3⟩:=i3
   cases b3<;>exact List.IsSuffix.trans h3 (List.IsSuffix.trans h2 h1)
theorem Yq (c:Fw) (l:List A4) (er:Er):(IY c l er).2.2.1 <:+ l:=by
 unfold IY
 have h1:=Db (BS.mk 1 44) l
 generalize CE (BS.mk 1 44) l=i1 at h1 ⊢
 obtain⟨b1,l1⟩:=i1
 cases b1 with
 | false=>exact h1
 | true=>exact List.IsSuffix.trans (C6 [BS.mk 3 3026478] l1 er) h1
theorem ON (c:Fw) (l:List A4) (er:Er):(Ce c l er).2.2.1 <:+ l:=by
 unfold Ce
 have h1:=cI ⟨true,c.hasLow,c.hasHigh,c.more,c.low,c.high⟩ l er
 generalize Je ⟨true,c.hasLow,c.hasHigh,c.more,c.low,c.high⟩ l er=i1 at h1 ⊢
 obtain⟨b1,c1,l1,er1⟩:=i1
 cases b1 with
 | false=>exact h1
 | true=>
  have h2:=YZ c1 l1 er1
  simp only[]at h1 ⊢
  generalize Gi c1 l1 er1=i2 at h2 ⊢
  obtain⟨b2,c2,l2,er2⟩:=i2
  cases b2 with
  | false=>exact List.IsSuffix.trans h2 h1
  | true=>exact List.IsSuffix.trans (Yq c2 l2 er2) (List.IsSuffix.trans h2 h1)
theorem Nj (c:Fw) (l:List A4) (er:Er):(Da c l er).2.2.1 <:+ l:=by
 unfold Da
 have h1:=Db (BS.mk 1 40) l
 generalize CE (BS.mk 1 40) l=i1 at h1 ⊢
 obtain⟨b1,l1⟩:=i1
 cases b1 with
 | false=>exact h1
 | true=>
  have h2:=C6 [BS.mk 4 1163544915,BS.mk 1 40] l1 er
  simp only[]at h1 ⊢
  generalize Aj [BS.mk 4 1163544915,BS.mk 1 40] l1 er=i2 at h2 ⊢
  obtain⟨b2,l2,er2⟩:=i2
  cases b2 with
  | false=>exact List.IsSuffix.trans h2 h1
  | true=>
   have h3:=ON c l2 er2
   simp only[]at h2 ⊢
   generalize Ce c l2 er2=i3 at h3 ⊢
   obtain⟨b3,c3,l3,er3⟩:=i3
   cases b3 with
   | false=>exact List.IsSuffix.trans h3 (List.IsSuffix.trans h2 h1)
   | true=>exact List.IsSuffix.trans (C6 [BS.mk 1 41,BS.mk 1 41] l3 er3) (List.IsSuffix.trans h3 (List.IsSuffix.trans h2 h1))
theorem YG (l:List A4) (er:Er):(Fp l er).2.2.1 <:+ l:=by
 unfold Fp
 have h1:=Db (BS.mk 1 91) l
 generalize CE (BS.mk 1 91) l=i1 at h1 ⊢
 obtain⟨b1,l1⟩:=i1
 cases b1 with
 | false=>exact h1
 | true=>
  have h2:=LU l1 er
  simp only[]at h1 ⊢
  generalize Ed l1 er=i2 at h2 ⊢
  obtain⟨b2,n,l2,er2⟩:=i2
  have h12:=List.IsSuffix.trans h2 h1
  cases b2 with
  | false=>exact h12
  | true=>
   simp only[]at h12 ⊢
   cases (Dt n (AA 0) || Dt (AA 268435456) n)with
   | true=>exact h12
   | false=>
    have h3:=C6 [BS.mk 1 93] l2 er2
    simp only[]at ⊢
    generalize Aj [BS.mk 1 93] l2 er2=i3 at h3 ⊢
    obtain⟨b3,l3,er3⟩:=i3
    have h13:=List.IsSuffix.trans h3 h12
    cases b3 with
    | false=>exact h13
    | true=>
     have h4:=Db (BS.mk 8 6073459554577832005) l3
     simp only[]at h13 ⊢
     generalize CE (BS.mk 8 6073459554577832005) l3=i4 at h4 ⊢
     obtain⟨b4,l4⟩:=i4
     have h14:=List.IsSuffix.trans h4 h13
     cases b4 with
     | true=>exact h14
     | false=>
      have h5:=Db (BS.mk 8 6073459554577829193) l4
      simp only[]at h14 ⊢
      generalize CE (BS.mk 8 6073459554577829193) l4=i5 at h5 ⊢
      obtain⟨b5,l5⟩:=i5
      have h15:=List.IsSuffix.trans h5 h14
      cases b5<;>exact h15
theorem P1:∀(n:Nat) (s:IS) (l:List A4) (er:Er),(E8 n s l er).2.2.1 <:+ l
 | 0,s,l,er=>CI _
 | n+1,s,l,er=>by
  have h1:(Eh s l er).2.2.1 <:+ l:=by
   have it:∀l0:List A4,l0 <:+ l->(match ED l0 er with | (false,_,l2,er2)=>(false,s,l2,er2) | (true,x,l2,er2)=>(true,(s.1++[x],s.2.1,s.2.2),l2,er2):Bool × IS × List A4 × Er).2.2.1 <:+ l:=by
    intro l0 h0
    have h1:=YV l0 er
    generalize ED l0 er=i1 at h1 ⊢
    obtain⟨b1,x,l1,er1⟩:=i1
    cases b1<;>exact List.IsSuffix.trans h1 h0
   unfold Eh
   cases decide (0<s.1.length) && !s.2.1 with
   | false=>exact it l (CI _)
   | true=>
    have h0:=Db (BS.mk 3 3026478) l
    simp only[]at ⊢
    generalize CE (BS.mk 3 3026478) l=i0 at h0 ⊢
    obtain⟨b0,l0⟩:=i0
    cases b0 with
    | true=>exact h0
    | false=>exact it l0 h0
  unfold E8
  generalize Eh s l er=i1 at h1 ⊢
  obtain⟨b1,s1,l1,er1⟩:=i1
  cases b1 with
  | false=>exact h1
  | true=>
   have h2:=Db (BS.mk 1 44) l1
   simp only[]at h1 ⊢
   generalize CE (BS.mk 1 44) l1=i2 at h2 ⊢
   obtain⟨b2,l2⟩:=i2
   cases b2 with
   | true=>exact List.IsSuffix.trans (P1 n s1 l2 er1) (List.IsSuffix.trans h2 h1)
   | false=>exact List.IsSuffix.trans (C6 [BS.mk 1 125] l2 er1) (List.IsSuffix.trans h2 h1)
theorem V7 (s:IS) (l:List A4) (er:Er):(E7 s l er).2.2.1 <:+ l:=by
 unfold E7
 have h1:=C6 [BS.mk 1 123] l er
 generalize Aj [BS.mk 1 123] l er=i1 at h1 ⊢
 obtain⟨b1,l1,er1⟩:=i1
 cases b1 with
 | false=>exact h1
 | true=>exact List.IsSuffix.trans (P1 9001 s l1 er1) h1
theorem XK:∀(w:List (BS × Nat)) (l:List A4),(LH w l).2 <:+ l
 | [],l=>CI _
 | (s,k)::r,l=>by
  unfold LH
  have h1:=Db s l
  generalize CE s l=i1 at h1 ⊢
  obtain⟨b1,l1⟩:=i1
  cases b1 with
  | true=>exact h1
  | false=>exact List.IsSuffix.trans (XK r l1) h1
def TR (l:List A4):Prop:=∀t∈l,(t.1=1\/t.1=2)->t.2.1≠[]
theorem TR.sf {l l':List A4} (h:TR l) (s:l' <:+ l):TR l':=fun t ht=>h t (s.subset ht)
theorem TR.hd {l:List A4} (h:TR l) (hk:(CF l).1=1\/(CF l).1=2):(CF l).2.1≠[]:=by
 cases l with
 | nil=>rcases hk with h | h<;>cases h
 | cons t l=>exact h t (As ..) hk
structure Oq (i n:Nat) (fs:List CT):Prop where
 a:∀(k:Nat) (f:CT),fs[k]? = some f->i<f.type/\f.type<n/\f.name≠[]
 b:∀(k:Nat) (f g:CT),fs[k]? = some f->fs[k+1]? = some g->f.type<g.type
structure iA (i n:Nat) (nd:AL):Prop where
 k1:1<=nd.kind
 k2:nd.kind<=11
 rt:nd.root<=max nd.fields.length nd.items.length
 nm:nd.kind=11↔nd.name≠[]
 fl:Oq i n nd.fields
 gr:∀(k:Nat) (f:CT),nd.fields[k]? = some f->0<f.group->nd.root<=k
 of:nd.kind=10->i<nd.of_/\nd.of_<n
theorem Oq.nil (i n:Nat):Oq i n []:=⟨fun k f h=>(by cases h),fun k f g h=>(by cases h)⟩
theorem Oq.mono {i n n':Nat} {fs:List CT} (h:Oq i n fs) (hn:n<=n'):Oq i n' fs:=⟨fun k f hf=>⟨(h.a k f hf).1,Cz (h.a k f hf).2.1 hn,(h.a k f hf).2.2⟩,h.b⟩
theorem iA.mono {i n n':Nat} {nd:AL} (h:iA i n nd) (hn:n<=n'):iA i n' nd:=⟨h.k1,h.k2,h.rt,h.nm,h.fl.mono hn,h.gr,fun e=>⟨(h.of e).1,Cz (h.of e).2 hn⟩⟩
theorem Oq.snoc {i n n':Nat} {fs:List CT} {f:CT} (h:Oq i n fs) (hi:i<n) (hn:n<n') (ht:f.type=n) (hw:f.name≠[]):Oq i n' (fs++[f]):=by
 refine⟨fun k g hg=>?_,fun k g g' hg hg'=>?_⟩
 ·rcases Ad k fs.length with hk|hk
  ·rw[Ay hk]at hg
   exact(h.mono (Nat.le_of_lt hn)).a k g hg
  ·rw[BX hk]at hg
   obtain⟨j,hj⟩:∃j,k-fs.length=j:=⟨_,rfl⟩
   rw[hj]at hg
   cases j with
   | succ j=>simp at hg
   | zero=>cases hg;exact⟨by omega,by omega,hw⟩
 ·rcases Ad (k+1) fs.length with hk|hk
  ·rw[Ay (by omega)]at hg
   rw[Ay hk]at hg'
   exact h.b k g g' hg hg'
  ·rw[BX hk]at hg'
   obtain⟨j,hj⟩:∃j,k+1-fs.length=j:=⟨_,rfl⟩
   rw[hj]at hg'
   cases j with
   | succ j=>simp at hg'
   | zero=>
    cases hg'
    rw[Ay (by omega)]at hg
    have:=(h.a k g hg).2.1
    omega
def Ex (ns ns':List AL):Prop:=∃ext,ns'=ns++ext/\ns'.length<=300/\∀(k:Nat) (nd:AL),ext[k]? = some nd->iA (ns.length+k) ns'.length nd
theorem Ex.refl {ns:List AL} (h:ns.length<=300):Ex ns ns:=⟨[],by simp,h,fun k nd hn=>(by cases hn)⟩
theorem Ex.le {ns ns':List AL} (h:Ex ns ns'):ns.length<=ns'.length:=by
 obtain⟨e,rfl,_⟩:=h
 rw[Aw];omega
theorem Ex.big {ns ns':List AL} (h:Ex ns ns'):ns'.length<=300:=by
 obtain⟨e,_,h,_⟩:=h
 exact h
theorem Ex.trans {ns ns1 ns2:List AL} (h:Ex ns ns1) (k:Ex ns1 ns2):Ex ns ns2:=by
 have hle:=k.le
 obtain⟨e1,rfl,h1,h2⟩:=h
 obtain⟨e2,rfl,k1,k2⟩:=k
 refine⟨e1++e2,by rw[DD],k1,fun j nd hn=>?_⟩
 rcases Ad j e1.length with hj|hj
 ·rw[Ay hj]at hn
  exact(h2 j nd hn).mono hle
 ·rw[BX hj]at hn
  have:=k2 _ nd hn
  rw[Aw,show ns.length+e1.length+(j-e1.length)=ns.length+j by omega]at this
  exact this
def TG (T:C1):Prop:=∀d l er ns i l' er' ns',TR l->ns.length<=300->T.go d l er ns=(true,i,l',er',ns')->i=ns.length/\l' <:+ l/\Ex ns ns'/\ns.length<ns'.length
theorem kP {nd:AL} {w:List Nat} {g i:Nat} {l:List A4} {er:Er}:(Ks nd w g i l er).2.1.name=w/\(Ks nd w g i l er).2.1.type=i/\(Ks nd w g i l er).2.1.group=g:=by
 unfold Ks
 cases decide (nd.kind=9)with
 | true=>exact⟨rfl,rfl,rfl⟩
 | false=>
  simp only[]at ⊢
  generalize CE (BS.mk 8 5494759122808361039) l=i1
  obtain⟨b1,l1⟩:=i1
  cases b1 with
  | true=>exact⟨rfl,rfl,rfl⟩
  | false=>
   simp only[]at ⊢
   generalize CE (BS.mk 7 23727827094750532) l1=i2
   obtain⟨b2,l2⟩:=i2
   cases b2<;>exact⟨rfl,rfl,rfl⟩
section
variable {T:C1} (hT:TG T)
include hT
theorem OC {i d g:Nat} {nd nd':AL} {l l':List A4} {er er':Er} {ns ns':List AL} (hl:TR l) (hn:ns.length<=300) (hf:Oq i ns.length nd.fields) (hi:i<ns.length) (h:CH T d g nd l er ns=(true,nd',l',er',ns')) :
  l' <:+ l/\Ex ns ns'/\Oq i ns'.length nd'.fields/\∃f,nd'=nd.af f/\f.group=g:=by
 unfold CH at h
 have s1:=Tb 2 l er
 have hk:∀l1 er1,IL 2 l er=(true,l1,er1)->(CF l).1=2:=by
  intro l1 er1 e
  unfold IL at e
  cases hd:decide ((CF l).1=2)with
  | true=>exact of_decide_eq_true hd
  | false=>rw[hd]at e;cases e
 cases h1:IL 2 l er with
 | mk b1 i1=>
  obtain⟨l1,er1⟩:=i1
  rw[h1]at h s1
  cases b1 with
  | false=>cases h
  | true=>
   have hw:=hl.hd (.inr (hk _ _ h1))
   simp only[]at h s1
   cases h2:T.go (d+1) l1 er1 ns with
   | mk b2 i2=>
    obtain⟨j,l2,er2,ns2⟩:=i2
    rw[h2]at h
    cases b2 with
    | false=>cases h
    | true=>
     obtain⟨rfl,s2,e2,lt2⟩:=hT _ _ _ _ _ _ _ _ (hl.sf s1) hn h2
     have s3:=ca nd (CF l).2.1 g ns.length l2 er2
     obtain⟨f1,f2,f3⟩:=@kP nd (CF l).2.1 g ns.length l2 er2
     simp only[]at h
     cases h3:Ks nd (CF l).2.1 g ns.length l2 er2 with
     | mk b3 i3=>
      obtain⟨x,l3,er3⟩:=i3
      rw[h3]at h s3 f1 f2 f3
      cases h
      exact⟨s3.trans (s2.trans s1),e2,hf.snoc hi lt2 f2 (by simp only[]at f1;rw[f1];exact hw),x,rfl,f3⟩
end
def AL.afs (x:AL) (fs:List CT):AL:=⟨x.kind,x.name,x.mHas,x.mNum,x.mMode,x.con,x.items,x.fields++fs,x.root,x.more,x.of_⟩
theorem ZB (x:AL) (f:CT):x.af f=x.afs [f]:=rfl
theorem RJ (x:AL) (a b:List CT):(x.afs a).afs b=x.afs (a++b):=by
 show AL.mk _ _ _ _ _ _ _ ((x.fields++a)++b) _ _ _=_
 rw[DD];rfl
theorem dV (x:AL):x.afs []=x:=by
 show AL.mk _ _ _ _ _ _ _ (x.fields++[]) _ _ _=_
 rw[Eb]
section
variable {T:C1} (hT:TG T)
include hT
theorem qV {i d g:Nat}:∀(n:Nat) {nd nd':AL} {l l':List A4} {er er':Er} {ns ns':List AL},TR l->ns.length<=300->Oq i ns.length nd.fields->i<ns.length->RH T d g n nd l er ns=(true,nd',l',er',ns') ->
  l' <:+ l/\Ex ns ns'/\Oq i ns'.length nd'.fields/\∃fs,nd'=nd.afs fs:=by
 intro n
 induction n with
 | zero=>intro nd nd' l l' er er' ns ns' hl hn hf hi h;cases h
 | succ n ih=>
  intro nd nd' l l' er er' ns ns' hl hn hf hi h
  unfold RH at h
  cases h1:CH T d g nd l er ns with
  | mk b1 i1=>
   obtain⟨nd1,l1,er1,ns1⟩:=i1
   rw[h1]at h
   cases b1 with
   | false=>cases h
   | true=>
    obtain⟨s1,e1,g1,f,rfl,_⟩:=OC hT hl hn hf hi h1
    have s2:=Db (BS.mk 1 44) l1
    simp only[]at h
    cases h2:CE (BS.mk 1 44) l1 with
    | mk b2 l2=>
     rw[h2]at h s2
     cases b2 with
     | true=>
      obtain⟨s3,e3,g3,fs,rfl⟩:=ih (hl.sf (s2.trans s1)) e1.big g1 (by have:=e1.le;omega) h
      exact⟨s3.trans (s2.trans s1),e1.trans e3,g3,f::fs,by rw[ZB,RJ];rfl⟩
     | false=>
      have s3:=C6 [BS.mk 2 23901] l2 er1
      simp only[]at h
      cases h3:Aj [BS.mk 2 23901] l2 er1 with
      | mk b3 i3=>
       obtain⟨l3,er3⟩:=i3
       rw[h3]at h s3
       cases h
       exact⟨s3.trans (s2.trans s1),e1,g1,[f],rfl⟩
theorem qW {i d:Nat}:∀(n g:Nat) {nd nd':AL} {l l':List A4} {er er':Er} {ns ns':List AL},TR l->ns.length<=300->Oq i ns.length nd.fields->i<ns.length->PH T d n g nd l er ns=(true,nd',l',er',ns') ->
  l' <:+ l/\Ex ns ns'/\Oq i ns'.length nd'.fields/\∃fs,nd'=nd.afs fs:=by
 intro n
 induction n with
 | zero=>intro g nd nd' l l' er er' ns ns' hl hn hf hi h;cases h
 | succ n ih=>
  intro g nd nd' l l' er er' ns ns' hl hn hf hi h
  unfold PH at h
  have s1:=Db (BS.mk 1 44) l
  cases h1:CE (BS.mk 1 44) l with
  | mk b1 l1=>
   rw[h1]at h s1
   cases b1 with
   | false=>cases h;exact⟨s1,Ex.refl hn,hf,[],(dV _).symm⟩
   | true=>
    have s2:=Db (BS.mk 2 23387) l1
    simp only[]at h s1
    cases h2:CE (BS.mk 2 23387) l1 with
    | mk b2 l2=>
     rw[h2]at h s2
     have s12:=s2.trans s1
     cases b2 with
     | true=>
      simp only[]at h
      rw[show Y2 T d (g+1) nd l2 er ns=RH T d (g+1) 9001 nd l2 er ns by unfold Y2;rfl]at h
      cases h3:RH T d (g+1) 9001 nd l2 er ns with
      | mk b3 i3=>
       obtain⟨nd3,l3,er3,ns3⟩:=i3
       rw[h3]at h
       cases b3 with
       | false=>cases h
       | true=>
        obtain⟨s3,e3,g3,fs,rfl⟩:=qV hT 9001 (hl.sf s12) hn hf hi h3
        obtain⟨s4,e4,g4,fs',rfl⟩:=ih (g+1) (hl.sf (s3.trans s12)) e3.big g3 (by have:=e3.le;omega) h
        exact⟨s4.trans (s3.trans s12),e3.trans e4,g4,fs++fs',RJ _ _ _⟩
     | false=>
      simp only[]at h
      cases h3:CH T d 0 nd l2 er ns with
      | mk b3 i3=>
       obtain⟨nd3,l3,er3,ns3⟩:=i3
       rw[h3]at h
       cases b3 with
       | false=>cases h
       | true=>
        obtain⟨s3,e3,g3,f,rfl,_⟩:=OC hT (hl.sf s12) hn hf hi h3
        obtain⟨s4,e4,g4,fs',rfl⟩:=ih g (hl.sf (s3.trans s12)) e3.big g3 (by have:=e3.le;omega) h
        exact⟨s4.trans (s3.trans s12),e3.trans e4,g4,[f]++fs',by rw[ZB,RJ]⟩
end
structure rK (i:Nat) (l l':List A4) (ns ns':List AL) (nd':AL):Prop where
 s:l' <:+ l
 e:Ex ns ns'
 g:iA i ns'.length nd'
structure wI (i:Nat) (l l':List A4) (ns ns':List AL) (nd nd':AL):Prop where
 s:l' <:+ l
 e:Ex ns ns'
 f:Oq i ns'.length nd'.fields
 gr:∀(k:Nat) (f:CT),nd'.fields[k]? = some f->0<f.group->nd'.root<=k
 rt:nd'.root<=nd'.fields.length
 kd:nd'.kind=nd.kind
 nm:nd'.name=nd.name
section
variable {T:C1} (hT:TG T)
include hT
theorem qM {i d:Nat}:∀(n:Nat) (f:Bool) {nd nd':AL} {l l':List A4} {er er':Er} {ns ns':List AL},TR l->ns.length<=300->Oq i ns.length nd.fields->i<ns.length->(∀f∈nd.fields,f.group=0)->Re T d n f nd l er ns=(true,nd',l',er',ns')->wI i l l' ns ns' nd nd':=by
  intro n
  induction n with
  | zero=>intro f nd nd' l l' er er' ns ns' hl hn hf hi hg h;cases h
  | succ n ih=>
    intro f nd nd' l l' er er' ns ns' hl hn hf hi hg h
    unfold Re at h
    cases f with
    | false=>
      have s1:=C6 [BS.mk 1 125] l er
      simp only[]at h
      cases h1:Aj [BS.mk 1 125] l er with
      | mk b1 i1=>
        obtain⟨l1,er1⟩:=i1
        rw[h1]at h s1
        cases h
        exact⟨s1,Ex.refl hn,hf,fun k f hk hp=>by have:=hg f (D5 hk);omega,AG _,rfl,rfl⟩
    | true=>
      have s1:=Db (BS.mk 3 3026478) l
      simp only[]at h
      cases h1:CE (BS.mk 3 3026478) l with
      | mk b1 l1=>
        rw[h1]at h s1
        cases b1 with
        | true=>
          simp only[]at h s1
          rw[show ZC T d (nd.mr true nd.fields.length) l1 er ns=PH T d 9001 0 (nd.mr true nd.fields.length) l1 er ns by unfold ZC;rfl]at h
          cases h2:PH T d 9001 0 (nd.mr true nd.fields.length) l1 er ns with
          | mk b2 i2=>
            obtain⟨nd2,l2,er2,ns2⟩:=i2
            rw[h2]at h
            simp only[]at h
            cases b2 with
            | false=>
              have h:((false,nd2,l2,er2,ns2):RU)=_:=h
              cases h
            | true=>
              have s3:=C6 [BS.mk 1 125] l2 er2
              have h:(match Aj [BS.mk 1 125] l2 er2 with | (ok,l3,er3)=>(ok,nd2,l3,er3,ns2):RU)=(true,nd',l',er',ns'):=h
              cases h3:Aj [BS.mk 1 125] l2 er2 with
              | mk b3 i3=>
                obtain⟨l3,er3⟩:=i3
                rw[h3]at h s3
                cases h
                obtain⟨s2,e2,g2,fs,rfl⟩:=qW hT 9001 0 (nd:=nd.mr true nd.fields.length) (hl.sf s1) hn hf hi h2
                refine⟨s3.trans (s2.trans s1),e2,g2,fun k f hk hp=>?_,?_,rfl,rfl⟩
                · have hk:(nd.fields++fs)[k]? = some f:=hk
                  show nd.fields.length<=k
                  rcases Ad k nd.fields.length with h'|h'
                  · rw[Ay h']at hk
                    have:=hg f (D5 hk);omega
                  · exact h'
                · show nd.fields.length<=(nd.fields++fs).length
                  rw[Aw];omega
        | false=>
          simp only[]at h s1
          cases h2:CH T d 0 nd l1 er ns with
          | mk b2 i2=>
            obtain⟨nd2,l2,er2,ns2⟩:=i2
            rw[h2]at h
            cases b2 with
            | false=>cases h
            | true=>
              obtain⟨s2,e2,g2,x,rfl,hx⟩:=OC hT (hl.sf s1) hn hf hi h2
              have s3:=Db (BS.mk 1 44) l2
              simp only[]at h
              cases h3:CE (BS.mk 1 44) l2 with
              | mk m l3=>
                rw[h3]at h s3
                have r:=ih m (hl.sf (s3.trans (s2.trans s1))) e2.big g2 (by have:=e2.le;omega) (fun f hf'=>by
                  have hf':f∈nd.fields++[x]:=hf'
                  rcases G1.1 hf' with h'|h'
                  · exact hg f h'
                  · rw[Cc]at h';rw[h'];exact hx) h
                exact⟨r.s.trans (s3.trans (s2.trans s1)),e2.trans r.e,r.f,r.gr,r.rt,r.kd,r.nm⟩
theorem MM {i d:Nat} {nd nd':AL} {l l':List A4} {er er':Er} {ns ns':List AL} (hl:TR l) (hn:ns.length<=300) (h0:nd.fields=[]) (hi:i<ns.length) (h:DC T d nd l er ns=(true,nd',l',er',ns')):wI i l l' ns ns' nd nd':=by
 unfold DC at h
 have s1:=C6 [BS.mk 1 123] l er
 cases h1:Aj [BS.mk 1 123] l er with
 | mk b1 i1=>
  obtain⟨l1,er1⟩:=i1
  rw[h1]at h s1
  cases b1 with
  | false=>cases h
  | true=>
   simp only[]at h s1
   unfold qL at h
   have r:=qM hT 9002 _ (hl.sf s1) hn (by rw[h0];exact Oq.nil _ _) hi (by rw[h0];intro f hf;cases hf) h
   exact⟨r.s.trans s1,r.e,r.f,r.gr,r.rt,r.kd,r.nm⟩
end
theorem wI.st {i:Nat} {l l':List A4} {ns ns':List AL} {nd nd':AL} (r:wI i l l' ns ns' nd nd') (h1:1<=nd.kind) (h2:nd.kind<=9) (hm:nd.name=[]):rK i l l' ns ns' nd':=
 ⟨r.s,r.e,by rw[r.kd];exact h1,by rw[r.kd];omega,AN r.rt (Nat.le_max_left _ _),⟨fun e=>by rw[r.kd]at e;omega,fun e=>absurd (r.nm.trans hm) e⟩,r.f,r.gr,fun e=>by rw[r.kd]at e;omega⟩
theorem TV {i:Nat} {l l':List A4} {ns:List AL} {nd:AL} (s:l' <:+ l) (hn:ns.length<=300) (h1:1<=nd.kind) (h2:nd.kind<=9) (hm:nd.name=[]) (hf:nd.fields=[]) (hr:nd.root<=nd.items.length):rK i l l' ns ns nd:=
 ⟨s,Ex.refl hn,h1,by omega,AN hr (Nat.le_max_right _ _),⟨fun e=>by omega,fun e=>absurd hm e⟩,by rw[hf];exact Oq.nil _ _,fun k f hk=>(by rw[hf]at hk;cases hk),fun e=>by omega⟩
theorem YS:∀(n:Nat) {s s':IS} {l l':List A4} {er er':Er},(s.2.1=true->s.2.2<=s.1.length)->E8 n s l er=(true,s',l',er')->s'.2.2<=s'.1.length:=by
 intro n
 induction n with
 | zero=>intro s s' l l' er er' hs h;cases h
 | succ n ih=>
  intro s s' l l' er er' hs h
  have st:∀s1 l1 er1,Eh s l er=(true,s1,l1,er1)->(s1.2.1=true->s1.2.2<=s1.1.length):=by
   intro s1 l1 er1 e hm
   have it:∀l0:List A4,(match ED l0 er with | (false,_,l2,er2)=>(false,s,l2,er2) | (true,x,l2,er2)=>(true,(s.1++[x],s.2.1,s.2.2),l2,er2):Bool × IS × List A4 × Er)=(true,s1,l1,er1)->s1.2.2<=s1.1.length:=by
    intro l0 e
    cases hx:ED l0 er with
    | mk b i=>
     obtain⟨x,l2,er2⟩:=i
     rw[hx]at e
     cases b with
     | false=>cases e
     | true=>
      cases e
      have:=hs hm
      simp only[Aw];omega
   unfold Eh at e
   cases hq:decide (0<s.1.length) && !s.2.1 with
   | false=>rw[hq]at e;exact it _ e
   | true=>
    rw[hq]at e
    simp only[]at e
    cases hi:CE (BS.mk 3 3026478) l with
    | mk b l0=>
     rw[hi]at e
     cases b with
     | true=>cases e;exact AG _
     | false=>exact it _ e
  unfold E8 at h
  cases h1:Eh s l er with
  | mk b1 i1=>
   obtain⟨s1,l1,er1⟩:=i1
   rw[h1]at h
   cases b1 with
   | false=>cases h
   | true=>
    have hs1:=st s1 l1 er1 h1
    simp only[]at h
    cases h2:CE (BS.mk 1 44) l1 with
    | mk b2 l2=>
     rw[h2]at h
     cases b2 with
     | true=>exact ih hs1 h
     | false=>
      simp only[]at h
      unfold qQ at h
      cases h3:Aj [BS.mk 1 125] l2 er1 with
      | mk b3 i3=>
       obtain⟨l3,er3⟩:=i3
       rw[h3]at h
       cases h
       cases hm:s1.2.1 with
       | true=>exact hs1 hm
       | false=>exact AG _
section
variable {T:C1} (hT:TG T)
include hT
theorem jw {i d:Nat} {m:Bool × Int × Nat} {nd':AL} {l l':List A4} {er er':Er} {ns ns':List AL} (hl:TR l) (hn:ns.length<=300) (hi:i<ns.length) (h:JU T d (CG m) l er ns=(true,nd',l',er',ns')):rK i l l' ns ns' nd':=by
 unfold JU at h
 cases hb:MY (BS.mk 1 123) l with
 | true=>
  rw[hb]at h
  exact(MM hT hl hn rfl hi h).st (by show 1<=7;decide) (by show 7<=9;decide) rfl
 | false=>
  rw[hb]at h
  have s1:=Nj (CG m).con l er
  simp only[]at h
  cases h1:Da (CG m).con l er with
  | mk b1 i1=>
   obtain⟨c,l1,er1⟩:=i1
   rw[h1]at h s1
   cases b1 with
   | false=>cases h
   | true=>
    have s2:=C6 [BS.mk 2 17999] l1 er1
    simp only[]at h s1
    cases h2:Aj [BS.mk 2 17999] l1 er1 with
    | mk b2 i2=>
     obtain⟨l2,er2⟩:=i2
     rw[h2]at h s2
     cases b2 with
     | false=>cases h
     | true=>
      simp only[]at h s2
      cases h3:T.go (d+1) l2 er2 ns with
      | mk b3 i3=>
       obtain⟨j,l3,er3,ns3⟩:=i3
       rw[h3]at h
       cases h
       obtain⟨rfl,s3,e3,lt3⟩:=hT _ _ _ _ _ _ _ _ (hl.sf (s2.trans s1)) hn h3
       exact⟨s3.trans (s2.trans s1),e3,by show 1<=10;decide,by show 10<=11;decide,CD _,⟨fun e=>(by cases e),fun e=>absurd rfl e⟩,Oq.nil _ _,fun k f hk=>(by cases hk),fun _=>⟨hi,lt3⟩⟩
theorem kJ {i d k:Nat} {m:Bool × Int × Nat} {nd':AL} {l l':List A4} {er er':Er} {ns ns':List AL} (hk:k<=9) (hl:TR l) (hn:ns.length<=300) (hi:i<ns.length) (h:JF T d (CG m) l er ns k=(true,nd',l',er',ns')):rK i l l' ns ns' nd':=by
 match k,hk,h with
 | 0,_,h=>cases h
 | 1,_,h=>cases h;exact TV (CI _) hn (by show 1<=1;decide) (by show 1<=9;decide) rfl rfl (AG _)
 | 2,_,h=>
  have h:Tl ((CG m).kd 2) l er ns=(true,nd',l',er',ns'):=h
  unfold Tl at h
  have s1:=Db (BS.mk 1 40) l
  cases h1:CE (BS.mk 1 40) l with
  | mk b1 l1=>
   rw[h1]at h s1
   cases b1 with
   | false=>cases h;exact TV s1 hn (by show 1<=2;decide) (by show 2<=9;decide) rfl rfl (AG _)
   | true=>
    have s2:=ON ((CG m).kd 2).con l1 er
    simp only[]at h s1
    cases h2:Ce ((CG m).kd 2).con l1 er with
    | mk b2 i2=>
     obtain⟨c,l2,er2⟩:=i2
     rw[h2]at h s2
     have s3:=PY b2 [BS.mk 1 41] l2 er2
     simp only[]at h s2
     cases h3:Fh b2 [BS.mk 1 41] l2 er2 with
     | mk b3 i3=>
      obtain⟨l3,er3⟩:=i3
      rw[h3]at h s3
      cases h
      exact TV (s3.trans (s2.trans s1)) hn (by show 1<=2;decide) (by show 2<=9;decide) rfl rfl (AG _)
 | 3,_,h=>
  have h:qR ((CG m).kd 3) l er ns=(true,nd',l',er',ns'):=h
  unfold qR at h
  have s1:=V7 ((CG m).kd 3).is l er
  cases h1:E7 ((CG m).kd 3).is l er with
  | mk b1 i1=>
   obtain⟨s,l1,er1⟩:=i1
   have hr:b1=true->s.2.2<=s.1.length:=by
    intro hb
    subst hb
    unfold E7 at h1
    cases h2:Aj [BS.mk 1 123] l er with
    | mk b2 i2=>
     obtain⟨l2,er2⟩:=i2
     rw[h2]at h1
     cases b2 with
     | false=>cases h1
     | true=>exact YS 9001 (fun e=>by cases e) h1
   rw[h1]at h s1
   cases h
   exact TV s1 hn (by show 1<=3;decide) (by show 3<=9;decide) rfl rfl (hr rfl)
 | 4,_,h=>cases h;exact TV (CI _) hn (by show 1<=4;decide) (by show 4<=9;decide) rfl rfl (AG _)
 | 5,_,h=>
  have h:Nv ((CG m).kd 5) l er ns=(true,nd',l',er',ns'):=h
  unfold Nv at h
  have s1:=C6 [BS.mk 6 78401563153491] l er
  cases h1:Aj [BS.mk 6 78401563153491] l er with
  | mk b1 i1=>
   obtain⟨l1,er1⟩:=i1
   rw[h1]at h s1
   cases b1 with
   | false=>cases h
   | true=>
    have s2:=Nj ((CG m).kd 5).con l1 er1
    simp only[]at h s1
    cases h2:Da ((CG m).kd 5).con l1 er1 with
    | mk b2 i2=>
     obtain⟨c,l2,er2⟩:=i2
     rw[h2]at h s2
     cases h
     exact TV (s2.trans s1) hn (by show 1<=5;decide) (by show 5<=9;decide) rfl rfl (AG _)
 | 6,_,h=>
  have h:pV ((CG m).kd 6) l er ns=(true,nd',l',er',ns'):=h
  unfold pV at h
  have s2:=Nj ((CG m).kd 6).con l er
  cases h2:Da ((CG m).kd 6).con l er with
  | mk b2 i2=>
   obtain⟨c,l2,er2⟩:=i2
   rw[h2]at h s2
   cases h
   exact TV s2 hn (by show 1<=6;decide) (by show 6<=9;decide) rfl rfl (AG _)
 | 7,_,h=>exact jw hT hl hn hi h
 | 8,_,h=>exact(MM hT hl hn rfl hi h).st (by show 1<=8;decide) (by show 8<=9;decide) rfl
 | 9,_,h=>exact(MM hT hl hn rfl hi h).st (by show 1<=9;decide) (by show 9<=9;decide) rfl
omit hT in
theorem e9:∀(w:List (BS × Nat)) (l:List A4),(∀p∈w,p.2<=9)->(LH w l).1<=9
 | [],l,_=>CD _
 | (s,k)::r,l,h=>by
  unfold LH
  cases CE s l with
  | mk b l1=>
   cases b with
   | true=>exact h _ (As ..)
   | false=>exact e9 r l1 fun p hp=>h p (Ah _ hp)
theorem cA {i d:Nat} {nd':AL} {l l':List A4} {er er':Er} {ns ns':List AL} (hl:TR l) (hn:ns.length<=300) (hi:i<ns.length) (h:FZ T d l er ns=(true,nd',l',er',ns')):rK i l l' ns ns' nd':=by
 unfold FZ at h
 have s1:=YG l er
 cases h1:Fp l er with
 | mk b1 i1=>
  obtain⟨m,l1,er1⟩:=i1
  rw[h1]at h s1
  cases b1 with
  | false=>cases h
  | true=>
   simp only[]at h s1
   cases hk:decide ((CF l1).1=1)with
   | true=>
    rw[hk]at h
    cases h
    have hw:=(hl.sf s1).hd (.inl (of_decide_eq_true hk))
    exact⟨(Ko l1).trans s1,Ex.refl hn,by show 1<=11;decide,AG _,CD _,⟨fun _=>hw,fun _=>rfl⟩,Oq.nil _ _,fun k f hk=>(by cases hk),fun e=>(by cases e)⟩
   | false=>
    rw[hk]at h
    simp only[]at h
    unfold R9 at h
    have s2:=XK Ri l1
    have k2:=e9 Ri l1 (by decide)
    cases h2:LH Ri l1 with
    | mk k l2=>
     rw[h2]at h s2 k2
     have r:=kJ hT k2 (hl.sf (s2.trans s1)) hn hi h
     exact⟨r.s.trans (s2.trans s1),r.e,r.g⟩
theorem jq:TG (XP T):=by
 intro d l er ns i l' er' ns' hl hn h
 have h:Kc T d l er ns=(true,i,l',er',ns'):=h
 unfold Kc at h
 cases hb:T1 (CF l)with
 | false=>rw[hb]at h;cases h
 | true=>
  rw[hb]at h
  simp only[]at h
  cases hd:decide (16<d) || decide (300<=ns.length)with
  | true=>rw[hd]at h;cases h
  | false=>
   rw[hd]at h
   rw[BN]at hd
   have hlt:=of_decide_eq_false hd.2
   have hle:(ns++[HS]).length=ns.length+1:=by simp
   simp only[]at h
   cases h1:FZ T d l er (ns++[HS])with
   | mk b1 i1=>
    obtain⟨nd,l1,er1,ns1⟩:=i1
    rw[h1]at h
    cases b1 with
    | false=>cases h
    | true=>
     cases h
     obtain⟨s1,⟨ext,rfl,e1,e2⟩,g1⟩:=cA hT (i:=ns.length) hl (by omega) (by omega) h1
     have eq:((ns++[HS])++ext).set ns.length nd=ns++(nd::ext):=by
      rw[DD,List.set_append_right _ _ (AG _),eJ];rfl
     have el:((ns++[HS])++ext).length=(ns++(nd::ext)).length:=by simp only[Aw,AM,A0];omega
     refine⟨rfl,s1,⟨nd::ext,eq,?_,fun k x hx=>?_⟩,?_⟩
     ·rw[Ck];exact e1
     ·rw[Ck]
      cases k with
      | zero=>cases hx;exact g1
      | succ k=>
       have:=e2 k x hx
       rw[hle,show ns.length+1+k=ns.length+(k+1)by omega]at this
       exact this
     ·rw[Ck,el];simp
end
theorem XQ:∀q,TG (BK q)
 | 0=>fun d l er ns i l' er' ns' _ _ h=>by cases h
 | q+1=>jq (XQ q)
structure oE (z:NT) (ns:List AL):Prop where
 le:z.1.length=z.2.length/\z.1.length<=40
 nm:∀w∈z.1,w≠[]
 pl:∀(k t:Nat),z.2[k]? = some t->t<ns.length
 asc:∀(k a b:Nat),z.2[k]? = some a->z.2[k+1]? = some b->a<b
 nd:Ex [] ns
theorem oE.snoc {z:NT} {ns ns':List AL} {w:List Nat} (h:oE z ns) (hw:w≠[]) (e:Ex ns ns') (hl:ns.length<ns'.length) (hz:z.1.length<40):oE (z.1++[w],z.2++[ns.length]) ns':=by
 refine⟨⟨by simp[h.le.1],by simp;omega⟩,fun x hx=>?_,fun k t hk=>?_,fun k a b ha hb=>?_,h.nd.trans e⟩
 ·rcases G1.1 hx with hx|hx
  ·exact h.nm x hx
  ·rw[Cc]at hx;rw[hx];exact hw
 ·have hk:(z.2++[ns.length])[k]? = some t:=hk
  rcases Ad k z.2.length with hj|hj
  ·rw[Ay hj]at hk
   have:=h.pl k t hk;omega
  ·rw[BX hj]at hk
   obtain⟨j,hj'⟩:∃j,k-z.2.length=j:=⟨_,rfl⟩
   rw[hj']at hk
   cases j with
   | succ j=>simp at hk
   | zero=>cases hk;exact hl
 ·have ha:(z.2++[ns.length])[k]? = some a:=ha
  have hb:(z.2++[ns.length])[k+1]? = some b:=hb
  rcases Ad (k+1) z.2.length with hj|hj
  ·rw[Ay (by omega)]at ha
   rw[Ay hj]at hb
   exact h.asc k a b ha hb
  ·rw[BX hj]at hb
   obtain⟨j,hj'⟩:∃j,k+1-z.2.length=j:=⟨_,rfl⟩
   rw[hj']at hb
   cases j with
   | succ j=>simp at hb
   | zero=>
    cases hb
    rw[Ay (by omega)]at ha
    exact h.pl k a ha
structure tE (m:Wn):Prop where
 nm:m.1≠[]
 ag:oE m.2.2.1 m.2.2.2
section
variable {T:C1} (hT:TG T)
include hT
theorem kb:∀(n:Nat) {z z':NT} {l l':List A4} {er er':Er} {ns ns':List AL},TR l->oE z ns->Lq T n z l er ns=(true,z',l',er',ns')->oE z' ns':=by
 intro n
 induction n with
 | zero=>intro z z' l l' er er' ns ns' hl hz h;cases h
 | succ n ih=>
  intro z z' l l' er er' ns ns' hl hz h
  unfold Lq at h
  cases hk:decide ((CF l).1=1)with
  | true=>
   rw[hk]at h
   have hw:=hl.hd (.inl (of_decide_eq_true hk))
   simp only[]at h
   cases h1:Iw T z l er ns with
   | mk b1 i1=>
    obtain⟨z1,l1,er1,ns1⟩:=i1
    rw[h1]at h
    cases b1 with
    | false=>cases h
    | true=>
     unfold Iw at h1
     cases hc:decide (40<=z.1.length)with
     | true=>rw[hc]at h1;cases h1
     | false=>
      have hlt:=of_decide_eq_false hc
      rw[hc]at h1
      have s2:=(C6 [BS.mk 3 4012602] (JE l) er).trans (Ko l)
      simp only[]at h1
      cases h2:Aj [BS.mk 3 4012602] (JE l) er with
      | mk b2 i2=>
       obtain⟨l2,er2⟩:=i2
       rw[h2]at h1 s2
       cases b2 with
       | false=>cases h1
       | true=>
        simp only[]at h1
        cases h3:T.go 0 l2 er2 ns with
        | mk b3 i3=>
         obtain⟨j,l3,er3,ns3⟩:=i3
         rw[h3]at h1
         cases h1
         obtain⟨rfl,s3,e3,lt3⟩:=hT _ _ _ _ _ _ _ _ (hl.sf s2) hz.nd.big h3
         exact ih (hl.sf (s3.trans s2)) (hz.snoc hw e3 lt3 (by omega)) h
  | false=>
   rw[hk]at h
   simp only[]at h
   cases h1:Aj [BS.mk 3 4476485] l er with
   | mk b1 i1=>
    obtain⟨l1,er1⟩:=i1
    rw[h1]at h
    cases b1 with
    | false=>cases h
    | true=>
     simp only[]at h
     cases h2:IL 0 l1 er1 with
     | mk b2 i2=>
      obtain⟨l2,er2⟩:=i2
      rw[h2]at h
      cases h
      exact hz
theorem kA {l:List A4} {er er':Er} {m:Wn} (hl:TR l) (h:M0 T l er=(true,m,er')):tE m:=by
 unfold M0 at h
 have s1:=Tb 1 l er
 have hk:∀l1 er1,IL 1 l er=(true,l1,er1)->(CF l).1=1:=by
  intro l1 er1 e
  unfold IL at e
  cases hd:decide ((CF l).1=1)with
  | true=>exact of_decide_eq_true hd
  | false=>rw[hd]at e;cases e
 cases h1:IL 1 l er with
 | mk b1 i1=>
  obtain⟨l1,er1⟩:=i1
  rw[h1]at h s1
  cases b1 with
  | false=>cases h
  | true=>
   have hw:=hl.hd (.inl (hk _ _ h1))
   have s2:=C6 [BS.mk 11 100710650190388740279911748] l1 er1
   simp only[]at h s1
   cases h2:Aj [BS.mk 11 100710650190388740279911748] l1 er1 with
   | mk b2 i2=>
    obtain⟨l2,er2⟩:=i2
    rw[h2]at h s2
    cases b2 with
    | false=>cases h
    | true=>
     have ts:∀(ws:List BS) (i:Nat) (tg:Int) (l:List A4) (er:Er),(Rl ws i tg l er).2.2.1 <:+ l:=by
      intro ws
      induction ws with
      | nil=>intro i tg l er;exact CI _
      | cons w ws ih=>
       intro i tg l er
       unfold Rl
       cases MY w l with
       | false=>exact ih _ _ _ _
       | true=>exact C6 _ _ _
     have s3:=ts LL 0 0 l2 er2
     simp only[]at h s2
     cases h3:Rl LL 0 0 l2 er2 with
     | mk b3 i3=>
      obtain⟨tg,l3,er3⟩:=i3
      rw[h3]at h s3
      cases b3 with
      | false=>cases h
      | true=>
       have s4:=C6 [BS.mk 3 4012602,BS.mk 5 336236856642] l3 er3
       simp only[]at h s3
       cases h4:Aj [BS.mk 3 4012602,BS.mk 5 336236856642] l3 er3 with
       | mk b4 i4=>
        obtain⟨l4,er4⟩:=i4
        rw[h4]at h s4
        cases b4 with
        | false=>cases h
        | true=>
         simp only[]at h s4
         cases h5:ay T l4 er4 with
         | mk b5 i5=>
          obtain⟨z,l5,er5,ns⟩:=i5
          rw[h5]at h
          cases b5 with
          | false=>cases h
          | true=>
           cases h
           unfold ay at h5
           exact⟨hw,kb hT 9001 (hl.sf (s4.trans (s3.trans (s2.trans s1)))) ⟨⟨rfl,CD _⟩,fun w hw=>(by cases hw),fun k t hk=>(by cases hk),fun k a b ha=>(by cases ha),Ex.refl (by show 0<=300;decide)⟩ h5⟩
end
theorem Rx {M:Nat} {s:BS} {m:Wn} (h:JZ M s = .ok m):tE m:=by
 unfold JZ at h
 cases h1:PQ M s with
 | error e=>rw[h1]at h;cases h
 | ok ts=>
  rw[h1]at h
  simp only[]at h
  obtain⟨_,hq⟩:=Uj h1
  cases h2:M0 Ja ts (0,0)with
  | mk b i=>
   obtain⟨m',er⟩:=i
   rw[h2]at h
   cases b with
   | false=>cases h
   | true=>
    cases h
    refine kA (T:=Ja) ?_ (fun t ht=>(hq t ht).nm) h2
    unfold Ja
    exact XQ 18
theorem Dc (er:Er) (a e:Nat) (he:e≠0):(FH er a e).2≠0:=by
 unfold FH
 split
 ·exact he
 ·assumption
theorem C7:∀(ss:List BS) (l:List A4) (er:Er),(Aj ss l er).1=false->(Aj ss l er).2.2.2≠0
 | [],l,er=>fun h=>(by cases h)
 | s::ss,l,er=>by
  unfold Aj
  cases MY s l with
  | true=>exact C7 ss _ er
  | false=>exact fun _=>Dc _ _ 7 (by decide)
theorem Q4 (k:Nat) (l:List A4) (er:Er):(IL k l er).1=false->(IL k l er).2.2.2≠0:=by
 unfold IL
 cases decide ((CF l).1=k)with
 | true=>exact fun h=>(by cases h)
 | false=>exact fun _=>Dc _ _ 7 (by decide)
theorem NG (l:List A4) (er:Er):(Ed l er).1=false->(Ed l er).2.2.2.2≠0:=by
 unfold Ed
 cases decide ((CF l).1=3)with
 | true=>exact fun h=>(by cases h)
 | false=>exact fun _=>Dc _ _ 7 (by decide)
theorem MF (b:Bool) (ss:List BS) (l:List A4) (er:Er) (hb:b=false->er.2≠0):(Fh b ss l er).1=false->(Fh b ss l er).2.2.2≠0:=by
 cases b with
 | true=>exact C7 ss l er
 | false=>exact fun _=>hb rfl
theorem YW (l:List A4) (er:Er):(ED l er).1=false->(ED l er).2.2.2.2≠0:=by
 unfold ED
 have h1:=Q4 2 l er
 generalize IL 2 l er=i1 at h1 ⊢
 obtain⟨b1,l1,er1⟩:=i1
 cases b1 with
 | false=>exact h1
 | true=>
  simp only[]at ⊢
  generalize CE (BS.mk 1 40) l1=i2
  obtain⟨b2,l2⟩:=i2
  cases b2 with
  | false=>exact fun h=>(by cases h)
  | true=>
   have h3:=NG l2 er1
   simp only[]at ⊢
   generalize Ed l2 er1=i3 at h3 ⊢
   obtain⟨b3,n,l3,er3⟩:=i3
   exact MF b3 [BS.mk 1 41] l3 er3 h3
theorem cJ (c:Fw) (l:List A4) (er:Er):(Je c l er).1=false->(Je c l er).2.2.2.2≠0:=by
 unfold Je
 generalize CE (BS.mk 3 5130573) l=i1
 obtain⟨b1,l1⟩:=i1
 cases b1 with
 | true=>exact fun h=>(by cases h)
 | false=>
  have h2:=NG l1 er
  simp only[]at ⊢
  generalize Ed l1 er=i2 at h2 ⊢
  obtain⟨b2,n,l2,er2⟩:=i2
  cases b2 with
  | false=>exact h2
  | true=>exact fun h=>(by cases h)
theorem Ya (c:Fw) (l:List A4) (er:Er):(Gi c l er).1=false->(Gi c l er).2.2.2.2≠0:=by
 unfold Gi
 generalize CE (BS.mk 2 11822) l=i1
 obtain⟨b1,l1⟩:=i1
 cases b1 with
 | false=>exact fun h=>(by cases h)
 | true=>
  simp only[]at ⊢
  generalize CE (BS.mk 3 5783885) l1=i2
  obtain⟨b2,l2⟩:=i2
  cases b2 with
  | true=>exact fun h=>(by cases h)
  | false=>
   have h3:=NG l2 er
   simp only[]at ⊢
   generalize Ed l2 er=i3 at h3 ⊢
   obtain⟨b3,n,l3,er3⟩:=i3
   cases b3 with
   | false=>exact h3
   | true=>exact fun h=>(by cases h)
theorem Yr (c:Fw) (l:List A4) (er:Er):(IY c l er).1=false->(IY c l er).2.2.2.2≠0:=by
 unfold IY
 generalize CE (BS.mk 1 44) l=i1
 obtain⟨b1,l1⟩:=i1
 cases b1 with
 | false=>exact fun h=>(by cases h)
 | true=>exact C7 [BS.mk 3 3026478] l1 er
theorem OO (c:Fw) (l:List A4) (er:Er):(Ce c l er).1=false->(Ce c l er).2.2.2.2≠0:=by
 unfold Ce
 have h1:=cJ ⟨true,c.hasLow,c.hasHigh,c.more,c.low,c.high⟩ l er
 generalize Je ⟨true,c.hasLow,c.hasHigh,c.more,c.low,c.high⟩ l er=i1 at h1 ⊢
 obtain⟨b1,c1,l1,er1⟩:=i1
 cases b1 with
 | false=>exact h1
 | true=>
  have h2:=Ya c1 l1 er1
  simp only[]at ⊢
  generalize Gi c1 l1 er1=i2 at h2 ⊢
  obtain⟨b2,c2,l2,er2⟩:=i2
  cases b2 with
  | false=>exact h2
  | true=>exact Yr c2 l2 er2
theorem Nk (c:Fw) (l:List A4) (er:Er):(Da c l er).1=false->(Da c l er).2.2.2.2≠0:=by
 unfold Da
 generalize CE (BS.mk 1 40) l=i1
 obtain⟨b1,l1⟩:=i1
 cases b1 with
 | false=>exact fun h=>(by cases h)
 | true=>
  have h2:=C7 [BS.mk 4 1163544915,BS.mk 1 40] l1 er
  simp only[]at ⊢
  generalize Aj [BS.mk 4 1163544915,BS.mk 1 40] l1 er=i2 at h2 ⊢
  obtain⟨b2,l2,er2⟩:=i2
  cases b2 with
  | false=>exact h2
  | true=>
   have h3:=OO c l2 er2
   simp only[]at ⊢
   generalize Ce c l2 er2=i3 at h3 ⊢
   obtain⟨b3,c3,l3,er3⟩:=i3
   cases b3 with
   | false=>exact h3
   | true=>exact C7 [BS.mk 1 41,BS.mk 1 41] l3 er3
theorem YH (l:List A4) (er:Er):(Fp l er).1=false->(Fp l er).2.2.2.2≠0:=by
 unfold Fp
 generalize CE (BS.mk 1 91) l=i1
 obtain⟨b1,l1⟩:=i1
 cases b1 with
 | false=>exact fun h=>(by cases h)
 | true=>
  have h2:=NG l1 er
  simp only[]at ⊢
  generalize Ed l1 er=i2 at h2 ⊢
  obtain⟨b2,n,l2,er2⟩:=i2
  cases b2 with
  | false=>exact h2
  | true=>
   simp only[]at ⊢
   cases (Dt n (AA 0) || Dt (AA 268435456) n)with
   | true=>exact fun _=>Dc _ _ 12 (by decide)
   | false=>
    have h3:=C7 [BS.mk 1 93] l2 er2
    simp only[]at ⊢
    generalize Aj [BS.mk 1 93] l2 er2=i3 at h3 ⊢
    obtain⟨b3,l3,er3⟩:=i3
    cases b3 with
    | false=>exact h3
    | true=>
     simp only[]at ⊢
     generalize CE (BS.mk 8 6073459554577832005) l3=i4
     obtain⟨b4,l4⟩:=i4
     cases b4 with
     | true=>exact fun h=>(by cases h)
     | false=>
      simp only[]at ⊢
      generalize CE (BS.mk 8 6073459554577829193) l4=i5
      obtain⟨b5,l5⟩:=i5
      cases b5<;>exact fun h=>(by cases h)
theorem bK (l:List A4) (er:Er):(JN l er).1=false->(JN l er).2.2.2.2≠0:=by
 unfold JN
 generalize CE (BS.mk 4 1163219540) l=i1
 obtain⟨b1,l1⟩:=i1
 cases b1 with
 | true=>exact fun h=>(by cases h)
 | false=>
  simp only[]at ⊢
  generalize CE (BS.mk 5 297750249798) l1=i2
  obtain⟨b2,l2⟩:=i2
  cases b2 with
  | true=>exact fun h=>(by cases h)
  | false=>
   simp only[]at ⊢
   generalize CE (BS.mk 4 1280070990) l2=i3
   obtain⟨b3,l3⟩:=i3
   cases b3 with
   | true=>exact fun h=>(by cases h)
   | false=>
    simp only[]at ⊢
    cases decide ((CF l).1=3)with
    | true=>exact fun h=>(by cases h)
    | false=>cases decide ((CF l).1=2)with
     | true=>exact fun h=>(by cases h)
     | false=>cases decide ((CF l).1=7)with
      | true=>exact fun h=>(by cases h)
      | false=>cases decide ((CF l).1=4)with
       | true=>exact fun h=>(by cases h)
       | false=>exact fun _=>Dc _ _ 7 (by decide)
theorem cc (nd:AL) (w:List Nat) (g i:Nat) (l:List A4) (er:Er):(Ks nd w g i l er).1=false->(Ks nd w g i l er).2.2.2.2≠0:=by
 unfold Ks
 cases decide (nd.kind=9)with
 | true=>exact fun h=>(by cases h)
 | false=>
  simp only[]at ⊢
  generalize CE (BS.mk 8 5494759122808361039) l=i1
  obtain⟨b1,l1⟩:=i1
  cases b1 with
  | true=>exact fun h=>(by cases h)
  | false=>
   simp only[]at ⊢
   generalize CE (BS.mk 7 23727827094750532) l1=i2
   obtain⟨b2,l2⟩:=i2
   cases b2 with
   | false=>exact fun h=>(by cases h)
   | true=>exact bK l2 er
theorem P2:∀(n:Nat) (s:IS) (l:List A4) (er:Er),(E8 n s l er).1=false->(E8 n s l er).2.2.2.2≠0
 | 0,s,l,er=>fun _=>Dc _ _ 5 (by decide)
 | n+1,s,l,er=>by
  have h1:(Eh s l er).1=false->(Eh s l er).2.2.2.2≠0:=by
   have it:∀l0:List A4,(match ED l0 er with | (false,_,l2,er2)=>(false,s,l2,er2) | (true,x,l2,er2)=>(true,(s.1++[x],s.2.1,s.2.2),l2,er2):Bool × IS × List A4 × Er).1=false->(match ED l0 er with | (false,_,l2,er2)=>(false,s,l2,er2) | (true,x,l2,er2)=>(true,(s.1++[x],s.2.1,s.2.2),l2,er2):Bool × IS × List A4 × Er).2.2.2.2≠0:=by
    intro l0
    have h1:=YW l0 er
    generalize ED l0 er=i1 at h1 ⊢
    obtain⟨b1,x,l1,er1⟩:=i1
    cases b1 with
    | false=>exact h1
    | true=>exact fun h=>(by cases h)
   unfold Eh
   cases decide (0<s.1.length) && !s.2.1 with
   | false=>exact it l
   | true=>
    simp only[]at ⊢
    generalize CE (BS.mk 3 3026478) l=i0
    obtain⟨b0,l0⟩:=i0
    cases b0 with
    | true=>exact fun h=>(by cases h)
    | false=>exact it l0
  unfold E8
  generalize Eh s l er=i1 at h1 ⊢
  obtain⟨b1,s1,l1,er1⟩:=i1
  cases b1 with
  | false=>exact h1
  | true=>
   simp only[]at ⊢
   generalize CE (BS.mk 1 44) l1=i2
   obtain⟨b2,l2⟩:=i2
   cases b2 with
   | true=>exact P2 n s1 l2 er1
   | false=>exact C7 [BS.mk 1 125] l2 er1
theorem V8 (s:IS) (l:List A4) (er:Er):(E7 s l er).1=false->(E7 s l er).2.2.2.2≠0:=by
 unfold E7
 have h1:=C7 [BS.mk 1 123] l er
 generalize Aj [BS.mk 1 123] l er=i1 at h1 ⊢
 obtain⟨b1,l1,er1⟩:=i1
 cases b1 with
 | false=>exact h1
 | true=>exact P2 9001 s l1 er1
def yH (T:C1):Prop:=∀d l er ns,(T.go d l er ns).1=false->(T.go d l er ns).2.2.2.1.2≠0
section
variable {T:C1} (hT:yH T)
include hT
theorem MN (d g:Nat) (nd:AL) (l:List A4) (er:Er) (ns:List AL):(CH T d g nd l er ns).1=false->(CH T d g nd l er ns).2.2.2.1.2≠0:=by
 unfold CH
 have h1:=Q4 2 l er
 generalize IL 2 l er=i1 at h1 ⊢
 obtain⟨b1,l1,er1⟩:=i1
 cases b1 with
 | false=>exact h1
 | true=>
  have h2:=hT (d+1) l1 er1 ns
  simp only[]at ⊢
  generalize T.go (d+1) l1 er1 ns=i2 at h2 ⊢
  obtain⟨b2,i,l2,er2,ns2⟩:=i2
  cases b2 with
  | false=>exact h2
  | true=>exact cc nd (CF l).2.1 g i l2 er2
theorem Y3 (d g:Nat):∀(n:Nat) (nd:AL) (l:List A4) (er:Er) (ns:List AL),(RH T d g n nd l er ns).1=false->(RH T d g n nd l er ns).2.2.2.1.2≠0
 | 0,nd,l,er,ns=>fun _=>Dc _ _ 5 (by decide)
 | n+1,nd,l,er,ns=>by
  unfold RH
  have h1:=MN hT d g nd l er ns
  generalize CH T d g nd l er ns=i1 at h1 ⊢
  obtain⟨b1,nd1,l1,er1,ns1⟩:=i1
  cases b1 with
  | false=>exact h1
  | true=>
   simp only[]at ⊢
   generalize CE (BS.mk 1 44) l1=i2
   obtain⟨b2,l2⟩:=i2
   cases b2 with
   | true=>exact Y3 d g n nd1 l2 er1 ns1
   | false=>exact C7 [BS.mk 2 23901] l2 er1
theorem T6 (d:Nat):∀(n g:Nat) (nd:AL) (l:List A4) (er:Er) (ns:List AL),(PH T d n g nd l er ns).1=false->(PH T d n g nd l er ns).2.2.2.1.2≠0
 | 0,g,nd,l,er,ns=>fun _=>Dc _ _ 5 (by decide)
 | n+1,g,nd,l,er,ns=>by
  unfold PH
  generalize CE (BS.mk 1 44) l=i1
  obtain⟨b1,l1⟩:=i1
  cases b1 with
  | false=>exact fun h=>(by cases h)
  | true=>
   simp only[]at ⊢
   generalize CE (BS.mk 2 23387) l1=i2
   obtain⟨b2,l2⟩:=i2
   cases b2 with
   | true=>
    have h3:=Y3 hT d (g+1) 9001 nd l2 er ns
    simp only[]at ⊢
    rw[show Y2 T d (g+1) nd l2 er ns=RH T d (g+1) 9001 nd l2 er ns by unfold Y2;rfl]
    generalize RH T d (g+1) 9001 nd l2 er ns=i3 at h3 ⊢
    obtain⟨b3,nd3,l3,er3,ns3⟩:=i3
    cases b3 with
    | false=>exact h3
    | true=>exact T6 d n (g+1) nd3 l3 er3 ns3
   | false=>
    have h3:=MN hT d 0 nd l2 er ns
    simp only[]at ⊢
    generalize CH T d 0 nd l2 er ns=i3 at h3 ⊢
    obtain⟨b3,nd3,l3,er3,ns3⟩:=i3
    cases b3 with
    | false=>exact h3
    | true=>exact T6 d n g nd3 l3 er3 ns3
theorem Yf (d:Nat):∀(n:Nat) (f:Bool) (nd:AL) (l:List A4) (er:Er) (ns:List AL),(Re T d n f nd l er ns).1=false->(Re T d n f nd l er ns).2.2.2.1.2≠0
 | 0,f,nd,l,er,ns=>fun _=>Dc _ _ 5 (by decide)
 | n+1,false,nd,l,er,ns=>by
  unfold Re
  exact C7 [BS.mk 1 125] l er
 | n+1,true,nd,l,er,ns=>by
  unfold Re
  simp only[]at ⊢
  generalize CE (BS.mk 3 3026478) l=i1
  obtain⟨b1,l1⟩:=i1
  cases b1 with
  | true=>
   have h2:=T6 hT d 9001 0 (nd.mr true nd.fields.length) l1 er ns
   simp only[]at ⊢
   rw[show ZC T d (nd.mr true nd.fields.length) l1 er ns=PH T d 9001 0 (nd.mr true nd.fields.length) l1 er ns by unfold ZC;rfl]
   generalize PH T d 9001 0 (nd.mr true nd.fields.length) l1 er ns=i2 at h2 ⊢
   obtain⟨b2,nd2,l2,er2,ns2⟩:=i2
   exact MF b2 [BS.mk 1 125] l2 er2 h2
  | false=>
   have h2:=MN hT d 0 nd l1 er ns
   simp only[]at ⊢
   generalize CH T d 0 nd l1 er ns=i2 at h2 ⊢
   obtain⟨b2,nd2,l2,er2,ns2⟩:=i2
   cases b2 with
   | false=>exact h2
   | true=>
    simp only[]at ⊢
    generalize CE (BS.mk 1 44) l2=i3
    obtain⟨m,l3⟩:=i3
    exact Yf d n m nd2 l3 er2 ns2
theorem Ku (d:Nat) (nd:AL) (l:List A4) (er:Er) (ns:List AL):(DC T d nd l er ns).1=false->(DC T d nd l er ns).2.2.2.1.2≠0:=by
 unfold DC
 have h1:=C7 [BS.mk 1 123] l er
 generalize Aj [BS.mk 1 123] l er=i1 at h1 ⊢
 obtain⟨b1,l1,er1⟩:=i1
 cases b1 with
 | false=>exact h1
 | true=>
  simp only[]at ⊢
  unfold qL
  exact Yf hT d 9002 _ nd l1 er1 ns
theorem bZ (d:Nat) (nd:AL) (l:List A4) (er:Er) (ns:List AL):(JU T d nd l er ns).1=false->(JU T d nd l er ns).2.2.2.1.2≠0:=by
 unfold JU
 cases MY (BS.mk 1 123) l with
 | true=>exact Ku hT d _ l er ns
 | false=>
  have h1:=Nk nd.con l er
  simp only[]at ⊢
  generalize Da nd.con l er=i1 at h1 ⊢
  obtain⟨b1,c,l1,er1⟩:=i1
  cases b1 with
  | false=>exact h1
  | true=>
   have h2:=C7 [BS.mk 2 17999] l1 er1
   simp only[]at ⊢
   generalize Aj [BS.mk 2 17999] l1 er1=i2 at h2 ⊢
   obtain⟨b2,l2,er2⟩:=i2
   cases b2 with
   | false=>exact h2
   | true=>exact hT (d+1) l2 er2 ns
theorem cS (d:Nat) (nd:AL) (l:List A4) (er:Er) (ns:List AL) (k:Nat):(JF T d nd l er ns k).1=false->(JF T d nd l er ns k).2.2.2.1.2≠0:=by
 unfold JF
 split
 ·exact fun _=>Dc _ _ 7 (by decide)
 ·unfold Tl
  generalize CE (BS.mk 1 40) l=i1
  obtain⟨b1,l1⟩:=i1
  cases b1 with
  | false=>exact fun h=>(by cases h)
  | true=>
   have h2:=OO (nd.kd 2).con l1 er
   simp only[]at ⊢
   generalize Ce (nd.kd 2).con l1 er=i2 at h2 ⊢
   obtain⟨b2,c,l2,er2⟩:=i2
   exact MF b2 [BS.mk 1 41] l2 er2 h2
 ·exact V8 _ l er
 ·unfold Nv
  have h1:=C7 [BS.mk 6 78401563153491] l er
  generalize Aj [BS.mk 6 78401563153491] l er=i1 at h1 ⊢
  obtain⟨b1,l1,er1⟩:=i1
  cases b1 with
  | false=>exact h1
  | true=>exact Nk _ l1 er1
 ·exact Nk _ l er
 ·exact bZ hT d nd l er ns
 ·exact Ku hT d _ l er ns
 ·exact Ku hT d _ l er ns
 ·exact fun h=>(by cases h)
theorem YA (d:Nat) (l:List A4) (er:Er) (ns:List AL):(FZ T d l er ns).1=false->(FZ T d l er ns).2.2.2.1.2≠0:=by
 unfold FZ
 have h1:=YH l er
 generalize Fp l er=i1 at h1 ⊢
 obtain⟨b1,m,l1,er1⟩:=i1
 cases b1 with
 | false=>exact h1
 | true=>
  simp only[]at ⊢
  cases decide ((CF l1).1=1)with
  | true=>exact fun h=>(by cases h)
  | false=>
   simp only[]at ⊢
   unfold R9
   generalize LH Ri l1=i2
   obtain⟨k,l2⟩:=i2
   exact cS hT d (CG m) l2 er1 ns k
theorem bO:yH (XP T):=by
 intro d l er ns
 show (Kc T d l er ns).1=false->(Kc T d l er ns).2.2.2.1.2≠0
 unfold Kc
 cases T1 (CF l)with
 | false=>exact fun _=>Dc _ _ 7 (by decide)
 | true=>
  simp only[]at ⊢
  cases decide (16<d) || decide (300<=ns.length)with
  | true=>exact fun _=>Dc _ _ 5 (by decide)
  | false=>
   have h1:=YA hT d l er (ns++[HS])
   simp only[]at ⊢
   generalize FZ T d l er (ns++[HS])=i1 at h1 ⊢
   obtain⟨b1,nd,l1,er1,ns1⟩:=i1
   cases b1 with
   | false=>exact h1
   | true=>exact fun h=>(by cases h)
theorem U1:∀(n:Nat) (z:NT) (l:List A4) (er:Er) (ns:List AL),(Lq T n z l er ns).1=false->(Lq T n z l er ns).2.2.2.1.2≠0
 | 0,z,l,er,ns=>fun _=>Dc _ _ 5 (by decide)
 | n+1,z,l,er,ns=>by
  unfold Lq
  cases decide ((CF l).1=1)with
  | true=>
   have h1:(Iw T z l er ns).1=false->(Iw T z l er ns).2.2.2.1.2≠0:=by
    unfold Iw
    cases decide (40<=z.1.length)with
    | true=>exact fun _=>Dc _ _ 5 (by decide)
    | false=>
     have h2:=C7 [BS.mk 3 4012602] (JE l) er
     simp only[]at ⊢
     generalize Aj [BS.mk 3 4012602] (JE l) er=i2 at h2 ⊢
     obtain⟨b2,l2,er2⟩:=i2
     cases b2 with
     | false=>exact h2
     | true=>exact hT 0 l2 er2 ns
   simp only[]at ⊢
   generalize Iw T z l er ns=i1 at h1 ⊢
   obtain⟨b1,z1,l1,er1,ns1⟩:=i1
   cases b1 with
   | false=>exact h1
   | true=>exact U1 n z1 l1 er1 ns1
  | false=>
   have h1:=C7 [BS.mk 3 4476485] l er
   simp only[]at ⊢
   generalize Aj [BS.mk 3 4476485] l er=i1 at h1 ⊢
   obtain⟨b1,l1,er1⟩:=i1
   cases b1 with
   | false=>exact h1
   | true=>exact Q4 0 l1 er1
theorem cF (l:List A4) (er:Er):(M0 T l er).1=false->(M0 T l er).2.2.2≠0:=by
 unfold M0
 have h1:=Q4 1 l er
 generalize IL 1 l er=i1 at h1 ⊢
 obtain⟨b1,l1,er1⟩:=i1
 cases b1 with
 | false=>exact h1
 | true=>
  have h2:=C7 [BS.mk 11 100710650190388740279911748] l1 er1
  simp only[]at ⊢
  generalize Aj [BS.mk 11 100710650190388740279911748] l1 er1=i2 at h2 ⊢
  obtain⟨b2,l2,er2⟩:=i2
  cases b2 with
  | false=>exact h2
  | true=>
   have tn:∀(ws:List BS) (i:Nat) (tg:Int) (l:List A4) (er:Er),(Rl ws i tg l er).1=false->(Rl ws i tg l er).2.2.2.2≠0:=by
    intro ws
    induction ws with
    | nil=>intro i tg l er h;cases h
    | cons w ws ih=>
     intro i tg l er
     unfold Rl
     cases MY w l with
     | false=>exact ih _ _ _ _
     | true=>exact C7 _ _ _
   have h3:=tn LL 0 0 l2 er2
   simp only[]at ⊢
   generalize Rl LL 0 0 l2 er2=i3 at h3 ⊢
   obtain⟨b3,tg,l3,er3⟩:=i3
   cases b3 with
   | false=>exact h3
   | true=>
    have h4:=C7 [BS.mk 3 4012602,BS.mk 5 336236856642] l3 er3
    simp only[]at ⊢
    generalize Aj [BS.mk 3 4012602,BS.mk 5 336236856642] l3 er3=i4 at h4 ⊢
    obtain⟨b4,l4,er4⟩:=i4
    cases b4 with
    | false=>exact h4
    | true=>
     have h5:(ay T l4 er4).1=false->(ay T l4 er4).2.2.2.1.2≠0:=by
      unfold ay
      exact U1 hT 9001 ([],[]) l4 er4 []
     simp only[]at ⊢
     generalize ay T l4 er4=i5 at h5 ⊢
     obtain⟨b5,z,l5,er5,ns⟩:=i5
     cases b5 with
     | false=>exact h5
     | true=>exact fun h=>(by cases h)
end
theorem US:∀q,yH (BK q)
 | 0=>fun d l er ns _=>Dc _ _ 5 (by decide)
 | q+1=>bO (US q)
theorem V2 {M:Nat} {s:BS} {e:Nat × Nat} (h:JZ M s = .error e):e.2≠0:=by
 unfold JZ at h
 cases h1:PQ M s with
 | error e'=>
  rw[h1]at h
  cases h
  exact SK h1
 | ok ts=>
  rw[h1]at h
  simp only[]at h
  have hn:=cF (T:=Ja) (by unfold Ja;exact US 18) ts (0,0)
  cases h2:M0 Ja ts (0,0)with
  | mk b i=>
   obtain⟨m',er⟩:=i
   rw[h2]at h hn
   cases b with
   | true=>cases h
   | false=>cases h;exact hn rfl
theorem Na {E:EB} {Z:H} {x v:V} {n k:Nat} {m:List V} (h:GA Z 1 n x m) (hk:m[k]? = some v) (J:V->AH):Am 1 x (AA k) (fun b o=>Bm E Z b o J)=J v:=by
 have hl:k<m.length:=by
  rcases Ad k m.length with h'|h'
  ·exact h'
  ·rw[Af h']at hk;cases hk
 rw[h.length,FC]at hl
 rcases h with ⟨rfl,_,_⟩|⟨b,o,c,L,rfl,ha,hle,rfl⟩
 ·omega
 ·rw[Dy hl]
  show Bm E Z b (o+k*1) J=_
  rw[FC,Av ha]
  refine LV ?_
  rw[DN,if_pos (by omega),CL]at hk
  rw[LW];exact hk
theorem SD:∀(ns:List AL) (ws:List (V × FV)) (k:Nat) (nd:AL) (u:V × FV),ws.length=ns.length->ns[k]? = some nd->ws[k]? = some u->((Gx ns ws).drop (k*16)).take 16=nd.c u.1 u.2.1
 | x::ns,y::ws,0,nd,u,_,h1,h2=>by
  cases h1;cases h2
  show (((x.c y.1 y.2.1)++Gx ns ws).drop (0*16)).take 16=_
  rw[Nat.zero_mul,EV]
  exact List.take_left (l₁:=x.c y.1 y.2.1)
 | x::ns,y::ws,k+1,nd,u,h,h1,h2=>by
  have ih:=SD ns ws k nd u (by simpa using h) h1 h2
  show (((x.c y.1 y.2.1)++Gx ns ws).drop ((k+1)*16)).take 16=_
  rw[show (k+1)*16=16+k*16 by omega,<-C5,show ((x.c y.1 y.2.1)++Gx ns ws).drop 16=Gx ns ws from List.drop_left (l₁:=x.c y.1 y.2.1)]
  exact ih
 | [],_,_,_,_,_,h1,_=>by cases h1
 | _::_,[],_,_,_,h,_,_=>by simp at h
theorem Uv:∀(fs:List CT) (vs:List V) (k:Nat) (f:CT) (v:V),vs.length=fs.length->fs[k]? = some f->vs[k]? = some v->((TP fs vs).drop (k*11)).take 11=f.c v
 | x::fs,y::vs,0,f,v,_,h1,h2=>by
  cases h1;cases h2
  show (((x.c y)++TP fs vs).drop (0*11)).take 11=_
  rw[Nat.zero_mul,EV]
  exact List.take_left (l₁:=x.c y)
 | x::fs,y::vs,k+1,f,v,h,h1,h2=>by
  have ih:=Uv fs vs k f v (by simpa using h) h1 h2
  show (((x.c y)++TP fs vs).drop ((k+1)*11)).take 11=_
  rw[show (k+1)*11=11+k*11 by omega,<-C5,show ((x.c y)++TP fs vs).drop 11=TP fs vs from List.drop_left (l₁:=x.c y)]
  exact ih
 | [],_,_,_,_,_,h1,_=>by cases h1
 | _::_,[],_,_,_,h,_,_=>by simp at h
theorem Rn {E:EB} {Z:H} {x:V} {esz n k:Nat} {m c:List V} (h:GA Z esz n x m) (hk:k<n) (hc:(m.drop (k*esz)).take esz=c) (J:List V->AH):Am esz x (AA k) (fun b o=>DB E Z b o esz J)=J c:=by
 rcases h with ⟨rfl,_,_⟩|⟨b,o,cp,L,rfl,ha,hle,rfl⟩
 ·omega
 ·rw[Dy hk]
  show DB E Z b (o+k*esz) esz J=_
  have h1:k*esz+esz<=n*esz:=by
   have:=FD esz (show k+1<=n from hk)
   rw[PJ,Nat.one_mul]at this;exact this
  rw[Ho ha,NA (by omega)]
  rw[nM,List.take_take,aq (by omega),C5]at hc
  rw[hc]
theorem Vv {E:EB} {Z:H} {x v:V} {esz n k i:Nat} {m c:List V} (h:GA Z esz n x m) (hk:k<n) (hc:(m.drop (k*esz)).take esz=c) (hi:i<esz) (hv:c[i]? = some v) (J:V->AH):Am esz x (AA k) (fun b o=>Bm E Z b (AU o i) J)=J v:=by
 subst hc
 rw[DN,if_pos hi,CL]at hv
 rcases h with ⟨rfl,_,_⟩|⟨b,o,cp,L,rfl,ha,hle,rfl⟩
 ·omega
 ·rw[Dy hk]
  show Bm E Z b (o+k*esz+i) J=_
  have h1:k*esz+esz<=n*esz:=by
   have:=FD esz (show k+1<=n from hk)
   rw[PJ,Nat.one_mul]at this;exact this
  rw[Av ha]
  refine LV ?_
  rw[DN,if_pos (by omega),CL]at hv
  rw[LW,<-hv]
  congr 1
  omega
theorem Q5 {w:List Nat} (h:w≠[]):BS.beq (Cj w) (BS.mk 0 0)=false:=by
 cases w with
 | nil=>exact absurd rfl h
 | cons c w=>
  unfold BS.beq
  rw[Fo];rfl
section
variable {E:EB} {D:BB} {W:AJ} {N:Nat}
theorem pc {K1:BS->Int->V->V->V->H->AH} {Z:H} {m:Wn} {nv tv dv:V} (hs:tD Z m nv tv dv) (hg:tE m) {b:BS} {c:Int}:∀(n k:Nat),m.2.2.1.2.length+1<=n+k->k<=m.2.2.1.2.length ->
  Nat.rec (motive:=fun _=>Int->BS->Int->V->V->V->H->AH) (fun _ _ _ _ _ _ _=>none) (fun _ ih=>Wk E D W K1 ih) n (AA k) b c nv tv dv Z=K1 b c nv tv dv Z:=by
 intro n
 induction n with
 | zero=>intro k h1 h2;omega
 | succ n ih=>
  intro k h1 h2
  show Wk E D W K1 (Nat.rec (motive:=fun _=>Int->BS->Int->V->V->V->H->AH) (fun _ _ _ _ _ _ _=>none) (fun _ ih=>Wk E D W K1 ih) n) (AA k) b c nv tv dv Z=_
  have st:∀J:Nat->AH,BG tv J=J m.2.2.1.2.length:=fun J=>hs.t.slen
  obtain⟨ws,hd,hw,hn⟩:=hs.d
  have sd:∀J:Nat->AH,BG dv J=J m.2.2.2.length:=fun J=>hd.slen
  unfold Wk
  rcases Ad k m.2.2.1.2.length with hk|hk
  ·obtain⟨t,ht⟩:∃t,m.2.2.1.2[k]? = some t:=⟨_,AY hk⟩
   obtain⟨w,hw'⟩:∃w,m.2.2.1.1[k]? = some w:=⟨_,AY (by rw[hg.ag.le.1];exact hk)⟩
   have rt:=fun J=>Na (E:=E) hs.t (k:=k) (v := .int .i64 (AA t)) (by unfold nQ;rw[Bk,ht];rfl) J
   have rn:=fun J=>Na (E:=E) hs.n.src (k:=k) (v := .str (Cj w)) (by unfold pY;rw[Bk,hw'];rfl) J
   have d1:decide (k<m.2.2.1.2.length)=true:=decide_eq_true hk
   have d2:Dt (AA t) (AA 0)=false:=rfl
   have d3:decide (m.2.2.2.length<=t)=false:=decide_eq_false (by have:=hg.ag.pl k t ht;omega)
   have d4:=Q5 (hg.ag.nm w (D5 hw'))
   have ak:CJ .i64 (AA k) (AA 1)=AA (k+1):=Bw (by have:=hg.ag.le;omega)
   cases k with
   | zero=>
    simp -implicitDefEqProofs only [↓rP,rA,AD,AE,AB,↓st,d1,↓rt,d2,↓sd,d3,↓rn,d4,ak]
    exact ih 1 (by omega) (by omega)
   | succ j=>
    obtain⟨p,hp⟩:∃p,m.2.2.1.2[j]? = some p:=⟨_,AY (by omega)⟩
    have rp:=fun J=>Na (E:=E) hs.t (k:=j) (v := .int .i64 (AA p)) (by unfold nQ;rw[Bk,hp];rfl) J
    have sj:JQ .i64 (AA (j+1)) (AA 1)=AA j:=JP (by omega) (by have:=hg.ag.le;omega)
    have d5:decide (t<=p)=false:=decide_eq_false (by have:=hg.ag.asc j p t hp ht;omega)
    have d6:decide (0<j+1)=true:=decide_eq_true (by omega)
    simp -implicitDefEqProofs only [↓rP,rA,AD,AE,AB,↓st,d1,↓rt,d2,↓sd,d3,↓rn,d4,ak,sj,↓rp,d5,d6]
    exact ih (j+1+1) (by omega) (by omega)
  ·have d1:decide (k<m.2.2.1.2.length)=false:=decide_eq_false (by omega)
   simp -implicitDefEqProofs only [↓rP,rA,AD,AE,AB,↓st,d1]
theorem pZ {R7:Int->Int->BS->Int->V->V->V->Int->BS->Bool->Int->Int->Bool->Bool->Bool->Bool->Int->Int->V->V->Int->Bool->Int->H->AH} {K6:Int->BS->Int->V->V->V->Int->BS->Bool->Int->Int->Bool->Bool->Bool->Bool->Int->Int->V->V->Int->Bool->Int->H->AH} {Z:H} {ln i:Nat} {nd:AL} {u:V × FV} {nv tv dv:V} (hr:zj Z nd u) (hg:iA i ln nd) (sd:∀J:Nat->AH,BG dv J=J ln) (hf:nd.fields.length<=100000) {b:BS} {c:Int} {k0:Int} {nm0:BS} {b1 b2 b3 b4 b5 b6:Bool} {n1 n2 n3 n4 n5:Int} {iv:V} {j:Nat} (h2:j<=nd.fields.length) :
  dc E D W K6 R7 (AA i) (AA j) b c nv tv dv k0 nm0 b1 n1 n2 b2 b3 b4 b5 n3 n4 iv u.2.1 (AA nd.root) b6 n5 Z=(if j<nd.fields.length then R7 (AA i) (AA (j+1)) b c nv tv dv k0 nm0 b1 n1 n2 b2 b3 b4 b5 n3 n4 iv u.2.1 (AA nd.root) b6 n5 Z else K6 (AA i) b c nv tv dv k0 nm0 b1 n1 n2 b2 b3 b4 b5 n3 n4 iv u.2.1 (AA nd.root) b6 n5 Z):=by
 have sf:∀J:Nat->AH,BG u.2.1 J=J nd.fields.length:=fun J=>hr.f.slen
 unfold dc
 rcases Ad j nd.fields.length with hj|hj
 ·rw[if_pos hj]
  have get:∀k,k<nd.fields.length->∃f v,nd.fields[k]? = some f/\((TP nd.fields u.2.2).drop (k*11)).take 11=f.c v/\v.one=true:=by
   intro k hk
   obtain⟨v,hv⟩:∃v,u.2.2[k]? = some v:=⟨_,AY (by rw[hr.g.1];exact hk)⟩
   have hf':=AY hk
   exact⟨_,v,hf',Uv _ _ _ _ _ hr.g.1 hf' hv,(hr.g.2 k _ v hf' hv).one⟩
  obtain⟨f,v,ef,sub,vo⟩:=get j hj
  have rf:=fun J=>Rn (E:=E) hr.f hj sub J
  unfold CT.c at rf
  obtain⟨a1,a2,a3⟩:=hg.fl.a j f ef
  have d1:decide (j<nd.fields.length)=true:=decide_eq_true hj
  have d2:decide (f.type<=i)=false:=decide_eq_false (by omega)
  have d3:decide (ln<=f.type)=false:=decide_eq_false (by omega)
  have d4:=Q5 a3
  have ak:CJ .i64 (AA j) (AA 1)=AA (j+1):=Bw (by omega)
  have ao:BJ [.str (Cj f.name),.int .i64 (AA f.type),.bool f.opt,.bool f.has,.int .i64 (AA f.dk),.int .i64 f.dn,v,.nils,.int .i64 (AA 0),.nils,.int .i64 (AA f.group)]=true:=by
   simp only[B8,CS,G5,Hn,IW,HR,vo,Be]
  have dg:∀J:Bool->H->AH,AI (decide (0<f.group)) (J (decide (j<nd.root)) Z) (J false Z)=J false Z:=by
   intro J
   cases hgr:decide (0<f.group)with
   | false=>rfl
   | true=>
    have:=hg.gr j f ef (of_decide_eq_true hgr)
    rw[decide_eq_false (show ¬j<nd.root by omega)];rfl
  have hd5:decide (0<f.group)=true->decide (j<nd.root)=false:=fun e=>decide_eq_false (by have:=hg.gr j f ef (of_decide_eq_true e);omega)
  cases j with
  | zero=>
   cases h5:decide (0<f.group)with
   | false=>
    simp -implicitDefEqProofs only [↓rP,rA,AD,AE,AB,↓sf,d1,↓rf,vo,↓sd,d2,d3,d4,ak,h5]
   | true=>
    have d6:=hd5 h5
    simp -implicitDefEqProofs only [↓rP,rA,AD,AE,AB,↓sf,d1,↓rf,vo,↓sd,d2,d3,d4,ak,h5,d6]
  | succ j=>
   obtain⟨g,v',eg,sub',_⟩:=get j (by omega)
   have rp:=fun J=>Vv (E:=E) (i:=1) (v := .int .i64 (AA g.type)) hr.f (show j<nd.fields.length by omega) sub' (by decide) rfl J
   have sj:JQ .i64 (AA (j+1)) (AA 1)=AA j:=JP (by omega) (by omega)
   have d7:decide (f.type<=g.type)=false:=decide_eq_false (by have:=hg.fl.b j g f eg ef;omega)
   have d8:decide (0<j+1)=true:=decide_eq_true (by omega)
   cases h5:decide (0<f.group)with
   | false=>
    simp -implicitDefEqProofs only [↓rP,rA,AD,AE,AB,↓sf,d1,↓rf,vo,↓sd,d2,d3,d4,ak,sj,↓rp,d7,d8,h5]
   | true=>
    have d6:=hd5 h5
    simp -implicitDefEqProofs only [↓rP,rA,AD,AE,AB,↓sf,d1,↓rf,vo,↓sd,d2,d3,d4,ak,sj,↓rp,d7,d8,h5,d6]
 ·rw[if_neg (by omega)]
  have d1:decide (j<nd.fields.length)=false:=decide_eq_false (by omega)
  simp -implicitDefEqProofs only [↓rP,rA,AD,AE,AB,↓sf,d1]
theorem fD {R4:Int->BS->Int->V->V->V->H->AH} {Z:H} {ln i:Nat} {nd:AL} {u:V × FV} {nv tv dv:V} (hr:zj Z nd u) (hg:iA i ln nd) (sd:∀J:Nat->AH,BG dv J=J ln) (hf:nd.fields.length<=100000) {b:BS} {c:Int} {k0:Int} {nm0:BS} {b1 b2 b3 b4 b5 b6:Bool} {n1 n2 n3 n4 n5:Int} {iv:V}:∀(n j:Nat),nd.fields.length+1<=n+j->j<=nd.fields.length ->
  Wp E D W N R4 n (AA i) (AA j) b c nv tv dv k0 nm0 b1 n1 n2 b2 b3 b4 b5 n3 n4 iv u.2.1 (AA nd.root) b6 n5 Z=aD E D W N R4 (AA i) b c nv tv dv k0 nm0 b1 n1 n2 b2 b3 b4 b5 n3 n4 iv u.2.1 (AA nd.root) b6 n5 Z
 | 0,j,h1,h2=>by omega
 | n+1,j,h1,h2=>by
  refine(pZ (E:=E) (D:=D) (W:=W) (R7:=Wp E D W N R4 n) (K6:=aD E D W N R4) hr hg sd hf h2).trans ?_
  rcases Ad j nd.fields.length with hj|hj
  ·rw[if_pos hj]
   exact fD hr hg sd hf n (j+1) (by omega) (by omega)
  ·rw[if_neg (by omega)]
theorem qP (a b:Bool) (J:Bool->AH):TQ .bool (.bool a) (.bool b) J=J (a==b):=rfl
theorem pa {R4:Int->BS->Int->V->V->V->H->AH} {Z:H} {m:Wn} {nv tv dv:V} (hs:tD Z m nv tv dv) (hg:tE m) (hN:100002<N) (hfew:∀(k:Nat) (nd:AL),m.2.2.2[k]? = some nd->nd.fields.length<=100000) {b:BS} {c:Int} {k:Nat} (hk0:k<=m.2.2.2.length) :
  dh E D W (nG E D W N) (Wp E D W N R4 N) (AA k) b c nv tv dv Z=(if k<m.2.2.2.length then R4 (AA (k+1)) b c nv tv dv Z else some (.bool true,Z)):=by
 obtain⟨ws,hd,hw,hn⟩:=hs.d
 have sd:∀J:Nat->AH,BG dv J=J m.2.2.2.length:=fun J=>hd.slen
 obtain⟨ext,he,hbig,hgd⟩:=hg.ag.nd
 rw[JI]at he
 unfold dh
 rcases Ad k m.2.2.2.length with hk|hk
 ·rw[if_pos hk]
  obtain⟨nd,en⟩:∃nd,m.2.2.2[k]? = some nd:=⟨_,AY hk⟩
  obtain⟨u,eu⟩:∃u,ws[k]? = some u:=⟨_,AY (by rw[hw];exact hk)⟩
  have hr:=hn k nd u en eu
  have hG:iA k m.2.2.2.length nd:=by
   have:=hgd k nd (by rw[<-he];exact en)
   rw[A0,B2]at this
   exact this
  have rd:=fun J=>Rn (E:=E) hd hk (SD _ _ _ _ _ hw en eu) J
  unfold AL.c at rd
  have io:=hr.i.one
  have fo:=hr.f.one
  have d1:decide (k<m.2.2.2.length)=true:=decide_eq_true hk
  have d2:decide (nd.kind<1)=false:=decide_eq_false (by have:=hG.k1;omega)
  have d3:decide (11<nd.kind)=false:=decide_eq_false (by have:=hG.k2;omega)
  have d4:Dt (AA nd.root) (AA 0)=false:=rfl
  have sf:∀J:Nat->AH,BG u.2.1 J=J nd.fields.length:=fun J=>hr.f.slen
  have si:∀J:Nat->AH,BG u.1 J=J nd.items.length:=fun J=>hr.i.slen
  have d5:Dt (cG (AA nd.fields.length) (AA nd.items.length)) (AA nd.root)=false:=by
   have hm:cG (AA nd.fields.length) (AA nd.items.length)=AA (max nd.fields.length nd.items.length):=by
    unfold cG
    by_cases h:nd.fields.length<nd.items.length
    ·rw[if_pos (show (AA nd.items.length:Int) > AA nd.fields.length from Int.ofNat_lt.2 h),Nat.max_eq_right (by omega)]
    ·rw[if_neg (show ¬((AA nd.items.length:Int) > AA nd.fields.length)from fun h'=>h (Int.ofNat_lt.1 h')),Nat.max_eq_left (by omega)]
   rw[hm,RA]
   exact decide_eq_false (by have:=hG.rt;omega)
  have d6:decide (nd.kind=11)=!(BS.beq (Cj nd.name) (BS.mk 0 0)):=by
   by_cases h11:nd.kind=11
   ·rw[decide_eq_true h11,Q5 (hG.nm.1 h11)];rfl
   ·rw[decide_eq_false h11]
    have:nd.name=[]:=by
     by_cases hq:nd.name=[]
     ·exact hq
     ·exact absurd (hG.nm.2 hq) h11
    rw[this];rfl
  have ak:CJ .i64 (AA k) (AA 1)=AA (k+1):=Bw (by omega)
  have l3:=fD (E:=E) (D:=D) (W:=W) (N:=N) (R4:=R4) (b:=b) (c:=c) (k0:=AA nd.kind) (nm0:=Cj nd.name) (b1:=nd.mHas) (n1:=nd.mNum) (n2:=AA nd.mMode) (b2:=nd.con.has) (b3:=nd.con.hasLow) (b4:=nd.con.hasHigh) (b5:=nd.con.more) (n3:=nd.con.low) (n4:=nd.con.high) (b6:=nd.more) (n5:=AA nd.of_) (iv:=u.1) (nv:=nv) (tv:=tv) hr hG sd (hfew k nd en) N 0 (by have:=hfew k nd en;omega) (CD _)
  have l6:aD E D W N R4 (AA k) b c nv tv dv (AA nd.kind) (Cj nd.name) nd.mHas nd.mNum (AA nd.mMode) nd.con.has nd.con.hasLow nd.con.hasHigh nd.con.more nd.con.low nd.con.high u.1 u.2.1 (AA nd.root) nd.more (AA nd.of_) Z=R4 (AA (k+1)) b c nv tv dv Z:=by
   show de E D W (df E D W R4) _ _ _ _ _ _ _ _ _ _ _ _ _ _ _ _ _ _ _ _ _ _ Z=_
   unfold de df
   cases h10:decide (nd.kind=10)with
   | false=>simp -implicitDefEqProofs only [↓rP,rA,AD,AE,AB,h10,ak]
   | true=>
    obtain⟨o1,o2⟩:=hG.of (of_decide_eq_true h10)
    have e1:decide (nd.of_<=k)=false:=decide_eq_false (by omega)
    have e2:decide (m.2.2.2.length<=nd.of_)=false:=decide_eq_false (by omega)
    simp -implicitDefEqProofs only [↓rP,rA,AD,AE,AB,h10,e1,↓sd,e2,ak]
  rw[l6]at l3
  generalize Wp E D W N R4 N=R7 at l3 ⊢
  simp -implicitDefEqProofs only [↓rP,rA,AD,AE,AB,↓sd,d1,↓rd,io,fo,d2,d3,d4,↓sf,↓si,d5,qP,d6,beq_self_eq_true]
  exact l3
 ·rw[if_neg (by omega)]
  have d1:decide (k<m.2.2.2.length)=false:=decide_eq_false (by omega)
  simp -implicitDefEqProofs only [↓rP,rA,AD,AE,AB,↓sd,d1]
  rfl
theorem fE {Z:H} {m:Wn} {nv tv dv:V} (hs:tD Z m nv tv dv) (hg:tE m) (hN:100002<N) (hfew:∀(k:Nat) (nd:AL),m.2.2.2[k]? = some nd->nd.fields.length<=100000) {b:BS} {c:Int}:∀(n k:Nat),m.2.2.2.length+1<=n+k->k<=m.2.2.2.length ->
  eA E D W N n (AA k) b c nv tv dv Z=some (.bool true,Z)
 | 0,k,h1,h2=>by omega
 | n+1,k,h1,h2=>by
  refine(pa (E:=E) (R4:=eA E D W N n) hs hg hN hfew h2).trans ?_
  rcases Ad k m.2.2.2.length with hj|hj
  ·rw[if_pos hj]
   exact fE hs hg hN hfew n (k+1) (by omega) (by omega)
  ·rw[if_neg (by omega)]
def MV (args:List V) (F:List V->H->AH):Prop:=∀Z:H,Ci Z->∃Z',F args Z=some (.bool true,Z')/\Fr BQ Z Z'
theorem cQ {M:Nat} (hP:Lv E M (D 5)) (hA:MV [] (D 4)) (hM:MV [.agg zM,.agg zM] (D 6)) (hN:100002<N) (hfew:∀(s:BS) (m:Wn),JZ M s = .ok m->∀(k:Nat) (nd:AL),m.2.2.2[k]? = some nd->nd.fields.length<=100000) (Z:H) (s:BS) (ht:Ci Z) (hu:OW E Z) :
  ∃Z',F3 E D W N [.str s] Z=some (.bool true,Z')/\Fr BQ Z Z':=by
 show ∃Z',Wl E D W (Zp E D W N N) s Z=_/\_
 cases hl:decide (9000<s.len)with
 | true=>
  obtain⟨Z1,g1,f1⟩:=hA Z ht
  refine⟨Z1,?_,f1⟩
  unfold Wl
  simp -implicitDefEqProofs only [↓rP,rA,AD,AE,AB,hl,↓g1]
 | false=>
  have hp:=hP Z s ht hu
  have hgd:=@Rx M s
  have hno:=@V2 M s
  have hfw:=hfew s
  cases hx:JZ M s with
  | error e=>
   rw[hx]at hp
   obtain⟨Z1,g1,f1⟩:=hp
   have he:=hno hx
   have d1:decide (e.2=0)=false:=decide_eq_false he
   obtain⟨Z2,g2,f2⟩:=hA Z1 f1.tidy
   obtain⟨Z3,g3,f3⟩:=hA Z2 f2.tidy
   obtain⟨Z4,g4,f4⟩:=hM Z3 f3.tidy
   unfold zM at g4
   refine⟨Z4,?_,((f1.trans f2 (fun _ _ h=>h)).trans f3 (fun _ _ h=>h)).trans f4 (fun _ _ h=>h)⟩
   have ao:BJ [.str (BS.mk 0 0),.int .i64 (AA 0),.nils,.nils,.nils]=true:=rfl
   unfold Wl
   simp -implicitDefEqProofs only [↓rP,rA,AD,AE,AB,hl,↓g1,ao,↓g2,d1,↓g3,↓g4]
  | ok m=>
   rw[hx]at hp
   obtain⟨nv,tv,dv,Z1,g1,hs,_,f1⟩:=hp
   have hg:=hgd hx
   obtain⟨Z2,g2,f2⟩:=hA Z1 f1.tidy
   have hs2:tD Z2 m nv tv dv:=by
    obtain⟨ws,h1,h2,h3⟩:=hs.d
    exact⟨hs.n.fr f2 f1.tidy (fun _ _ h=>h),hs.t.fr f2 f1.tidy (fun _ _ h=>h),⟨ws,h1.fr f2 f1.tidy (fun _ _ h=>h),h2,fun k nd u a b=>by
     have:=h3 k nd u a b
     exact⟨this.i.fr f2 f1.tidy (fun _ _ h=>h),this.f.fr f2 f1.tidy (fun _ _ h=>h),this.g.fr f2 f1.tidy (fun _ _ _ _ h=>h)⟩⟩⟩
   obtain⟨ws,hd,hw,_⟩:=hs2.d
   obtain⟨ext,he,hbig,_⟩:=hg.ag.nd
   unfold xz at g1
   have no:=hs2.n.one
   have to:=hs2.t.one
   have do_:=hd.one
   have sn:∀J:Nat->AH,BG nv J=J m.2.2.1.1.length:=fun J=>hs2.n.slen
   have st:∀J:Nat->AH,BG tv J=J m.2.2.1.2.length:=fun J=>hs2.t.slen
   have sd:∀J:Nat->AH,BG dv J=J m.2.2.2.length:=fun J=>hd.slen
   have d1:decide (m.2.2.1.1.length=m.2.2.1.2.length)=true:=decide_eq_true hg.ag.le.1
   have d2:decide (40<m.2.2.1.1.length)=false:=decide_eq_false (by have:=hg.ag.le.2;omega)
   have d3:decide (300<m.2.2.2.length)=false:=decide_eq_false (by omega)
   have d4:=Q5 hg.nm
   have ez:decide ((0:Nat)=0)=true:=rfl
   refine⟨Z2,?_,f1.trans f2 (fun _ _ h=>h)⟩
   have l1:=pc (E:=E) (D:=D) (W:=W) (K1:=eG E D W N) hs2 hg (b:=Cj m.1) (c:=m.2.1) N 0 (by have:=hg.ag.le;omega) (CD _)
   have l2:eG E D W N (Cj m.1) m.2.1 nv tv dv Z2=some (.bool true,Z2):=fE hs2 hg hN (hfw m hx) N 0 (by omega) (CD _)
   have l12:Zp E D W N N (AA 0) (Cj m.1) m.2.1 nv tv dv Z2=some (.bool true,Z2):=l1.trans l2
   generalize Zp E D W N N=K at l12 ⊢
   unfold Wl
   simp -implicitDefEqProofs only [↓rP,rA,AD,AE,AB,hl,↓g1,no,to,do_,↓g2,ez,↓sn,↓st,d1,d2,↓sd,d3,d4]
   exact l12
theorem Oq.len {i n:Nat} {fs:List CT} (h:Oq i n fs):fs.length<=n:=by
 have up:∀(k:Nat) (f:CT),fs[k]? = some f->k<=f.type:=by
  intro k
  induction k with
  | zero=>intro f _;exact CD _
  | succ k ih=>
   intro f hf
   have hl:k+1<fs.length:=by
    rcases Ad (k+1) fs.length with h'|h'
    ·exact h'
    ·rw[Af h']at hf;cases hf
   have hg:=AY (show k<fs.length by omega)
   have:=ih _ hg
   have:=h.b k _ f hg hf
   omega
 rcases PF fs.length with h0|h0
 ·omega
 ·have hg:=AY (show fs.length-1<fs.length by omega)
  have:=up _ _ hg
  have:=(h.a _ _ hg).2.1
  omega
theorem kI {M:Nat} (hP:Lv E M (D 5)) (hA:MV [] (D 4)) (hM:MV [.agg zM,.agg zM] (D 6)) (hN:100002<N) (Z:H) (s:BS) (ht:Ci Z) (hu:OW E Z) :
  ∃Z',F3 E D W N [.str s] Z=some (.bool true,Z')/\Fr BQ Z Z':=by
 refine cQ hP hA hM hN (fun s m hx k nd hk=>?_) Z s ht hu
 obtain⟨ext,he,hbig,hgd⟩:=(Rx hx).ag.nd
 rw[JI]at he
 have:=(hgd k nd (by rw[<-he];exact hk)).fl.len
 omega
end
end
end Go.Proofs.YtnpcmeaplmfdlaaDoor
