/- What the last text leans on, part 2 of 8: merged out of smaller texts. No condition. -/
import Derived.Orders
import Derived.Test.YtpbligmafbkeaaaGreatDoorQ0
open Int renaming ofNat -> AA,tmod -> EW,natCast_pow -> xZ,fdiv_eq_ediv_of_nonneg -> AJE
open Nat renaming le_refl -> AL,add -> AM,beq_eq -> AW,ble -> Am,beq -> Ar,lt_or_ge -> A2,le_trans -> BE,zero_add -> BV,ble_eq -> Bn,blt -> B9,zero_le -> CA,blt_eq -> Co,lt_succ_self -> DK,mod_eq_of_lt -> Dn,lt_irrefl -> Dp,sub_self -> Ec,lt_of_lt_of_le -> Eh,le_succ -> El,min -> Ga,mul -> NJ,strongRecOn -> Pa,testBit_or -> WW,lt_trichotomy -> WX,lt_succ_of_lt -> WY
open List renaming getElem?_eq_getElem -> AI,mem_cons_self -> AZ,length_cons -> Ag,getElem?_map -> As,mem_cons_of_mem -> Az,mem_cons -> A0,getElem?_eq_none -> A4,append_nil -> BP,replicate -> Bf,getElem?_cons_succ -> Bh,getElem?_drop -> B6,mem_append -> CN,range -> CW,drop_drop -> Cd,map_cons -> C7,cons_append -> D9,all_eq_true -> EA,mem_range -> EV,getElem?_take -> G0,countP_cons_of_pos -> I0,countP_cons_of_neg -> Rx,eq_nil_iff_forall_not_mem -> e9,all_cons -> kN,countP_eq_zero -> xp
open Bool renaming and_eq_true -> AQ,or_eq_false_iff -> CX,or_eq_true -> Cn,not_eq_true' -> Dv,eq_false_iff -> EP,true_and -> EX,false_or -> Fc,eq_iff_iff -> xd
open Option renaming some -> AY
open Array renaming getElem?_setIfInBounds -> BT,getElem?_eq_none -> CR,getElem?_eq_getElem -> EI,size_setIfInBounds -> EY,getD_eq_getD_getElem? -> Ep,replicate -> Hc,getElem?_toList -> Y4,getElem?_replicate -> AY5
open BitVec renaming ofInt -> BY
set_option linter.all false
namespace Go.Og
variable {P:Program}{G:Nat->Bool}{E:EB}{D:Ac}{C:Cx}
theorem OV{α}(l m:List (Nat × α)) id:look (l++m) id=match look l id with
  | some b=>some b | none=>look m id:=by
 induction l with
 | nil=>rfl | cons p l f=>
  have ⟨k,b⟩:=p;by_cases h:k=id
  ·simp[look,h]
  ·simp only[D9,look,AW,h,if_false,f]
theorem LC{n0 n id:Nat}{p:Nat->Bool}:(Am n0 id&&B9 id (n0+n) && !p (id-n0))=true↔(n0<=id/\id<n0+n/\p (id-n0)=false):=by
 simp only[AQ,Bn,Co,Dv,and_assoc]
theorem D0 n0 n p l id:
  look (Ce n0 n p l) id=if n0<=id/\id<n0+n/\p (id-n0)=false then none else look l id:=by
 induction l with
 | nil=>simp[Ce,look] | cons q l m=>
  have ⟨k,b⟩:=q;unfold Ce;by_cases f:n0<=k/\k<n0+n/\p (k-n0)=false
  ·rw[if_pos (LC.2 f),m]
   by_cases h:k=id
   ·subst h;rw[if_pos f,if_pos f]
   ·simp only[look,AW,h,if_false]
  ·rw[if_neg (λo=>f (LC.1 o))]
   by_cases h:k=id
   ·subst h;rw[if_neg f];simp[look]
   ·simp only[look,AW,h,if_false,m]
theorem QH n0 n p l id:
  look (FH n0 n p l) id=if n0<=id/\id<n0+n/\p (id-n0)=false then look l id else none:=by
 induction l with
 | nil=>simp[FH,look] | cons q l m=>
  have ⟨k,b⟩:=q;unfold FH;by_cases f:n0<=k/\k<n0+n/\p (k-n0)=false
  ·rw[if_pos (LC.2 f)]
   by_cases h:k=id
   ·subst h;rw[if_pos f];simp[look]
   ·simp only[look,AW,h,if_false,m]
  ·rw[if_neg (λo=>f (LC.1 o)),m]
   by_cases h:k=id
   ·subst h;rw[if_neg f,if_neg f]
   ·simp only[look,AW,h,if_false]
theorem KN{n0 n p q}(h:∀k,k<n->p k=q k):∀l,Ce n0 n p l=Ce n0 n q l
 | []=>rfl | (id,b)::l=>by
  unfold Ce;rw[KN h l];by_cases m:n0<=id/\id<n0+n
  ·rw[h (id-n0) (by omega)]
  ·have:(Am n0 id&&B9 id (n0+n))=false:=by
    cases i:(Am n0 id&&B9 id (n0+n))with
    | false=>rfl | true=>simp at i;exact(m i).elim
   rw[this];simp
theorem OW{n0 n p q}(h:∀k,k<n->p k=q k):∀l,FH n0 n p l=FH n0 n q l
 | []=>rfl | (id,b)::l=>by
  unfold FH;rw[OW h l];by_cases m:n0<=id/\id<n0+n
  ·rw[h (id-n0) (by omega)]
  ·have:(Am n0 id&&B9 id (n0+n))=false:=by
    cases i:(Am n0 id&&B9 id (n0+n))with
    | false=>rfl | true=>simp at i;exact(m i).elim
   rw[this];simp
mutual
theorem Nd:∀(a b:V),V.beq a b=true->a=b
 | .i5,b,h=>by cases b<;>simp[V.beq]at h
 | .bool a,b,h=>by cases b<;>simp[V.beq]at h;subst h;rfl
 | .int k a,b,h=>by cases b<;>simp[V.beq]at h;obtain⟨rfl,rfl⟩:=h;rfl
 | .N a,b,h=>by cases b<;>simp[V.beq]at h;subst h;rfl
 | .nilp,b,h=>by cases b<;>simp[V.beq]at h;rfl
 | .o _ _,b,h=>by cases b<;>simp[V.beq]at h;obtain⟨rfl,rfl⟩:=h;rfl
 | .h,b,h=>by cases b<;>simp[V.beq]at h;rfl
 | .D _ _ _ _,b,h=>by cases b<;>simp[V.beq]at h;obtain⟨⟨⟨rfl,rfl⟩,rfl⟩,rfl⟩:=h;rfl
 | .sle _ _ _ _,b,h=>by cases b<;>simp[V.beq]at h;obtain⟨⟨⟨rfl,rfl⟩,rfl⟩,rfl⟩:=h;rfl
 | .nilm,b,h=>by cases b<;>simp[V.beq]at h;rfl
 | .mp _,b,h=>by cases b<;>simp[V.beq]at h;subst h;rfl
 | .fn f x y,b,h=>by
  cases b with
  | fn g u v=>
   simp only[V.beq,AQ,AW]at h
   obtain⟨⟨rfl,h1⟩,h2⟩:=h
   rw[LI x u h1,LI y v h2]
  | _=>simp[V.beq]at h
 | .nilf,b,h=>by cases b<;>simp[V.beq]at h;rfl
 | .ifc t x,b,h=>by
  cases b with
  | ifc u y=>
   simp only[V.beq,AQ,AW]at h
   obtain⟨rfl,h1⟩:=h
   rw[Nd x y h1]
  | _=>simp[V.beq]at h
 | .nili,b,h=>by cases b<;>simp[V.beq]at h;rfl
 | .agg l,b,h=>by
  cases b with
  | agg m=>simp only[V.beq]at h;rw[LI l m h]
  | _=>simp[V.beq]at h
 | .B l,b,h=>by
  cases b with
  | B m=>simp only[V.beq]at h;rw[LI l m h]
  | _=>simp[V.beq]at h
theorem LI:∀(l m:List V),O6 l m=true->l=m
 | [],m,h=>by cases m<;>simp[O6]at h;rfl
 | a::l,m,h=>by
  cases m with
  | nil=>simp[O6]at h
  | cons b m=>
   simp only[O6,AQ]at h
   rw[Nd a b h.1,LI l m h.2]
end
def Cx.sub(C:Cx)(R:DN)(Us:H)(w:World):Cx:=
 { C with O:=λa=>w.heap.size<=a\/∃id b j,look Us.F id=some b/\R id=some j/\j.i2=a,w0:=w }
theorem AB9{R}{U Us:H}{w}(h:EN C R U w)(d:∀id b,look Us.F id=some b->look U.F id=some b){e}(n:(C.sub R Us w).O e):C.O e:=by
 rcases n with g|⟨id,b,j,m,l,rfl⟩
 ·exact h.new _ (BE h.size g)
 ·have ⟨p,c,k,_⟩:=h.own id b (d id b m)
  rw[l]at c;cases c;exact k
theorem EN.shrink{R}{U Us:H}{w}(h:EN C R U w)(v:Us.j=U.j)(a:∀id b,look Us.F id=some b->look U.F id=some b):EN (C.sub R Us w) R Us w where
 kw id m:=h.kw id (v ▸ m);own id b e:=by
  have ⟨j,k,_,d⟩:=h.own id b (a id b e);exact⟨j,k,.inr ⟨id,b,j,e,k,rfl⟩,d⟩
 inj id l b A i E e n y p o:=h.inj id l b A i E (a _ _ e) (a _ _ n) y p o;ext id b e:=by
  have ⟨j,k,q,d⟩:=h.ext id b e;exact⟨j,k,λD=>q (AB9 h a D),d⟩
 glob:=h.glob;Z _ _:=rfl;size:=AL _;new _ f := .inl f;os:=rfl;tape:=rfl;output:=rfl
theorem EN.regrow{R N}{U Us U' Q:H}{w w'}(h:EN C R U w)(z:∀id b,look Us.F id=some b->look U.F id=some b)
  (s:EN (C.sub R Us w) N U' w') (Z:HU U.j R N) (h2:Q.j=U'.j)
  (O:∀id b,look Q.F id=some b->look U'.F id=some b\/(look U.F id=some b/\look Us.F id=none)):EN C N Q w':=by
 have u:=Z.le h.kw;have F:∀o,(C.sub R Us w).O o->C.O o:=λo m=>AB9 h z m;have B:∀id b j,look U.F id=some b->look Us.F id=none->R id=some j->¬(C.sub R Us w).O j.i2:=by
  intro id b j r D k m;rcases m with aa|⟨W,b2,j2,E,S,q⟩
  ·have ⟨j',L,_,l⟩:=h.own id b r
   rw[k]at L;cases L;have:=l.lt;omega
  ·have:=h.inj W id b2 b j2 j (z _ _ E) r S k q
   subst this;rw[D]at E;cases E
 have J:∀id b,look U.F id=some b->N id=R id:=λid b r=>Z id (h.next_of_own r);refine⟨λid X=>s.kw id (h2 ▸ X),?_,?_,?_,?_,?_,?_,h.new,s.os.trans h.os,s.tape.trans h.tape,s.output.trans h.output⟩
 ·intro id b r
  rcases O id b r with h1|⟨h1,A⟩
  ·have ⟨j,k,m,l⟩:=s.own id b h1
   exact⟨j,k,F _ m,l⟩
  ·have ⟨j,k,m,l⟩:=h.own id b h1
   exact⟨j,by rw[J id b h1];exact k,m,l.mono u (s.Z _ (B id b j h1 A k))⟩
 ·intro id f b y i P r I G p q
  rcases O id b r with h1|⟨h1,A⟩
  ·rcases O f y I with e|⟨e,x⟩
   ·exact s.inj id f b y i P h1 e G p q
   ·exfalso
    have ⟨j,k,m,_⟩:=s.own id b h1;rw[G]at k;cases k;rw[J f y e]at p;exact B f y P e x p (q ▸ m)
  ·rcases O f y I with e|⟨e,x⟩
   ·exfalso
    have ⟨j,k,m,_⟩:=s.own f y e;rw[p]at k;cases k;rw[J id b h1]at G;exact B id b i h1 A G (q ▸ m)
   ·rw[J id b h1]at G;rw[J f y e]at p
    exact h.inj id f b y i P h1 e G p q
 ·intro id b r
  have ⟨j,k,K,l⟩:=h.ext id b r;exact⟨j,u _ _ k,K,l.mono u (s.Z _ λm=>K (F _ m))⟩
 ·intro g hg
  have ⟨j,k,r⟩:=h.glob g hg;exact⟨j,u _ _ k,r⟩
 ·intro o K
  rw[<-h.Z o K];exact s.Z o λm=>K (F _ m)
 ·exact BE h.size s.size
theorem EN.allocAt{R}{U M:H}{w w':World}(h:EN C R U w){id}(L:R id=none)(W:id<U.j)(G:Fi w w') b (i:BI)(S:i.i2=w.heap.size)
  (O:Ff (I1 R id i) i b w') (Z:M.j=U.j) (B:∀k,look M.F k=if k=id then some b else look U.F k):EN C (I1 R id i) M w':=by
 have E:Le R (I1 R id i):=λk j J=>by
  by_cases v:k=id
  ·subst v;rw[L]at J;cases J
  ·rw[Bw v];exact J
 have x:=G.old;have T:=h.new _ h.size;refine⟨?_,?_,?_,?_,?_,?_,?_,h.new,G.os.trans h.os,G.tape.trans h.tape,G.output.trans h.output⟩
 ·intro k J
  rw[Bw (by omega)];exact h.kw k (by omega)
 ·intro k c u
  rw[B]at u;by_cases v:k=id
  ·subst v
   rw[if_pos rfl]at u;cases u;exact⟨i,CZ _ _ _,S ▸ T,O⟩
  ·rw[if_neg v]at u
   have ⟨j,t,P,n⟩:=h.own k c u;exact⟨j,by rw[Bw v];exact t,P,n.mono E (x _ n.lt)⟩
 ·intro k I c Q j Y u z t r N
  rw[B]at u z;by_cases v:k=id
  ·by_cases o:I=id
   ·rw[v,o]
   ·exfalso
    subst v;rw[CZ]at t;cases t;rw[if_neg o]at z;rw[Bw o]at r;have ⟨q,K,_,n⟩:=h.own I Q z;rw[K]at r;cases r;have:=n.lt;omega
  ·by_cases o:I=id
   ·exfalso
    subst o;rw[CZ]at r;cases r;rw[if_neg v]at u;rw[Bw v]at t;have ⟨q,K,_,n⟩:=h.own k c u;rw[K]at t;cases t;have:=n.lt;omega
   ·rw[if_neg v]at u;rw[if_neg o]at z
    rw[Bw v]at t;rw[Bw o]at r;exact h.inj k I c Q j Y u z t r N
 ·intro k c u
  have ⟨j,t,y,n⟩:=h.ext k c u;refine⟨j,E _ _ t,y,n.mono E (x _ ?_)⟩;rcases A2 j.i2 w.heap.size with B|B
  ·exact B
  ·exact absurd (h.new _ (BE h.size B)) y
 ·intro g X
  have ⟨j,t,O⟩:=h.glob g X;exact⟨j,E _ _ t,O⟩
 ·intro F y
  rw[<-h.Z F y];refine x _ ?_;rcases A2 F w.heap.size with B|B
  ·exact B
  ·exact absurd (h.new _ (BE h.size B)) y
 ·rw[G.size];have:=h.size;omega
theorem EN.congr{R}{U e:H}{w}(h:EN C R U w)(l:∀id,e.j<=id->R id=none)(f:∀k b,look e.F k=some b->look U.F k=some b):EN C R e w:=
 ⟨l,λk c a=>h.own k c (f k c a),λk j c g i m a d=>h.inj k j c g i m (f k c a) (f j g d),h.ext,h.glob,h.Z,h.size,h.new,h.os,h.tape,h.output⟩
theorem fg{R}{U Us:H}{w}(h:EN C R U w)(k:∀id b,look Us.F id=some b->look U.F id=some b){id l}(e:rd C.E Us id=some l):rd C.E U id=some l:=by
 unfold rd at e ⊢;cases n:look Us.F id with
 | some b=>rw[n]at e;rw[k id b n];exact e | none=>
  rw[n]at e;cases o:look C.E id with
  | none=>rw[o]at e;cases e | some b=>
   rw[o]at e;cases s:look U.F id with
   | none=>exact e | some c=>
    exfalso;have ⟨j,r,q,_⟩:=h.own id c s;have ⟨t,f,p,_⟩:=h.ext id b o;rw[r]at f;cases f;exact p q
theorem W9{R}{U Us:H}{w}(h:EN C R U w)(c:∀id b,look Us.F id=some b->look U.F id=some b){id off n l}(d:P0 C.E Us id off n=some l):P0 C.E U id off n=some l:=by
 unfold P0 at d ⊢;cases g:rd C.E Us id with
 | none=>rw[g]at d;cases d | some m=>rw[g]at d;rw[fg h c g];exact d
theorem pG{R}{U Us:H}{w}(h:EN C R U w)(d:∀id b,look Us.F id=some b->look U.F id=some b){e x q}(c:C4 C.E Us e x=some q):C4 C.E U e x=some q:=by
 unfold C4 at c ⊢;split at c
 ·exact c
 ·exact c
 ·simp at c ⊢
  obtain⟨m,l,rfl⟩:=c;exact⟨m,W9 h d l,rfl⟩
 ·exact c
 ·cases c
theorem mO{R}{U Us:H}{w}(h:EN C R U w)(i:∀id b,look Us.F id=some b->look U.F id=some b){n e v}(f:Ct C.E n e Us=some v):Ct C.E n e U=some v:=by
 unfold Ct at f ⊢;split at f
 ·split at f
  ·split at f
   ·rename_i k;rw[fg h i k];exact f
   ·cases f
  ·cases f
 ·split at f
  ·split at f
   ·rename_i k;rw[W9 h i k];exact f
   ·cases f
  ·cases f
 ·split at f
  ·cases f
  ·rename_i m
   rw[if_neg m];split at f
   ·rename_i k;rw[pG h i k];exact f
   ·cases f
 ·unfold Mn at f ⊢
  split at f
  ·split at f
   ·rename_i k;rw[i _ _ k];exact f
   ·cases f
  ·cases f
 ·unfold PI at f ⊢
  split at f
  ·split at f
   ·rename_i k;rw[i _ _ k];exact f
   ·cases f
  ·cases f
 ·cases f
end Go.Og
namespace Go.Og
variable {P:Program}{G:Nat->Bool}{E:EB}{D:Ac}{C:Cx}
theorem Hk:∀{n p},Zx n p=true->∀k,k<n->p k=true
 | n+1,p,h,k,i=>by
  simp only[Zx,AQ]at h;by_cases g:k=n
  ·subst g;exact h.1
  ·exact Hk h.2 k (by omega)
structure TI(Y:Array Oper)(l:List BO)(pl:List DP):Prop where
 len:pl.length=Y.size
 llen:l.length=Y.size
 edges:∀(i:Nat) (o:Oper),Y[i]? = some o->∀e∈o.after,Region.binds .any e=true->e.on<i
 wt:∀(i:Nat) (o:Oper) (p:DP),Y[i]? = some o->pl[i]? = some p->∀k,k<Y.size->p.wt.testBit k=true->∃e∈o.after,Region.binds .any e=true/\(e.on=k\/(HK pl e.on).testBit k=true)
 ce:∀(i k:Nat) (o o':Oper) (p p':DP),i≠k->Y[i]? = some o->Y[k]? = some o'->pl[i]? = some p->pl[k]? = some p'->∀(t:Nat),o.dst=some t ->
  o'.dst≠some t/\(Br p'.looks t=true->p'.wt.testBit i=true\/p.wt.testBit k=true)
 kk:∀(i k:Nat) (ao ao':BO) (p':DP),i<k->l[i]? = some ao->l[k]? = some ao'->pl[k]? = some p'->ao.op.d8 = .k->ao'.op.d8 = .k->p'.wt.testBit i=true
theorem SY{ops:Array Oper}{l:List BO}{pl}(hl:l.length=ops.size)(h:P4 ops l pl=true):TI ops l pl:=by
 unfold P4 at h;simp only[AQ,AW]at h;have ⟨O,h⟩:=h;have s:∀{i o},ops[i]? = some o->i<ops.size:=λ{i o} r=>by
  rcases A2 i ops.size with h|h
  ·exact h
  ·rw[CR h]at r;cases r
 have m:=Hk h;have n:∀{i o},l[i]? = some o->i<ops.size:=λ{i o} r=>by
  rcases A2 i l.length with h|h
  ·omega
  ·rw[A4 h]at r;cases r
 have d:∀i,i<ops.size->∃o M p,ops[i]? = some o/\l[i]? = some M/\pl[i]? = some p:=λi hi=>
  ⟨_,_,_,EI hi,AI (by omega),AI (by omega)⟩
 refine⟨O,hl,?_,?_,?_,?_⟩
 ·intro i o r e he K
  have ⟨o1,M,p,h1,D,z⟩:=d i (s r);have u:=m i (s r);rw[h1,D,z]at u;rw[r]at h1;cases h1;simp only[AQ]at u;have:=EA.1 u.1 e (by simpa using he);simp only[K,Bool.not_true,Fc,Co]at this;exact this
 ·intro i o p r hp k hk L
  have ⟨o1,M,p1,h1,D,z⟩:=d i (s r);have u:=m i (s r);rw[h1,D,z]at u;rw[r]at h1;cases h1;rw[hp]at z;cases z;simp only[AQ]at u;have q:=Hk u.2 k hk;simp only[AQ]at q;have:=q.1;rw[L]at this;simp only[Bool.not_true,Fc,List.any_eq_true,AQ,Cn,AW]at this;have ⟨e,he,K,hr⟩:=this;exact⟨e,by simpa using he,K,hr⟩
 ·intro i k o o' p p' I r E hp x t ht
  have ⟨o1,M,p1,h1,D,z⟩:=d i (s r);have ⟨o2,ao2,p2,B,A,y⟩:=d k (s E);have u:=m i (s r);rw[h1,D,z]at u;rw[r]at h1;cases h1;rw[hp]at z;cases z;rw[E]at B;cases B;rw[x]at y;cases y;simp only[AQ]at u;have q:=Hk u.2 k (s E);have J:=EP.2 (by rw[ne_eq,AW];exact I);simp only[AQ,J,Fc]at q;have:=q.2;rw[E,A,x]at this;simp only[ht,AQ]at this;have ⟨⟨h4,h5⟩,_⟩:=this;constructor
  ·intro heq
   rw[heq]at h4;simp at h4
  ·intro N
   rw[N]at h5;simpa using h5
 ·intro i k M ao' p' J ha F x hc hc'
  have ⟨o1,ao1,p1,h1,D,z⟩:=d i (n ha);have ⟨o2,ao2,p2,B,A,y⟩:=d k (n F);have u:=m i (n ha);rw[h1,D,z]at u;rw[ha]at D;cases D;rw[F]at A;cases A;rw[x]at y;cases y;simp only[AQ]at u;have q:=Hk u.2 k (n F);have I:Ar i k=false:=EP.2 (by rw[ne_eq,AW];omega);simp only[AQ,I,Fc]at q;have:=q.2;rw[B,F,x]at this;simp only[AQ,hc,hc']at this;have:=this.2;have K:B9 i k=true:=by simpa using J
  rw[K]at this;simpa using this
theorem TI.ancLt{ops:Array Oper}{l}{pl:List DP}(h:TI ops l pl):∀i (p:DP),pl[i]? = some p->∀k,k<ops.size->p.wt.testBit k=true->k<i:=by
 intro i;induction i using Pa with
 | _ i v=>
  intro p j k t x;have u:i<ops.size:=by
   rcases A2 i pl.length with h1|h1
   ·have:=h.len;omega
   ·rw[A4 h1]at j;cases j
  have ⟨e,w,r,o⟩:=h.wt i ops[i] p (EI u) j k t x;have f:=h.edges i ops[i] (EI u) e w r;rcases o with rfl|o
  ·exact f
  ·have s:e.on<pl.length:=by have:=h.len;omega
   have g:=AI s;have:(pl[e.on]).wt.testBit k=true:=by
    simpa[HK,g]using o
   have:=v e.on f _ g k t this;omega
structure Tr(E:EB)(D:Ac)(l:List BO)(pl:List DP)(n0 n:Nat)(e0:CF)(h0:EB)(i:Nat)(s:DS) where
 vals:Nat->V
 envs:Nat->CF
 Hh:Nat->EB
 nx:Nat->Nat
 ks:Nat->Nat
 M:Nat
 ssl:s.ss.length=M+1
 ssg:∀(m:Nat),m<=M->s.ss[M-m]? = some (Hh m)
 ksl:s.ks.length=M
 ksg:∀(r:Nat),r<M->s.ks[M-1-r]? = some (ks r)
 ke:s.e=envs i
 ez:envs 0=e0
 es:∀(k:Nat),k<i->∀(o:BO),l[k]? = some o->envs (k+1)=DY (envs k) o.dst (vals k)
 nx0:nx 0=n0+n
 nxs:s.nx=nx M
 hz:∀id,¬(n0<=id/\id<n0+n)->look (Hh 0) id=look h0 id
 Y:∀(k:Nat),k<i->∀(o:BO) (p:DP),l[k]? = some o->pl[k]? = some p ->
  (B0 (restr p.looks (envs k)) o.guard=some false/\vals k=Er/\s.am.testBit k=false/\∀r,r<M->ks r≠k) \/
  (B0 (restr p.looks (envs k)) o.guard=some true /\
   ((o.op.d8 = .p/\Bb o.op (restr p.looks (envs k))=some (vals k)/\s.am.testBit k=false/\∀r,r<M->ks r≠k) \/
    (o.op.d8 = .l/\(k,o.op,restr p.looks (envs k),vals k)∈s.ls/\s.am.testBit k=false/\∀r,r<M->ks r≠k) \/
    (o.op.d8 = .a/\s.am.testBit k=true/\(∀r,r<M->ks r≠k)/\∃b,C1 o.op (restr p.looks (envs k)) (n0+k)=some (vals k,b) /\
     ∀m,m<=M->(∀r,r<m->(HK pl (ks r)).testBit k=false)->look (Hh m) (n0+k)=some b) \/
    (o.op.d8 = .k/\s.am.testBit k=false/\∃r,r<M/\ks r=k)))
 amlt:∀k,s.am.testBit k=true->k<i
 kst:∀r,r<M->ks r<i/\∃(o:BO) (p:DP) (U':H),l[ks r]? = some o/\pl[ks r]? = some p/\o.op.d8 = .k/\B0 (restr p.looks (envs (ks r))) o.guard=some true /\
  ES E D o.op (restr p.looks (envs (ks r))) ⟨nx r,Ce n0 n (Dw p.wt s.am) (Hh r)⟩=some (vals (ks r),U') /\
  Hh (r+1)=FH n0 n (Dw p.wt s.am) (Hh r)++U'.F/\nx (r+1)=U'.j
 kinc:∀r r',r<r'->r'<M->ks r<ks r'
theorem Hy{a i k:Nat}:(a ||| 2 ^ i).testBit k=(a.testBit k || decide (i=k)):=by
 rw[WW,Nat.testBit_two_pow]
theorem Tr.start E D l pl n0 n b d : Nonempty (Tr E D l pl n0 n b d 0 ⟨b, n0 + n, [d], [], 0, []⟩) :=
  ⟨{ vals := fun _ => .i5, envs := fun _ => b, Hh := fun _ => d, nx := fun _ => n0 + n, ks := fun _ => 0, M := 0,
     ssl := rfl, ssg := fun m hm => by have : m = 0 := by omega
                                       subst this; rfl
     ksl := rfl, ksg := λr x => by omega
     ke := rfl, ez := rfl, es := λk e => by omega
     nx0 := rfl, nxs := rfl, hz := λ_ _ => rfl
     Y := λk e => by omega
     amlt := λk e => by simp at e
     kst := λr x => by omega
     kinc := λr I h A => by omega }⟩
def SD{α:Type}(f:Nat->α)(i:Nat)(v:α)(k:Nat):α:=if k=i then v else f k
theorem Cq{α} f i (v:α):SD f i v i=v:=if_pos rfl
theorem Jd{α} f {i k}(v:α)(h:k≠i):SD f i v k=f k:=if_neg h
theorem Tr.quiet{l pl n0 n e0 h0 i}{s:DS}(T:Tr E D l pl n0 n e0 h0 i s){o:BO}{p:DP}(ho:l[i]? = some o)(hp:pl[i]? = some p) v ls
    (hls:∀x,x∈s.ls->x∈ls)
    (B:(B0 (restr p.looks s.e) o.guard=some false/\v=Er)\/(B0 (restr p.looks s.e) o.guard=some true /\
      ((o.op.d8 = .p/\Bb o.op (restr p.looks s.e)=some v)\/(o.op.d8 = .l/\(i,o.op,restr p.looks s.e,v)∈ls)))) :
    Nonempty (Tr E D l pl n0 n e0 h0 (i+1) { s with e:=DY s.e o.dst v,ls:=ls }):=by
  have ⟨vals,envs,Hh,nx,ks,M,ssl,ssg,ksl,ksg,ke,ez,es,nx0,nxs,hz,ops,amlt,kst,kinc⟩:=T;have C:∀r,r<M->ks r≠i:=λr hr=>by have:=(kst r hr).1;omega
  have K:s.am.testBit i=false:=by
    cases hb:s.am.testBit i with
    | false=>rfl | true=>have:=amlt i hb;omega
  have w:∀k,k<i->SD vals i v k=vals k:=λk hk=>Jd _ _ (by omega);have c:∀k,k<i+1->SD envs (i+1) (DY s.e o.dst v) k=envs k:=λk hk=>Jd _ _ (by omega)
  refine⟨{ vals:=SD vals i v,envs:=SD envs (i+1) (DY s.e o.dst v),Hh:=Hh,nx:=nx,ks:=ks,M:=M,
            ssl:=ssl,ssg:=ssg,ksl:=ksl,ksg:=ksg,ke:=(Cq _ _ _).symm,ez:=by rw[c 0 (by omega)];exact ez,es:=?_,nx0:=nx0,nxs:=nxs,hz:=hz,Y:=?_,amlt:=λk hk=>WY (amlt k hk),kst:=?_,kinc:=kinc }⟩
  · intro k hk o' f
    by_cases he:k=i
    · subst he
      rw[ho]at f;cases f;rw[Cq,Cq,c k (by omega),ke]
    · rw[c k (by omega),w k (by omega),c (k+1) (by omega)]
      exact es k (by omega) o' f
  · intro k hk o' p' f G
    by_cases he:k=i
    · subst he
      rw[ho]at f;cases f;rw[hp]at G;cases G;rw[c k (by omega),<-ke,Cq];rcases B with ⟨h1,d⟩|⟨h1,d⟩
      · exact .inl ⟨h1,d,K,C⟩
      · refine .inr ⟨h1,?_⟩
        rcases d with ⟨d,F⟩|⟨d,F⟩
        · exact .inl ⟨d,F,K,C⟩
        · exact .inr (.inl ⟨d,F,K,C⟩)
    · rw[c k (by omega),w k (by omega)]
      rcases ops k (by omega) o' p' f G with h1|⟨h1,d|⟨d,F,h4⟩|d|d⟩
      · exact .inl h1
      · exact .inr ⟨h1,.inl d⟩
      · exact .inr ⟨h1,.inr (.inl ⟨d,hls _ F,h4⟩)⟩
      · exact .inr ⟨h1,.inr (.inr (.inl d))⟩
      · exact .inr ⟨h1,.inr (.inr (.inr d))⟩
  · intro r hr
    have ⟨h1,o',p',U',d,F,h4,h5,h6,h7,h8⟩:=kst r hr;refine⟨by omega,o',p',U',d,F,h4,?_,?_,h7,h8⟩
    · rw[c _ (by omega)];exact h5
    · rw[c _ (by omega),w _ h1];exact h6
end Go.Og
namespace Go.Og
variable {P:Program}{G:Nat->Bool}{E:EB}{D:Ac}{C:Cx}
theorem JM{pl i}{p:DP}(h:pl[i]? = some p):HK pl i=p.wt:=by simp[HK,h]
theorem Tr.make {ops' : Array Oper} {l : List BO} {pl} (F : TI ops' l pl) {n0 n} (hn : n = ops'.size) {e0 h0 i} {s : DS} (T : Tr E D l pl n0 n e0 h0 i s) {o : BO} {p : DP}
    (ho : l[i]? = some o) (hp : pl[i]? = some p) v b (hw : B0 (restr p.looks s.e) o.guard = some true) (hc : o.op.d8 = .a) (ha : C1 o.op (restr p.looks s.e) (n0 + i) = some (v, b)) :
    Nonempty (Tr E D l pl n0 n e0 h0 (i + 1) { s with e := DY s.e o.dst v, ss := s.ss.map ((n0 + i, b) :: ·), am := s.am ||| 2 ^ i }) := by
  have ⟨vals, envs, Hh, nx, ks, M, ssl, ssg, ksl, ksg, ke, ez, es, nx0, nxs, hz, ops, amlt, kst, kinc⟩ := T;have hin : i < n := by
    rcases A2 i l.length with h | h
    · have := F.llen; omega
    · rw [A4 h] at ho; cases ho
  have hne : ∀ r, r < M → ks r ≠ i := λr hr => by have := (kst r hr).1; omega
  have J : ∀ k, k < i → SD vals i v k = vals k := λk A => Jd _ _ (by omega);have f : ∀ k, k < i + 1 → SD envs (i + 1) (DY s.e o.dst v) k = envs k := λk A => Jd _ _ (by omega);have hlk : ∀ m k, k ≠ i → look ((n0 + i, b) :: Hh m) (n0 + k) = look (Hh m) (n0 + k) := λm k A => by
    simp only [look, AW];rw [if_neg (by omega)]
  have ham : ∀ k, k ≠ i → (s.am ||| 2 ^ i).testBit k = s.am.testBit k := λk A => by
    rw [Hy]; simp [Ne.symm A]
  refine ⟨{ vals := SD vals i v, envs := SD envs (i + 1) (DY s.e o.dst v), Hh := λm => (n0 + i, b) :: Hh m, nx := nx, ks := ks, M := M,
            ssl := by simp [ssl], ssg := λm hm => by rw [As, ssg m hm]; rfl
            ksl := ksl, ksg := ksg, ke := (Cq _ _ _).symm, ez := by rw [f 0 (by omega)]; exact ez, es := ?_, nx0 := nx0, nxs := nxs, hz := ?_, Y := ?_, amlt := ?_, kst := ?_, kinc := kinc }⟩
  · intro k A o' u
    by_cases he : k = i
    · subst he
      rw [ho] at u; cases u;rw [Cq, Cq, f k (by omega), ke]
    · rw [f k (by omega), J k (by omega), f (k + 1) (by omega)]
      exact es k (by omega) o' u
  · intro id hid
    simp only [look, AW];rw [if_neg (by omega)];exact hz id hid
  · intro k A o' B u hp'
    by_cases he : k = i
    · subst he
      rw [ho] at u; cases u;rw [hp] at hp'; cases hp';rw [f k (by omega), ← ke, Cq];refine .inr ⟨hw, .inr (.inr (.inl ⟨hc, by rw [Hy]; simp, hne, b, ha, λm _ _ => by simp [look]⟩))⟩
    · rw [f k (by omega), J k (by omega)]
      simp only [ham k he];rcases ops k (by omega) o' B u hp' with h1 | ⟨h1, h2 | h2 | ⟨h2, h3, h4, b', h5, h6⟩ | h2⟩
      · exact .inl h1
      · exact .inr ⟨h1, .inl h2⟩
      · exact .inr ⟨h1, .inr (.inl h2)⟩
      · exact .inr ⟨h1, .inr (.inr (.inl ⟨h2, h3, h4, b', h5, λm hm hr => by rw [hlk m k he]; exact h6 m hm hr⟩))⟩
      · exact .inr ⟨h1, .inr (.inr (.inr h2))⟩
  · intro k A
    rw [Hy] at A;simp only [Cn, decide_eq_true_eq] at A;rcases A with A | A
    · have := amlt k A; omega
    · omega
  · intro r hr
    have ⟨h1, o', B, U', h2, h3, h4, h5, h6, h7, h8⟩ := kst r hr;have hanc : B.wt.testBit i = false := by
      cases hb : B.wt.testBit i with
      | false => rfl | true => have := F.ancLt _ B h3 i (by omega) hb; omega
    have C : ∀ k, k < n → Dw B.wt (s.am ||| 2 ^ i) k = Dw B.wt s.am k := λk _ => by
      unfold Dw;by_cases he : k = i
      · subst he; rw [hanc]; simp
      · rw [ham k he]
    have hvi : Dw B.wt (s.am ||| 2 ^ i) (n0 + i - n0) = false := by
      rw [show n0 + i - n0 = i by omega]; unfold Dw; rw [hanc]; rfl
    have hhide : Ce n0 n (Dw B.wt (s.am ||| 2 ^ i)) ((n0 + i, b) :: Hh r) = Ce n0 n (Dw B.wt s.am) (Hh r) := by
      rw [Ce, if_pos (LC.2 ⟨by omega, by omega, hvi⟩)];exact KN C _
    have hkeep : FH n0 n (Dw B.wt (s.am ||| 2 ^ i)) ((n0 + i, b) :: Hh r) = (n0 + i, b) :: FH n0 n (Dw B.wt s.am) (Hh r) := by
      rw [FH, if_pos (LC.2 ⟨by omega, by omega, hvi⟩)];rw [OW C]
    refine ⟨by omega, o', B, U', h2, h3, h4, ?_, ?_, ?_, h8⟩
    · rw [f _ (by omega)]; exact h5
    · rw [f _ (by omega), J _ h1, hhide]; exact h6
    · rw [hkeep, h7]; rfl
theorem Tr.writes{ops':Array Oper}{l:List BO}{pl}(F:TI ops' l pl){n0 n}(hn:n=ops'.size){e0 h0}{i:Nat}{s:DS}(T:Tr E D l pl n0 n e0 h0 i s){o:BO}{p:DP}
    (ho:l[i]? = some o) (hp:pl[i]? = some p) (v:V) (U':H) {h:EB}{ss':List (EB)} (hss:s.ss=h::ss') (hw:B0 (restr p.looks s.e) o.guard=some true) (hc:o.op.d8 = .k)
    (hd:ES E D o.op (restr p.looks s.e) ⟨s.nx,Ce n0 n (Dw p.wt s.am) h⟩=some (v,U')) :
    Nonempty (Tr E D l pl n0 n e0 h0 (i+1) { s with e:=DY s.e o.dst v,nx:=U'.j,ss:=(FH n0 n (Dw p.wt s.am) h++U'.F)::s.ss,ks:=i::s.ks }):=by
  have ⟨vals,envs,Hh,nx,ks,M,ssl,ssg,ksl,ksg,ke,ez,es,nx0,nxs,hz,ops,amlt,kst,kinc⟩:=T;have hin:i<n:=by
    rcases A2 i l.length with h|h
    · have:=F.llen;omega
    · rw[A4 h]at ho;cases ho
  have x:h=Hh M:=by
    have:=ssg M (AL _);rw[Ec,hss]at this;simpa using this
  have ham:s.am.testBit i=false:=by
    cases hb:s.am.testBit i with
    | false=>rfl | true=>have:=amlt i hb;omega
  have hval:∀k,k<i->SD vals i v k=vals k:=λk hk=>Jd _ _ (by omega);have f:∀k,k<i+1->SD envs (i+1) (DY s.e o.dst v) k=envs k:=λk hk=>Jd _ _ (by omega);have hH:∀m,m<=M->SD Hh (M+1) (FH n0 n (Dw p.wt s.am) h++U'.F) m=Hh m:=λm hm=>Jd _ _ (by omega);have hnx:∀m,m<=M->SD nx (M+1) U'.j m=nx m:=λm hm=>Jd _ _ (by omega);have t:∀r,r<M->SD ks M i r=ks r:=λr hr=>Jd _ _ (by omega)
  refine⟨{ vals:=SD vals i v,envs:=SD envs (i+1) (DY s.e o.dst v),Hh:=SD Hh (M+1) (FH n0 n (Dw p.wt s.am) h++U'.F),nx:=SD nx (M+1) U'.j,ks:=SD ks M i,M:=M+1,
            ssl:=by simp[ssl],ssg:=?_,ksl:=by simp[ksl],ksg:=?_,ke:=(Cq _ _ _).symm,ez:=by rw[f 0 (by omega)];exact ez,es:=?_,nx0:=by rw[hnx 0 (by omega)];exact nx0,
            nxs:=(Cq _ _ _).symm,hz:=λid hid=>by rw[hH 0 (by omega)];exact hz id hid,Y:=?_,amlt:=λk hk=>WY (amlt k hk),kst:=?_,kinc:=?_ }⟩
  · intro m hm
    by_cases he:m=M+1
    · subst he;rw[Ec,Cq];rfl
    · rw[hH m (by omega),show M+1-m=(M-m)+1 by omega,Bh]
      exact ssg m (by omega)
  · intro r hr
    by_cases he:r=M
    · subst he;rw[Cq,show r+1-1-r=0 by omega];rfl
    · rw[t r (by omega),show M+1-1-r=(M-1-r)+1 by omega,Bh]
      exact ksg r (by omega)
  · intro k hk o' w
    by_cases he:k=i
    · subst he
      rw[ho]at w;cases w;rw[Cq,Cq,f k (by omega),ke]
    · rw[f k (by omega),hval k (by omega),f (k+1) (by omega)]
      exact es k (by omega) o' w
  · intro k hk o' p' w hp'
    by_cases he:k=i
    · subst he
      rw[ho]at w;cases w;rw[hp]at hp';cases hp';rw[f k (by omega),<-ke,Cq];exact .inr ⟨hw,.inr (.inr (.inr ⟨hc,ham,M,by omega,Cq _ _ _⟩))⟩
    · rw[f k (by omega),hval k (by omega)]
      have hnk:(∀r,r<M->ks r≠k)->∀r,r<M+1->SD ks M i r≠k:=λhh r hr=>by
        by_cases hrm:r=M
        · subst hrm;rw[Cq];omega
        · rw[t r (by omega)];exact hh r (by omega)
      rcases ops k (by omega) o' p' w hp' with ⟨h1,h2,h3,h4⟩|⟨h1,⟨h2,h3,h4,h5⟩|⟨h2,h3,h4,h5⟩|⟨h2,h3,h4,b',h5,h6⟩|⟨h2,h3,r,h4,h5⟩⟩
      · exact .inl ⟨h1,h2,h3,hnk h4⟩
      · exact .inr ⟨h1,.inl ⟨h2,h3,h4,hnk h5⟩⟩
      · exact .inr ⟨h1,.inr (.inl ⟨h2,h3,h4,hnk h5⟩)⟩
      · refine .inr ⟨h1,.inr (.inr (.inl ⟨h2,h3,hnk h4,b',h5,λm hm hr=>?_⟩))⟩
        by_cases hmm:m=M+1
        · subst hmm
          rw[Cq,OV,QH,x];have hanc:p.wt.testBit k=false:=by
            have:=hr M (by omega);rw[Cq,JM hp]at this;exact this
          have hv:Dw p.wt s.am (n0+k-n0)=false:=by
            rw[show n0+k-n0=k by omega];unfold Dw;rw[hanc];rfl
          rw[if_pos ⟨by omega,by omega,hv⟩];have:=h6 M (AL _) (λr hrM=>by have:=hr r (by omega);rw[t r hrM]at this;exact this);rw[this]
        · rw[hH m (by omega)]
          exact h6 m (by omega) (λr hrm=>by have:=hr r hrm;rw[t r (by omega)]at this;exact this)
      · exact .inr ⟨h1,.inr (.inr (.inr ⟨h2,h3,r,by omega,by rw[t r h4];exact h5⟩))⟩
  · intro r hr
    by_cases he:r=M
    · subst he
      rw[Cq];refine⟨by omega,o,p,U',ho,hp,hc,?_,?_,?_,?_⟩
      · rw[f i (by omega),<-ke];exact hw
      · rw[f i (by omega),<-ke,Cq,hnx r (by omega),hH r (by omega),<-x,<-nxs];exact hd
      · rw[Cq,hH r (by omega),x]
      · rw[Cq]
    · have ⟨h1,o',p',U2,h2,h3,h4,h5,h6,h7,h8⟩:=kst r (by omega)
      rw[t r (by omega)];refine⟨by omega,o',p',U2,h2,h3,h4,?_,?_,?_,?_⟩
      · rw[f _ (by omega)];exact h5
      · rw[f _ (by omega),hval _ h1,hnx r (by omega),hH r (by omega)];exact h6
      · rw[hH (r+1) (by omega),hH r (by omega)];exact h7
      · rw[hnx (r+1) (by omega)];exact h8
  · intro r r' hrr hr'
    by_cases he:r'=M
    · subst he
      rw[Cq,t r (by omega)];exact(kst r (by omega)).1
    · rw[t r' (by omega),t r (by omega)]
      exact kinc r r' hrr (by omega)
theorem Sr {q:Array Oper} {l:List BO} {pl:List DP} (F:TI q l pl) {n0 n} (P:n=q.size) {I N} :
  ∀(f:List BO) e i (s y:DS),l.drop i=f->pl.drop i=e->Nonempty (Tr E D l pl n0 n I N i s)->Ch E D n0 n i f e s=some y ->
   Nonempty (Tr E D l pl n0 n I N (i+f.length) y)
 | [],e,i,s,y,C,A,G,h=>by
  cases e<;>(simp only[Ch,AY.injEq]at h;subst h;exact G)
 | o::f,[],i,s,y,C,A,G,h=>by simp only[Ch]at h;cases h
 | o::f,p::e,i,s,y,C,A,G,h=>by
  have z:l[i]? = some o:=by
   have:=congrArg (·[0]?) C;simpa[B6]using this
  have k:pl[i]? = some p:=by
   have:=congrArg (·[0]?) A;simpa[B6]using this
  have L:l.drop (i+1)=f:=by rw[<-Cd,C];rfl
  have R:pl.drop (i+1)=e:=by rw[<-Cd,A];rfl
  simp only[Ch]at h;cases g:KR E D n0 n i o p s with
  | none=>rw[g]at h;cases h | some S=>
   rw[g]at h;have ⟨T⟩:=G;have M:Nonempty (Tr E D l pl n0 n I N (i+1) S):=by
    unfold KR at g;split at g
    ·cases g
    ·rename_i w;cases g
     exact T.quiet z k Er s.ls (λ_ h=>h) (.inl ⟨w,rfl⟩)
    ·rename_i w
     split at g
     ·rename_i t
      split at g
      ·cases g
      ·rename_i v x;cases g
       exact T.quiet z k v s.ls (λ_ h=>h) (.inr ⟨w,.inl ⟨t,x⟩⟩)
     ·rename_i t
      split at g
      ·cases g
      ·split at g
       ·cases g
       ·rename_i v x;cases g
        exact T.quiet z k v _ (λ_ h=>Az _ h) (.inr ⟨w,.inr ⟨t,AZ⟩⟩)
     ·rename_i t
      split at g
      ·cases g
      ·rename_i v b x;cases g
       exact T.make F P z k v b w t x
     ·rename_i t
      split at g
      ·cases g
      ·rename_i W O
       split at g
       ·cases g
       ·rename_i v U' x;cases g
        exact T.writes F P z k v U' O w t x
   have:=Sr F P f e (i+1) S y L R M h;rwa [show i+(o::f).length=i+1+f.length by simp;omega]
end Go.Og
namespace Go.Og
variable {P:Program}{G:Nat->Bool}{E:EB}{D:Ac}{C:Cx}
theorem Sv{n0 n pl x j z y v}:∀(g:List (EB)) (c more:List Nat),Fz E n0 n pl x j z y v g c more=true->g.length=c.length+1 ->
  ∀q h,g[q]? = some h->FG pl j (c.drop q) ((c.take q).reverse++more)=true->Ct E z y ⟨0,Ce n0 n (Dw (HK pl j) x) h⟩=some v
 | [],c,more,_,m,q,h,d,_=>by simp at d
 | A::g,c,more,l,m,0,h,d,b=>by
  simp at d;subst d;simp at b;simp only[Fz,b,AQ]at l;have:=l.1;unfold HK;split at this
  ·rename_i u B
   rw[B,Nd _ _ this]
  ·cases this
 | A::g,[],more,l,m,q+1,h,d,b=>by
  simp at m;subst m;simp at d
 | A::g,k::c,more,l,m,q+1,h,d,b=>by
  simp only[Fz,AQ]at l;refine Sv g c (k::more) l.2 (by simpa using m) q h (by simpa using d) ?_;simp at b;exact b
theorem ED{a:Array Bool}{k n}(d:a.size=n)(e:k<n):a.getD k true=a.getD k false:=by
 have h:k<a.size:=by omega
 simp[h]
theorem I9{a:Array Bool}{i k}(f:i<a.size):(a.setIfInBounds i true).getD k false=(decide (k=i) || a.getD k false):=by
 simp only[Ep,BT];by_cases h:i=k
 ·subst h;simp[f]
 ·rw[if_neg h];simp[Ne.symm h]
theorem Zp{p q}(h:∀k,p k=true->q k=true){i}(o:q i=true)(r:p i=false):∀(l:List Nat),i∈l->l.countP p<l.countP q
 | [],d=>by cases d
 | x::l,d=>by
  have c:∀l:List Nat,l.countP p<=l.countP q:=λl=>List.countP_mono_left λx _ f=>h x f;rcases A0.1 d with rfl|d
  ·rw[I0 o,Rx (by simp[r])]
   have:=c l;omega
  ·have t:=Zp h o r l d
   by_cases f:p x=true
   ·rw[I0 f,I0 (h x f)];omega
   ·rw[Rx f]
    by_cases e:q x=true
    ·rw[I0 e];omega
    ·rw[Rx e];exact t
set_option maxHeartbeats 1000000 in
theorem Xl (hD:∀f,Cr P E G f (D f)) (hmix:P.follows .mixedOrders=true):RT P E G (AV E D):=by
  intro C hE hG nt id ops e0 U0 e' U' hplan hW R0 a0 w00 Q hrel0 he0 hnt0 hd0 hQ
  subst hE hG
  generalize hl:ops.toList.map (BN P C.G nt ops)=l at hplan hW
  generalize hpl:Gn ops=pl at hplan hW
  have hlen:l.length=ops.size:=by rw[<-hl];simp
  have F:=SY hlen hplan
  unfold AV at hW
  have hn:l.length=ops.size:=hlen
  generalize hnn:l.length=n at hW
  have hnops:n=ops.size:=by omega
  cases hds:Ch C.E D U0.j n 0 l pl ⟨e0,U0.j+n,[U0.F],[],0,[]⟩with
  | none=>rw[hds]at hW;cases hW
  | some s=>
    rw[hds]at hW
    simp only at hW
    split at hW
    case isFalse=>cases hW
    rename_i hchk
    obtain⟨T⟩:=Sr F hnops l pl 0 _ s rfl rfl (Tr.start C.E D l pl U0.j n e0 U0.F) hds
    rw[BV,hnn]at T
    obtain⟨vals,envs,Hh,nx,ks,M,ssl,ssg,ksl,ksg,ke,ez,es,nx0,nxs,hz,hops,amlt,kst,kinc⟩:=T
    have hans:e'=envs n/\U'=⟨nx M,Ce U0.j n (λk=>s.am.testBit k) (Hh M)⟩:=by
      have hh:=ssg M (AL _)
      rw[Ec]at hh
      split at hW
      · rename_i h ss' hss
        rw[hss]at hh
        simp only[List.getElem?_cons_zero,AY.injEq]at hh
        cases hW
        exact⟨ke,by rw[nxs,hh]⟩
      · cases hW
    obtain⟨rfl,rfl⟩:=hans
    clear hW hds
    have some3:∀i,i<n->∃o p,ops[i]? = some o/\l[i]? = some (BN P C.G nt ops o)/\pl[i]? = some p:=λi hi=>by
      have h1:i<ops.size:=by omega
      refine⟨ops[i],pl[i]'(by have:=F.len;omega),EI h1,?_,AI _⟩
      rw[<-hl,As,Y4,EI h1];rfl
    have hdlt:∀(i:Nat) (o:Oper) (t:Nat),i<n->ops[i]? = some o->o.dst=some t->t<nt:=by
      intro i o t hin ho ht
      obtain⟨o2,p,ho2,hlo,hp⟩:=some3 i hin
      rw[ho]at ho2;cases ho2
      cases hdo:Gi nt o.dst with
      | true=>rw[ht]at hdo;simpa[Gi]using hdo
      | false=>
        exfalso
        have hco:BN P C.G nt ops o=⟨o.dst,.pu,none⟩:=by
          unfold BN
          rw[hdo]
          split
          · rename_i h;cases h
          · rfl
        have:=hops i hin _ p hlo hp
        rw[hco]at this
        simp[B0,Ek.d8,Bb]at this
    have hload:∀j op em v,(j,op,em,v)∈s.ls->∀m,m<=M->(∀r,m<=r->r<M->(HK pl j).testBit (ks r)=false)->(∀r,r<m->(HK pl (ks r)).testBit j=false) ->
        Ct C.E op em ⟨0,Ce U0.j n (Dw (HK pl j) s.am) (Hh m)⟩=some v:=by
      intro j op em v hmem m hm h1 h2
      have hc:=EA.1 hchk _ hmem
      refine Sv s.ss s.ks [] hc (by omega) (M-m) (Hh m) (ssg m hm) ?_
      unfold FG
      simp only[BP,AQ,EA,Dv,List.mem_reverse]
      constructor
      · intro x hx
        obtain⟨q,hq⟩:=List.mem_iff_getElem?.1 hx
        rw[G0]at hq
        split at hq
        · rename_i hqm
          have:=ksg (M-1-q) (by omega)
          rw[show M-1-(M-1-q)=q by omega,hq]at this
          cases this
          exact h1 _ (by omega) (by omega)
        · cases hq
      · intro x hx
        obtain⟨q,hq⟩:=List.mem_iff_getElem?.1 hx
        rw[B6]at hq
        have hql:M-m+q<s.ks.length:=by
          rcases A2 (M-m+q) s.ks.length with h|h
          · exact h
          · rw[A4 h]at hq;cases hq
        have:=ksg (M-1-(M-m+q)) (by omega)
        rw[show M-1-(M-1-(M-m+q))=M-m+q by omega,hq]at this
        cases this
        exact h2 _ (by omega)
    let Lf:Array Bool->Nat->Bool:=λlisted k=>listed.getD k false
    let vis:Array Bool->Nat->Bool:=λlisted k=>listed.getD k false&&s.am.testBit k
    let Inv:Array Bool->Act->World->Prop:=λlisted a w=>
      listed.size=n/\(∀i o,listed.getD i false=true->ops[i]? = some o->∀ed∈o.after,Region.binds .any ed=true->listed.getD ed.on false=true)/\a.defers=[] /\
      ∃R m,m<=M/\(∀r,r<M->(listed.getD (ks r) false=true↔r<m))/\HU U0.j R0 R/\U0.j+n<=nx m/\EN C R ⟨nx m,Ce U0.j n (vis listed) (Hh m)⟩ w /\
        (∀k,k<n->listed.getD k false=false->R (U0.j+k)=none)/\nt<=a.tmps.size /\
        (∀i o t,listed.getD i false=true->ops[i]? = some o->o.dst=some t->t<a.tmps.size->vals i = .i5\/∃x,a.tmps[t]? = some x/\Av R (vals i)=some x) /\
        (∀t v,look e0 t=some v->(∀i o,listed.getD i false=true->ops[i]? = some o->o.dst≠some t)->v = .i5\/∃x,a.tmps[t]? = some x/\Av R v=some x)
    have hanc:∀(listed:Array Bool),(∀i o,listed.getD i false=true->ops[i]? = some o->∀ed∈o.after,Region.binds .any ed=true->listed.getD ed.on false=true) ->
        ∀(i:Nat) (o:Oper) (p:DP),ops[i]? = some o->pl[i]? = some p->(∀ed∈o.after,Region.binds .any ed=true->listed.getD ed.on false=true)->∀(k:Nat),k<n->p.wt.testBit k=true->listed.getD k false=true:=by
      intro listed hcl i
      induction i using Pa with
      | _ i ih=>
        intro o p ho hp hed k hk hb
        obtain⟨ed,hem,hbe,hr⟩:=F.wt i o p ho hp k (by omega) hb
        have hlt:=F.edges i o ho ed hem hbe
        have hli:=hed ed hem hbe
        rcases hr with rfl|hr
        · exact hli
        · have hin:i<n:=by
            rcases A2 i ops.size with h|h
            · omega
            · rw[CR h]at ho;cases ho
          obtain⟨o2,p2,h1,_,h3⟩:=some3 ed.on (by omega)
          exact ih ed.on hlt o2 p2 h1 h3 (λed2 hm2 hb2=>hcl ed.on o2 hli h1 ed2 hm2 hb2) k hk (by rw[<-JM h3];exact hr)
    have hready_nil:∀listed:Array Bool,listed.size=n->Region.ready .any ops listed=[]->∀k,k<n->listed.getD k false=true:=by
      intro listed hsz hr k
      induction k using Pa with
      | _ k ih=>
        intro hk
        cases hb:listed.getD k false with
        | true=>rfl
        | false=>
          exfalso
          obtain⟨o,p,h1,_,_⟩:=some3 k hk
          have:k∈Region.ready .any ops listed:=mem_ready.2 ⟨by rw[ED hsz hk];exact hb,o,h1,λed hm hbd=>ih ed.on (F.edges k o h1 ed hm hbd) (by have:=F.edges k o h1 ed hm hbd;omega)⟩
          rw[hr]at this;cases this
    have henv:∀(listed:Array Bool) (a:Act) (R:DN),
        (∀i o,listed.getD i false=true->ops[i]? = some o->∀ed∈o.after,Region.binds .any ed=true->listed.getD ed.on false=true) ->
        nt<=a.tmps.size ->
        (∀i o t,listed.getD i false=true->ops[i]? = some o->o.dst=some t->t<a.tmps.size->vals i = .i5\/∃x,a.tmps[t]? = some x/\Av R (vals i)=some x) ->
        (∀t v,look e0 t=some v->(∀i o,listed.getD i false=true->ops[i]? = some o->o.dst≠some t)->v = .i5\/∃x,a.tmps[t]? = some x/\Av R v=some x) ->
        ∀(j:Nat) (o:Oper) (p:DP),j<=n->(j=n->∀k,k<n->listed.getD k false=true) ->
          (j<n->ops[j]? = some o/\pl[j]? = some p/\listed.getD j false=false/\(∀ed∈o.after,Region.binds .any ed=true->listed.getD ed.on false=true)) ->
          ∀(t:Nat) (v:V),look (envs j) t=some v->(j<n->Br p.looks t=true)->v = .i5\/∃x,a.tmps[t]? = some x/\Av R v=some x:=by
      intro listed a R hcl hsz hw hu j o p hj hall hrd
      have hshape:∀j,j<=n->∀t v,look (envs j) t=some v ->
          (∃k o',k<j/\ops[k]? = some o'/\o'.dst=some t/\v=vals k)\/(look e0 t=some v/\∀k o',k<j->ops[k]? = some o'->o'.dst≠some t):=by
        intro j
        induction j with
        | zero=>intro _;rw[ez];exact λt v hv => .inr ⟨hv,λk o' hk=>by omega⟩
        | succ j ih=>
          intro hj
          have h2:=ih (by omega)
          obtain⟨oj,pj,ho1,hl1,_⟩:=some3 j (by omega)
          have hes:=es j (by omega) _ hl1
          have hdst:(BN P C.G nt ops oj).dst=oj.dst:=by unfold BN;split<;>rfl
          rw[hdst]at hes
          rw[hes]
          intro t v hv
          cases hd:oj.dst with
          | none=>
            rw[hd]at hv
            simp only[DY]at hv
            rcases h2 t v hv with ⟨k,o',hk,hk2,hk3,hk4⟩|⟨hk,hk2⟩
            · exact .inl ⟨k,o',by omega,hk2,hk3,hk4⟩
            · refine .inr ⟨hk,λk o' hkj hko=>?_⟩
              by_cases he:k=j
              · subst he;rw[ho1]at hko;cases hko;rw[hd];simp
              · exact hk2 k o' (by omega) hko
          | some d=>
            rw[hd]at hv
            simp only[DY,look]at hv
            by_cases hdt:d=t
            · subst hdt
              rw[if_pos (by simp)]at hv
              cases hv
              exact .inl ⟨j,oj,by omega,ho1,hd,rfl⟩
            · rw[if_neg (by simpa using hdt)]at hv
              rcases h2 t v hv with ⟨k,o',hk,hk2,hk3,hk4⟩|⟨hk,hk2⟩
              · exact .inl ⟨k,o',by omega,hk2,hk3,hk4⟩
              · refine .inr ⟨hk,λk o' hkj hko=>?_⟩
                by_cases he:k=j
                · subst he;rw[ho1]at hko;cases hko;rw[hd];simpa using hdt
                · exact hk2 k o' (by omega) hko
      have hsh:=hshape j hj
      intro t v hv hlook
      rcases hsh t v hv with ⟨k,ok,hk,hk2,hk3,rfl⟩|⟨hk,hk2⟩
      ·
        refine hw k ok t ?_ hk2 hk3 (Eh (hdlt k ok t (by omega) hk2 hk3) hsz)
        by_cases hjn:j<n
        · obtain⟨ho,hp,_,hed⟩:=hrd hjn
          obtain⟨o3,p3,h1,_,h3⟩:=some3 k (by omega)
          rw[hk2]at h1;cases h1
          have hd:=(F.ce k j ok o p3 p (by omega) hk2 ho h3 hp t hk3).2 (hlook hjn)
          rcases hd with hd|hd
          · exact hanc listed hcl j o p ho hp hed k (by omega) hd
          · have:=F.ancLt k p3 h3 j (by omega) hd;omega
        · exact hall (by omega) k (by omega)
      ·
        refine hu t v hk (λi oi hli hoi hdst=>?_)
        have hin:i<n:=by
          rcases A2 i ops.size with h|h
          · omega
          · rw[CR h]at hoi;cases hoi
        by_cases hij:i<j
        · exact hk2 i oi hij hoi hdst
        · have hjn:j<n:=by omega
          obtain⟨ho,hp,hnl,_⟩:=hrd hjn
          by_cases hie:i=j
          · subst hie;rw[hnl]at hli;cases hli
          · obtain⟨o3,p3,h1,_,h3⟩:=some3 i hin
            rw[hoi]at h1;cases h1
            have hd:=(F.ce i j oi o p3 p hie hoi ho h3 hp t hdst).2 (hlook hjn)
            rcases hd with hd|hd
            · have:=F.ancLt j p hp i (by omega) hd;omega
            · have:=hanc listed hcl i oi p3 hoi h3 (λed hm hb=>hcl i oi hli hoi ed hm hb) j hjn hd
              rw[hnl]at this;cases this
    have hput:∀(a:Act) (d:Option Nat) (x:Value) (t:Nat),d≠some t->(a.put d x).tmps[t]? = a.tmps[t]? := by
      intro a d x t hne
      cases d with
      | none=>rfl
      | some d=>
        simp only[Act.put,BT]
        rw[if_neg (λh=>hne (by rw[h]))]
    have hputsz:∀(a:Act) (d:Option Nat) (x:Value),(a.put d x).tmps.size=a.tmps.size:=by
      intro a d x;cases d<;>simp[Act.put]
    have hfin:∀listed a w,Inv listed a w->(∀k,k<n->listed.getD k false=true)->Q .normal a w:=by
      intro listed a w hI hall
      obtain⟨hsz,hcl,hd,R,m,hm,hpre,hx,hnxm,hrel,hres,htsz,hwc,huc⟩:=hI
      have hmM:m=M:=by
        rcases A2 m M with h|h
        · have:=(hpre m h).1 (hall _ (by have:=(kst m h).1;omega));omega
        · omega
      subst hmM
      refine hQ R a w hx (by show U0.j<=nx m;omega) ?_ ?_ htsz hd
      · refine hrel.congr (λid hid=>hrel.kw id hid) (λk b hk=>?_)
        rw[D0]at hk ⊢
        by_cases hc:U0.j<=k/\k<U0.j+n/\s.am.testBit (k-U0.j)=false
        · rw[if_pos hc]at hk;cases hk
        · rw[if_neg hc]at hk
          rw[if_neg (λh=>hc ⟨h.1,h.2.1,by have:=h.2.2;simp only[vis,hall (k-U0.j) (by omega),EX]at this;exact this⟩)]
          exact hk
      · refine⟨λt v hv=>?_⟩
        exact henv listed a R hcl htsz hwc huc n default default (AL _) (λ_=>hall) (λh=>by omega) t v hv (λh=>by omega)
    have hstep:∀listed a w,Inv listed a w->∀i,i∈Region.ready .any ops listed->∀K:Act->World->Prop,(∀a' w',Inv (listed.setIfInBounds i true) a' w'->K a' w')->wpOp P ops Q i K a w:=by
      intro listed a w hI i hi K hK
      obtain⟨hsz,hcl,hd,R,m,hm,hpre,hx,hnxm,hrel,hres,htsz,hwc,huc⟩:=hI
      obtain⟨hli,o,ho,hed⟩:=mem_ready.1 hi
      have hin:i<n:=by
        rcases A2 i ops.size with h|h
        · omega
        · rw[CR h]at ho;cases ho
      have hnl:listed.getD i false=false:=by rw[<-ED hsz hin];exact hli
      obtain⟨o2,p,ho2,hlo,hp⟩:=some3 i hin
      rw[ho]at ho2;cases ho2
      have hsz':i<listed.size:=by omega
      have hLs:∀k,(listed.setIfInBounds i true).getD k false=(decide (k=i) || listed.getD k false):=λk=>I9 hsz'
      have hancl:∀k,k<n->p.wt.testBit k=true->listed.getD k false=true:=hanc listed hcl i o p ho hp hed
      have hgl:=hrel.globOk
      have hle0:∀{R'},HU (nx m) R R'->Le R R':=λh=>h.le hrel.kw
      have hem:CK R (restr p.looks (envs i)) a.tmps:=by
        refine⟨λt v hv=>?_⟩
        obtain⟨ht,hmem⟩:=Gs _ _ _ _ hv
        exact henv listed a R hcl htsz hwc huc i o p (by omega) (λh=>by omega) (λ_=>⟨ho,hp,hnl,hed⟩) t v ht (λ_=>hmem)
      have mk:∀(R':DN) (m':Nat) (w':World) (x:Value),m'<=M->(∀r,r<M->((listed.setIfInBounds i true).getD (ks r) false=true↔r<m'))->HU U0.j R0 R'->U0.j+n<=nx m' ->
          EN C R' ⟨nx m',Ce U0.j n (vis (listed.setIfInBounds i true)) (Hh m')⟩ w'->(∀k,k<n->(listed.setIfInBounds i true).getD k false=false->R' (U0.j+k)=none)->Le R R' ->
          (vals i = .i5\/Av R' (vals i)=some x)->K (a.put o.dst x) w':=by
        intro R' m' w' x h1 h2 h3 h4 h5 h6 h7 h8
        refine hK _ _ ⟨by rw[EY];exact hsz,?_,by rw[FO];exact hd,R',m',h1,h2,h3,h4,h5,h6,by rw[hputsz];exact htsz,?_,?_⟩
        · intro i' o' hi' ho' ed hm' hb'
          rw[hLs]at hi' ⊢
          simp only[Cn,decide_eq_true_eq]at hi' ⊢
          rcases hi' with rfl|hi'
          · rw[ho]at ho';cases ho'
            exact .inr (hed ed hm' hb')
          · exact .inr (hcl i' o' hi' ho' ed hm' hb')
        · intro i' o' t hi' ho' hdt htl
          rw[hputsz]at htl
          rw[hLs]at hi'
          simp only[Cn,decide_eq_true_eq]at hi'
          by_cases he:i'=i
          · subst he
            rw[ho]at ho';cases ho'
            rcases h8 with h8|h8
            · exact .inl h8
            · refine .inr ⟨x,?_,h8⟩
              rw[hdt]
              simp[Act.put,BT,htl]
          · have hi'':=hi'.resolve_left he
            have hi'n:i'<n:=by
              rcases A2 i' ops.size with h|h
              · omega
              · rw[CR h]at ho';cases ho'
            obtain⟨o3,p3,h1',_,h3'⟩:=some3 i' hi'n
            rw[ho']at h1';cases h1'
            rw[hput a o.dst x t ((F.ce i' i o' o p3 p he ho' ho h3' hp t hdt).1)]
            rcases hwc i' o' t hi'' ho' hdt htl with h|⟨y,hy,hc⟩
            · exact .inl h
            · exact .inr ⟨y,hy,DA h7 _ _ hc⟩
        · intro t v hv hno
          have hot:o.dst≠some t:=hno i o (by rw[hLs];simp) ho
          rw[hput a o.dst x t hot]
          rcases huc t v hv (λi' o' hi' ho'=>hno i' o' (by rw[hLs,hi'];simp) ho')with h|⟨y,hy,hc⟩
          · exact .inl h
          · exact .inr ⟨y,hy,DA h7 _ _ hc⟩
      have hsame:s.am.testBit i=false->EN C R ⟨nx m,Ce U0.j n (vis (listed.setIfInBounds i true)) (Hh m)⟩ w:=by
        intro ham
        rw[KN (q:=vis listed) (λk hk=>by
          simp only[vis]
          rw[hLs]
          by_cases he:k=i
          · subst he;simp[ham]
          · simp[he])]
        exact hrel
      have hpre1:(∀r,r<M->ks r≠i)->∀r,r<M->((listed.setIfInBounds i true).getD (ks r) false=true↔r<m):=by
        intro hne r hr
        rw[hLs]
        simp only[hne r hr,decide_false,Fc]
        exact hpre r hr
      have hres1:∀k,k<n->(listed.setIfInBounds i true).getD k false=false->R (U0.j+k)=none:=by
        intro k hk hkl
        rw[hLs]at hkl
        simp only[CX]at hkl
        exact hres k hk hkl.2
      have hkbefore:∀r,r<m->(HK pl (ks r)).testBit i=false:=by
        intro r hr
        cases hb:(HK pl (ks r)).testBit i with
        | false=>rfl
        | true=>
          exfalso
          obtain⟨hkn,_⟩:=kst r (by omega)
          obtain⟨o3,p3,h1',_,h3'⟩:=some3 (ks r) hkn
          have hlr:=(hpre r (by omega)).2 hr
          have:=hanc listed hcl (ks r) o3 p3 h1' h3' (λed hm hb=>hcl (ks r) o3 hlr h1' ed hm hb) i hin (by rw[<-JM h3'];exact hb)
          rw[hnl]at this;cases this
      unfold wpOp
      rw[ho]
      simp only
      have hco:BN P C.G nt ops o=⟨o.dst,.pu,none⟩\/∃g,Qc ops o.guard=some g/\BN P C.G nt ops o=⟨o.dst,Af P C.G o.op,g⟩:=by
        unfold BN
        split
        · rename_i g hg _;exact .inr ⟨g,hg,rfl⟩
        · exact .inl rfl
      rcases hco with hco|⟨g,hcg,hco⟩
      · exfalso
        have:=hops i hin _ p hlo hp
        rw[hco]at this
        simp[B0,Ek.d8,Bb]at this
      · have hF:=hops i hin _ p hlo hp
        rw[hco]at hF
        simp only at hF
        rcases hF with ⟨hw,hv,ham,hne⟩|⟨hw,⟨hc,hv,ham,hne⟩|⟨hc,hmem,ham,hne⟩|⟨hc,ham,hne,b,hv,hb⟩|⟨hc,ham,r,hr,hkr⟩⟩
        · rw[if_neg (by rw[Dy hem hcg hw];simp)]
          exact mk R m w undef hm (hpre1 hne) hx hnxm (hsame ham) hres1 (Le.refl _) (.inr (by rw[hv];rfl))
        · rw[if_pos (Dy hem hcg hw)]
          left
          obtain⟨x,hxv,hrun⟩:=M4 (a:=a) (P:=P) hem hgl o hv w
          unfold Oper.wp
          rw[hrun]
          exact mk R m w x hm (hpre1 hne) hx hnxm (hsame ham) hres1 (Le.refl _) (.inr hxv)
        · rw[if_pos (Dy hem hcg hw)]
          left
          have hl1:=hload i _ _ _ hmem m hm (λr hr1 hr2=>by
            cases hbt:(HK pl i).testBit (ks r)with
            | false=>rfl
            | true=>
              exfalso
              have:=hancl (ks r) (kst r hr2).1 (by rw[<-JM hp];exact hbt)
              have:=(hpre r hr2).1 this
              omega) hkbefore
          have hl2:=mO hrel (Us:=⟨0,Ce U0.j n (Dw (HK pl i) s.am) (Hh m)⟩) (λid b hid=>by
            simp only at hid ⊢
            rw[D0]at hid ⊢
            by_cases hcnd:U0.j<=id/\id<U0.j+n/\Dw (HK pl i) s.am (id-U0.j)=false
            · rw[if_pos hcnd]at hid;cases hid
            · rw[if_neg hcnd]at hid
              rw[if_neg (λhh=>hcnd ⟨hh.1,hh.2.1,by
                have h3:=hh.2.2
                unfold Dw
                cases hbt:(HK pl i).testBit (id-U0.j)with
                | false=>rfl
                | true=>
                  have:=hancl (id-U0.j) (by omega) (by rw[<-JM hp];exact hbt)
                  simp only[vis,this,EX]at h3
                  rw[h3];rfl⟩)]
              exact hid) hl1
          obtain⟨x,hxv,hrun⟩:=M5 (P:=P) hrel hem o hl2
          unfold Oper.wp
          rw[hrun]
          exact mk R m w x hm (hpre1 hne) hx hnxm (hsame ham) hres1 (Le.refl _) (.inr hxv)
        · rw[if_pos (Dy hem hcg hw)]
          left
          have hRi:R (U0.j+i)=none:=hres i hin hnl
          obtain⟨x,w',inf,hrun,hnew,hblk,hxv,hok⟩:=PN (a:=a) (P:=P) hem hgl o hv hRi w
          unfold Oper.wp
          rw[hrun]
          have hle:Le R (I1 R (U0.j+i) inf):=λk j hk=>by
            by_cases he:k=U0.j+i
            · subst he;rw[hRi]at hk;cases hk
            · rw[Bw he];exact hk
          refine mk (I1 R (U0.j+i) inf) m w' x hm (hpre1 hne) (hx.trans (λid hid=>Bw (by omega)) (AL U0.j)) hnxm ?_ ?_ hle (.inr hxv)
          · refine hrel.allocAt hRi (by show U0.j+i<nx m;omega) hnew b inf hblk hok rfl (λk=>?_)
            simp only
            rw[D0,D0]
            by_cases he:k=U0.j+i
            · subst he
              rw[if_pos rfl,if_neg (by
                intro h
                have h3:=h.2.2
                rw[show U0.j+i-U0.j=i by omega]at h3
                simp only[vis]at h3
                rw[hLs,ham]at h3
                simp at h3)]
              exact hb m hm hkbefore
            · rw[if_neg he]
              by_cases hrg:U0.j<=k/\k<U0.j+n
              · have:vis (listed.setIfInBounds i true) (k-U0.j)=vis listed (k-U0.j):=by
                  simp only[vis]
                  rw[hLs]
                  have:k-U0.j≠i:=by omega
                  simp[this]
                rw[this]
              · rw[if_neg (λh=>hrg ⟨h.1,h.2.1⟩),if_neg (λh=>hrg ⟨h.1,h.2.1⟩)]
          · intro k hk hkl
            rw[hLs]at hkl
            simp only[CX,decide_eq_false_iff_not]at hkl
            rw[Bw (by omega)]
            exact hres k hk hkl.2
        · rw[if_pos (Dy hem hcg hw)]
          left
          have hrm:r=m:=by
            have h1:¬r<m:=λh=>by
              have:=(hpre r hr).2 h
              rw[hkr,hnl]at this;cases this
            rcases A2 m r with h2|h2
            · exfalso
              obtain⟨hkn,o4,p4,U4,hl4,hp4,hc4,_⟩:=kst m (by omega)
              have hlt:=kinc m r h2 hr
              rw[hkr]at hlt
              have:=F.kk (ks m) i o4 _ p hlt hl4 hlo hp hc4 (by rw[hco];exact hc)
              have:=hancl (ks m) hkn this
              have:=(hpre m (by omega)).1 this
              omega
            · omega
          subst hrm
          obtain⟨_,o4,p4,U4,hl4,hp4,hc4,hw4,hden,hHn,hnxn⟩:=kst r hr
          rw[hkr]at hl4 hp4 hw4 hden
          rw[hlo]at hl4;cases hl4
          rw[hp]at hp4;cases hp4
          rw[hco]at hden
          simp only at hden
          have hsub:∀id b,look (Ce U0.j n (Dw p.wt s.am) (Hh r)) id=some b->look (Ce U0.j n (vis listed) (Hh r)) id=some b:=by
            intro id b hid
            rw[D0]at hid ⊢
            by_cases hcnd:U0.j<=id/\id<U0.j+n/\Dw p.wt s.am (id-U0.j)=false
            · rw[if_pos hcnd]at hid;cases hid
            · rw[if_neg hcnd]at hid
              rw[if_neg (λhh=>hcnd ⟨hh.1,hh.2.1,by
                have h3:=hh.2.2
                unfold Dw
                cases hbt:p.wt.testBit (id-U0.j)with
                | false=>rfl
                | true=>
                  have:=hancl (id-U0.j) (by omega) hbt
                  simp only[vis,this,EX]at h3
                  rw[h3];rfl⟩)]
              exact hid
          have hsmall:=hrel.shrink (Us:=⟨nx r,Ce U0.j n (Dw p.wt s.am) (Hh r)⟩) rfl hsub
          refine PJ hD (C:=C.sub R ⟨nx r,Ce U0.j n (Dw p.wt s.am) (Hh r)⟩ w) rfl rfl hsmall hem o hden K Q (λR' w' x hx' hn' hrel' hv'=>?_)
          have hnle:nx r<=U4.j:=hn'
          refine mk R' (r+1) w' x (by omega) ?_ (hx.trans hx' (show U0.j<=nx r by omega)) (by rw[hnxn];omega) ?_ ?_ (hle0 hx') hv'
          · intro r' hr'
            rw[hLs]
            simp only[Cn,decide_eq_true_eq]
            constructor
            · rintro(h | h)
              · rcases WX r' r with h2 | h2 | h2
                · omega
                · omega
                · have:=kinc r r' h2 hr';omega
              · have:=(hpre r' hr').1 h;omega
            · intro h
              by_cases he:r'=r
              · subst he;exact .inl hkr
              · exact .inr ((hpre r' hr').2 (by omega))
          · refine hrel.regrow (Us:=⟨nx r,Ce U0.j n (Dw p.wt s.am) (Hh r)⟩) hsub hrel' hx' hnxn (λid b hid=>?_)
            simp only at hid ⊢
            rw[D0]at hid
            split at hid
            · cases hid
            · rename_i hvis
              rw[hHn,OV,QH]at hid
              by_cases hcnd:U0.j<=id/\id<U0.j+n/\Dw p.wt s.am (id-U0.j)=false
              · rw[if_pos hcnd]at hid
                cases hlk:look (Hh r) id with
                | none=>rw[hlk]at hid;exact .inl hid
                | some b'=>
                  rw[hlk]at hid
                  cases hid
                  right
                  rw[D0,D0,if_pos hcnd]
                  refine⟨?_,rfl⟩
                  rw[if_neg (λhh=>hvis ⟨hh.1,hh.2.1,by
                    have h3:=hh.2.2
                    simp only[vis]at h3 ⊢
                    rw[hLs]
                    by_cases he:id-U0.j=i
                    · rw[he,ham];simp
                    · simp only[he,decide_false,Fc];exact h3⟩)]
                  exact hlk
              · rw[if_neg hcnd]at hid
                exact .inl hid
          · intro k hk hkl
            rw[hx' (U0.j+k) (by show U0.j+k<nx r;omega)]
            exact hres1 k hk hkl
    have hany:∀fuel listed a w,Inv listed a w->(CW n).countP (λk=>!listed.getD k false)<=fuel->wpAny P .any ops Q fuel listed a w:=by
      intro fuel
      induction fuel with
      | zero=>
        intro listed a w hI hcnt
        have hall:∀k,k<n->listed.getD k false=true:=by
          intro k hk
          have h0:(CW n).countP (λk=>!listed.getD k false)=0:=by omega
          have:=xp.1 h0 k (EV.2 hk)
          simpa using this
        refine⟨?_,hfin listed a w hI hall⟩
        apply e9.2
        intro j hj
        obtain⟨h1,o,h2,_⟩:=mem_ready.1 hj
        have hjn:j<n:=by
          rcases A2 j ops.size with h|h
          · omega
          · rw[CR h]at h2;cases h2
        rw[ED hI.1 hjn,hall j hjn]at h1
        cases h1
      | succ fuel ih=>
        intro listed a w hI hcnt
        refine⟨λhr=>hfin listed a w hI (hready_nil listed hI.1 hr),λi hi=>?_⟩
        have hin:i<n:=by
          obtain⟨_,o,h2,_⟩:=mem_ready.1 hi
          rcases A2 i ops.size with h|h
          · omega
          · rw[CR h]at h2;cases h2
        have hnl:listed.getD i false=false:=by rw[<-ED hI.1 hin];exact(mem_ready.1 hi).1
        refine hstep listed a w hI i hi _ (λa' w' hI'=>ih _ a' w' hI' ?_)
        have hsz':i<listed.size:=by rw[hI.1];exact hin
        have:=Zp (p:=λk=>!(listed.setIfInBounds i true).getD k false) (q:=λk=>!listed.getD k false) (λk hk=>by
          simp only[Dv]at hk ⊢
          rw[I9 hsz']at hk
          simp only[CX]at hk
          exact hk.2) (i:=i) (by simp only[hnl];rfl) (by simp only[I9 hsz'];simp) (CW n) (EV.2 hin)
        omega
    refine wp_region_any hmix ?_
    rw[<-hnops]
    have hrepl:∀k,(Hc n false).getD k false=false:=λk=>by
      simp only[Ep,AY5]
      split<;>rfl
    refine hany n _ a0 _ ⟨by simp,?_,hd0,R0,0,CA _,?_,HU.refl _ _,by rw[nx0];exact AL _,?_,?_,hnt0,?_,?_⟩ ?_
    · intro i o hi;rw[hrepl]at hi;cases hi
    · intro r hr;rw[hrepl];simp
    · refine(hrel0.drawn (w00.drawn+1)).congr (λid hid=>hrel0.kw id (by have h1:nx 0<=id:=hid;rw[nx0]at h1;omega)) (λk b hk=>?_)
      simp only at hk
      rw[D0]at hk
      split at hk
      · cases hk
      · rename_i hc
        have hnr:¬(U0.j<=k/\k<U0.j+n):=λh=>hc ⟨h.1,h.2,by simp only[vis,hrepl,Bool.false_and]⟩
        rw[hz k hnr]at hk
        exact hk
    · intro k hk _;exact hrel0.kw _ (by omega)
    · intro i o t hi;rw[hrepl]at hi;cases hi
    · intro t v hv _;exact he0.X t v hv
    · refine BE (List.countP_le_length) (by simp)
end Go.Og
namespace Go.Og
abbrev AE:=Option (V × H)
noncomputable section
def BX{α:Type}(l:List (Nat × α))(id:Nat):Option α:=
 List.rec none (λp _ r=>Bool.rec r (some p.2) (Ar p.1 id)) l
def Xk{α:Type}(l:List (Nat × α))(id:Nat):List (Nat × α):=
 List.rec [] (λp l r=>Bool.rec (p::r) l (Ar p.1 id)) l
def yx(l:List V):Nat->Option V:=
 List.rec (λ_=>none) (λa _ b n=>Nat.rec (some a) (λm _=>b m) n) l
def UI(l:EB)(id:Nat):(EB->AE)->AE:=
 List.rec (λk=>k []) (λp _ a k=>a λl'=>Bool.rec (k (p::l')) (k l') (Ar p.1 id)) l
def AK(c:Bool)(a b:AE):AE:=match c with
 | true=>a
 | false=>b
def JI(c:Bool)(a:AE):AE:=match c with
 | true=>a
 | false=>none
def gK(x:Option V)(J:V->AE):AE:=match x with
 | some v=>J v
 | none=>none
def CD(x:AE)(J:V->H->AE):AE:=match x with
 | some (v,U)=>J v U
 | none=>none
def Ax(f:Bool->H->AE)(g:(Bool->H->AE)->AE):AE:=g f
def J1:IntKind->Nat
 | .i8=>127 | .i16=>32767 | .i32=>2147483647 | .i64=>9223372036854775807
 | .u8=>255 | .u16=>65535 | .u32=>4294967295 | .u64=>18446744073709551615
def ALl:IntKind->Nat
 | .i8=>128 | .i16=>32768 | .i32=>2147483648 | .i64=>9223372036854775808
 | .u8=>0 | .u16=>0 | .u32=>0 | .u64=>0
def inK(k:IntKind)(n:Int):Bool:=match n with
 | .ofNat m=>Am m (J1 k)
 | .negSucc m=>B9 m (ALl k)
def An(k:IntKind)(n:Int):Int:=match inK k n with
 | true=>n
 | false=>k.wrap n
def G8(a b:Int):Int:=if b<a then b else a
def Gr(a b:Int):Int:=if b > a then b else a
def C5(a b:Int):Bool:=match a,b with
 | .ofNat m,.ofNat n=>B9 m n
 | .negSucc m,.negSucc n=>B9 n m
 | .negSucc _,.ofNat _=>true
 | .ofNat _,.negSucc _=>false
def HL(a b:Int):Bool:=match a,b with
 | .ofNat m,.ofNat n=>Am m n
 | .negSucc m,.negSucc n=>Am n m
 | .negSucc _,.ofNat _=>true
 | .ofNat _,.negSucc _=>false
def BQ(k:IntKind)(a b:Int):Int:=An k (Int.add a b)
def Dj(k:IntKind)(a b:Int):Int:=An k (Int.sub a b)
def O3(k:IntKind)(a b:Int):Int:=An k (Int.mul a b)
def NQ(k:IntKind)(a b:Int):Int:=An k (Int.tdiv a b)
def ZG(k:IntKind)(a:Int)(n:Nat):Int:=An k (Int.mul a (AA (Nat.pow 2 (Ga n k.bits))))
def J0(k:IntKind)(a:Int)(n:Nat):Int:=match a with
 | .ofNat m => .ofNat (Nat.div m (Nat.pow 2 (Ga n k.bits)))
 | .negSucc m=>Int.fdiv (.negSucc m) (2 ^ (Ga n k.bits))
def Ps(k:IntKind)(a b:Int)(f:Nat->Nat->Nat)(g:Int):Int:=match a,b with
 | .ofNat m,.ofNat n=>match Am m (J1 k)&&Am n (J1 k)with
  | true => .ofNat (f m n)
  | false=>g
 | _,_=>g
def MD(k:IntKind)(a b:Int):Int:=Ps k a b Nat.land (k.wrap (BY k.bits a &&& BY k.bits b).toNat)
def orF(k:IntKind)(a b:Int):Int:=Ps k a b Nat.lor (k.wrap (BY k.bits a ||| BY k.bits b).toNat)
def AJu(k:IntKind)(a b:Int):Int:=Ps k a b Nat.xor (k.wrap (BY k.bits a ^^^ BY k.bits b).toNat)
def gx(k:IntKind)(a b:Int):Int:=k.wrap (BY k.bits a &&& ~~~BY k.bits b).toNat
def pt(k:IntKind)(a:Int):Int:=An k (Int.sub 0 a)
def AUF(k:IntKind)(a:Int):Int:=k.wrap (BY k.bits (if k.signed then -1 else k.max) ^^^ BY k.bits a).toNat
def T7(b:Int)(J:Nat->AE):AE:=match b with
 | .ofNat n=>J n
 | .negSucc _=>none
def nzK(b:Int)(a:AE):AE:=match b with
 | .ofNat 0=>none
 | _=>a
def AFC(c:BinOp)(k d:IntKind)(a b:Int)(J:V->AE):AE:=
 match c with
 | .shl=>T7 b λn=>J (.int k (ZG k a n))
 | .shr=>T7 b λn=>J (.int k (J0 k a n))
 | c=>if k=d then
   match c with
   | .add=>J (.int k (BQ k a b))
   | .sub=>J (.int k (Dj k a b))
   | .mul=>J (.int k (O3 k a b))
   | .quo=>nzK b (J (.int k (NQ k a b)))
   | .rem=>nzK b (J (.int k (EW a b)))
   | .and=>J (.int k (MD k a b))
   | .or=>J (.int k (orF k a b))
   | .xor=>J (.int k (AJu k a b))
   | .andNot=>J (.int k (gx k a b))
   | .eql=>J (.bool (B8 a b))
   | .neq=>J (.bool (not (B8 a b)))
   | .lss=>J (.bool (C5 a b))
   | .leq=>J (.bool (HL a b))
   | .gtr=>J (.bool (C5 b a))
   | .geq=>J (.bool (HL b a))
   | _=>none
  else none
def DI(a b:BS)(J:BS->AE):AE:=match Am (AM a.len b.len) 1000000000000 with
 | true=>J (a.cat b)
 | false=>none
def ltS(a b:BS):Bool:=Op.bytesLess a.toList b.toList
def AKt(c:BinOp)(a b:BS)(J:V->AE):AE:=
 match c with
 | .add=>DI a b λs=>J (.N s)
 | .eql=>J (.bool (a.beq b))
 | .neq=>J (.bool (not (a.beq b)))
 | .lss=>J (.bool (ltS a b))
 | .leq=>J (.bool (ltS a b || a.beq b))
 | .gtr=>J (.bool (not (ltS a b || a.beq b)))
 | .geq=>J (.bool (not (ltS a b)))
 | _=>none
def Zh(t:Gf)(x y:V)(J:Bool->AE):AE:=match KQ t x y with
 | some b=>J b
 | none=>none
def eqX(a:BinOp)(t:Gf)(x y:V)(J:V->AE):AE:=match a with
 | .eql=>Zh t x y λb=>J (.bool b)
 | .neq=>Zh t x y λb=>J (.bool (not b))
 | _=>none
def AFa(c:BinOp)(t:Gf)(x y:V)(J:V->AE):AE:=
 match t with
 | .none=>match x,y with
  | .int k a,.int d b=>AFC c k d a b J
  | .N a,.N b=>AKt c a b J
  | _,_=>none
 | t=>eqX c t x y J
def unX(a:UnOp)(x:V)(J:V->AE):AE:=
 match a,x with
 | .neg,.int k n=>J (.int k (pt k n))
 | .xor,.int k n=>J (.int k (AUF k n))
 | .not,.bool b=>J (.bool (not b))
 | _,_=>none
inductive Cc where
 | any | int (k:IntKind) | bool | N | o | S
 | agg (l:List Cc)
 | B (l:List Cc)
 deriving Inhabited
def DZ(k:IntKind)(v:V)(J:Int->AE):AE:=match v with
 | .int a n=>if k=a then J n else none
 | _=>none
def DB(v:V)(J:Bool->AE):AE:=match v with
 | .bool b=>J b
 | _=>none
def HY(v:V)(J:BS->AE):AE:=match v with
 | .N s=>J s
 | _=>none
def BL(v:V)(J:Nat->Nat->AE):AE:=match v with
 | .o b o=>J b o
 | _=>none
def Cp(v:V)(J:List V->AE):AE:=match v with
 | .agg l=>J l
 | _=>none
def H3(v:V)(J:List V->AE):AE:=match v with
 | .B l=>J l
 | _=>none
def Ab(l:List V)(J:V->List V->AE):AE:=match l with
 | v::l=>J v l
 | []=>none
def Ay(l:List V)(a:AE):AE:=match l with
 | []=>a
 | _::_=>none
def CI(v:V)(a:AE):AE:=match v.S with
 | true=>a
 | false=>none
mutual
def rt:Cc->V->(V->AE)->AE
 | .any,v,J=>J v
 | .int k,v,J=>DZ k v λn=>J (.int k n)
 | .bool,v,J=>DB v λb=>J (.bool b)
 | .N,v,J=>HY v λs=>J (.N s)
 | .o,v,J=>BL v λb o=>J (.o b o)
 | .S,v,J=>CI v (J v)
 | .agg ts,v,J=>Cp v λl=>rts ts l λl'=>J (.agg l')
 | .B ts,v,J=>H3 v λl=>rts ts l λl'=>J (.B l')
def rts:List Cc->List V->(List V->AE)->AE
 | [],l,J=>Ay l (J [])
 | t::ts,l,J=>Ab l λv l'=>rt t v λv'=>rts ts l' λl''=>J (v'::l'')
end
abbrev Qs:=List (Nat × (Nat × Nat))
abbrev Rg:=List (Nat × List V)
def Cg(e:CF)(x:AO)(J:V->AE):AE:=match x with
 | .T v=>match v.J with
  | true=>J v
  | false=>none
 | .tmp t=>match look e t with
  | some v=>J v
  | none=>none
def OX(e:CF):List AO->(List V->AE)->AE
 | [],J=>J []
 | x::l,J=>Cg e x λv=>OX e l λvs=>J (v::vs)
def Mu(e:CF)(x:Option AO)(J:Option V->AE):AE:=match x with
 | none=>J none
 | some x=>Cg e x λv=>J (some v)
def Tw(e:CF):List (Nat × Nat × AO)->(List (Nat × Nat × V)->AE)->AE
 | [],J=>J []
 | (o,s,x)::l,J=>Cg e x λv=>Tw e l λr=>J ((o,s,v)::r)
def GI(q:Qs):AO->Option (Nat × Nat)
 | .tmp t=>look q t
 | .T _=>none
def UO(o:Option V)(d:Nat)(J:Nat->AE):AE:=match o with
 | none=>J d
 | some v=>match v with
  | .int _ n=>T7 n J
  | _=>none
def DQ(s:BS)(lo a:Option V)(J:BS->AE):AE:=
 UO a s.len λh=>UO lo 0 λl=>JI (Am l h&&Am h s.len) (J (s.sub l h))
def C8(s:BS)(i:Int)(J:Int->AE):AE:=
 T7 i λn=>JI (B9 n s.len) (J (AA (s.get n)))
def Ao(v:V)(J:Nat->AE):AE:=match v with
 | .h=>J 0
 | .D _ _ n _=>J n
 | .sle _ _ _ _=>J 0
 | _=>none
def AS(a:Nat)(v:V)(i:Int)(J:Nat->Nat->AE):AE:=match v with
 | .D b off len _=>T7 i λn=>JI (B9 n len) (J b (AM off (NJ n a)))
 | _=>none
def KG(l:List V)(n:Nat)(J:V->AE):AE:=match yx l n with
 | some v=>J v
 | none=>none
def FD(l:List V)(off n:Nat)(J:List V->AE):AE:=match Am (AM off n) l.length with
 | true=>J ((l.drop off).take n)
 | false=>none
def xg(E:EB)(U:H)(b:Nat)(J:List V->AE):AE:=match BX U.F b with
 | some (.cells l)=>J l
 | some _=>none
 | none=>match BX E b with
  | some (.cells l)=>J l
  | _=>none
def DF(E:EB)(U:H)(b off:Nat)(J:V->AE):AE:=xg E U b λl=>KG l off J
def Bv(E:EB)(U:H)(b off n:Nat)(J:List V->AE):AE:=xg E U b λl=>FD l off n J
def Cb(U:H)(b:G5):H:=⟨U.j+1,(U.j,b)::U.F⟩
def Gl(U:H)(b:Nat)(c:G5):H:=⟨U.j,(b,c)::Xk U.F b⟩
def DO(n b off:Nat)(v:V)(U:H)(J:H->AE):AE:=match BX U.F b with
 | some (.cells l)=>JI (Ar v.cells.length n&&Am (AM off n) l.length&&BH v.cells) (J (Gl U b (.cells (FW l off v.cells))))
 | _=>none
def srcK(E:EB)(U:H)(a:Nat)(v:V)(J:Nat->List V->AE):AE:=match v with
 | .h=>J 0 []
 | .sle _ _ _ _=>J 0 []
 | .D b off len _=>xg E U b λl=>FD l off (len*a) λl'=>J len l'
 | .N s=>match Ar a 1 with
  | true=>J s.len (lK s.toList)
  | false=>none
 | _=>none
def Dx(E:EB)(a bytes:Nat)(s x:V)(U:H)(J:V->H->AE):AE:=
 srcK E U a x λn c=>
  match s with
  | .D b 0 len (.op e)=>match n with
   | 0=>J s U
   | n=>match BX U.F b with
    | some (.cells l)=>JI (Ar l.length (len*a)&&Ar e a&&Bu (len+n) bytes&&BH c)
      (UI U.F b λd=>J (.D U.j 0 (len+n) (.op a)) ⟨U.j+1,(U.j,.cells (l++c))::d⟩)
    | _=>none
  | s=>CD (Eo E a bytes s x U) J
def J7(E:EB)(U:H)(v:V)(J:BS->AE):AE:=match v with
 | .N _=>none
 | v=>srcK E U 1 v λ_ l=>match Fv l with
  | some s=>J (BS.ofList s)
  | none=>none
def H9(l:List (Nat × Nat × V))(z:List V)(J:List V->AE):AE:=match GK l z with
 | some l'=>J l'
 | none=>none
def ACY(E:EB)(a:Nat)(d s:V)(U:H):Option (V × H):=
 match d,C4 E U a s with
  | .h,some (_,_)=>some (.int .i64 0,U)
  | .sle _ _ _ _,some (_,_)=>some (.int .i64 0,U)
  | .D b off len _,some (n,c)=>
   let m:=Ga n len
   if m=0 then some (.int .i64 0,U)else
   match look U.F b with
   | some (.cells l)=>if Am (off+m*a) l.length&&BH (c.take (m*a))then some (.int .i64 m,U.set b (.cells (FW l off (c.take (m*a)))))else none
   | _=>none
  | _,_=>none
theorem qn E a d s e U:FE E (.copy a d s) e U=ACY E a (Ca e d) (Ca e s) U:=rfl
def Bj(e:CF)(t:Nat)(J:V->AE):AE:=match look e t with
 | some v=>JI v.J (J v)
 | none=>none
def GA(D:Ac)(fv:V)(vs:List V)(U:H)(J:V->H->AE):AE:=match fv with
 | .fn g a cap=>CD (D g (a++vs++cap) U) J
 | _=>none
def Dg(E:EB)(D:Ac)(id q:Nat)(o:Ek)(e:CF)(U:H)(J:V->H->AE):AE:=
 match o with
 | .L x=>Cg e x λv=>J v U
 | .pp w t x y=>Cg e x λa=>Cg e y λb=>AFa w t a b λv=>J v U
 | .un w x=>Cg e x λa=>unX w a λv=>J v U
 | .i7 (.jp k) x=>Cg e x λv=>match v with
  | .int _ n=>J (.int k (An k n)) U
  | _=>none
 | .i7 .same x=>Cg e x λv=>HY v λs=>J (.N s) U
 | .i7 .toStr x=>Cg e x λv=>J7 E U v λu=>J (.N u) U
 | .i7 (.toBytes _) x=>Cg e x λv=>HY v λs=>JI (Am s.len 1000000000000) (J (.D id 0 s.len (.op 1)) ⟨q,(id,.cells (lK s.toList))::U.F⟩)
 | .rg x=>Cg e x λv=>BL v λb o=>J (.o b o) U
 | .C off x=>Cg e x λv=>BL v λb o=>J (.o b (AM o off)) U
 | .field off none x=>Cg e x λv=>Cp v λl=>KG l off λu=>J u U
 | .field off (some n) x=>Cg e x λv=>Cp v λl=>FD l off n λl'=>J (.agg l') U
 | .extract i x=>Cg e x λv=>H3 v λl=>KG l i λu=>J u U
 | .qr g x i=>Cg e x λv=>Cg e i λj=>match j with
  | .int _ n=>AS g v n λb o=>J (.o b o) U
  | _=>none
 | .iaddrA len g x i=>Cg e x λv=>Cg e i λj=>match j with
  | .int _ n=>BL v λb o=>T7 n λm=>JI (B9 m len) (J (.o b (AM o (NJ m g))) U)
  | _=>none
 | .idxStr x i=>Cg e x λv=>Cg e i λj=>HY v λs=>match j with
  | .int _ n=>C8 s n λu=>J (.int .u8 u) U
  | _=>none
 | .len true x=>Cg e x λv=>HY v λs=>J (.int .i64 (AA s.len)) U
 | .len false x=>Cg e x λv=>Ao v λn=>J (.int .i64 (AA n)) U
 | .lenC n=>J (.int .i64 (AA n)) U
 | .sliceStr x lo r=>Cg e x λv=>Mu e lo λl=>Mu e r λh=>HY v λs=>DQ s l h λu=>J (.N u) U
 | .sliceSl g x lo r mx=>Cg e x λv=>Mu e lo λl=>Mu e r λh=>Mu e mx λm=>gK (CT g v l h m) λu=>J u U
 | .sliceArr n g x lo r mx=>Cg e x λv=>Mu e lo λl=>Mu e r λh=>Mu e mx λm=>gK (I7 n g v l h m) λu=>J u U
 | .mkifc t x=>Cg e x λv=>J (.ifc t v) U
 | .mkfn f a c=>OX e a λxs=>OX e c λC=>J (.fn f xs C) U
 | .build z A=>Tw e A λl=>H9 l z λl'=>J (.agg l') U
 | .cap x=>Cg e x λv=>match v with
  | .h=>J (.int .i64 0) U
  | .D _ _ _ (.ex c)=>J (.int .i64 (AA c)) U
  | _=>none
 | .min x l=>Cg e x λv=>OX e l λvs=>gK (XR v vs) λu=>match u with
  | .int k n=>J (.int k n) U
  | _=>none
 | .max x l=>Cg e x λv=>OX e l λvs=>gK (XS v vs) λu=>match u with
  | .int k n=>J (.int k n) U
  | _=>none
 | .load none x=>Cg e x λv=>BL v λb o=>DF E U b o λu=>J u U
 | .load (some n) x=>Cg e x λv=>BL v λb o=>Bv E U b o n λu=>J (.agg u) U
 | .alloc _ z=>J (.o id 0) ⟨q,(id,.cells z)::U.F⟩
 | .box _ x=>Cg e x λv=>JI (BH v.cells) (J (.o id 0) ⟨q,(id,.cells v.cells)::U.F⟩)
 | .buildSlice _ n z A=>Tw e A λl=>H9 l z λl'=>JI (BH l') (J (.D id 0 n (.ex n)) ⟨q,(id,.cells l')::U.F⟩)
 | .mkslice _ _ bytes z len cap=>Cg e len λa=>Cg e cap λb=>match a,b with
  | .int .i64 n,.int .i64 c=>T7 n λn=>T7 c λc=>JI (Am n c&&Am (c*bytes) 281474976710656&&Am c 1000000000000)
    (J (.D id 0 n (.ex c)) ⟨q,(id,.cells (Bf c z).flatten)::U.F⟩)
  | _,_=>none
 | .store n x v=>Cg e x λp=>Cg e v λu=>BL p λb o=>DO n b o u U λU'=>J .i5 U'
 | .append _ g bytes s x=>Cg e s λa=>Cg e x λb=>Dx E g bytes a b U J
 | .copy g d s=>Cg e d λa=>Cg e s λb=>CD (ACY E g a b U) J
 | .call f args=>OX e args λvs=>CD (D f vs U) J
 | .callv f args=>Cg e f λfv=>OX e args λvs=>GA D fv vs U J
 | .mkmap=>J (.mp id) ⟨q,(id,.map [])::U.F⟩
 | .lookup t z m x=>Cg e m λp=>Cg e x λk=>gK (Mn t z p k U) λv=>J v U
 | .mapset t m k v=>Cg e m λp=>Cg e k λa=>Cg e v λb=>CD (UA t p a b U) J
 | .alloc0 B=>J (.o id 0) ⟨q,(id,.unit B)::U.F⟩
 | .box0 B x=>Cg e x λv=>match v with
  | .agg []=>J (.o id 0) ⟨q,(id,.unit B)::U.F⟩
  | _=>none
 | .load0 x=>Cg e x λv=>BL v λ_ _=>J (.agg []) U
 | .store0 x v=>Cg e x λp=>Cg e v λu=>match p,u with
  | .o _ _,.agg []=>J .i5 U
  | _,_=>none
 | .faddr0 t x=>Cg e x λv=>gK (PI t v U) λu=>J u U
 | .idxArr n g none x i=>Cg e x λv=>Cg e i λj=>Cp v λl=>match j with
  | .int _ k=>T7 k λm=>JI (B9 m n) (KG l (NJ m g) λu=>J u U)
  | _=>none
 | .idxArr n g (some s) x i=>Cg e x λv=>Cg e i λj=>Cp v λl=>match j with
  | .int _ k=>T7 k λm=>JI (B9 m n) (FD l (NJ m g) s λl'=>J (.agg l') U)
  | _=>none
 | _=>none
def Zr(ty:Cc)(v:V)(J:List V->AE):AE:=match ty with
 | .agg _=>Cp v λl=>JI (BH l) (J l)
 | _=>CI v (J [v])
def xh(E:EB)(D:Ac)(g:Bool)(id b:Nat)(o:Ek)(ty:Cc)(e:CF)(q:Qs)(r:Rg)(U:H)(J:V->Rg->H->AE)(c:Nat->Nat->AE):AE:=
 match o with
 | .L x=>match GI q x with
  | some (m,off)=>c m off
  | none=>Dg E D id b o e U λv U'=>rt ty v λa=>J a r U'
 | .rg x=>match GI q x with
  | some (m,off)=>c m off
  | none=>Dg E D id b o e U λv U'=>rt ty v λa=>J a r U'
 | .C d x=>match GI q x with
  | some (m,off)=>c m (off+d)
  | none=>Dg E D id b o e U λv U'=>rt ty v λa=>J a r U'
 | .load none x=>match GI q x with
  | some (m,off)=>match look r m with
   | some l=>KG l off λv=>rt ty v λa=>J a r U
   | none=>none
  | none=>Dg E D id b o e U λv U'=>rt ty v λa=>J a r U'
 | .load (some n) x=>match GI q x with
  | some (m,off)=>match look r m with
   | some l=>FD l off n λl'=>rt ty (.agg l') λa=>J a r U
   | none=>none
  | none=>Dg E D id b o e U λv U'=>rt ty v λa=>J a r U'
 | .store n x v=>match GI q x with
  | some (m,off)=>match g,look r m with
   | true,some l=>match GI q v with
    | none=>Cg e v λu=>Zr ty u λf=>JI (Ar f.length n&&Am (off+n) l.length) (J .i5 (LO r m (FW l off f)) U)
    | some _=>none
   | _,_=>none
  | none=>Dg E D id b o e U λv U'=>J v r U'
 | o=>Dg E D id b o e U λv U'=>rt ty v λa=>J a r U'
inductive XL where
 | nil
 | op (dst:Option Nat) (ty:Cc) (looks:List Nat) (o:Ek) (rest:XL)
 | ol (dst:Nat) (looks:List Nat) (el:TypeId) (z:List V) (rest:XL)
 | grp (t:Nat) (b:Bool) (l:XL) (dst:Nat) (looks:List Nat) (c x y:AO) (rest:XL)
 deriving Inhabited
def XL.size:XL->Nat
 | .nil=>0
 | .op _ _ _ _ r=>r.size+1
 | .ol _ _ _ _ r=>r.size+1
 | .grp _ _ l _ _ _ _ _ r=>l.size+(r.size+1)
def XL.pm(g:Option (Nat × Bool)):XL->List BO
 | .nil=>[]
 | .op d _ _ o r=>⟨d,o,g⟩::r.pm g
 | .ol d _ a z r=>⟨some d,.alloc a z,g⟩::r.pm g
 | .grp t b l d _ c x y r=>l.pm (some (t,b))++⟨some d,.pick c x y,g⟩::r.pm g
def XL.lks:XL->List (List Nat)
 | .nil=>[]
 | .op _ _ k _ r=>k::r.lks
 | .ol _ k _ _ r=>k::r.lks
 | .grp _ _ l _ k _ _ _ r=>l.lks++k::r.lks
def XL.ce:XL->List Nat
 | .nil=>[]
 | .op d _ _ _ r=>(match d with | some d=>d::r.ce | none=>r.ce)
 | .ol d _ _ _ r=>d::r.ce
 | .grp _ _ l d _ _ _ _ r=>l.ce++d::r.ce
def Bo{α:Type}(a:List Nat):List (Nat × α)->List (Nat × α)
 | []=>[]
 | (k,v)::l=>match Br a k with
  | true=>Bo a l
  | false=>(k,v)::Bo a l
def CO{α:Type}(d:Option Nat)(l:List (Nat × α)):List (Nat × α):=match d with
 | none=>l
 | some d=>Bo [d] l
def Io(m:Nat):Qs->List Nat
 | []=>[]
 | (t,p)::l=>match Ar p.1 m with
  | true=>t::Io m l
  | false=>Io m l
def J6(m:Nat)(q:Qs):Qs:=Bo (Io m q) q
def Lw:List Nat->Qs->Qs
 | [],_=>[]
 | t::l,q=>match look q t with
  | some p=>(t,p)::Lw l q
  | none=>Lw l q
def Ee(dr:Bool)(a:List Nat)(e:CF):CF:=match dr with
 | true=>restr a e
 | false=>e
def LN(dr:Bool)(a:List Nat)(q:Qs):Qs:=match dr with
 | true=>Lw a q
 | false=>q
def Rz(q:Qs)(d:Option Nat)(p:Nat × Nat):Qs:=match d with
 | some d=>(d,p)::q
 | none=>q
def JG (E:EB) (D:Ac) (dr a:Bool) (j:Nat) (l:XL):Nat->CF->Qs->Rg->H->(CF->Qs->Rg->H->AE)->AE:=
 XL.rec (motive:=λ_=>Bool->Nat->CF->Qs->Rg->H->(CF->Qs->Rg->H->AE)->AE)
  (λ_ _ e q r U J=>J e q r U)
  (fun d ty f o _ g a i e q r U J=>
   xh E D a U.j (U.j+1) o ty (Ee dr f e) (LN dr f q) r U
    (λv n U'=>g a (i+1) (DY e d v) (CO d q) n U' J)
    (λm off=>g a (i+1) (CO d e) (Rz (CO d q) d (m,off)) r U J))
  (λd _ _ z _ g a i e q r U J=>match a with
   | true=>g true (i+1) (Bo [d] e) ((d,(d,0))::J6 d (Bo [d] q)) ((d,z)::Bo [d] r) U J
   | false=>none)
  (fun t b l d f _ x y _ h g a i e q r U J=>
   Cg (Ee dr [t] e) (.tmp t) λc=>DB c λcb=>
    Ax (λv U'=>g a (i+l.size+1) ((d,.bool v)::Bo (d::l.ce) e) (Bo (d::l.ce) q) r U' J) λk=>
     match b with
     | true=>AK cb
       (h false i e q r U λe' _ _ U'=>Cg (Ee dr f e') x λv=>DB v λv=>k v U')
       (Cg (Ee dr f e) y λv=>DB v λv=>k v U)
     | false=>AK cb
       (Cg (Ee dr f e) x λv=>DB v λv=>k v U)
       (h false i e q r U λe' _ _ U'=>Cg (Ee dr f e') y λv=>DB v λv=>k v U'))
  l a
section
variable {E:EB}{D:Ac}{dr:Bool}{n0 i:Nat}{e:CF}{q:Qs}{r:Rg}{U:H}{J:CF->Qs->Rg->H->AE}
theorem zk{b} d ty c o a:JG E D dr b n0 (.op d ty c o a) i e q r U J=xh E D b U.j (U.j+1) o ty (Ee dr c e) (LN dr c q) r U
      (λv f U'=>JG E D dr b n0 a (i+1) (DY e d v) (CO d q) f U' J)
      (λm off=>JG E D dr b n0 a (i+1) (CO d e) (Rz (CO d q) d (m,off)) r U J):=rfl
theorem qf d c b z a:JG E D dr true n0 (.ol d c b z a) i e q r U J=JG E D dr true n0 a (i+1) (Bo [d] e) ((d,(d,0))::J6 d (Bo [d] q)) ((d,z)::Bo [d] r) U J:=rfl
theorem lq d c b z a:JG E D dr false n0 (.ol d c b z a) i e q r U J=none:=rfl
theorem qg {g} t b (l:XL) d f c x y a:JG E D dr g n0 (.grp t b l d f c x y a) i e q r U J =
      Cg (Ee dr [t] e) (.tmp t) λc=>DB c λcb=>
        Ax (fun v U'=>JG E D dr g n0 a (i+l.size+1) ((d,.bool v)::Bo (d::l.ce) e) (Bo (d::l.ce) q) r U' J) fun k=>
          match b with
          | true=>AK cb
              (JG E D dr false n0 l i e q r U λe' _ _ U'=>Cg (Ee dr f e') x λv=>DB v λv=>k v U')
              (Cg (Ee dr f e) y λv=>DB v λv=>k v U)
          | false=>AK cb
              (Cg (Ee dr f e) x λv=>DB v λv=>k v U)
              (JG E D dr false n0 l i e q r U λe' _ _ U'=>Cg (Ee dr f e') y λv=>DB v λv=>k v U'):=rfl
end
structure St where
 e:CF
 q:Qs
 r:Rg
 U:H
inductive XC where
 | skip
 | Y (l:XL)
 | us (l:XL) (ancs:List Nat)
 | wl (ops:List BO) (plan:List DP) (ts:List (Nat × Cc))
 | seq (a b:XC)
 | cond (c:AO) (a b:XC)
 | block (id:Nat) (c:XC)
 | loop (ts:List (Nat × Cc)) (ms:List Nat) (rs:List (Nat × List Cc)) (c:XC)
 | exit (id:Nat)
 | ret
 | Q (ts:List (Nat × Cc)) (ms:List Nat) (rs:List (Nat × List Cc)) (c:XC)
 | pu
 deriving Inhabited
def XU(e:CF):List (Nat × Cc)->(CF->AE)->AE
 | [],J=>J []
 | (t,ty)::l,J=>Bj e t λv=>rt ty v λa=>XU e l λe'=>J ((t,a)::e')
def QP(b a:List Nat)(q:Qs):Qs:=match b with
 | []=>[]
 | t::l=>match look q t with
  | some p=>(match Br a p.1 with
   | true=>(t,p)::QP l a q
   | false=>QP l a q)
  | none=>QP l a q
def gV(e:CF):List (Nat × Cc)->(CF->AE)->AE
 | [],J=>J []
 | (t,ty)::l,J=>Cg e (.tmp t) λv=>rt ty v λa=>gV e l λe'=>J ((t,a)::e')
def gT(r:Rg):List (Nat × List Cc)->(Rg->AE)->AE
 | [],J=>J []
 | (m,b)::l,J=>match look r m with
  | some c=>rts b c λa=>gT r l λd=>J ((m,a)::d)
  | none=>none
def BM(f:(St->AE)->St->AE)(N:Nat):St->AE:=Nat.rec (λ_=>none) (λ_ a=>f a) N
def XL.makes:XL->Bool
 | .nil=>false
 | .op _ _ _ o r=>(match o.d8 with | .a=>true | _=>r.makes)
 | .ol _ _ _ _ r=>r.makes
 | .grp _ _ l _ _ _ _ _ r=>l.makes || r.makes
def XL.pals:XL->List Nat
 | .nil=>[]
 | .op _ _ _ _ r=>r.pals
 | .ol d _ _ _ r=>d::r.pals
 | .grp _ _ l _ _ _ _ _ r=>l.pals++r.pals
def P7(q:Qs):List Nat->Bool
 | []=>true
 | d::l=>(Io d q).isEmpty&&P7 q l
def KM(d:List (Nat × Cc))(b:List Nat)(a:List (Nat × List Cc))(s:St)(J:St->AE):AE:=
 gV s.e d λe'=>gT s.r a λc=>J ⟨e',QP b (a.map Prod.fst) s.q,c,s.U⟩
def BR(id:Nat)(c:St->AE)(b:Nat->St->AE):Nat->St->AE:=λj a=>match Ar j id with
 | true=>c a
 | false=>b j a
def qd(q:Qs)(b:List Nat)(a:AE):AE:=match P7 q b with
 | true=>a
 | false=>none
def CM(x:Option (CF × H))(J:CF->H->AE):AE:=match x with
 | some (e,U)=>J e U
 | none=>none
def Au(E:EB)(D:Ac)(W:AF)(N:Nat)(c:XC):St->(St->AE)->(Nat->St->AE)->(St->AE)->AE:=
 XC.rec (motive:=λ_=>St->(St->AE)->(Nat->St->AE)->(St->AE)->AE)
  (λs a _ _=>a s)
  (λl s a _ _=>JG E D false true 0 l 0 s.e s.q s.r s.U λe q r U=>a ⟨e,q,r,U⟩)
  (λl _ s a _ _=>qd s.q l.pals (JG E D true true 0 l 0 s.e s.q s.r s.U λe q r U=>a ⟨e,q,r,U⟩))
  (λops pl h s a _ _=>CM (W ops pl s.e s.U) λe' U'=>XU e' h λo=>a ⟨o,[],[],U'⟩)
  (λ_ _ f g s a d b=>f s (λn=>g n a d b) d b)
  (λc _ _ f g s a d b=>Cg s.e c λv=>DB v λcb=>AK cb (f s a d b) (g s a d b))
  (λid _ i s a d b=>i s a (BR id a d) b)
  (λh j k _ i s _ d b=>KM h j k s λm=>BM (λp n=>i n (λt=>KM h j k t p) d b) N m)
  (λid s _ d _=>d id s)
  (λs _ _ b=>b s)
  (λh j k _ i s a d b=>KM h j k s λm=>i m a d b)
  (λ_ _ _ _=>none)
  c
section
variable {E:EB}{D:Ac}{W:AF}{N:Nat}{s:St}{kn:St->AE}{kx:Nat->St->AE}{kr:St->AE}
theorem qj l:Au E D W N (.Y l) s kn kx kr=JG E D false true 0 l 0 s.e s.q s.r s.U λe q r U=>kn ⟨e,q,r,U⟩:=rfl
theorem mA(l:XL) a:Au E D W N (.us l a) s kn kx kr=qd s.q l.pals (JG E D true true 0 l 0 s.e s.q s.r s.U λe q r U=>kn ⟨e,q,r,U⟩):=rfl
theorem Zk ops pl b:Au E D W N (.wl ops pl b) s kn kx kr=CM (W ops pl s.e s.U) λe' U'=>XU e' b λa=>kn ⟨a,[],[],U'⟩:=rfl
theorem qh a b:Au E D W N (.seq a b) s kn kx kr=Au E D W N a s (λe=>Au E D W N b e kn kx kr) kx kr:=rfl
theorem mB c a b:Au E D W N (.cond c a b) s kn kx kr=Cg s.e c λv=>DB v λcb=>AK cb (Au E D W N a s kn kx kr) (Au E D W N b s kn kx kr):=rfl
theorem Zl id c:Au E D W N (.block id c) s kn kx kr=Au E D W N c s kn (BR id kn kx) kr:=rfl
theorem lu d b a c:Au E D W N (.loop d b a c) s kn kx kr=KM d b a s λi=>BM (λe g=>Au E D W N c g (λf=>KM d b a f e) kx kr) N i:=rfl
theorem lz b d a c:Au E D W N (.Q b d a c) s kn kx kr=KM b d a s λg=>Au E D W N c g kn kx kr:=rfl
end
structure DD where
 ntmps:Nat
 params:List Cc
 results:List AR
 body:XC
 deriving Inhabited
def Dc(E:EB)(s:St):List AR->(List V->AE)->AE
 | [],J=>J []
 | .tmp t::l,J=>Cg s.e (.tmp t) λv=>Dc E s l λr=>J (v::r)
 | .cell t n::l,J=>match look s.q t with
  | some (m,off)=>match look s.r m with
   | some a=>match n with
    | none=>KG a off λv=>Dc E s l λr=>J (v::r)
    | some n=>FD a off n λl'=>Dc E s l λr=>J (.agg l'::r)
   | none=>none
  | none=>Cg s.e (.tmp t) λp=>BL p λb o=>match n with
   | none=>DF E s.U b o λv=>Dc E s l λr=>J (v::r)
   | some n=>Bv E s.U b o n λv=>Dc E s l λr=>J (.agg v::r)
def BZ(E:EB)(D:Ac)(W:AF)(N:Nat)(f:DD)(args:List V)(U:H):AE:=
 rts f.params args λa=>Au E D W N f.body ⟨O8 0 a,[],[],U⟩ (λs=>Dc E s f.results λl=>some (Dq l,s.U)) (λ_ _=>none) (λs=>Dc E s f.results λl=>some (Dq l,s.U))
def XC.i4:XC->AC
 | .skip => .skip
 | .Y l => .region (l.pm none)
 | .us l d => .us (l.pm none) (List.zipWith DP.mk d l.lks)
 | .wl l pl _ => .us l pl
 | .seq a b => .seq a.i4 b.i4
 | .cond c a b => .cond c a.i4 b.i4
 | .block id c => .block id c.i4
 | .loop _ _ _ c => .loop c.i4
 | .exit id => .exit id
 | .ret => .ret
 | .Q _ _ _ c=>c.i4
 | .pu => .pu
def DD.i4(f:DD):nN:=⟨f.ntmps,f.results,[],f.body.i4⟩
def Cc.known:Cc->Bool
 | .any=>false
 | _=>true
def okD(d:Option Nat)(ty:Cc)(o:Ek):Bool:=match d,o with
 | none,_=>true
 | some _,.store _ _ _=>false
 | some _,o=>(match o.d8 with
  | .k=>ty.known
  | _=>true)
def yZ(a:Option Nat)(b:List Nat):Bool:=match a with
 | none=>true
 | some t=>Br b t
def pY(t:Nat)(b:Bool)(a:List Nat)(c x y:AO):Bool:=
 (match c with
  | .tmp u=>Ar u t
  | .T _=>false) &&
 (match (match b with | true=>y | false=>x)with
  | .tmp u=>!Br a u
  | .T _=>true)
def XL.okG:XL->Option (List Nat)->Option Nat->Bool
 | .nil,_,_=>true
 | .op d ty g o r,e,a=>okD d ty o&&yZ a g&&(match e,d with
  | some l,some d=>r.okG (some (d::l)) a
  | _,_=>r.okG e a)
 | .ol _ g _ _ r,e,a=>yZ a g&&(match e with
  | some _=>false
  | none=>r.okG none a)
 | .grp t b l d g c x y r,e,a=>yZ a g&&Br g t && !Br l.ce t&&pY t b l.ce c x y&&(match e with
  | some f=>Br f t
  | none=>true)&&l.okG (some []) (some t)&&(match e with
  | some f=>r.okG (some (d::l.ce++f)) a
  | none=>r.okG none a)
def qc(l:List BO)(a:List Nat):Bool:=
 Zx l.length λk=>match l[k]? with
  | some b=>(match b.op.d8 with
   | .k=>Zx l.length λj=>match l[j]? with
    | some c=>(match c.op.d8 with
     | .l=>(a.getD j 0).testBit k || (a.getD k 0).testBit j
     | .a=>!B9 j k || (a.getD k 0).testBit j
     | _=>true)
    | none=>false
   | _=>true)
  | none=>false
def XM:List BO->Bool
 | []=>true
 | o::l=>(match o.op with
  | .pu=>false
  | _=>true)&&XM l
def XC.ok:XC->Bool
 | .skip=>true
 | .Y l=>l.okG none none
 | .us l d=>l.okG none none&&qc (l.pm none) d&&Ar d.length l.lks.length && !l.makes&&XM (l.pm none)
 | .wl _ _ _=>true
 | .seq a b=>a.ok&&b.ok
 | .cond _ a b=>a.ok&&b.ok
 | .block _ c=>c.ok
 | .loop _ _ _ c=>c.ok
 | .exit _=>true
 | .ret=>true
 | .Q _ _ _ c=>c.ok
 | .pu=>true
end
def AO.t(i:Nat):AO := .tmp i
def AO.i(n:Nat):AO := .T (.int .i64 (AA n))
def Cc.i:Cc := .int .i64
def XL.m(d s:Nat)(k:XL):XL := .op (some d) .any [s] (.L (.tmp s)) k
def XL.p(d:Nat)(a:List Nat)(o:Ek)(k:XL):XL := .op (some d) .any a o k
def AO.ts:List AO->List Nat
 | []=>[]
 | .tmp i::l=>i::AO.ts l
 | .T _::l=>AO.ts l
def XL.f(d k s:Nat)(r:XL):XL := .op (some d) .any [s] (.C k (.tmp s)) r
def XL.n(d s:Nat)(r:XL):XL := .op (some d) .any [s] (.rg (.tmp s)) r
def XL.u(d s:Nat)(r:XL):XL := .op (some d) .any [s] (.len false (.tmp s)) r
def XL.s(d e x i:Nat)(r:XL):XL := .op (some d) .any [x,i] (.qr e (.tmp x) (.tmp i)) r
def XL.b(d:Nat)(o:BinOp)(t:Gf)(x y:AO)(r:XL):XL := .op (some d) .any (AO.ts [x,y]) (.pp o t x y) r
def XL.q(d n:Nat)(r:XL):XL := .op (some d) .any [] (.L (.T (.int .i64 (AA n)))) r
def XL.c(d:Nat)(v:V)(r:XL):XL := .op (some d) .any [] (.L (.T v)) r
def XL.l(d:Nat)(t:Cc)(s:Nat)(r:XL):XL := .op (some d) t [s] (.load none (.tmp s)) r
def XL.k(d:Nat)(t:Cc)(f:FuncId)(l:List AO)(r:XL):XL := .op (some d) t (AO.ts l) (.call f l) r
def XL.w(n x v:Nat)(r:XL):XL := .op none .any [x,v] (.store n (.tmp x) (.tmp v)) r
def Ek.ts:Ek->List Nat
 | .L x | .box _ x | .load _ x | .rg x | .un _ x | .i7 _ x | .mkifc _ x | .C _ x | .field _ _ x | .extract _ x | .len _ x | .cap x=>AO.ts [x]
 | .pp _ _ x y | .qr _ x y | .iaddrA _ _ x y | .idxStr x y | .idxArr _ _ _ x y | .append _ _ _ x y | .mkslice _ _ _ _ x y=>AO.ts [x,y]
 | .call _ l=>AO.ts l
 | .callv f l=>AO.ts (f::l)
 | _=>[]
def XL.P(d:Nat)(o:Ek)(r:XL):XL := .op (some d) .any o.ts o r
def XL.O(d:Nat)(t:Cc)(o:Ek)(r:XL):XL := .op (some d) t o.ts o r
def XL.gA(t:Nat)(b:Bool)(l:XL)(d c x:Nat)(r:XL):XL := .grp t b l d [c,x] (.tmp c) (.tmp x) (.T (.bool false)) r
def XL.gO(t:Nat)(b:Bool)(l:XL)(d c x:Nat)(r:XL):XL := .grp t b l d [c,x] (.tmp c) (.T (.bool true)) (.tmp x) r
def XC.z(a:XL)(b:XC):XC := .seq (.Y a) b
def Ht(l:List V)(U:H)(J:H->AE):AE:=JI (BH l) (J (Cb U (.cells l)))
def D3(k:IntKind)(l:List V)(J:Int->List V->AE):AE:=Ab l λv m=>DZ k v λn=>J n m
def OG(l:List V)(J:Bool->List V->AE):AE:=Ab l λv m=>DB v λb=>J b m
def Ti(l:List V)(J:BS->List V->AE):AE:=Ab l λv m=>HY v λs=>J s m
end Go.Og
namespace Go.Og
theorem Aj{α}(p:Nat × α) l id:BX (p::l) id=if p.1=id then some p.2 else BX l id:=by
 show (Bool.rec (motive:=λ_=>Option α) (BX l id) (some p.2) (Ar p.1 id))=_;by_cases h:p.1=id
 ·have d:Ar p.1 id=true:=by rw[AW];exact h
  rw[if_pos h,d]
 ·rw[if_neg h]
  have:=EP.2 (by rw[ne_eq,AW];exact h);rw[this]
theorem BG{α}(l:List (Nat × α)) id:BX l id=look l id:=by
 induction l with
 | nil=>rfl | cons p l d=>
  rw[Aj,d];simp only[look,AW]
theorem Zj{α}(p:Nat × α) l id:Xk (p::l) id=if p.1=id then l else p::Xk l id:=by
 show (Bool.rec (motive:=λ_=>List (Nat × α)) (p::Xk l id) l (Ar p.1 id))=_;by_cases h:p.1=id
 ·have d:Ar p.1 id=true:=by rw[AW];exact h
  rw[if_pos h,d]
 ·rw[if_neg h]
  have:=EP.2 (by rw[ne_eq,AW];exact h);rw[this]
theorem ZW{α}(l:List (Nat × α)) id k (h:id≠k):look (Xk l id) k=look l k:=by
 induction l with
 | nil=>rfl | cons p l n=>
  have ⟨m,b⟩:=p;rw[Zj];by_cases i:m=id
  ·rw[if_pos i];simp only[look,AW];rw[if_neg (by omega)]
  ·rw[if_neg i];simp only[look,n]
theorem Mg l n:yx l n=l[n]? := by
 induction l generalizing n with
 | nil=>rfl | cons a l h=>
  cases n with
  | zero=>rfl | succ n=>exact h n
theorem Sm l id J:UI l id J=J (drop l id):=by
 induction l generalizing J with
 | nil=>rfl | cons p l h=>
  have ⟨k,b⟩:=p;show UI l id (λl'=>Bool.rec (J ((k,b)::l')) (J l') (Ar k id))=_;rw[h];simp only[drop];cases f:Ar k id<;>simp[f]
theorem EK{c a r}(h:JI c a=some r):c=true/\a=some r:=by
 cases c with
 | true=>exact⟨rfl,h⟩ | false=>cases h
theorem Eg a b:AK true a b=a:=rfl
theorem DU a b:AK false a b=b:=rfl
theorem LF{x J r}(h:gK x J=some r):∃v,x=some v/\J v=some r:=by
 cases x with
 | none=>cases h | some v=>exact⟨v,rfl,h⟩
theorem IH{x J r}(h:CD x J=some r):∃v U,x=some (v,U)/\J v U=some r:=by
 cases x with
 | none=>cases h | some p=>exact⟨p.1,p.2,rfl,h⟩
theorem Tj{k:IntKind}{n}(h:inK k n=true):k.wrap n=n:=by
 unfold IntKind.wrap;cases n with
 | ofNat m=>
  simp only[inK,Bn]at h;cases k<;>simp only[J1]at h<;>simp only[IntKind.signed,IntKind.bits,]<;>simp<;>omega
 | negSucc m=>
  simp only[inK,Co]at h;cases k<;>simp only[ALl]at h<;>(first | omega | skip)<;>simp only[IntKind.signed,IntKind.bits,Int.negSucc_eq]<;>simp<;>omega
theorem EJ(k:IntKind) n:An k n=k.wrap n:=by
 unfold An;cases h:inK k n with
 | true=>exact(Tj h).symm | false=>rfl
theorem qA a b:C5 a b=decide (a<b):=by
 cases a<;>cases b<;>simp only[C5]<;>(rw[xd];simp[Co])<;>omega
theorem ZY a b:HL a b=decide (a<=b):=by
 cases a<;>cases b<;>simp only[HL]<;>(rw[xd];simp[Bn])<;>omega
theorem AAE(k:IntKind) a b:BQ k a b=k.wrap (a+b):=EJ k _
theorem yW(k:IntKind) a b:Dj k a b=k.wrap (a-b):=EJ k _
theorem zD(k:IntKind) a b:O3 k a b=k.wrap (a*b):=EJ k _
theorem fh(k:IntKind)(a b:Int):NQ k a b=k.wrap (a.tdiv b):=EJ k _
theorem yz(k:IntKind) a:pt k a=k.wrap (0-a):=EJ k _
theorem fU(k:IntKind) a n:ZG k a n=k.wrap (a*2 ^ (Ga n k.bits)):=by
 unfold ZG;rw[EJ];have h:(AA (Nat.pow 2 (Ga n k.bits)))=2 ^ (Ga n k.bits):=by
  show ((2 ^ (Ga n k.bits):Nat):Int)=_;rw[xZ];rfl
 rw[h];rfl
theorem fT(k:IntKind)(a:Int) n:J0 k a n=a.fdiv (2 ^ (Ga n k.bits)):=by
 cases a with
 | ofNat m=>
  have h:2 ^ (Ga n k.bits)=((2 ^ (Ga n k.bits):Nat):Int):=by rw[xZ];rfl
  rw[h];show ((m / 2 ^ (Ga n k.bits):Nat):Int)=Int.fdiv (m:Int) _;rw[AJE _ (Int.natCast_nonneg _),Int.natCast_ediv]
 | negSucc m=>rfl
theorem QE(k:IntKind):∃p,J1 k+1=2 ^ p/\p<=k.bits:=by
 cases k
 ·exact⟨7,rfl,by decide⟩
 ·exact⟨15,rfl,by decide⟩
 ·exact⟨31,rfl,by decide⟩
 ·exact⟨63,rfl,by decide⟩
 ·exact⟨8,rfl,by decide⟩
 ·exact⟨16,rfl,by decide⟩
 ·exact⟨32,rfl,by decide⟩
 ·exact⟨64,rfl,by decide⟩
theorem JK{k:IntKind}{m}(h:m<=J1 k):(BY k.bits (AA m)).toNat=m:=by
 have ⟨p,d,c⟩:=QE k;have h1:m<2 ^ k.bits:=Eh (by omega) (Nat.pow_le_pow_right (by decide) c);have:BY k.bits (AA m)=BitVec.ofNat k.bits m:=by
  show BY k.bits (m:Int)=_;rw[BitVec.ofInt_natCast]
 rw[this,BitVec.toNat_ofNat,Dn h1]
theorem Pr{k a b f g}(h:∀m n,a = .ofNat m->b = .ofNat n->m<=J1 k->n<=J1 k->g = .ofNat (f m n)):Ps k a b f g=g:=by
 unfold Ps;split
 ·rename_i m n
  cases l:(Am m (J1 k)&&Am n (J1 k))with
  | true=>
   simp at l;exact(h m n rfl rfl l.1 l.2).symm
  | false=>rfl
 ·rfl
theorem Pd{k:IntKind}{m}(h:m<=J1 k):k.wrap m = .ofNat m:=Tj (by simpa[inK]using h)
theorem UP(k:IntKind) a b:MD k a b=k.wrap (BY k.bits a &&& BY k.bits b).toNat:=by
 refine Pr λm n h i f g=>?_;subst h i;rw[BitVec.toNat_and,JK f,JK g];exact Pd (BE Nat.and_le_left f)
theorem pf(k:IntKind) a b:orF k a b=k.wrap (BY k.bits a ||| BY k.bits b).toNat:=by
 refine Pr λm n g i h f=>?_;subst g i;have ⟨p,l,_⟩:=QE k;rw[BitVec.toNat_or,JK h,JK f];refine Pd ?_;have:=Nat.or_lt_two_pow (x:=m) (y:=n) (n:=p) (by omega) (by omega);omega
theorem xu(k:IntKind) a b:AJu k a b=k.wrap (BY k.bits a ^^^ BY k.bits b).toNat:=by
 refine Pr λm n g i h f=>?_;subst g i;have ⟨p,l,_⟩:=QE k;rw[BitVec.toNat_xor,JK h,JK f];refine Pd ?_;have:=Nat.xor_lt_two_pow (x:=m) (y:=n) (n:=p) (by omega) (by omega);omega
theorem Fo{b:Int}{J r}(h:T7 b J=some r):0<=b/\J b.toNat=some r:=by
 cases b with
 | ofNat n=>exact⟨Int.natCast_nonneg n,h⟩ | negSucc n=>cases h
theorem pq{b a r}(h:nzK b a=some r):b≠0/\a=some r:=by
 unfold nzK at h;split at h
 ·cases h
 ·rename_i j;exact⟨λi=>j (by rw[i];rfl),h⟩
theorem lM {q t k s a b J r} (h:AFC q k s a b J=some r):∃v,HR q t (.int k a) (.int s b)=some v/\J v=some r:=by
  cases q
  case shl=>
    have ⟨h1,n⟩:=Fo h;refine⟨_,?_,n⟩;simp only[HR,Pu];rw[if_neg (by omega),fU];rfl
  case shr=>
    have ⟨h1,n⟩:=Fo h;refine⟨_,?_,n⟩;simp only[HR,Pu];rw[if_neg (by omega),fT];rfl
  all_goals
    simp only[AFC]at h;split at h
    · rename_i x
      simp only[HR];rw[if_pos x];first
        | (refine⟨_,?_,h⟩;simp only[AAE,yW,zD,UP,pf,xu,gx,NX,qA,ZY];rfl)
        | (have ⟨h1,n⟩:=pq h
           refine⟨_,?_,n⟩;simp only[rU];rw[if_neg h1];first | rfl | (rw[fh];rfl))
    · cases h
theorem mK{a b:BS}{J r}(h:DI a b J=some r):Am (AM a.len b.len) 1000000000000=true/\J (a.cat b)=some r:=by
 unfold DI at h;split at h
 ·rename_i i;exact⟨i,h⟩
 ·cases h
theorem kZ{g t a b J r}(h:AKt g a b J=some r):∃v,HR g t (.N a) (.N b)=some v/\J v=some r:=by
 cases g
 case add=>
  have m:DI a b (λs=>J (.N s))=some r:=h;have ⟨h1,n⟩:=mK m;exact⟨_,by simp only[HR,pB,h1],n⟩
 all_goals first
  | exact⟨_,rfl,h⟩ | cases h
theorem Xg{t x y J r}(h:Zh t x y J=some r):∃b,KQ t x y=some b/\J b=some r:=by
 unfold Zh at h;split at h
 ·exact⟨_,‹_›,h⟩
 ·cases h
theorem Oa{t x y b}(h:KQ t x y=some b):(∀k n g m,x = .int k n->y = .int g m->False)/\(∀l m,x = .N l->y = .N m->False):=by
 constructor
 ·rintro k n g m rfl rfl;cases t<;>(first|cases h|(rename_i b;cases b<;>cases h))
 ·rintro l m rfl rfl;cases t<;>(first|cases h|(rename_i b;cases b<;>cases h))
theorem mL{k t x y J r}(h:AFa k t x y J=some r):∃v,HR k t x y=some v/\J v=some r:=by
 have c:∀t,eqX k t x y J=some r->∃v,HR k t x y=some v/\J v=some r:=by
  intro t h;unfold eqX at h;split at h
  ·have ⟨b,h1,s⟩:=Xg h
   have ⟨q,p⟩:=Oa h1;refine⟨_,?_,s⟩;unfold HR;split
   ·exact(q _ _ _ _ rfl rfl).elim
   ·exact(p _ _ rfl rfl).elim
   ·simp only[h1];rfl
  ·have ⟨b,h1,s⟩:=Xg h
   have ⟨q,p⟩:=Oa h1;refine⟨_,?_,s⟩;unfold HR;split
   ·exact(q _ _ _ _ rfl rfl).elim
   ·exact(p _ _ rfl rfl).elim
   ·simp only[h1];rfl
  ·cases h
 cases t with
 | none=>
  simp only[AFa]at h;split at h
  ·exact lM h
  ·exact kZ h
  ·cases h
 | bool=>exact c _ h | o=>exact c _ h | slice=>exact c _ h | map=>exact c _ h | func=>exact c _ h | iface b=>exact c _ h | pm l=>exact c _ h
theorem oN{e x J r}(h:unX e x J=some r):∃v,unV e x=some v/\J v=some r:=by
 unfold unX at h;split at h
 ·exact⟨_,by simp only[unV,yz],h⟩
 ·exact⟨_,rfl,h⟩
 ·exact⟨_,rfl,h⟩
 ·cases h
theorem Px{k v J r}(h:DZ k v J=some r):∃n,v = .int k n/\J n=some r:=by
 unfold DZ at h;split at h
 ·split at h
  ·rename_i g;subst g;exact⟨_,rfl,h⟩
  ·cases h
 ·cases h
theorem GF{v J r}(h:DB v J=some r):∃b,v = .bool b/\J b=some r:=by
 unfold DB at h;split at h
 ·exact⟨_,rfl,h⟩
 ·cases h
theorem Fw{v J r}(h:HY v J=some r):∃s,v = .N s/\J s=some r:=by
 unfold HY at h;split at h
 ·exact⟨_,rfl,h⟩
 ·cases h
theorem Ef{v J r}(h:BL v J=some r):∃b o,v = .o b o/\J b o=some r:=by
 unfold BL at h;split at h
 ·exact⟨_,_,rfl,h⟩
 ·cases h
theorem Fx{v J r}(h:Cp v J=some r):∃l,v = .agg l/\J l=some r:=by
 unfold Cp at h;split at h
 ·exact⟨_,rfl,h⟩
 ·cases h
theorem Lt{v J r}(h:H3 v J=some r):∃l,v = .B l/\J l=some r:=by
 unfold H3 at h;split at h
 ·exact⟨_,rfl,h⟩
 ·cases h
theorem W8{l J r}(h:Ab l J=some r):∃v m,l=v::m/\J v m=some r:=by
 unfold Ab at h;split at h
 ·exact⟨_,_,rfl,h⟩
 ·cases h
theorem ZI{l a r}(h:Ay l a=some r):l=[]/\a=some r:=by
 unfold Ay at h;split at h
 ·exact⟨rfl,h⟩
 ·cases h
theorem Lu{v:V}{a r}(h:CI v a=some r):v.S=true/\a=some r:=by
 unfold CI at h;split at h
 ·exact⟨‹_›,h⟩
 ·cases h
mutual
theorem He:∀(ty:Cc) (v:V) (J:V->AE) (r:V × H),rt ty v J=some r->J v=some r
 | .any,v,J,r,h=>by simpa only [rt]using h
 | .int k,v,J,r,h=>by simp only[rt]at h;obtain⟨n,rfl,h2⟩:=Px h;exact h2
 | .bool,v,J,r,h=>by simp only[rt]at h;obtain⟨n,rfl,h2⟩:=GF h;exact h2
 | .N,v,J,r,h=>by simp only[rt]at h;obtain⟨n,rfl,h2⟩:=Fw h;exact h2
 | .o,v,J,r,h=>by simp only[rt]at h;obtain⟨b,o,rfl,h2⟩:=Ef h;exact h2
 | .S,v,J,r,h=>by simp only[rt]at h;exact(Lu h).2
 | .agg ts,v,J,r,h=>by simp only[rt]at h;obtain⟨l,rfl,h2⟩:=Fx h;exact KB ts l _ r h2
 | .B ts,v,J,r,h=>by simp only[rt]at h;obtain⟨l,rfl,h2⟩:=Lt h;exact KB ts l _ r h2
theorem KB:∀(ts:List Cc) (l:List V) (J:List V->AE) (r:V × H),rts ts l J=some r->J l=some r
 | [],l,J,r,h=>by simp only[rts]at h;obtain⟨rfl,h2⟩:=ZI h;exact h2
 | t::ts,l,J,r,h=>by
  simp only[rts]at h
  obtain⟨v,m,rfl,h⟩:=W8 h
  have:=He t v _ r h
  exact KB ts m _ r this
end
def Fj(e:CF):Prop:=∀t v,look e t=some v->v.J=true
theorem Ah{e x J r}(h:Cg e x J=some r):∃v,Ca e x=v/\(Fj e->v.J=true)/\J v=some r:=by
 unfold Cg at h;split at h
 ·rename_i v
  split at h
  ·exact⟨v,rfl,λ_=>‹_›,h⟩
  ·cases h
 ·rename_i t
  cases f:look e t with
  | none=>rw[f]at h;cases h | some v=>
   rw[f]at h;exact⟨v,by simp only[Ca,Gu,f],λl=>l t v f,h⟩
theorem Fy{e}:∀l J r,OX e l J=some r->(Fj e->(GM e l).all V.J=true)/\J (GM e l)=some r
 | [],J,r,h=>⟨λ_=>rfl,h⟩ | x::l,J,r,h=>by
  have ⟨v,j,i,h⟩:=Ah h;have ⟨h1,g⟩:=Fy l _ r h;subst j;exact⟨λd=>by simp only[GM,C7,kN,i d,];exact h1 d,g⟩
theorem FN{e x J r}(h:Mu e x J=some r):J (D6 e x)=some r:=by
 cases x with
 | none=>exact h | some x=>
  have ⟨v,d,_,h⟩:=Ah h;subst d;exact h
theorem KE{e}:∀l J r,Tw e l J=some r->J (KF e l)=some r
 | [],J,r,h=>h | (o,s,x)::l,J,r,h=>by
  have ⟨v,c,_,h⟩:=Ah h;have:=KE l _ r h;subst c;exact this
theorem Gp{l n J r}(h:KG l n J=some r):∃v,l[n]? = some v/\J v=some r:=by
 unfold KG at h;rw[Mg]at h;split at h
 ·exact⟨_,‹_›,h⟩
 ·cases h
theorem Gk{l:List V}{off n J r}(h:FD l off n J=some r):Am (off+n) l.length=true/\J ((l.drop off).take n)=some r:=by
 unfold FD at h;split at h
 ·exact⟨‹_›,h⟩
 ·cases h
theorem KC{E U b J r}(h:xg E U b J=some r):∃l,rd E U b=some l/\J l=some r:=by
 unfold xg at h;rw[BG]at h;unfold rd;split at h
 ·rename_i i;rw[i];exact⟨_,rfl,h⟩
 ·cases h
 ·rename_i i
  rw[BG]at h;rw[i];split at h
  ·rename_i j;rw[j];exact⟨_,rfl,h⟩
  ·cases h
theorem Oh{o d J r}(h:UO o d J=some r):∃n,GX o d=some n/\J n=some r:=by
 unfold UO at h;split at h
 ·exact⟨d,rfl,h⟩
 ·split at h
  ·have ⟨h1,i⟩:=Fo h
   exact⟨_,by simp only[GX,if_pos h1],i⟩
  ·cases h
theorem ZF{v J r}(h:Ao v J=some r):∃n,J n=some r/\∀e x,Ca e x=v->Bb (.len false x) e=some (.int .i64 n):=by
 unfold Ao at h;split at h
 ·exact⟨0,h,λe x d=>by simp only[Bb,d];rfl⟩
 ·exact⟨_,h,λe x d=>by simp only[Bb,d]⟩
 ·exact⟨0,h,λe x d=>by simp only[Bb,d];rfl⟩
 ·cases h
theorem SL{E U e v J r}(h:srcK E U e v J=some r):∃n l,C4 E U e v=some (n,l)/\J n l=some r:=by
 unfold srcK at h;split at h
 ·exact⟨_,_,rfl,h⟩
 ·exact⟨_,_,rfl,h⟩
 ·have ⟨l,h1,o⟩:=KC h
  have ⟨k,m⟩:=Gk o;exact⟨_,_,by simp only[C4,P0,h1,k,];rfl,m⟩
 ·split at h
  ·rename_i j
   rw[AW]at j;exact⟨_,_,by simp only[C4,if_pos j],h⟩
  ·cases h
 ·cases h
structure KZ(U2 U1:H):Prop where
 j:U2.j=U1.j
 sub:∀k b,look U2.F k=some b->look U1.F k=some b
theorem KZ.refl U:KZ U U:=⟨rfl,λ_ _ h=>h⟩
theorem Sh(U:H) b c k:look (Gl U b c).F k=if b=k then some c else look U.F k:=by
 simp only[Gl,look,AW];by_cases h:b=k
 ·rw[if_pos h,if_pos h]
 ·rw[if_neg h,if_neg h,ZW _ _ _ h]
theorem pJ{U:H}{b c d}(h:look U.F b=some d):KZ (Gl U b c) (U.set b c):=by
 refine⟨rfl,λk u f=>?_⟩;rw[Sh]at f;simp only[H.set,Hu];by_cases l:b=k
 ·subst l;rw[if_pos rfl]at f;rw[if_pos rfl,h];exact f
 ·rw[if_neg l]at f;rw[if_neg l];exact f
theorem pE{n b off}{v:V}{U J r}(h:DO n b off v U J=some r):
  ∃U1 j,J j=some r/\KZ j U1/\∀E e x y,Ca e x = .o b off->Ca e y=v->FE E (.store n x y) e U=some (.i5,U1):=by
 unfold DO at h;rw[BG]at h;split at h
 ·rename_i l m
  have ⟨s,h⟩:=EK h;refine⟨_,_,h,pJ m,λE e x y p t=>?_⟩;have f:(Ar v.cells.length n&&Am (off+n) l.length&&BH v.cells)=true:=s;simp only[FE,p,t,m];rw[if_pos f]
 ·cases h
theorem S1{E i bytes s x U J r}(h:Dx E i bytes s x U J=some r):
  ∃v U1,Eo E i bytes s x U=some (v,U1)/\J v U1=some r:=by
 have ⟨n,q,h1,h⟩:=SL h;split at h
 ·rename_i b len e
  split at h
  ·exact⟨_,_,by simp only[Eo,h1];rfl,h⟩
  ·rename_i y
   split at h
   ·rename_i l p
    rw[BG]at p;have ⟨w,h⟩:=EK h;rw[Sm]at h;refine⟨_,_,?_,h⟩;simp only[Eo,h1];rw[if_neg (by omega),p];simp only;rw[if_pos w];rfl
   ·cases h
 ·have ⟨v,U1,t,u⟩:=IH h
  exact⟨v,U1,t,u⟩
theorem QT{l z J r}(h:H9 l z J=some r):∃l',GK l z=some l'/\J l'=some r:=by
 unfold H9 at h;split at h
 ·exact⟨_,‹_›,h⟩
 ·cases h
theorem fH{E D id nx}{o:Ek}{e}{U:H}{J r}(h:Dg E D id nx o e U J=some r):
  (o.d8 = .p/\∃v,(Fj e->Bb o e=some v)/\J v U=some r)\/(o.d8 = .l/\∃v,(Fj e->Ct E o e U=some v)/\J v U=some r) \/
  (o.d8 = .a/\∃v b,(Fj e->C1 o e id=some (v,b))/\J v ⟨nx,(id,b)::U.F⟩=some r) \/
  (o.d8 = .k/\∃v U1 U2,(Fj e->ES E D o e U=some (v,U1))/\KZ U2 U1/\J v U2=some r):=by
 have P:∀{v},o.d8 = .p->(Fj e->Bb o e=some v)->J v U=some r->(o.d8 = .p/\∃v,(Fj e->Bb o e=some v)/\J v U=some r)\/(o.d8 = .l/\∃v,(Fj e->Ct E o e U=some v)/\J v U=some r) \/
  (o.d8 = .a/\∃v b,(Fj e->C1 o e id=some (v,b))/\J v ⟨nx,(id,b)::U.F⟩=some r) \/
  (o.d8 = .k/\∃v U1 U2,(Fj e->ES E D o e U=some (v,U1))/\KZ U2 U1/\J v U2=some r):=λh1 h2 h3 => .inl ⟨h1,_,h2,h3⟩
 have L:∀{v},o.d8 = .l->(Fj e->Ct E o e U=some v)->J v U=some r->(o.d8 = .p/\∃v,(Fj e->Bb o e=some v)/\J v U=some r)\/(o.d8 = .l/\∃v,(Fj e->Ct E o e U=some v)/\J v U=some r) \/
  (o.d8 = .a/\∃v b,(Fj e->C1 o e id=some (v,b))/\J v ⟨nx,(id,b)::U.F⟩=some r) \/
  (o.d8 = .k/\∃v U1 U2,(Fj e->ES E D o e U=some (v,U1))/\KZ U2 U1/\J v U2=some r):=λh1 h2 h3 => .inr (.inl ⟨h1,_,h2,h3⟩)
 have A:∀{v b},o.d8 = .a->(Fj e->C1 o e id=some (v,b))->J v ⟨nx,(id,b)::U.F⟩=some r->(o.d8 = .p/\∃v,(Fj e->Bb o e=some v)/\J v U=some r)\/(o.d8 = .l/\∃v,(Fj e->Ct E o e U=some v)/\J v U=some r) \/
  (o.d8 = .a/\∃v b,(Fj e->C1 o e id=some (v,b))/\J v ⟨nx,(id,b)::U.F⟩=some r) \/
  (o.d8 = .k/\∃v U1 U2,(Fj e->ES E D o e U=some (v,U1))/\KZ U2 U1/\J v U2=some r):=λh1 h2 h3 => .inr (.inr (.inl ⟨h1,_,_,h2,h3⟩))
 have K:∀{v U1 U2},o.d8 = .k->(Fj e->ES E D o e U=some (v,U1))->KZ U2 U1->J v U2=some r->(o.d8 = .p/\∃v,(Fj e->Bb o e=some v)/\J v U=some r)\/(o.d8 = .l/\∃v,(Fj e->Ct E o e U=some v)/\J v U=some r) \/
  (o.d8 = .a/\∃v b,(Fj e->C1 o e id=some (v,b))/\J v ⟨nx,(id,b)::U.F⟩=some r) \/
  (o.d8 = .k/\∃v U1 U2,(Fj e->ES E D o e U=some (v,U1))/\KZ U2 U1/\J v U2=some r):=λh1 h2 h3 h4 => .inr (.inr (.inr ⟨h1,_,_,_,h2,h3,h4⟩))
 cases o with
 | L x=>
  obtain⟨v,I,hl,h⟩:=Ah h;exact P rfl (λN=>by simp only[Bb,I,hl N,if_true]) h
 | pp op t x y=>
  obtain⟨v,I,hl,h⟩:=Ah h;obtain⟨u,O,_,h⟩:=Ah h;obtain⟨w,hw,h⟩:=mL h;exact P rfl (λN=>by simp only[Bb,I,O,hw]) h
 | un op x=>
  obtain⟨v,I,hl,h⟩:=Ah h;obtain⟨w,hw,h⟩:=oN h;exact P rfl (λN=>by simp only[Bb,I,hw]) h
 | i7 t x=>
  cases t with
  | jp k=>
   simp only[Dg]at h;obtain⟨v,I,hl,h⟩:=Ah h;split at h
   ·rw[EJ]at h;exact P rfl (λN=>by simp only[Bb,I]) h
   ·cases h
  | same=>
   simp only[Dg]at h;obtain⟨v,I,hl,h⟩:=Ah h;obtain⟨s,rfl,h9⟩:=Fw h;replace h:=h9;exact P rfl (λN=>by simp only[Bb,I]) h
  | toBytes el=>
   simp only[Dg]at h;obtain⟨v,I,hl,h⟩:=Ah h;obtain⟨s,rfl,h9⟩:=Fw h;replace h:=h9;obtain⟨hc,h⟩:=EK h;exact A rfl (λN=>by simp only[C1,I,hc,if_true]) h
  | toStr=>
   simp only[Dg]at h;obtain⟨v,I,hl,h⟩:=Ah h;unfold J7 at h;split at h
   ·cases h
   ·rename_i hns
    obtain⟨n,l,h1,h2⟩:=SL h;split at h2
    ·rename_i s hs
     have hnot:(Ca e x).isStr=false:=by
      rw[I];cases v<;>first | rfl | (exact(hns _ rfl).elim)
     refine L rfl (λN=>?_) h2;simp only[Ct,hnot];rw[I,h1];simp[hs]
    ·cases h2
  | pu=>simp only[Dg]at h;cases h
 | rg x=>
  simp only[Dg]at h;obtain⟨v,I,hl,h⟩:=Ah h;obtain⟨b,o,rfl,h9⟩:=Ef h;replace h:=h9;exact P rfl (λN=>by simp only[Bb,I]) h
 | C off x=>
  simp only[Dg]at h;obtain⟨v,I,hl,h⟩:=Ah h;obtain⟨b,o,rfl,h9⟩:=Ef h;replace h:=h9;exact P rfl (λN=>by simp only[Bb,I];rfl) h
 | field off n x=>
  cases n with
  | none=>
   simp only[Dg]at h;obtain⟨v,I,hl,h⟩:=Ah h;obtain⟨l,rfl,h9⟩:=Fx h;replace h:=h9;obtain⟨u,O,h⟩:=Gp h;exact P rfl (λN=>by simp only[Bb,I,O]) h
  | some n=>
   simp only[Dg]at h;obtain⟨v,I,hl,h⟩:=Ah h;obtain⟨l,rfl,h9⟩:=Fx h;replace h:=h9;obtain⟨O,h⟩:=Gk h;exact P rfl (λN=>by simp only[Bb,I,O,if_true]) h
 | extract i x=>
  simp only[Dg]at h;obtain⟨v,I,hl,h⟩:=Ah h;obtain⟨l,rfl,h9⟩:=Lt h;replace h:=h9
  obtain⟨u,O,h⟩:=Gp h
  exact P rfl (λN=>by simp only[Bb,I,O]) h
 | qr esz x i=>
  simp only[Dg]at h
  obtain⟨v,I,hl,h⟩:=Ah h
  obtain⟨u,O,_,h⟩:=Ah h
  split at h
  ·unfold AS at h
   split at h
   ·obtain⟨h1,h⟩:=Fo h
    obtain⟨h2,h⟩:=EK h
    simp only[Co]at h2
    exact P rfl (λN=>by simp only[Bb,I,O];rw[if_pos ⟨h1,by omega⟩];rfl) h
   ·cases h
  ·cases h
 | iaddrA len esz x i=>
  simp only[Dg]at h
  obtain⟨v,I,hl,h⟩:=Ah h
  obtain⟨u,O,_,h⟩:=Ah h
  split at h
  ·obtain⟨b,o,rfl,h9⟩:=Ef h
   replace h:=h9
   obtain⟨h1,h⟩:=Fo h
   obtain⟨h2,h⟩:=EK h
   simp only[Co]at h2
   exact P rfl (λN=>by simp only[Bb,I,O];rw[if_pos ⟨h1,by omega⟩];rfl) h
  ·cases h
 | idxStr x i=>
  simp only[Dg]at h
  obtain⟨v,I,hl,h⟩:=Ah h
  obtain⟨u,O,_,h⟩:=Ah h
  obtain⟨s,rfl,h9⟩:=Fw h
  replace h:=h9
  split at h
  ·obtain⟨h1,h⟩:=Fo h
   obtain⟨h2,h⟩:=EK h
   exact P rfl (λN=>by simp only[Bb,I,O];rw[if_pos h1,if_pos h2];rfl) h
  ·cases h
 | len b x=>
  cases b with
  | true=>
   simp only[Dg]at h
   obtain⟨v,I,hl,h⟩:=Ah h
   obtain⟨s,rfl,h9⟩:=Fw h
   replace h:=h9
   exact P rfl (λN=>by simp only[Bb,I];rfl) h
  | false=>
   simp only[Dg]at h
   obtain⟨v,I,hl,h⟩:=Ah h
   obtain⟨n,h1,h2⟩:=ZF h
   exact P rfl (λ_=>h2 e x I) h1
 | lenC n=>simp only[Dg]at h;exact P rfl (λN=>by simp only[Bb];rfl) h
 | sliceStr x lo hi=>
  simp only[Dg]at h
  obtain⟨v,I,hl,h⟩:=Ah h
  have h:=FN h
  have h:=FN h
  obtain⟨s,rfl,h9⟩:=Fw h
  replace h:=h9
  unfold DQ at h
  obtain⟨a,ha,h⟩:=Oh h
  obtain⟨b,hb,h⟩:=Oh h
  obtain⟨hc,h⟩:=EK h
  exact P rfl (λN=>by simp only[Bb,I,I6,ha,hb,hc,if_true]) h
 | sliceSl esz x lo hi mx=>
  simp only[Dg]at h
  obtain⟨v,I,hl,h⟩:=Ah h
  have h:=FN h
  have h:=FN h
  have h:=FN h
  obtain⟨u,O,h⟩:=LF h
  exact P rfl (λN=>by simp only[Bb,I,O]) h
 | sliceArr n esz x lo hi mx=>
  simp only[Dg]at h
  obtain⟨v,I,hl,h⟩:=Ah h
  have h:=FN h
  have h:=FN h
  have h:=FN h
  obtain⟨u,O,h⟩:=LF h
  exact P rfl (λN=>by simp only[Bb,I,O]) h
 | mkifc t x=>
  simp only[Dg]at h
  obtain⟨v,I,hl,h⟩:=Ah h
  exact P rfl (λN=>by simp only[Bb,I,hl N,if_true]) h
 | mkfn f a c=>
  simp only[Dg]at h
  obtain⟨h1,h⟩:=Fy _ _ _ h
  obtain⟨h2,h⟩:=Fy _ _ _ h
  exact P rfl (λN=>by simp only[Bb,h1 N,h2 N,Bool.and_self,if_true]) h
 | build z ps=>
  simp only[Dg]at h
  have h:=KE _ _ _ h
  obtain⟨l',hf,h⟩:=QT h
  exact P rfl (λN=>by simp only[Bb,hf]) h
 | cap x=>
  simp only[Dg]at h
  obtain⟨v,I,hl,h⟩:=Ah h
  split at h
  ·exact P rfl (λN=>by simp only[Bb,I]) h
  ·exact P rfl (λN=>by simp only[Bb,I];rfl) h
  ·cases h
 | min x l=>
  simp only[Dg]at h
  obtain⟨v,I,hl,h⟩:=Ah h
  obtain⟨_,h⟩:=Fy _ _ _ h
  obtain⟨u,O,h⟩:=LF h
  split at h
  ·exact P rfl (λN=>by simp only[Bb,I,O]) h
  ·cases h
 | max x l=>
  simp only[Dg]at h
  obtain⟨v,I,hl,h⟩:=Ah h
  obtain⟨_,h⟩:=Fy _ _ _ h
  obtain⟨u,O,h⟩:=LF h
  split at h
  ·exact P rfl (λN=>by simp only[Bb,I,O]) h
  ·cases h
 | load n x=>
  cases n with
  | none=>
   simp only[Dg]at h
   obtain⟨v,I,hl,h⟩:=Ah h
   obtain⟨b,o,rfl,h9⟩:=Ef h
   replace h:=h9
   obtain⟨l,hr,h⟩:=KC h
   obtain⟨u,O,h⟩:=Gp h
   exact L rfl (λN=>by simp only[Ct,I,hr,O]) h
  | some n=>
   simp only[Dg]at h
   obtain⟨v,I,hl,h⟩:=Ah h
   obtain⟨b,o,rfl,h9⟩:=Ef h
   replace h:=h9
   obtain⟨l,hr,h⟩:=KC h
   obtain⟨O,h⟩:=Gk h
   exact L rfl (λN=>by simp only[Ct,I,P0,hr,O,if_true]) h
 | alloc el z=>simp only[Dg]at h;exact A rfl (λN=>by simp only[C1]) h
 | box el x=>
  simp only[Dg]at h
  obtain⟨v,I,hl,h⟩:=Ah h
  obtain⟨hc,h⟩:=EK h
  exact A rfl (λN=>by simp only[C1,I,hl N,hc,Bool.and_self,if_true]) h
 | buildSlice el n z ps=>
  simp only[Dg]at h
  have h:=KE _ _ _ h
  obtain⟨l',hf,h⟩:=QT h
  obtain⟨hc,h⟩:=EK h
  exact A rfl (λN=>by simp only[C1,hf,hc,if_true]) h
 | mkslice el esz bytes z len cap=>
  simp only[Dg]at h
  obtain⟨v,I,_,h⟩:=Ah h
  obtain⟨u,O,_,h⟩:=Ah h
  split at h
  ·obtain⟨h1,h⟩:=Fo h
   obtain⟨h2,h⟩:=Fo h
   obtain⟨hc,h⟩:=EK h
   simp only[AQ,Bn]at hc
   obtain⟨⟨c1,c2⟩,c3⟩:=hc
   refine A rfl (λN=>?_) h
   simp only[C1,I,O]
   have hcb:∀c:Int,0<=c->c*bytes=((c.toNat*bytes:Nat):Int):=λc h2=>by rw[Int.natCast_mul,Int.toNat_of_nonneg h2]
   rw[if_pos ⟨h1,by omega,by rw[hcb _ h2];omega,by omega⟩]
  ·cases h
 | store n x v=>
  simp only[Dg]at h
  obtain⟨p,hp,_,h⟩:=Ah h
  obtain⟨u,O,_,h⟩:=Ah h
  obtain⟨b,o,rfl,h9⟩:=Ef h
  replace h:=h9
  obtain⟨U1,U2,h1,h2,h3⟩:=pE h
  exact K rfl (λN=>by simp only[ES,xj,Ek.d8];exact h3 E e x v hp O) h2 h1
 | append el esz bytes s x=>
  simp only[Dg]at h
  obtain⟨p,hp,_,h⟩:=Ah h
  obtain⟨u,O,_,h⟩:=Ah h
  obtain⟨v,U1,h1,h2⟩:=S1 h
  exact K rfl (λN=>by simp only[ES,xj,Ek.d8,FE,hp,O];exact h1) (KZ.refl _) h2
 | copy esz d s=>
  simp only[Dg]at h
  obtain⟨p,hp,_,h⟩:=Ah h
  obtain⟨u,O,_,h⟩:=Ah h
  obtain⟨v,U1,h1,h2⟩:=IH h
  exact K rfl (λN=>by simp only[ES,xj,Ek.d8];rw[qn,hp,O];exact h1) (KZ.refl _) h2
 | call f args=>
  simp only[Dg]at h
  obtain⟨h1,h⟩:=Fy _ _ _ h
  obtain⟨v,U1,h2,h3⟩:=IH h
  exact K rfl (λN=>by simp only[ES,h1 N,if_true];exact h2) (KZ.refl _) h3
 | callv f args=>
  simp only[Dg]at h
  obtain⟨p,hp,_,h⟩:=Ah h
  obtain⟨h1,h⟩:=Fy _ _ _ h
  unfold GA at h
  split at h
  ·obtain⟨v,U1,h2,h3⟩:=IH h
   exact K rfl (λN=>by simp only[ES,hp,h1 N,if_true];exact h2) (KZ.refl _) h3
  ·cases h
 | mkmap=>simp only[Dg]at h;exact A rfl (λN=>by simp only[C1]) h
 | lookup t z m x=>
  simp only[Dg]at h
  obtain⟨p,hp,_,h⟩:=Ah h
  obtain⟨u,O,_,h⟩:=Ah h
  obtain⟨v,I,h⟩:=LF h
  exact L rfl (λN=>by simp only[Ct,hp,O];exact I) h
 | mapset t m k v=>
  simp only[Dg]at h
  obtain⟨p,hp,_,h⟩:=Ah h
  obtain⟨u,O,_,h⟩:=Ah h
  obtain⟨x,hx,_,h⟩:=Ah h
  obtain⟨y,U1,h1,h2⟩:=IH h
  exact K rfl (λN=>by simp only[ES,xj,Ek.d8,FE,hp,O,hx];exact h1) (KZ.refl _) h2
 | alloc0 el=>simp only[Dg]at h;exact A rfl (λN=>by simp only[C1]) h
 | box0 el x=>
  simp only[Dg]at h
  obtain⟨v,I,hl,h⟩:=Ah h
  split at h
  ·exact A rfl (λN=>by simp only[C1,I]) h
  ·cases h
 | load0 x=>
  simp only[Dg]at h
  obtain⟨v,I,hl,h⟩:=Ah h
  obtain⟨b,o,rfl,h9⟩:=Ef h
  replace h:=h9
  exact P rfl (λN=>by simp only[Bb,I]) h
 | store0 x v=>
  simp only[Dg]at h
  obtain⟨p,hp,_,h⟩:=Ah h
  obtain⟨u,O,_,h⟩:=Ah h
  split at h
  ·exact K rfl (λN=>by simp only[ES,xj,Ek.d8,FE,hp,O]) (KZ.refl _) h
  ·cases h
 | faddr0 t x=>
  simp only[Dg]at h
  obtain⟨p,hp,_,h⟩:=Ah h
  obtain⟨v,I,h⟩:=LF h
  exact L rfl (λN=>by simp only[Ct,hp];exact I) h
 | idxArr n esz s x i=>
  cases s with
  | none=>
   simp only[Dg]at h
   obtain⟨p,hp,_,h⟩:=Ah h
   obtain⟨u,O,_,h⟩:=Ah h
   obtain⟨l,rfl,h9⟩:=Fx h
   replace h:=h9
   split at h
   ·obtain⟨h1,h⟩:=Fo h
    obtain⟨hc,h⟩:=EK h
    obtain⟨v,I,h⟩:=Gp h
    simp only[Co]at hc
    exact P rfl (λN=>by simp only[Bb,hp,O,L7];rw[if_pos ⟨h1,by omega⟩];exact I) h
   ·cases h
  | some s=>
   simp only[Dg]at h
   obtain⟨p,hp,_,h⟩:=Ah h
   obtain⟨u,O,_,h⟩:=Ah h
   obtain⟨l,rfl,h9⟩:=Fx h
   replace h:=h9
   split at h
   ·obtain⟨h1,h⟩:=Fo h
    obtain⟨hc,h⟩:=EK h
    obtain⟨I,h⟩:=Gk h
    simp only[Co]at hc
    exact P rfl (λN=>by simp only[Bb,hp,O,L7];rw[if_pos ⟨h1,by omega⟩];simp only[Nat.mul_eq]at I ⊢;rw[if_pos I]) h
   ·cases h
 | pick c a b=>simp only[Dg]at h;cases h
 | pu=>simp only[Dg]at h;cases h
inductive Out where
 | val (v:V) (r:Rg) (U:H)
 | mark (m off:Nat)
inductive Ge(E:EB)(D:Ac)(pw:Bool)(id nx:Nat)(o:Ek)(e:CF)(q:Qs)(r:Rg)(U:H):Out->Prop where
 | p (v:V) (hc:o.d8 = .p) (h:Fj e->Bb o e=some v):Ge E D pw id nx o e q r U (.val v r U)
 | l (v:V) (hc:o.d8 = .l) (h:Fj e->Ct E o e U=some v):Ge E D pw id nx o e q r U (.val v r U)
 | a (v:V) (b:G5) (hc:o.d8 = .a) (h:Fj e->C1 o e id=some (v,b)):Ge E D pw id nx o e q r U (.val v r ⟨nx,(id,b)::U.F⟩)
 | k (v:V) (U1 U2:H) (hc:o.d8 = .k) (h:Fj e->ES E D o e U=some (v,U1)) (hs:KZ U2 U1):Ge E D pw id nx o e q r U (.val v r U2)
 | mv (x:AO) (m off:Nat) (ho:o = .L x\/o = .rg x) (hm:GI q x=some (m,off)):Ge E D pw id nx o e q r U (.mark m off)
 | fa (d:Nat) (x:AO) (m off:Nat) (ho:o = .C d x) (hm:GI q x=some (m,off)):Ge E D pw id nx o e q r U (.mark m (off+d))
 | ld (x:AO) (m off:Nat) (l:List V) (v:V) (ho:o = .load none x) (hm:GI q x=some (m,off)) (hl:look r m=some l) (h:l[off]? = some v):Ge E D pw id nx o e q r U (.val v r U)
 | ldn (n:Nat) (x:AO) (m off:Nat) (l:List V) (ho:o = .load (some n) x) (hm:GI q x=some (m,off)) (hl:look r m=some l) (h:off+n<=l.length):Ge E D pw id nx o e q r U (.val (.agg ((l.drop off).take n)) r U)
 | st (n:Nat) (x y:AO) (m off:Nat) (l cs:List V) (u:V) (hw:pw=true) (ho:o = .store n x y) (hm:GI q x=some (m,off)) (hl:look r m=some l) (hn:GI q y=none) (hu:Ca e y=u) (hlu:Fj e->u.J=true)
   (hcs:cs=u.cells) (h1:BH cs=true) (hlen:cs.length=n) (h:off+n<=l.length):Ge E D pw id nx o e q r U (.val .i5 (LO r m (FW l off cs)) U)
theorem kp{v:V}(h:v.S=true):v.cells=[v]:=by cases v<;>first | rfl | cases h
theorem Xr{ty}{v:V}{J r}(h:Zr ty v J=some r):BH v.cells=true/\J v.cells=some r:=by
 unfold Zr at h;split at h
 ·obtain⟨l,rfl,b⟩:=Fx h
  have ⟨g,b⟩:=EK b;exact⟨g,b⟩
 ·have ⟨h1,b⟩:=Lu h
  rw[kp h1];exact⟨by simp[BH,h1],b⟩
theorem yd{ty:Cc}{v:V}{J r}(h:rt ty v J=some r)(p:ty.known=true):v.J=true:=by
 cases ty with
 | any=>cases p | int k=>simp only[rt]at h;obtain⟨n,rfl,_⟩:=Px h;rfl | bool=>simp only[rt]at h;obtain⟨n,rfl,_⟩:=GF h;rfl | N=>simp only[rt]at h;obtain⟨n,rfl,_⟩:=Fw h;rfl | o=>simp only[rt]at h;obtain⟨b,o,rfl,_⟩:=Ef h;rfl | S=>simp only[rt]at h;have:=(Lu h).1;cases v<;>first | rfl | cases this
 | agg i=>simp only[rt]at h;obtain⟨l,rfl,_⟩:=Fx h;rfl | B i=>simp only[rt]at h;obtain⟨l,rfl,_⟩:=Lt h;rfl
theorem ph{E D R id G}{o:Ek}{ty:Cc}{e q r U J M s}
  (h:xh E D R id G o ty e q r U J M=some s) :
  ∃w,Ge E D R id G o e q r U w/\(match w with
   | .val v Q U'=>J v Q U'=some s/\((∃n x y,o = .store n x y)\/o.d8 ≠ .k\/ty.known=false\/v.J=true) | .mark m off=>M m off=some s):=by
 have gen:(Dg E D id G o e U λv U'=>rt ty v λv'=>J v' r U')=some s->∃w,Ge E D R id G o e q r U w/\(match w with
   | .val v Q U'=>J v Q U'=some s/\((∃n x y,o = .store n x y)\/o.d8 ≠ .k\/ty.known=false\/v.J=true) | .mark m off=>M m off=some s):=by
  intro h;rcases fH h with ⟨k,v,h1,t⟩|⟨k,v,h1,t⟩|⟨k,v,b,h1,t⟩|⟨k,v,U1,O,h1,t,I⟩
  ·exact⟨_,.p v k h1,He _ _ _ _ t,.inr (.inl (by rw[k];intro h;cases h))⟩
  ·exact⟨_,.l v k h1,He _ _ _ _ t,.inr (.inl (by rw[k];intro h;cases h))⟩
  ·exact⟨_,.a v b k h1,He _ _ _ _ t,.inr (.inl (by rw[k];intro h;cases h))⟩
  ·refine⟨_,.k v U1 O k h1 t,He _ _ _ _ I,?_⟩
   cases hk:ty.known with
   | false=>exact .inr (.inr (.inl rfl)) | true=>exact .inr (.inr (.inr (yd I hk)))
 cases o with
 | L x=>
  simp only[xh]at h;split at h
  ·rename_i m off z;exact⟨_,.mv x m off (.inl rfl) z,h⟩
  ·exact gen h
 | rg x=>
  simp only[xh]at h;split at h
  ·rename_i m off z;exact⟨_,.mv x m off (.inr rfl) z,h⟩
  ·exact gen h
 | C d x=>
  simp only[xh]at h;split at h
  ·rename_i m off z;exact⟨_,.fa d x m off rfl z,h⟩
  ·exact gen h
 | load n x=>
  cases n with
  | none=>
   simp only[xh]at h;split at h
   ·rename_i m off z
    split at h
    ·rename_i l F
     have ⟨v,N,h⟩:=Gp h;exact⟨_,.ld x m off l v rfl z F N,He _ _ _ _ h,.inr (.inl (by intro h;cases h))⟩
    ·cases h
   ·exact gen h
  | some n=>
   simp only[xh]at h;split at h
   ·rename_i m off z
    split at h
    ·rename_i l F
     have ⟨N,h⟩:=Gk h;exact⟨_,.ldn n x m off l rfl z F (by simpa using N),He _ _ _ _ h,.inr (.inl (by intro h;cases h))⟩
    ·cases h
   ·exact gen h
 | store n x v=>
  simp only[xh]at h;split at h
  ·rename_i m off z
   split at h
   ·rename_i l F
    split at h
    ·rename_i T
     have ⟨u,hu,P,h⟩:=Ah h;have ⟨h1,h⟩:=Xr h;have ⟨k,h⟩:=EK h;simp only[AQ,AW,Bn]at k;exact⟨_,.st n x v m off l u.cells u rfl rfl z F T hu P rfl h1 k.1 k.2,h,.inl ⟨n,x,v,rfl⟩⟩
    ·cases h
   ·cases h
  ·have h:=h
   rcases fH h with ⟨k,v,h1,t⟩|⟨k,v,h1,t⟩|⟨k,v,b,h1,t⟩|⟨k,v,U1,O,h1,t,I⟩
   ·cases k
   ·cases k
   ·cases k
   ·exact⟨_,.k v U1 O k h1 t,I,.inl ⟨_,_,_,rfl⟩⟩
 | _=>exact gen (by simpa only [xh]using h)
variable {P:Program}{D:Ac}{C:Cx}{R:DN}{U:H}{w w':World}
abbrev Bs:=Nat->Option BI
structure YX(C:Cx)(R:DN)(B:Bs)(r:Rg)(U:H)(w:World):Prop where
 X:∀m i,B m=some i->C.O i.i2/\∃l,look r m=some l/\Ff R i (.cells l) w
 inj:∀m m' i i',B m=some i->B m'=some i'->i.i2=i'.i2->m=m'
 apart:∀m i,B m=some i->∀id b j,look U.F id=some b->R id=some j->j.i2≠i.i2
structure Hl(R:DN)(e:CF)(tmps:Array Value):Prop where
 X:∀(k:Nat) (v:V),look e k=some v->∃x,tmps[k]? = some x/\Av R v=some x
structure VZ(B:Bs)(q:Qs)(tmps:Array Value):Prop where
 X:∀(k m off:Nat),look q k=some (m,off)->∃i,B m=some i/\tmps[k]? = some (.pointer (some ⟨i.i2,i.shift+off,none⟩))
theorem Mo{v:V}{x}(h:Av R v=some x):v.J=true:=by
 cases v<;>first | rfl | (simp[Av]at h)
theorem Hl.env{e a}(h:Hl R e a):CK R e a:=⟨λk v b => .inr (h.X k v b)⟩
theorem Hl.J{e a}(h:Hl R e a):Fj e:=λt v d=>by
 have ⟨x,_,c⟩:=h.X t v d;exact Mo c
theorem Hl.mono{d e a}(h:Hl R e a)(c:Le R d):Hl d e a:=
 ⟨λk v g=>by have ⟨x,h1,f⟩:=h.X k v g;exact⟨x,h1,DA c v x f⟩⟩
theorem EN.frame(h:EN C R U w)(d:∀c,c<w.heap.size->((∃id b j,look U.F id=some b/\R id=some j/\j.i2=c)\/¬C.O c)->w'.heap[c]? = w.heap[c]?)
  (r:w.heap.size<=w'.heap.size) (s:w'.os=w.os) (m:w'.tape=w.tape) (o:w'.output=w.output):EN C R U w':=by
 refine⟨h.kw,?_,h.inj,?_,h.glob,?_,BE h.size r,h.new,s.trans h.os,m.trans h.tape,o.trans h.output⟩
 ·intro id b p
  have ⟨i,q,t,f⟩:=h.own id b p;exact⟨i,q,t,f.mono (Le.refl _) (d _ f.lt (.inl ⟨id,b,i,p,q,rfl⟩))⟩
 ·intro id b p
  have ⟨i,q,l,f⟩:=h.ext id b p;refine⟨i,q,l,f.mono (Le.refl _) (d _ ?_ (.inr l))⟩;rcases A2 i.i2 w.heap.size with n|n
  ·exact n
  ·exact absurd (h.new _ (BE h.size n)) l
 ·intro c l
  rw[<-h.Z c l];rcases A2 c w.heap.size with n|n
  ·exact d _ n (.inr l)
  ·exact absurd (h.new _ (BE h.size n)) l
theorem YX.mono{d B r}{U':H}(h:YX C R B r U w)(c:Le R d)(a:∀m i,B m=some i->w'.heap[i.i2]? = w.heap[i.i2]?)
  (e:∀m i,B m=some i->∀id b j,look U'.F id=some b->d id=some j->j.i2≠i.i2):YX C d B r U' w' where
 X m i n:=by
  have ⟨p,l,o,k⟩:=h.X m i n;exact⟨p,l,o,k.mono c (a m i n)⟩
 inj:=h.inj;apart:=e
theorem YX.lt{B r}(h:YX C R B r U w){m}{i:BI}(c:B m=some i):i.i2<w.heap.size:=by
 have ⟨_,l,_,b⟩:=h.X m i c;exact b.lt
theorem YX.S(h:EN C R U w){B r}(T:YX C R B r U w){m}{i:BI}(N:B m=some i){l}(W:look r m=some l):
  EN { C with O:=λd=>d=i.i2\/w.heap.size<=d,w0:=w } (I1 R U.j i) ⟨U.j+1,[(U.j,.cells l)]⟩ w:=by
 have n:=(FX R U.j i).le h.kw;have ⟨Q,l',s,E⟩:=T.X m i N;rw[W]at s;cases s;have q:∀d,(d=i.i2\/w.heap.size<=d)->C.O d:=by
  rintro d (rfl|z)
  ·exact Q
  ·exact h.new _ (BE h.size z)
 have e:∀id b,look [(U.j,G5.cells l)] id=some b->id=U.j/\b = .cells l:=by
  intro id b f;simp only[look,AW]at f;split at f
  ·rename_i S;cases f;exact⟨S.symm,rfl⟩
  ·cases f
 refine⟨?_,?_,?_,?_,?_,λ_ _=>rfl,AL _,λ_ f => .inr f,rfl,rfl,rfl⟩
 ·intro id F
  have G:U.j+1<=id:=F;rw[Bw (by omega)];exact h.kw id (by omega)
 ·intro id b f
  obtain⟨rfl,rfl⟩:=e id b f;exact⟨i,CZ _ _ _,.inl rfl,E.mono n rfl⟩
 ·intro id y b P j Z f D _ _ _
  rw[(e id b f).1,(e y P D).1]
 ·intro id b f
  have ⟨j,A,M,L⟩:=h.ext id b f;exact⟨j,n _ _ A,λX=>M (q _ X),L.mono n rfl⟩
 ·intro g z
  have ⟨j,A,f⟩:=h.glob g z;exact⟨j,n _ _ A,f⟩
theorem CK.cons{e a}(h:CK R e a){t v x}(o:a[t]? = some x)(n:Av R v=some x):CK R ((t,v)::e) a:=by
 refine⟨λk u f=>?_⟩;simp only[look,AW]at f;split at f
 ·rename_i p;subst p;cases f;exact .inr ⟨x,o,n⟩
 ·exact h.X k u f
theorem H7{α l m}{a c:α}(h:look l m=some a) k:look (LO l m c) k=if m=k then some c else look l k:=by
 rw[Hu];by_cases d:m=k
 ·subst d;rw[if_pos rfl,if_pos rfl,h];rfl
 ·rw[if_neg d,if_neg d]
structure Va(C:Cx)(R:DN)(B:Bs)(r:Rg)(U:H)(w:World):Prop where
 rel:EN C R U w
 priv:YX C R B r U w
theorem Mb (hD:∀f,Cr P C.E C.G f (D f)) {B:Bs} {r:Rg} (hm:Va C R B r U w) {a:Act} {e:CF} {q:Qs} (he:Hl R e a.tmps) (hq:VZ B q a.tmps)
    (o:Oper) {pw:Bool}{id nx:Nat} (hid:R id=none) (hlt:id<nx) (hnx:U.j<=nx) {out:Out} (h:Ge C.E D pw id nx (Af P C.G o.op) e q r U out) (K:Act->World->Prop) (Q:Exit->Act->World->Prop)
    (hV:∀v r' U',out = .val v r' U'->∀R' w' x,Le R R'->(∀k,k<U.j->k≠id->R' k=R k)->U.j<=U'.j->Va C R' B r' U' w'->((v = .i5/\(Af P C.G o.op).d8 = .k)\/Av R' v=some x)->K (a.put o.dst x) w')
    (hM:∀m off,out = .mark m off->∀i,B m=some i->K (a.put o.dst (.pointer (some ⟨i.i2,i.shift+off,none⟩))) w):o.wp P a w K Q:=by
  obtain⟨J,G⟩:=hm;have hg:=J.globOk;have hmark:∀x m off,GI q x=some (m,off)->∃t i,x = .tmp t/\B m=some i/\a.tmps[t]? = some (.pointer (some ⟨i.i2,i.shift+off,none⟩)):=by
    intro x m off hx;cases x with
    | T v=>cases hx | tmp t=>
      obtain⟨i,h1,h2⟩:=hq.X t m off hx
      exact⟨t,i,rfl,h1,h2⟩
  have hle2:∀i,Le R (I1 R U.j i):=λi=>(FX R U.j i).le J.kw
  have hg2:∀i,ET C.G (I1 R U.j i):=λi g hgg=>by
    obtain⟨j,hj,hb⟩:=hg g hgg
    exact⟨j,hle2 i _ _ hj,hb⟩
  have hcp:∀i off,Av (I1 R U.j i) (.o U.j off)=some (.pointer (some ⟨i.i2,i.shift+off,none⟩)):=λi off=>Di (CZ _ _ _)
  cases h with
  | p v hc h=>
    replace h:=h he.J
    obtain⟨x,hx,hrun⟩:=M4 (a:=a) (P:=P) he.env hg o h w
    unfold Oper.wp;rw[hrun]
    exact hV v r U rfl R w x (Le.refl _) (λ_ _ _=>rfl) (AL _) ⟨J,G⟩ (.inr hx)
  | l v hc h=>
    replace h:=h he.J
    obtain⟨x,hx,hrun⟩:=M5 (a:=a) (P:=P) J he.env o h
    unfold Oper.wp;rw[hrun]
    exact hV v r U rfl R w x (Le.refl _) (λ_ _ _=>rfl) (AL _) ⟨J,G⟩ (.inr hx)
  | a v b hc h=>
    replace h:=h he.J
    obtain⟨x,w',i,hrun,hn,hi,hx,hok⟩:=PN (a:=a) (P:=P) he.env hg o h hid w
    unfold Oper.wp;rw[hrun]
    have hle:Le R (I1 R id i):=λk j hk=>by
      by_cases hke:k=id
      · subst hke;rw[hid]at hk;cases hk
      · rw[Bw hke];exact hk
    have hrel1:EN C R ⟨nx,U.F⟩ w:=J.congr (λk hk=>J.kw k (BE hnx hk)) (λ_ _ hb=>hb)
    have hrel2:EN C (I1 R id i) ⟨nx,(id,b)::U.F⟩ w':=by
      refine hrel1.allocAt hid hlt hn b i hi hok rfl (λk=>?_)
      simp only[look,AW]
      by_cases hk:k=id
      · subst hk;simp
      · rw[if_neg (Ne.symm hk),if_neg hk]
    refine hV v r _ rfl (I1 R id i) w' x hle (λk _ hk=>Bw hk) hnx ⟨hrel2,G.mono hle (λm j hj=>hn.old _ (G.lt hj)) (λm j hj k c j' hk hj'=>?_)⟩ (.inr hx)
    simp only[look,AW]at hk
    split at hk
    · rename_i he';subst he'
      rw[CZ]at hj';cases hj'
      have:=G.lt hj
      omega
    · rename_i he'
      rw[Bw (Ne.symm he')]at hj'
      exact G.apart m j hj k c j' hk hj'
  | k v U1 U2 hc h hs=>
    replace h:=h he.J
    have hsh:EN (C.sub R U w) R U w:=J.shrink (Us:=U) rfl (λ_ _ hb=>hb)
    refine PJ (C:=C.sub R U w) hD rfl rfl hsh he.env o h K Q (λR' w' x hx hn hrel' hv=>?_)
    have hle:Le R R':=hx.le J.kw
    have hno:∀m i,B m=some i->¬(C.sub R U w).O i.i2:=by
      rintro m i hm (hg|⟨k,b,j,hb,hj,hbl⟩)
      · have:=G.lt hm;omega
      · exact G.apart m i hm k b j hb hj hbl
    have hrel2:EN C R' U1 w':=J.regrow (Us:=U) (λ_ _ hb=>hb) hrel' hx rfl (λk b hk => .inl hk)
    have hrel3:EN C R' U2 w':=hrel2.congr (λk hk=>hrel2.kw k (by rw[<-hs.j];exact hk)) hs.sub
    have hv:(v = .i5/\(Af P C.G o.op).d8 = .k)\/Av R' v=some x:=hv.imp (λh=>⟨h,hc⟩) (λh=>h)
    refine hV v r U2 rfl R' w' x hle (λk hk _=>hx k hk) (by rw[hs.j];exact hn) ⟨hrel3,G.mono hle (λm i hm=>hrel'.Z _ (hno m i hm)) (λm i hm k b j hk hj hbl=>?_)⟩ hv
    obtain⟨j',hj',hO,_⟩:=hrel'.own k b (hs.sub k b hk)
    rw[hj]at hj';cases hj'
    exact hno m i hm (hbl ▸ hO)
  | mv x m off ho hmx=>
    obtain⟨t,i,rfl,hB,ht⟩:=hmark x m off hmx
    have he2:CK (I1 R U.j i) [(t,.o U.j off)] a.tmps:=CK.cons ⟨λk v hk=>by simp[look]at hk⟩ ht (hcp i off)
    have hap:Bb (Af P C.G o.op) [(t,.o U.j off)]=some (.o U.j off):=by
      have hop:Ca [(t,V.o U.j off)] (.tmp t) = .o U.j off:=by simp[Ca,Gu,look]
      rcases ho with ho|ho<;>rw[ho]<;>simp only[Bb,hop,V.J,if_true]
    obtain⟨x,hx,hrun⟩:=M4 (a:=a) (P:=P) he2 (hg2 i) o hap w
    rw[hcp i off]at hx;cases hx
    unfold Oper.wp;rw[hrun]
    exact hM m off rfl i hB
  | fa d x m off ho hmx=>
    obtain⟨t,i,rfl,hB,ht⟩:=hmark x m off hmx
    have he2:CK (I1 R U.j i) [(t,.o U.j off)] a.tmps:=CK.cons ⟨λk v hk=>by simp[look]at hk⟩ ht (hcp i off)
    have hap:Bb (Af P C.G o.op) [(t,.o U.j off)]=some (.o U.j (off+d)):=by
      have hop:Ca [(t,V.o U.j off)] (.tmp t) = .o U.j off:=by simp[Ca,Gu,look]
      rw[ho];simp only[Bb,hop]
    obtain⟨x,hx,hrun⟩:=M4 (a:=a) (P:=P) he2 (hg2 i) o hap w
    rw[hcp i (off+d)]at hx;cases hx
    unfold Oper.wp;rw[hrun]
    exact hM m (off+d) rfl i hB
  | ld x m off l v ho hmx hl h=>
    obtain⟨t,i,rfl,hB,ht⟩:=hmark x m off hmx
    have hr2:=G.S J hB hl
    have he2:CK (I1 R U.j i) [(t,.o U.j off)] a.tmps:=CK.cons ⟨λk v hk=>by simp[look]at hk⟩ ht (hcp i off)
    have hap:Ct C.E (Af P C.G o.op) [(t,.o U.j off)] ⟨U.j+1,[(U.j,.cells l)]⟩=some v:=by
      have hop:Ca [(t,V.o U.j off)] (.tmp t) = .o U.j off:=by simp[Ca,Gu,look]
      rw[ho];simp[Ct,hop,rd,look,h]
    obtain⟨x,hx,hrun⟩:=M5 (a:=a) (P:=P) hr2 he2 o hap
    unfold Oper.wp;rw[hrun]
    obtain⟨_,l',hl',hok⟩:=G.X m i hB
    rw[hl]at hl';cases hl'
    obtain⟨arr,el,lo,hi,_,hh,_⟩:=hok
    obtain⟨y,hy,_⟩:=hh off v h
    have hyx:=DA (hle2 i) v y hy
    rw[hx]at hyx;cases hyx
    exact hV v r U rfl R w x (Le.refl _) (λ_ _ _=>rfl) (AL _) ⟨J,G⟩ (.inr hy)
  | ldn n x m off l ho hmx hl h=>
    obtain⟨t,i,rfl,hB,ht⟩:=hmark x m off hmx
    have hr2:=G.S J hB hl
    have he2:CK (I1 R U.j i) [(t,.o U.j off)] a.tmps:=CK.cons ⟨λk v hk=>by simp[look]at hk⟩ ht (hcp i off)
    have hap:Ct C.E (Af P C.G o.op) [(t,.o U.j off)] ⟨U.j+1,[(U.j,.cells l)]⟩=some (.agg ((l.drop off).take n)):=by
      have hop:Ca [(t,V.o U.j off)] (.tmp t) = .o U.j off:=by simp[Ca,Gu,look]
      rw[ho];simp[Ct,hop,P0,rd,look,h]
    obtain⟨x,hx,hrun⟩:=M5 (a:=a) (P:=P) hr2 he2 o hap
    unfold Oper.wp;rw[hrun]
    obtain⟨_,l',hl',hok⟩:=G.X m i hB
    rw[hl]at hl';cases hl'
    obtain⟨arr,el,lo,hi,_,hh,_⟩:=hok
    obtain⟨xs,hxs,_⟩:=hh.cells h
    have hy:Av R (.agg ((l.drop off).take n))=some (.agg xs.toArray):=EE hxs
    have hyx:=DA (hle2 i) _ _ hy
    rw[hx]at hyx;cases hyx
    exact hV _ r U rfl R w _ (Le.refl _) (λ_ _ _=>rfl) (AL _) ⟨J,G⟩ (.inr hy)
  | st n x y m off l cs u hw ho hmx hl hn hu hlu hcs h1 hlen h=>
    replace hlu:=hlu he.J
    obtain⟨t,i,rfl,hB,ht⟩:=hmark x m off hmx
    have hr2:=G.S J hB hl
    have he2:CK (I1 R U.j i) ((t,.o U.j off)::e) a.tmps:=CK.cons (he.env.mono (hle2 i)) ht (hcp i off)
    have hop:Ca ((t,V.o U.j off)::e) (.tmp t) = .o U.j off:=by simp[Ca,Gu,look]
    have hoy:Ca ((t,V.o U.j off)::e) y=u:=by
      rw[<-hu]
      cases y with
      | T v=>rfl
      | tmp s=>
        have hne:¬t=s:=λhts=>by subst hts;simp only[GI]at hn hmx;rw[hn]at hmx;cases hmx
        simp only[Ca,Gu,look,AW,hne,if_false]
    have hap:ES C.E D (Af P C.G o.op) ((t,.o U.j off)::e) ⟨U.j+1,[(U.j,.cells l)]⟩=some (.i5,(⟨U.j+1,[(U.j,.cells l)]⟩:H).set U.j (.cells (FW l off cs))):=by
      rw[ho]
      simp only[ES,xj,Ek.d8,FE,hop,hoy]
      simp only[look,AW,if_true]
      rw[if_pos]
      · rw[hcs]
      · simp only[AQ,AW,Bn]
        exact⟨⟨by rw[<-hcs];exact hlen,h⟩,by rw[<-hcs];exact h1⟩
    refine PJ (C:={ C with O:=λblk=>blk=i.i2\/w.heap.size<=blk,w0:=w }) hD rfl rfl hr2 he2 o hap K Q (λR' w' x hx hn' hrel' hv=>?_)
    have hR'n:R' U.j=some i:=by rw[hx U.j (DK _)];exact CZ _ _ _
    obtain⟨j,hj,_,hok⟩:=hrel'.own U.j (.cells (FW l off cs)) (by simp[H.set,LO,look])
    rw[hR'n]at hj;cases hj
    have hRR':Le R R':=(hle2 i).trans (hx.le (λk hk=>by
      have hk':U.j+1<=k:=hk
      rw[Bw (by omega)];exact J.kw k (by omega)))
    obtain⟨hOi,l',hl',hokl⟩:=G.X m i hB
    rw[hl]at hl';cases hl'
    have hcell:∀u':V,(∃k:Nat,(FW l off cs)[k]? = some u')->∃y,Av R u'=some y:=by
      rintro u' ⟨k,hk⟩
      rw[Mc]at hk
      split at hk
      · split at hk
        · have huc:∃z,Av R u=some z:=by
            obtain⟨oy,rfl⟩:∃oy,y=Ak C.G oy:=by
              obtain⟨dst,op,ty,pos,after,guard⟩:=o
              simp only at ho
              cases op<;>simp only[Af]at ho<;>(try (first | (cases ho;done) | ((repeat' split at ho)<;>(cases ho;done))))
              · split at ho
                · cases ho
                · simp only[Ek.store.injEq]at ho;exact⟨_,ho.2.2.symm⟩
                · cases ho
              · rename_i fn _ _;cases fn<;>cases ho
              · rename_i r;cases r<;>cases ho
              · rename_i ok;cases ok
                · cases ho
                · simp only at ho;split at ho<;>cases ho
              · rename_i c
                obtain⟨callee,cargs,argTypes⟩:=c
                simp only at ho
                split at ho
                · unfold LZ at ho;(repeat' split at ho)<;>cases ho
                · cases ho
                · cases ho
                · cases ho
            exact⟨_,ev (a:=a) he.env hg hu hlu⟩
          obtain⟨z,hz⟩:=huc
          have hcc:=IF hz
          rw[<-hcs]at hcc
          obtain⟨y',hy',_⟩:=Eu hcc hk
          exact⟨y',hy'⟩
        · cases hk
      · obtain⟨arr,el,lo,hi,_,hh,_⟩:=hokl
        obtain⟨y',hy',_⟩:=hh k u' hk
        exact⟨y',hy'⟩
    have hokR:Ff R i (.cells (FW l off cs)) w':=by
      obtain⟨arr,el,lo,hi,h1',h2',h3',h4',h5'⟩:=hok
      refine⟨arr,el,lo,hi,h1',λk v hk=>?_,h3',h4',h5'⟩
      obtain⟨y',hy',hone,harr⟩:=h2' k v hk
      obtain⟨y2,hy2⟩:=hcell v ⟨k,hk⟩
      have:=DA hRR' v y2 hy2
      rw[hy']at this;cases this
      exact⟨_,hy2,hone,harr⟩
    have hfr:∀blk,blk<w.heap.size->blk≠i.i2->w'.heap[blk]? = w.heap[blk]? := λblk hb hne=>hrel'.Z blk (by rintro(h | h);exact hne h;omega)
    have hrelw:EN C R U w':=J.frame (λblk hb hor=>by
      refine hfr blk hb ?_
      rcases hor with ⟨k,b,j,hk,hj,rfl⟩|hno
      · exact G.apart m i hB k b j hk hj
      · intro he';exact hno (he' ▸ hOi)) hrel'.size hrel'.os hrel'.tape hrel'.output
    refine hV .i5 _ U rfl R w' x (Le.refl _) (λ_ _ _=>rfl) (AL _) ⟨hrelw,⟨λm' i' hm'=>?_,G.inj,G.apart⟩⟩ (.inl ⟨rfl,by rw[ho];rfl⟩)
    obtain⟨hO',l2,hl2,hok2⟩:=G.X m' i' hm'
    refine⟨hO',?_⟩
    by_cases hmm:m=m'
    · subst hmm
      rw[hB]at hm';cases hm'
      exact⟨_,by rw[H7 hl,if_pos rfl],hokR⟩
    · refine⟨l2,by rw[H7 hl,if_neg hmm];exact hl2,hok2.mono (Le.refl _) (hfr _ hok2.lt (λhbl=>hmm (G.inj m m' i i' hB hm' hbl.symm)))⟩
end Go.Og
namespace Go.Og
variable {P:Program}{E:EB}{D:Ac}{C:Cx}{R:DN}{U:H}{w w':World}
inductive RY(E:EB)(D:Ac)(dr:Bool)(n0:Nat):Nat->List (BO × List Nat)->St->St->Prop where
 | nil (i:Nat) (s:St):RY E D dr n0 i [] s s
 | skip (i:Nat) (o:BO) (ks:List Nat) (l:List (BO × List Nat)) (s s':St) (hw:B0 (Ee dr ks s.e) o.guard=some false)
   (h:RY E D dr n0 (i+1) l ⟨DY s.e o.dst Er,CO o.dst s.q,s.r,s.U⟩ s'):RY E D dr n0 i ((o,ks)::l) s s'
 | val (i:Nat) (o:BO) (ks:List Nat) (l:List (BO × List Nat)) (s s':St) (pw:Bool) (v:V) (r':Rg) (U':H) (hw:B0 (Ee dr ks s.e) o.guard=some true)
   (hs:Ge E D pw s.U.j (s.U.j+1) o.op (Ee dr ks s.e) (LN dr ks s.q) s.r s.U (.val v r' U'))
   (hl:o.dst=none\/v.J=true\/o.op.d8 ≠ .k) (hna:dr=true->o.op.d8 ≠ .a)
   (h:RY E D dr n0 (i+1) l ⟨DY s.e o.dst v,CO o.dst s.q,r',U'⟩ s'):RY E D dr n0 i ((o,ks)::l) s s'
 | mark (i:Nat) (o:BO) (ks:List Nat) (l:List (BO × List Nat)) (s s':St) (pw:Bool) (id nx m off:Nat) (hw:B0 (Ee dr ks s.e) o.guard=some true)
   (hs:Ge E D pw id nx o.op (Ee dr ks s.e) (LN dr ks s.q) s.r s.U (.mark m off))
   (h:RY E D dr n0 (i+1) l ⟨CO o.dst s.e,Rz (CO o.dst s.q) o.dst (m,off),s.r,s.U⟩ s'):RY E D dr n0 i ((o,ks)::l) s s'
 | ol (i:Nat) (o:BO) (ks:List Nat) (l:List (BO × List Nat)) (s s':St) (d:Nat) (el:TypeId) (z:List V) (hd:o.dst=some d) (ho:o.op = .alloc el z) (hw:B0 (Ee dr ks s.e) o.guard=some true)
   (h:RY E D dr n0 (i+1) l ⟨Bo [d] s.e,(d,(d,0))::J6 d (Bo [d] s.q),(d,z)::Bo [d] s.r,s.U⟩ s'):RY E D dr n0 i ((o,ks)::l) s s'
 | shrink (i:Nat) (l:List (BO × List Nat)) (s s':St) (e:CF) (q:Qs) (he:∀t v,look e t=some v->look s.e t=some v) (hq:∀t v,look q t=some v->look s.q t=some v)
   (h:RY E D dr n0 i l ⟨e,q,s.r,s.U⟩ s'):RY E D dr n0 i l s s'
theorem RY.append{dr n0}:∀{i}{l m:List (BO × List Nat)}{s A j},RY E D dr n0 i l s A->RY E D dr n0 (i+l.length) m A j->RY E D dr n0 i (l++m) s j:=by
 intro i l m s A j h;induction h with
 | nil i s=>intro f;simpa using f | skip i o k l s u n _ g=>intro f;exact .skip i o k _ s j n (g (by rwa [Ag,show i+(l.length+1)=i+1+l.length by omega]at f)) | val i o k l s u w v K U' n y J x _ g=>intro f;exact .val i o k _ s j w v K U' n y J x (g (by rwa [Ag,show i+(l.length+1)=i+1+l.length by omega]at f)) | mark i o k l s u w id M m off n y _ g=>intro f;exact .mark i o k _ s j w id M m off n y (g (by rwa [Ag,show i+(l.length+1)=i+1+l.length by omega]at f)) | ol i o k l s u d G z O I n _ g=>intro f;exact .ol i o k _ s j d G z O I n (g (by rwa [Ag,show i+(l.length+1)=i+1+l.length by omega]at f)) | shrink i l s u e q L F _ g=>intro f;exact .shrink i _ s j e q L F (g f)
theorem Cf{α} j (l:List (Nat × α)) t:look (Bo j l) t=if Br j t=true then none else look l t:=by
 induction l with
 | nil=>simp[Bo,look] | cons p l q=>
  have ⟨k,v⟩:=p;simp only[Bo];split
  ·rename_i n
   rw[q];by_cases i:Br j t=true
   ·rw[if_pos i,if_pos i]
   ·rw[if_neg i,if_neg i]
    have d:¬k=t:=λh=>i (h ▸ n);simp only[look,AW,d,if_false]
  ·rename_i n
   simp only[look,AW];by_cases d:k=t
   ·subst d;rw[if_pos rfl,if_neg (by rw[n];simp),if_pos rfl]
   ·rw[if_neg d,if_neg d,q]
theorem G9 d t:Br [d] t=true↔d=t:=by simp[Br]
theorem Df d l t:Br (d::l) t=true↔d=t\/Br l t=true:=by simp[Br]
theorem GH l m t:Br (l++m) t=true↔Br l t=true\/Br m t=true:=by
 induction l with
 | nil=>simp[Br] | cons a l e=>simp only[D9,Br,Cn,e,or_assoc]
theorem CU{α} d (l:List (Nat × α)) t:look (CO d l) t=if d=some t then none else look l t:=by
 cases d with
 | none=>simp[CO] | some d=>
  simp only[CO,Cf,AY.injEq];by_cases h:d=t
  ·rw[if_pos ((G9 d t).2 h),if_pos h]
  ·rw[if_neg (λf=>h ((G9 d t).1 f)),if_neg h]
theorem Gt e d v t:look (DY e d v) t=if d=some t then some v else look e t:=by
 cases d with
 | none=>simp[DY] | some d=>
  simp only[DY,look,AW,AY.injEq]
theorem LA q d p t:look (Rz q d p) t=if d=some t then some p else look q t:=by
 cases d with
 | none=>simp[Rz] | some d=>
  simp only[Rz,look,AW,AY.injEq]
theorem KJ{l e t}(h:Br l t=true):look (restr l e) t=look e t:=by
 induction l with
 | nil=>simp[Br]at h | cons a l o=>
  simp only[Br,Cn,AW]at h;simp only[restr];cases m:look e a with
  | none=>
   by_cases c:a=t
   ·subst c
    rw[m];cases q:look (restr l e) a with
    | none=>rfl | some v=>rw[(Gs l e a v q).1]at m;cases m
   ·exact o (h.resolve_left c)
  | some u=>
   simp only[look,AW];by_cases c:a=t
   ·subst c;rw[if_pos rfl,m]
   ·rw[if_neg c];exact o (h.resolve_left c)
theorem HB j q t p (h:look (Lw j q) t=some p):look q t=some p/\Br j t=true:=by
 induction j with
 | nil=>simp[Lw,look]at h | cons a j n=>
  simp only[Lw]at h;simp only[Br,Cn,AW];cases l:look q a with
  | none=>rw[l]at h;exact(n h).imp id .inr | some u=>
   rw[l]at h;simp only[look,AW]at h;by_cases i:a=t
   ·subst i
    rw[if_pos rfl]at h;cases h;exact⟨l,.inl rfl⟩
   ·rw[if_neg i]at h
    exact(n h).imp id .inr
theorem Kz{dr c e t}(h:Br c t=true):look (Ee dr c e) t=look e t:=by
 cases dr with
 | true=>exact KJ h | false=>rfl
theorem W5{dr c e t v}(h:look (Ee dr c e) t=some v):look e t=some v:=by
 cases dr with
 | true=>exact(Gs _ _ _ _ h).1 | false=>exact h
theorem JZ{m}:∀{q t}{p:Nat × Nat},Br (Io m q) t=false->look q t=some p->p.1≠m
 | [],t,p,_,h=>by simp[look]at h
 | (k,b)::q,t,p,g,h=>by
  simp only[Io]at g;simp only[look,AW]at h;split at g
  ·rename_i v
   have u:¬k=t:=by
    intro l;subst l;simp[Br]at g
   rw[if_neg u]at h;have s:Br (Io m q) t=false:=by
    cases x:Br (Io m q) t with
    | false=>rfl | true=>rw[(Df k _ t).2 (.inr x)]at g;cases g
   exact JZ s h
  ·rename_i v
   by_cases w:k=t
   ·rw[if_pos w]at h;cases h
    intro l;rw[<-AW,v]at l;cases l
   ·rw[if_neg w]at h;exact JZ g h
theorem KI m q t (p:Nat × Nat)(h:look (J6 m q) t=some p):p.1≠m/\look q t=some p:=by
 unfold J6 at h;rw[Cf]at h;split at h
 ·cases h
 ·rename_i i
  have d:Br (Io m q) t=false:=by simpa using i
  exact⟨JZ d h,h⟩
theorem NN{dr a}{e:CF}{t b c}(g:Br a t=true)(h:look e t=some (.bool c)):B0 (Ee dr a e) (some (t,b))=some (c==b):=by
 simp only[B0,Gu,Kz g,h]
theorem MZ{dr a}{e:CF}{t b}(f:Br a t=true)(h:look e t=some Er):B0 (Ee dr a e) (some (t,b))=some false:=by
 simp only[B0,Gu,Kz f,h,Er]
theorem HH:∀(l:XL) g,(l.pm g).length=l.size/\l.lks.length=l.size
 | .nil,g=>⟨rfl,rfl⟩ | .op _ _ _ _ r,g=>by have ⟨h1,c⟩:=HH r g;simp[XL.pm,XL.lks,XL.size,h1,c]
 | .ol _ _ _ _ r,g=>by have ⟨h1,c⟩:=HH r g;simp[XL.pm,XL.lks,XL.size,h1,c]
 | .grp t b l _ _ _ _ _ r,g=>by
  have ⟨h1,c⟩:=HH r g;have ⟨d,e⟩:=HH l (some (t,b));simp[XL.pm,XL.lks,XL.size,h1,c,d,e]
theorem fB(l:XL) g x k (m:List BO) n:
  (l.pm g++x::m).zip (l.lks++k::n)=(l.pm g).zip l.lks++(x,k)::m.zip n:=by
 have ⟨h1,c⟩:=HH l g;rw[List.zip_append (by omega)];rfl
theorem Th(l:XL) g:((l.pm g).zip l.lks).length=l.size:=by
 have ⟨h1,b⟩:=HH l g;simp[h1,b]
theorem KA {dr n0}:∀(l:XL) K t b i (s:St),l.okG (some K) (some t)=true ->
    (look s.e t=some Er\/∃c,look s.e t=some (.bool c)/\(c==b)=false)->Br l.ce t=false->(∀u,Br K u=true->look s.e u=some Er) ->
    ∃C,RY E D dr n0 i ((l.pm (some (t,b))).zip l.lks) s C/\C.r=s.r/\C.U=s.U/\(∀u,Br l.ce u=false->look C.e u=look s.e u/\look C.q u=look s.q u) /\
      (∀u,Br l.ce u=true->look C.e u=some Er)
  | .nil,K,t,b,i,s,A,B,I,F=>⟨s,.nil i s,rfl,rfl,λ_ _=>⟨rfl,rfl⟩,λu q=>by simp[XL.ce,Br]at q⟩ | .ol _ _ _ _ r,K,t,b,i,s,A,B,I,F=>by simp[XL.okG]at A
  | .op d ty R o r,K,t,b,i,s,A,B,I,F=>by
    simp only[XL.okG,AQ]at A;have ⟨⟨_,w⟩,N⟩:=A;have w:=w;have Y:B0 (Ee dr R s.e) (some (t,b))=some false:=by
      rcases B with B|⟨c,B,Z⟩
      · exact MZ w B
      · rw[NN w B,Z]
    cases d with
    | none=>
      have N:=N;have ⟨C,h1,W,S,M,Q⟩:=KA (dr:=dr) (n0:=n0) r K t b (i+1) s N B I F;exact⟨C,.skip i ⟨none,o,some (t,b)⟩ R _ s C Y h1,W,S,M,Q⟩
    | some d=>
      have N:=N;simp only[XL.ce]at I;have U:d≠t/\Br r.ce t=false:=by
        simp only[Br,CX]at I;exact⟨(by intro h;rw[<-AW,I.1]at h;cases h),I.2⟩
      have p:∀u,look (DY s.e (some d) Er) u=if d=u then some Er else look s.e u:=λu=>by rw[Gt];simp
      have ⟨C,h1,W,S,M,Q⟩:=KA (dr:=dr) (n0:=n0) r (d::K) t b (i+1) ⟨DY s.e (some d) Er,CO (some d) s.q,s.r,s.U⟩ N
        (by simp only[p,if_neg U.1];exact B) U.2 (λu q=>by
          simp only[p];rcases(Df d K u).1 q with h|h
          · rw[if_pos h]
          · by_cases k:d=u
            · rw[if_pos k]
            · rw[if_neg k];exact F u h)
      refine⟨C,.skip i ⟨some d,o,some (t,b)⟩ R _ s C Y h1,W,S,λu q=>?_,λu q=>?_⟩
      · simp only[XL.ce,Br,CX]at q
        have k:¬d=u:=by intro h;rw[<-AW,q.1]at h;cases h
        have ⟨h6,h7⟩:=M u q.2;refine⟨by rw[h6];simp only[p,if_neg k],by rw[h7,CU];simp[k]⟩
      · simp only[XL.ce]at q
        cases z:Br r.ce u with
        | true=>exact Q u z | false=>
          rcases(Df d r.ce u).1 q with h|h
          · rw[(M u z).1];simp only[p,if_pos h]
          · rw[z]at h;cases h
  | .grp t2 b2 l d R c x y r,K,t,b,i,s,A,B,I,F=>by
    simp only[XL.okG,AQ,Dv]at A;have ⟨⟨⟨⟨⟨⟨w,_⟩,aa⟩,_⟩,X⟩,hl⟩,N⟩:=A;have w:=w;simp only[XL.ce]at I;have P:Br l.ce t=false/\d≠t/\Br r.ce t=false:=by
      have L:¬(Br (l.ce++d::r.ce) t=true):=by rw[I];simp
      rw[GH,Df]at L;refine⟨?_,λh=>L (.inr (.inl h)),?_⟩
      · cases h:Br l.ce t with
        | false=>rfl | true=>exact(L (.inl h)).elim
      · cases h:Br r.ce t with
        | false=>rfl | true=>exact(L (.inr (.inr h))).elim
    have ⟨J,h1,W,S,M,Q⟩:=KA (dr:=dr) (n0:=n0) l [] t2 b2 i s hl (.inl (F t2 X)) aa (λu q=>by simp[Br]at q);have T:look J.e t=some Er\/∃c,look J.e t=some (.bool c)/\(c==b)=false:=by rw[(M t P.1).1];exact B
    have Y:B0 (Ee dr R J.e) (some (t,b))=some false:=by
      rcases T with B|⟨c,B,Z⟩
      · exact MZ w B
      · rw[NN w B,Z]
    have p:∀u,look (DY J.e (some d) Er) u=if d=u then some Er else look J.e u:=λu=>by rw[Gt];simp
    have ⟨C,g1,g2,g3,g4,g5⟩:=KA (dr:=dr) (n0:=n0) r (d::l.ce++K) t b (i+l.size+1) ⟨DY J.e (some d) Er,CO (some d) J.q,J.r,J.U⟩ N
      (by simp only[p,if_neg P.2.1];exact T) P.2.2 (λu q=>by
        simp only[p];by_cases k:d=u
        · rw[if_pos k]
        · rw[if_neg k]
          rw[D9]at q;rcases(Df d _ u).1 q with h|h
          · exact(k h).elim
          · cases G:Br l.ce u with
            | true=>exact Q u G | false=>
              rcases(GH _ _ u).1 h with h|h
              · rw[G]at h;cases h
              · rw[(M u G).1];exact F u h)
    refine⟨C,?_,by rw[g2];exact W,by rw[g3];exact S,λu q=>?_,λu q=>?_⟩
    · simp only[XL.pm,XL.lks]
      rw[fB];refine h1.append ?_;rw[Th];exact .skip _ ⟨some d,.pick c x y,some (t,b)⟩ R _ J C Y g1
    · simp only[XL.ce]at q
      have L:¬(Br (l.ce++d::r.ce) u=true):=by rw[q];simp
      rw[GH,Df]at L;have G:Br l.ce u=false:=by
        cases h:Br l.ce u with
        | false=>rfl | true=>exact(L (.inl h)).elim
      have z:Br r.ce u=false:=by
        cases h:Br r.ce u with
        | false=>rfl | true=>exact(L (.inr (.inr h))).elim
      have k:=λh=>L (.inr (.inl h));have ⟨k1,k2⟩:=g4 u z;have ⟨k3,k4⟩:=M u G;refine⟨by rw[k1];simp only[p,if_neg k];exact k3,by rw[k2,CU];simp only[AY.injEq,if_neg k];exact k4⟩
    · simp only[XL.ce]at q
      cases z:Br r.ce u with
      | true=>exact g5 u z | false=>
        rw[(g4 u z).1];simp only[p];by_cases k:d=u
        · rw[if_pos k]
        · rw[if_neg k]
          rcases(GH _ _ u).1 q with h|h
          · exact Q u h
          · rcases(Df d _ u).1 h with h | h
            · exact(k h).elim
            · rw[z]at h;cases h
end Go.Og
namespace Go.Og
variable {E:EB}{D:Ac}
def Gd(g:Option (Nat × Bool))(a:Option Nat)(e:CF)(c:List Nat):Prop:=
 (g=none/\a=none)\/∃t b,g=some (t,b)/\a=some t/\look e t=some (.bool b)/\Br c t=false
theorem Gd.wanted{g f e j}(h:Gd g f e j){dr d}(i:yZ f d=true):B0 (Ee dr d e) g=some true:=by
 rcases h with ⟨rfl,rfl⟩|⟨t,b,rfl,rfl,k,_⟩
 ·rfl
 ·rw[NN i k];simp
theorem Gd.j{g j}{e e':CF}{f c}(h:Gd g j e f)(m:∀t,Br f t=false->Br c t=false)(k:∀t,Br f t=false->look e' t=look e t):Gd g j e' c:=by
 rcases h with ⟨rfl,rfl⟩|⟨t,b,rfl,rfl,l,i⟩
 ·exact .inl ⟨rfl,rfl⟩
 ·exact .inr ⟨t,b,rfl,rfl,by rw[k t i];exact l,m t i⟩
theorem yX{id g o e q r d U U' v}(h:Ge E D false id g o e q r U (.val v d U')):d=r:=by
 cases h<;>first | rfl | (rename_i f _ _ _ _ _ _ _ _ _ _;cases f)
theorem Gq{b t}:Br b t=false↔¬Br b t=true:=by cases Br b t<;>simp
theorem FA{d l t}(h:Br (d::l) t=false):d≠t/\Br l t=false:=by
 rw[Gq,Df]at h;exact⟨λb=>h (.inl b),Gq.2 λb=>h (.inr b)⟩
theorem Ml{l m t}(h:Br (l++m) t=false):Br l t=false/\Br m t=false:=by
 rw[Gq,GH]at h;exact⟨Gq.2 λb=>h (.inl b),Gq.2 λb=>h (.inr b)⟩
theorem gM{d ty i}{o:Ek}{r:XL}(h:(XL.op d ty i o r).makes=false):o.d8 ≠ .a/\r.makes=false:=by
 simp only[XL.makes]at h;split at h
 ·cases h
 ·rename_i j;exact⟨j,h⟩
theorem ZU{t b}{l:XL}{d f c x y}{r:XL}(h:(XL.grp t b l d f c x y r).makes=false):l.makes=false/\r.makes=false:=by
 simpa only [XL.makes,CX]using h
theorem XH{d}{ty:Cc}{o:Ek}(h:okD (some d) ty o=true):(∀n x y,o = .store n x y->False)/\(o.d8 = .k->ty.known=true):=by
 constructor
 ·rintro n x y rfl;cases h
 ·intro k
  cases o<;>(first | (cases k;done) | (cases h;done) | exact h | (rename_i t x;cases t<;>cases k))
theorem ID {dr n0}:∀(l:XL) ds gt g pw i (s:St) J (res:V × H),
  JG E D dr pw n0 l i s.e s.q s.r s.U J=some res->l.okG ds gt=true->Gd g gt s.e l.ce->(dr=true->l.makes=false) ->
  ∃B,RY E D dr n0 i ((l.pm g).zip l.lks) s B/\J B.e B.q B.r B.U=some res/\(pw=false->B.r=s.r) /\
   (∀u,Br l.ce u=false->look B.e u=look s.e u)/\(pw=false->∀u,Br l.ce u=false->look B.q u=look s.q u)
 | .nil,ds,gt,g,pw,i,s,J,res,h,hok,hg,hmk=>⟨s,.nil i s,h,λ_=>rfl,λ_ _=>rfl,λ_ _ _=>rfl⟩ | .op d ty ks o r,ds,gt,g,pw,i,s,J,res,h,hok,hg,hmk=>by
  rw[zk]at h;simp only[XL.okG,AQ]at hok;have ⟨⟨hkd,hks⟩,hr⟩:=hok;have hr':∃ds',r.okG ds' gt=true:=by
   split at hr
   ·exact⟨_,hr⟩
   ·exact⟨_,hr⟩
  have ⟨ds',hr'⟩:=hr';have hw:=hg.wanted (dr:=dr) hks;have j:∀t,Br (XL.op d ty ks o r).ce t=false->d≠some t/\Br r.ce t=false:=by
   intro t ht;cases d with
   | none=>exact⟨by simp,ht⟩ | some d=>have ⟨h1,h2⟩:=FA ht;exact⟨by simpa using h1,h2⟩
  have ⟨out,hs,hout⟩:=ph h;cases out with
  | val v r' U'=>
   have ⟨hk,hlv⟩:=hout;have G:∀t,Br (XL.op d ty ks o r).ce t=false->look (DY s.e d v) t=look s.e t:=λt ht=>by
    rw[Gt,if_neg (j t ht).1]
   have ⟨B,h1,h2,h3,h4,h5⟩:=ID r ds' gt g pw (i+1) ⟨DY s.e d v,CO d s.q,r',U'⟩ J res hk hr'
    (hg.j (λt ht=>(j t ht).2) G) (λhd=>(gM (hmk hd)).2)
   refine⟨B,.val i ⟨d,o,g⟩ ks _ s B pw v r' U' hw hs ?_ (λhd=>(gM (hmk hd)).1) h1,h2,λhpw=>?_,λu A=>?_,λhpw u A=>?_⟩
   ·cases d with
    | none=>exact .inl rfl | some d=>
     right;rcases hlv with ⟨n,x,y,rfl⟩|hlv|hlv|hlv
     ·exact((XH hkd).1 _ _ _ rfl).elim
     ·exact .inr hlv
     ·right
      intro hc;have:=(XH hkd).2 hc;rw[hlv]at this;cases this
     ·exact .inl hlv
   ·subst hpw;rw[h3 rfl];exact yX hs
   ·rw[h4 u (j u A).2];exact G u A
   ·rw[h5 hpw u (j u A).2]
    show look (CO d s.q) u=_;rw[CU,if_neg (j u A).1]
  | mark m off=>
   have G:∀t,Br (XL.op d ty ks o r).ce t=false->look (CO d s.e) t=look s.e t:=λt ht=>by
    rw[CU,if_neg (j t ht).1]
   have ⟨B,h1,h2,h3,h4,h5⟩:=ID r ds' gt g pw (i+1) ⟨CO d s.e,Rz (CO d s.q) d (m,off),s.r,s.U⟩ J res hout hr'
    (hg.j (λt ht=>(j t ht).2) G) (λhd=>(gM (hmk hd)).2)
   refine⟨B,.mark i ⟨d,o,g⟩ ks _ s B pw _ _ m off hw hs h1,h2,h3,λu A=>?_,λhpw u A=>?_⟩
   ·rw[h4 u (j u A).2];exact G u A
   ·rw[h5 hpw u (j u A).2]
    show look (Rz (CO d s.q) d (m,off)) u=_;rw[LA,if_neg (j u A).1,CU,if_neg (j u A).1]
 | .ol d ks el z r,ds,gt,g,pw,i,s,J,res,h,hok,hg,hmk=>by
  cases pw with
  | false=>rw[lq]at h;cases h | true=>
   rw[qf]at h;simp only[XL.okG,AQ]at hok;have ⟨hks,hr⟩:=hok;have hr':r.okG none gt=true:=by
    split at hr
    ·cases hr
    ·exact hr
   have hw:=hg.wanted (dr:=dr) hks;have G:∀t,Br (XL.ol d ks el z r).ce t=false->look (Bo [d] s.e) t=look s.e t:=λt ht=>by
    have:=(FA ht).1;rw[Cf,if_neg (λhh=>this ((G9 d t).1 hh))]
   have ⟨B,h1,h2,h3,h4,h5⟩:=ID r none gt g true (i+1) ⟨Bo [d] s.e,(d,(d,0))::J6 d (Bo [d] s.q),(d,z)::Bo [d] s.r,s.U⟩ J res h hr'
    (hg.j (λt ht=>(FA ht).2) G) hmk
   refine⟨B,.ol i ⟨some d,.alloc el z,g⟩ ks _ s B d el z rfl rfl hw h1,h2,(λhpw=>by cases hpw),λu A=>?_,(λhpw=>by cases hpw)⟩;rw[h4 u (FA A).2];exact G u A
 | .grp t b l d ks c x y r,ds,gt,g,pw,i,s,J,res,h,hok,hg,hmk=>by
  rw[qg]at h;simp only[XL.okG,AQ,Dv]at hok;have ⟨⟨⟨⟨⟨⟨hks,hkt⟩,hlt⟩,hpk⟩,_⟩,hl⟩,hr⟩:=hok;have hr':∃ds',r.okG ds' gt=true:=by
   split at hr
   ·exact⟨_,hr⟩
   ·exact⟨_,hr⟩
  have ⟨ds',hr'⟩:=hr';have j:∀u,Br (XL.grp t b l d ks c x y r).ce u=false->Br l.ce u=false/\d≠u/\Br r.ce u=false:=by
   intro u A;have ⟨h1,h2⟩:=Ml A;obtain⟨h3,h4⟩:=FA h2;exact⟨h1,h3,h4⟩
  unfold pY at hpk;simp only[AQ]at hpk;obtain⟨hct,hother⟩:=hpk;have hct:c = .tmp t:=by
   cases c with
   | T v=>cases hct | tmp u=>simp only[AW]at hct;rw[hct]
  subst hct;obtain⟨v,hv,_,h⟩:=Ah h;obtain⟨cb,rfl,h9⟩:=GF h;replace h:=h9;have hte:look s.e t=some (.bool cb):=by
   simp only[Ca,Gu]at hv;cases hq:look (Ee dr [t] s.e) t with
   | none=>rw[hq]at hv;cases hv | some u=>rw[hq]at hv;simp only at hv;subst hv;exact W5 hq
  have fin:∀(s1:St) (vb:Bool),RY E D dr n0 i ((l.pm (some (t,b))).zip l.lks) s s1->s1.r=s.r->(∀u,Br l.ce u=false->look s1.e u=look s.e u)->(∀u,Br l.ce u=false->look s1.q u=look s.q u) ->
    Bb (.pick (.tmp t) x y) (Ee dr ks s1.e)=some (.bool vb) ->
    JG E D dr pw n0 r (i+l.size+1) ((d,.bool vb)::Bo (d::l.ce) s.e) (Bo (d::l.ce) s.q) s.r s1.U J=some res ->
    ∃B,RY E D dr n0 i (((XL.grp t b l d ks (.tmp t) x y r).pm g).zip (XL.grp t b l d ks (.tmp t) x y r).lks) s B/\J B.e B.q B.r B.U=some res/\(pw=false->B.r=s.r) /\
     (∀u,Br (XL.grp t b l d ks (.tmp t) x y r).ce u=false->look B.e u=look s.e u)/\(pw=false->∀u,Br (XL.grp t b l d ks (.tmp t) x y r).ce u=false->look B.q u=look s.q u):=by
   intro s1 vb hrun hr1 he1 hq1 hp hrest;have G:∀u,d≠u->Br l.ce u=false->look ((d,V.bool vb)::Bo (d::l.ce) s.e) u=look s.e u:=by
    intro u h1 h2;simp only[look,AW,h1,if_false];rw[Cf,if_neg (λhh=>by rcases(Df d _ u).1 hh with hh | hh;exact h1 hh;rw[h2]at hh;cases hh)]
   obtain⟨B,h1,h2,h3,h4,h5⟩:=ID r ds' gt g pw (i+l.size+1) ⟨(d,.bool vb)::Bo (d::l.ce) s.e,Bo (d::l.ce) s.q,s.r,s1.U⟩ J res hrest hr'
    (hg.j (λu A=>(j u A).2.2) (λu A=>G u (j u A).2.1 (j u A).1)) (λhd=>(ZU (hmk hd)).2)
   have hg1:Gd g gt s1.e (XL.grp t b l d ks (.tmp t) x y r).ce:=hg.j (λ_ A=>A) (λu A=>he1 u (j u A).1);refine⟨B,?_,h2,h3,λu A=>?_,λhpw u A=>?_⟩
   ·simp only[XL.pm,XL.lks]
    rw[fB];refine hrun.append ?_;rw[Th];refine .val _ ⟨some d,.pick (.tmp t) x y,g⟩ ks _ s1 B true (.bool vb) s1.r s1.U (hg1.wanted hks) (.p _ rfl λ_=>hp) (.inr (.inl rfl)) (λ_ h=>by cases h) ?_;refine .shrink _ _ _ B ((d,.bool vb)::Bo (d::l.ce) s.e) (Bo (d::l.ce) s.q) (λu w A=>?_) (λu w A=>?_) (by rw[hr1];exact h1)
    ·simp only[look,AW]at A
     rw[Gt];by_cases hdu:d=u
     ·rw[if_pos hdu]at A;rw[if_pos (by rw[hdu])];exact A
     ·rw[if_neg hdu,Cf]at A
      rw[if_neg (by simpa using hdu)];split at A
      ·cases A
      ·rename_i hm
       rw[he1 u (Gq.2 λhh=>hm ((Df d _ u).2 (.inr hh)))];exact A
    ·rw[Cf]at A
     split at A
     ·cases A
     ·rename_i hm
      show look (CO (some d) s1.q) u=some w;rw[CU,if_neg (λhh=>hm ((Df d _ u).2 (.inl (by simpa using hh)))),hq1 u (Gq.2 λhh=>hm ((Df d _ u).2 (.inr hh)))];exact A
   ·rw[h4 u (j u A).2.2];exact G u (j u A).2.1 (j u A).1
   ·rw[h5 hpw u (j u A).2.2]
    show look (Bo (d::l.ce) s.q) u=_;rw[Cf,if_neg (λhh=>by rcases(Df d _ u).1 hh with hh | hh;exact(j u A).2.1 hh;rw[(j u A).1]at hh;cases hh)]
  have taken:cb=b->∀(z:AO),(∀e,Ca e (.tmp t) = .bool cb->∀vb,Ca e z = .bool vb->Bb (.pick (.tmp t) x y) e=some (.bool vb)) ->
    (JG E D dr false n0 l i s.e s.q s.r s.U λe' _ _ U'=>Cg (Ee dr ks e') z λv=>DB v λv=>
     JG E D dr pw n0 r (i+l.size+1) ((d,.bool v)::Bo (d::l.ce) s.e) (Bo (d::l.ce) s.q) s.r U' J)=some res ->
    ∃B,RY E D dr n0 i (((XL.grp t b l d ks (.tmp t) x y r).pm g).zip (XL.grp t b l d ks (.tmp t) x y r).lks) s B/\J B.e B.q B.r B.U=some res/\(pw=false->B.r=s.r) /\
     (∀u,Br (XL.grp t b l d ks (.tmp t) x y r).ce u=false->look B.e u=look s.e u)/\(pw=false->∀u,Br (XL.grp t b l d ks (.tmp t) x y r).ce u=false->look B.q u=look s.q u):=by
   intro hcb z hz hh;subst hcb;obtain⟨s1,h1,h2,h3,h4,h5⟩:=ID l (some []) (some t) (some (t,cb)) false i s _ res hh hl (.inr ⟨t,cb,rfl,rfl,hte,hlt⟩) (λhd=>(ZU (hmk hd)).1);obtain⟨v,hv,_,h2⟩:=Ah h2;obtain⟨vb,rfl,h9⟩:=GF h2;replace h2:=h9;refine fin s1 vb h1 (h3 rfl) h4 (h5 rfl) (hz _ ?_ vb hv) h2;simp only[Ca,Gu,Kz hkt,h4 t hlt,hte]
  have left:(cb==b)=false->∀(z:AO),(match z with | .tmp u=>!Br l.ce u | .T _=>true)=true->(∀e,Ca e (.tmp t) = .bool cb->∀vb,Ca e z = .bool vb->Bb (.pick (.tmp t) x y) e=some (.bool vb)) ->
    (Cg (Ee dr ks s.e) z λv=>DB v λv=>
     JG E D dr pw n0 r (i+l.size+1) ((d,.bool v)::Bo (d::l.ce) s.e) (Bo (d::l.ce) s.q) s.r s.U J)=some res ->
    ∃B,RY E D dr n0 i (((XL.grp t b l d ks (.tmp t) x y r).pm g).zip (XL.grp t b l d ks (.tmp t) x y r).lks) s B/\J B.e B.q B.r B.U=some res/\(pw=false->B.r=s.r) /\
     (∀u,Br (XL.grp t b l d ks (.tmp t) x y r).ce u=false->look B.e u=look s.e u)/\(pw=false->∀u,Br (XL.grp t b l d ks (.tmp t) x y r).ce u=false->look B.q u=look s.q u):=by
   intro hcb z hz0 hz h;obtain⟨s1,h1,h2,h3,h4,_⟩:=KA (E:=E) (D:=D) (dr:=dr) (n0:=n0) l [] t b i s hl (.inr ⟨cb,hte,hcb⟩) hlt (λu A=>by simp[Br]at A);obtain⟨v,hv,_,h5⟩:=Ah h;obtain⟨vb,rfl,h9⟩:=GF h5;replace h5:=h9;refine fin s1 vb h1 h2 (λu A=>(h4 u A).1) (λu A=>(h4 u A).2) (hz _ ?_ vb ?_) (by rw[h3];exact h5)
   ·simp only[Ca,Gu,Kz hkt,(h4 t hlt).1,hte]
   ·cases z with
    | T v=>exact hv | tmp u=>
     simp only[Dv]at hz0;simp only[Ca,Gu]at hv ⊢;cases hq:look (Ee dr ks s.e) u with
     | none=>rw[hq]at hv;cases hv | some u2=>
      rw[hq]at hv;have hq1:look (Ee dr ks s1.e) u=some u2:=by
       cases dr with
       | true=>
        obtain⟨h6,h7⟩:=Gs _ _ _ _ hq;show look (restr ks s1.e) u=_;rw[KJ h7,(h4 u hz0).1];exact h6
       | false=>
        show look s1.e u=_;rw[(h4 u hz0).1];exact hq
      rw[hq1];exact hv
  have hpt:∀e,Ca e (.tmp t) = .bool true->∀vb,Ca e x = .bool vb->Bb (.pick (.tmp t) x y) e=some (.bool vb):=by
   intro e h1 vb h2;simp only[Bb,h1,h2,V.J,if_true]
  have hpf:∀e,Ca e (.tmp t) = .bool false->∀vb,Ca e y = .bool vb->Bb (.pick (.tmp t) x y) e=some (.bool vb):=by
   intro e h1 vb h2;simp only[Bb,h1,h2,V.J,if_true]
  unfold Ax at h;cases b with
  | true=>
   simp only at h hother;cases cb with
   | true=>exact taken rfl x hpt h | false=>exact left rfl y hother hpf h
  | false=>
   simp only at h hother;cases cb with
   | true=>exact left rfl x hother hpt h | false=>exact taken rfl y hpf h
end Go.Og
namespace Go.Og
variable {P:Program}{D:Ac}{C:Cx}{R:DN}{U:H}{w w':World}
theorem Hl.put{e}{a:Act}(h:Hl R e a.tmps){c}(q:Gi a.tmps.size c=true){v x}(r:c=none\/Av R v=some x):Hl R (DY e c v) (a.put c x).tmps:=by
 cases c with
 | none=>exact h | some d=>
  simp only[Gi,Co]at q;refine⟨λk u m=>?_⟩;rw[Gt]at m;simp only[Act.put,BT];by_cases f:d=k
  ·rw[if_pos (by rw[f])]at m
   cases m;rw[if_pos f,if_pos q];exact⟨x,rfl,r.resolve_left (by simp)⟩
  ·rw[if_neg (by simpa using f)]at m
   rw[if_neg f];exact h.X k u m
theorem Hl.del{e}{a:Act}(h:Hl R e a.tmps) g x:Hl R (CO g e) (a.put g x).tmps:=by
 refine⟨λk u j=>?_⟩;rw[CU]at j;split at j
 ·cases j
 ·rename_i n
  have ⟨y,h1,r⟩:=h.X k u j;refine⟨y,?_,r⟩;cases g with
  | none=>exact h1 | some d=>
   simp only[Act.put,BT];rw[if_neg (by simpa using n)];exact h1
theorem VZ.del{B q}{a:Act}(h:VZ B q a.tmps) f x:VZ B (CO f q) (a.put f x).tmps:=by
 refine⟨λk m off j=>?_⟩;rw[CU]at j;split at j
 ·cases j
 ·rename_i o
  have ⟨i,h1,r⟩:=h.X k m off j;refine⟨i,h1,?_⟩;cases f with
  | none=>exact r | some d=>
   simp only[Act.put,BT];rw[if_neg (by simpa using o)];exact r
theorem VZ.mark{B q}{a:Act}(h:VZ B q a.tmps){b}(p:Gi a.tmps.size b=true){m off}{i:BI}(t:B m=some i):
  VZ B (Rz (CO b q) b (m,off)) (a.put b (.pointer (some ⟨i.i2,i.shift+off,none⟩))).tmps:=by
 refine⟨λk m' f g=>?_⟩;rw[LA]at g;by_cases d:b=some k
 ·rw[if_pos d]at g
  cases g;subst d;simp only[Gi,Co]at p;exact⟨i,t,by simp[Act.put,p]⟩
 ·rw[if_neg d]at g
  exact(h.del b _).X k m' f g
theorem Hl.sub{e e':CF}{a}(h:Hl R e a)(c:∀t v,look e' t=some v->look e t=some v):Hl R e' a:=
 ⟨λk v b=>h.X k v (c k v b)⟩
theorem VZ.sub{B}{q b:Qs}{a}(h:VZ B q a)(c:∀t v,look b t=some v->look q t=some v):VZ B b a:=
 ⟨λk m off d=>h.X k m off (c k _ d)⟩
theorem Hl.sel{e a}(h:Hl R e a) dr c:Hl R (Ee dr c e) a:=h.sub λ_ _ b=>W5 b
theorem VZ.sel{B q a}(h:VZ B q a) dr e:VZ B (LN dr e q) a:=h.sub λt v d=>by
 cases dr with
 | true=>exact(HB _ _ _ _ d).1 | false=>exact d
theorem pa{B r}(hm:Va C R B r U w){a:Act}(o:Oper){d el z}(s:Af P C.G o.op = .alloc el z)(K:Act->World->Prop)(Q:Exit->Act->World->Prop)
  (hK:∀i w',Va C R (λm=>if m=d then some i else B m) ((d,z)::Bo [d] r) U w'->K (a.put o.dst (.pointer (some ⟨i.i2,i.shift+0,none⟩))) w'):o.wp P a w K Q:=by
 have ⟨hrel,u⟩:=hm;have hg:=hrel.globOk;have ha:C1 (Af P C.G o.op) [] U.j=some (.o U.j 0,.cells z):=by rw[s];rfl
 have he0:CK R [] a.tmps:=⟨λk v hk=>by simp[look]at hk⟩;have ⟨x,w',i,hrun,hn,hi,hx,hok⟩:=PN he0 hg o ha (hrel.kw _ (AL _)) w;have hcp:Av (I1 R U.j i) (.o U.j 0)=some (.pointer (some ⟨i.i2,i.shift+0,none⟩)):=Di (CZ _ _ _);rw[hcp]at hx;cases hx;unfold Oper.wp;rw[hrun];have hle:Le R (I1 R U.j i):=(FX R U.j i).le hrel.kw;have hzc:∃zs,BF R z=some zs:=by
  have ⟨dst,op,ty,pos,after,guard⟩:=o;simp only at s;cases op<;>simp only[Af]at s<;>(try (first | (cases s;done) | ((repeat' split at s)<;>(cases s;done))))
  ·rename_i el'
   split at s
   ·cases s
   ·rename_i z' _ hz
    simp only[Ek.alloc.injEq]at s;rw[<-s.2];unfold J5 at hz;split at hz
    ·split at hz
     ·exact⟨_,iB R hz⟩
     ·cases hz
    ·cases hz
   ·cases s
  ·rename_i fn _ _;cases fn<;>cases s
  ·rename_i r;cases r<;>cases s
  ·rename_i ok;cases ok
   ·cases s
   ·simp only at s;split at s<;>cases s
  ·rename_i c
   have ⟨callee,cargs,argTypes⟩:=c;simp only at s;split at s
   ·unfold LZ at s;(repeat' split at s)<;>cases s
   ·cases s
   ·cases s
   ·cases s
 have ⟨zs,hzs⟩:=hzc;have hokR:Ff R i (.cells z) w':=by
  have ⟨arr,el',lo,hi',h1,h2,h3,h4,h5⟩:=hok;refine⟨arr,el',lo,hi',h1,λk v hk=>?_,h3,h4,h5⟩;have ⟨y,hy,hone,harr⟩:=h2 k v hk;have ⟨y2,hy2,_⟩:=Eu hzs hk;have:=DA hle v y2 hy2;rw[hy]at this;cases this;exact⟨_,hy2,hone,harr⟩
 have hO:C.O i.i2:=by rw[hi];exact hrel.new _ hrel.size
 have hrelw:EN C R U w':=hrel.frame (λblk hb _=>hn.old blk hb) (by rw[hn.size];omega) hn.os hn.tape hn.output;refine hK i w' ⟨hrelw,⟨λm j hm=>?_,λm m' j j' hm hm' hbl=>?_,λm j hm k b j' hk hj' hbl=>?_⟩⟩
 ·by_cases q:m=d
  ·subst q
   rw[if_pos rfl]at hm;cases hm;exact⟨hO,z,by simp[look],hokR⟩
  ·rw[if_neg q]at hm
   have ⟨hO',l,hl,hok'⟩:=u.X m j hm;refine⟨hO',l,?_,hok'.mono (Le.refl _) (hn.old _ hok'.lt)⟩;simp only[look,AW];rw[if_neg (Ne.symm q),Cf,if_neg (λh=>q ((G9 d m).1 h).symm)];exact hl
 ·by_cases q:m=d
  ·by_cases hmd':m'=d
   ·rw[q,hmd']
   ·exfalso
    rw[if_pos q]at hm;rw[if_neg hmd']at hm';cases hm;have:=u.lt hm';omega
  ·by_cases hmd':m'=d
   ·exfalso
    rw[if_neg q]at hm;rw[if_pos hmd']at hm';cases hm';have:=u.lt hm;omega
   ·rw[if_neg q]at hm;rw[if_neg hmd']at hm'
    exact u.inj m m' j j' hm hm' hbl
 ·by_cases q:m=d
  ·rw[if_pos q]at hm;cases hm
   have ⟨j2,hj2,_,hok2⟩:=hrel.own k b hk;rw[hj']at hj2;cases hj2;have:=hok2.lt;omega
  ·rw[if_neg q]at hm
   exact u.apart m j hm k b j' hk hj' hbl
def O9(C:Cx)(b:Nat)(d:DN)(c:Nat)(s:St)(a:Act)(w:World):Prop:=
 ∃R B,HU b d R/\b<=s.U.j/\Va C R B s.r s.U w/\Hl R s.e a.tmps/\VZ B s.q a.tmps/\c<=a.tmps.size/\a.defers=[]
theorem VZ.ol{B q}{a:Act}(h:VZ B q a.tmps){d}(t:Gi a.tmps.size (some d)=true)(i:BI):
  VZ (λm=>if m=d then some i else B m) ((d,(d,0))::J6 d (Bo [d] q)) (a.put (some d) (.pointer (some ⟨i.i2,i.shift+0,none⟩))).tmps:=by
 refine⟨λk m off o=>?_⟩;simp only[look,AW]at o;simp only[Gi,Co]at t;by_cases c:d=k
 ·rw[if_pos c]at o
  cases o;exact⟨i,by simp,by simp[Act.put,c,c ▸ t]⟩
 ·rw[if_neg c]at o
  have ⟨h1,p⟩:=KI _ _ _ _ o;rw[Cf]at p;split at p
  ·cases p
  ·have ⟨j,v,u⟩:=h.X k m off p
   refine⟨j,by rw[if_neg h1];exact v,?_⟩;simp only[Act.put,BT];rw[if_neg c];exact u
theorem yb(hD:∀f,Cr P C.E C.G f (D f)){nR R0 nt n0 ops Q}:
  ∀{i}{Z:List (BO × List Nat)}{s s':St},RY C.E D false n0 i Z s s'->∀(l:List Oper) a w,l.map (BN P C.G nt ops)=Z.map Prod.fst->O9 C nR R0 nt s a w ->
   (∀a' w',O9 C nR R0 nt s' a' w'->Q .normal a' w')->wpList P ops Q l a w:=by
 intro i Z s s' h;have S:∀(o:Oper) (l:List Oper) (ao:BO) (Z:List BO),(o::l).map (BN P C.G nt ops)=ao::Z->(∃e,∃b,B0 e ao.guard=some b/\(b=true->ao.op ≠ .pu)) ->
   ao.dst=o.dst/\ao.op=Af P C.G o.op/\Gi nt o.dst=true/\Qc ops o.guard=some ao.guard/\l.map (BN P C.G nt ops)=Z:=by
  intro o l ao Z hm ⟨e,b,M,hb⟩;simp at hm;have ⟨h1,Y⟩:=hm;unfold BN at h1;split at h1
  ·rename_i g hg hd
   subst h1;exact⟨rfl,rfl,hd,hg,Y⟩
  ·exfalso
   subst h1;simp only[B0,AY.injEq]at M;exact hb M.symm rfl
 have W:∀{pw id nx e q r U out},Fj e->¬Ge C.E D pw id nx .pu e q r U out:=by
  intro pw id nx e q r U out ae h;cases h with
  | p v hc h=>
   have:=h ae;cases this
  | l v hc h=>cases hc | a v b hc h=>cases hc | k v U1 U2 hc h hs=>cases hc | mv x m off J hm=>rcases J with J | J<;>cases J | fa d x m off J hm=>cases J | ld x m off l v J hm K h=>cases J | ldn n x m off l J hm K h=>cases J | st n x y m off l cs u M J hm K hn hu hlu hcs h1 hlen h=>cases J
 induction h with
 | nil i s=>
  intro l a w K hI hQ;cases l with
  | nil=>exact hQ a w hI | cons o l=>simp at K
 | shrink i Z s s' e q he hq _ ih=>
  intro l a w K hI hQ;have ⟨R,B,h1,Y,h3,L,h5,X,h7⟩:=hI;exact ih l a w K ⟨R,B,h1,Y,h3,L.sub he,h5.sub hq,X,h7⟩ hQ
 | skip i o O Z s s' M _ ih=>
  intro l a w K hI hQ;cases l with
  | nil=>simp at K | cons oo l=>
   have ⟨g1,g2,g3,g4,g5⟩:=S oo l o _ K ⟨_,false,M,λh=>by cases h⟩;have ⟨R,B,h1,Y,h3,L,h5,X,h7⟩:=hI;have E:=IB g3 X;unfold wpList;rw[if_neg (by rw[Dy (L.sel false O).env g4 M];simp)];refine ih l _ w g5 ⟨R,B,h1,Y,h3,?_,?_,by rw[I8];exact X,by rw[FO];exact h7⟩ hQ
   ·rw[g1];exact L.put E (.inr rfl)
   ·rw[g1];exact h5.del _ _
 | val i o O Z s s' pw v r' U' M hs hlv _ _ ih=>
  intro l a w K hI hQ;cases l with
  | nil=>simp at K | cons oo l=>
   have ⟨R,B,h1,Y,h3,L,h5,X,h7⟩:=hI;have ⟨g1,g2,g3,g4,g5⟩:=S oo l o _ K ⟨_,true,M,λ_ hb=>W (L.sel false O).J (hb ▸ hs)⟩;have E:=IB g3 X;unfold wpList;rw[if_pos (Dy (L.sel false O).env g4 M)];left;rw[g2]at hs;refine Mb hD h3 (L.sel false O) (h5.sel false O) oo (h3.rel.kw _ (AL _)) (DK _) (El _) hs _ Q (λv2 r2 U2 N R' w' x hle hk hn ac hv=>?_) (λm off N=>by cases N);cases N;have hx:=λk hk1=>hk k hk1 (by intro he;subst he;exact Dp _ hk1);refine ih l _ w' g5 ⟨R',B,h1.trans hx Y,BE Y hn,ac,?_,?_,by rw[I8];exact X,by rw[FO];exact h7⟩ hQ
   ·rw[g1]at hlv ⊢
    refine(L.mono hle).put E ?_;rcases hv with ⟨rfl,hc⟩|hv
    ·rcases hlv with h|h|h
     ·exact .inl h
     ·cases h
     ·rw[g2]at h;exact(h hc).elim
    ·exact .inr hv
   ·rw[g1];exact h5.del _ _
 | mark i o O Z s s' pw id nx m off M hs _ ih=>
  intro l a w K hI hQ;cases l with
  | nil=>simp at K | cons oo l=>
   have ⟨R,B,h1,Y,h3,L,h5,X,h7⟩:=hI;have ⟨g1,g2,g3,g4,g5⟩:=S oo l o _ K ⟨_,true,M,λ_ hb=>W (L.sel false O).J (hb ▸ hs)⟩;have E:=IB g3 X;unfold wpList;rw[if_pos (Dy (L.sel false O).env g4 M)];left;rw[g2]at hs;have hs2:Ge C.E D pw s.U.j (s.U.j+1) (Af P C.G oo.op) (Ee false O s.e) (LN false O s.q) s.r s.U (.mark m off):=by
    cases hs with
    | mv x m off J hm=>exact .mv x m off J hm | fa d x m off J hm=>exact .fa d x m off J hm
   refine Mb hD h3 (L.sel false O) (h5.sel false O) oo (h3.rel.kw _ (AL _)) (DK _) (El _) hs2 _ Q (λv2 r2 U2 N=>by cases N) (λm2 off2 N ii hB=>?_);cases N;refine ih l _ w g5 ⟨R,B,h1,Y,h3,?_,?_,by rw[I8];exact X,by rw[FO];exact h7⟩ hQ
   ·rw[g1];exact L.del _ _
   ·rw[g1];exact h5.mark E hB
 | ol i o O Z s s' d el z hd J M _ ih=>
  intro l a w K hI hQ;cases l with
  | nil=>simp at K | cons oo l=>
   have ⟨g1,g2,g3,g4,g5⟩:=S oo l o _ K ⟨_,true,M,λ_ hb=>by rw[J]at hb;cases hb⟩;have ⟨R,B,h1,Y,h3,L,h5,X,h7⟩:=hI;have E:=IB g3 X;unfold wpList;rw[if_pos (Dy (L.sel false O).env g4 M)];left;rw[g2]at J;rw[hd]at g1;refine pa h3 oo (d:=d) J _ Q (λii w' ac=>?_);rw[<-g1]at E ⊢;refine ih l _ w' g5 ⟨R,_,h1,Y,ac,?_,?_,by rw[I8];exact X,by rw[FO];exact h7⟩ hQ
   ·exact L.del (some d) _
   ·exact h5.ol E ii
end Go.Og
namespace Go.Og
variable {P:Program}{E:EB}{D:Ac}{C:Cx}{R:DN}{U:H}{w w':World}
inductive Oc where
 | val (v:V)
 | mark (m off:Nat)
 | ol (d:Nat) (z:List V)
def Jv(a b:St):Prop:=(∀t v,look a.e t=some v->look b.e t=some v)/\(∀t v,look a.q t=some v->look b.q t=some v)/\a.r=b.r/\a.U=b.U
theorem Jv.refl s:Jv s s:=⟨λ_ _ h=>h,λ_ _ h=>h,rfl,rfl⟩
inductive At(E:EB)(D:Ac)(s:St)(o:BO)(ks:List Nat):Oc->Bool->St->Prop where
 | skip (s2:St) (hw:B0 (Ee true ks s.e) o.guard=some false) (h:Jv s2 ⟨DY s.e o.dst Er,CO o.dst s.q,s.r,s.U⟩):At E D s o ks (.val Er) false s2
 | val (s2:St) (pw:Bool) (v:V) (r':Rg) (U':H) (hw:B0 (Ee true ks s.e) o.guard=some true) (hs:Ge E D pw s.U.j (s.U.j+1) o.op (Ee true ks s.e) (LN true ks s.q) s.r s.U (.val v r' U'))
   (hl:o.dst=none\/v.J=true\/o.op.d8 ≠ .k) (hna:o.op.d8 ≠ .a) (h:Jv s2 ⟨DY s.e o.dst v,CO o.dst s.q,r',U'⟩):At E D s o ks (.val v) true s2
 | mark (s2:St) (pw:Bool) (id nx m off:Nat) (hw:B0 (Ee true ks s.e) o.guard=some true) (hs:Ge E D pw id nx o.op (Ee true ks s.e) (LN true ks s.q) s.r s.U (.mark m off))
   (h:Jv s2 ⟨CO o.dst s.e,Rz (CO o.dst s.q) o.dst (m,off),s.r,s.U⟩):At E D s o ks (.mark m off) true s2
 | ol (s2:St) (d:Nat) (el:TypeId) (z:List V) (hd:o.dst=some d) (ho:o.op = .alloc el z) (hw:B0 (Ee true ks s.e) o.guard=some true)
   (h:Jv s2 ⟨Bo [d] s.e,(d,(d,0))::J6 d (Bo [d] s.q),(d,z)::Bo [d] s.r,s.U⟩):At E D s o ks (.ol d z) true s2
theorem kc{n0}:∀{i}{L:List (BO × List Nat)}{s j},RY E D true n0 i L s j ->
  ∃(a:Nat->St) (p:Nat->Oc) (r:Nat->Bool),Jv (a 0) s/\j=a L.length/\∀k o f,L[k]? = some (o,f)->At E D (a k) o f (p k) (r k) (a (k+1)):=by
 intro i L s j h;have cons:∀s O o f (l:List (BO × List Nat)) c x,(∀g,Jv g O->At E D s o f c x g) ->
   (∃(a:Nat->St) (p:Nat->Oc) (r:Nat->Bool),Jv (a 0) O/\j=a l.length/\∀k o f,l[k]? = some (o,f)->At E D (a k) o f (p k) (r k) (a (k+1))) ->
   ∃(a:Nat->St) (p:Nat->Oc) (r:Nat->Bool),Jv (a 0) s/\j=a ((o,f)::l).length/\∀k I u,((o,f)::l)[k]? = some (I,u)->At E D (a k) I u (p k) (r k) (a (k+1)):=by
  rintro s O o f l c x S ⟨a,p,r,h1,w,Q⟩;refine⟨λk=>Nat.casesOn k s a,λk=>Nat.casesOn k c p,λk=>Nat.casesOn k x r,Jv.refl s,w,λk I u C=>?_⟩;cases k with
  | zero=>
   obtain⟨rfl,rfl⟩:=C;exact S _ h1
  | succ k=>
   exact Q k I u C
 induction h with
 | nil i s=>exact⟨λ_=>s,λ_ => .val .i5,λ_=>false,Jv.refl s,rfl,λk o f C=>by simp at C⟩ | skip i o f l s j A _ n=>exact cons s _ o f l _ _ (λg B => .skip g A B) (n (cons:=cons)) | val i o f l s j M v r' U' A B hl N _ n=>exact cons s _ o f l _ _ (λg w => .val g M v r' U' A B hl (N rfl) w) (n (cons:=cons)) | mark i o f l s j M id nx m off A B _ n=>exact cons s _ o f l _ _ (λg w => .mark g M id nx m off A B w) (n (cons:=cons)) | ol i o f l s j d el z hd ho A _ n=>exact cons s _ o f l _ _ (λg w => .ol g d el z hd ho A w) (n (cons:=cons)) | shrink i l s j e q he Z _ n=>
  have ⟨a,p,r,h1,w,Q⟩:=n (cons:=cons);exact⟨a,p,r,⟨λt v R=>he t v (h1.1 t v R),λt v R=>Z t v (h1.2.1 t v R),h1.2.2.1,h1.2.2.2⟩,w,Q⟩
theorem SK{I id G o e q}{r C rL:Rg}{U' v}(h:Ge E D I id G o e q r U (.val v C U'))(B:∀x m off,GI q x=some (m,off)->look rL m=look r m):
  ∃i,Ge E D I id G o e q rL U (.val v i U')/\((C=r/\i=rL)\/∃x m off c l,GI q x=some (m,off)/\look r m=some l/\C=LO r m c/\i=LO rL m c):=by
 cases h with
 | p _ g h=>exact⟨rL,.p v g h,.inl ⟨rfl,rfl⟩⟩ | l _ g h=>exact⟨rL,.l v g h,.inl ⟨rfl,rfl⟩⟩ | a _ b g h=>exact⟨rL,.a v b g h,.inl ⟨rfl,rfl⟩⟩ | k _ U1 _ g h M=>exact⟨rL,.k v U1 U' g h M,.inl ⟨rfl,rfl⟩⟩ | ld x m off l _ t f j h=>exact⟨rL,.ld x m off l v t f (by rw[B x m off f];exact j) h,.inl ⟨rfl,rfl⟩⟩ | ldn n x m off l t f j h=>exact⟨rL,.ldn n x m off l t f (by rw[B x m off f];exact j) h,.inl ⟨rfl,rfl⟩⟩ | st n x y m off l N u L t f j J O w A h1 s h=>exact⟨_,.st n x y m off l N u L t f (by rw[B x m off f];exact j) J O w A h1 s h,.inr ⟨x,m,off,_,l,f,j,rfl,rfl⟩⟩
theorem Po{z id G}{o:Ek}{e q r w U' v}(h:Ge E D z id G o e q r U (.val v w U'))(t:o.d8 ≠ .k)(C:o.d8 ≠ .a):w=r/\U'=U:=by
 cases h with
 | p _ d h=>exact⟨rfl,rfl⟩ | l _ d h=>exact⟨rfl,rfl⟩ | a _ b d h=>exact(C d).elim | k _ U1 _ d h M=>exact(t d).elim | ld x m off l _ f s j h=>exact⟨rfl,rfl⟩ | ldn n x m off l f s j h=>exact⟨rfl,rfl⟩ | st n x y m off l K u I f s j J O F B h1 i h=>exact(t (by rw[f];rfl)).elim
theorem pz{j id l g i o e q r rL U k m off}(h:Ge E D j id l o e q r U (.mark m off)):Ge E D j g i o e q rL k (.mark m off):=by
 cases h with
 | mv x _ _ b c=>exact .mv x m off b c | fa d x _ off b c=>exact .fa d x m off b c
theorem kz{j id i o e q r m off}(h:Ge E D j id i o e q r U (.mark m off)):∃x b,GI q x=some (m,b):=by
 cases h with
 | mv x _ _ g c=>exact⟨x,off,c⟩ | fa d x _ off g c=>exact⟨x,off,c⟩
theorem JB:∀(l:XL) g,l.makes=false->∀o∈l.pm g,∀d,o.op.d8 = .a->o.dst=some d->Br l.pals d=true
 | .nil,g,h,o,e,d,k,m=>by simp[XL.pm]at e
 | .op dd ty v B r,g,h,o,e,d,k,m=>by
  have ⟨h1,q⟩:=gM h;simp only[XL.pm,A0]at e;rcases e with rfl|e
  ·exact(h1 k).elim
  ·exact JB r g q o e d k m
 | .ol dd v A z r,g,h,o,e,d,k,m=>by
  simp only[XL.pm,A0]at e;simp only[XL.pals];rw[Df];rcases e with rfl|e
  ·left;simpa using m
  ·right;exact JB r g h o e d k m
 | .grp t b l dd v c x y r,g,h,o,e,d,k,m=>by
  have ⟨h1,q⟩:=ZU h;simp only[XL.pm,CN,A0]at e;simp only[XL.pals];rw[GH];rcases e with e|rfl|e
  ·left;exact JB l _ h1 o e d k m
  ·cases k
  ·right;exact JB r g q o e d k m
theorem Lz{q}:∀{l},P7 q l=true->∀d,Br l d=true->∀t off,look q t≠some (d,off)
 | [],_,d,e=>by simp[Br]at e
 | a::l,h,d,e=>by
  simp only[P7,AQ]at h;intro t off j;rcases(Df a l d).1 e with rfl|e
  ·have m:Io a q=[]:=by simpa using h.1
   have:=JZ (by rw[m];rfl) j;exact this rfl
  ·exact Lz h.2 d e t off j
end Go.Og
