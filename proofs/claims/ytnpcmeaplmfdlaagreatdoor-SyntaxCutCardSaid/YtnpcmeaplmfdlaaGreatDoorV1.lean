/- What the last text leans on, part 2 of 10: merged out of smaller texts. No condition. -/
import Derived.Orders
import Derived.Test.YtnpcmeaplmfdlaaGreatDoorV0
open Int renaming ofNat -> AA
open Nat renaming le_refl -> AL,add -> AN,le_trans -> AU,beq_eq -> AW,ble -> Ac,ble_eq -> Ag,lt_or_ge -> Av,beq -> Ax,zero_le -> BF,zero_add -> BQ,lt_of_lt_of_le -> Cj,blt -> Cr,blt_eq -> Cs,le_succ -> C9,mul -> FP,mod_eq_of_lt -> Fy,min -> HL,pow_le_pow_right -> Ii,lt_irrefl -> JH,lt_succ_self -> Jg,strongRecOn -> QQ,testBit_or -> WM,lt_succ_of_lt -> WN,or_lt_two_pow -> ANx,lt_trichotomy -> ANy
open Bool renaming and_eq_true -> AI,true_and -> BX,false_and -> BY,or_eq_false_iff -> Ba,not_true -> B3,or_eq_true -> B5,false_or -> C7,not_eq_true' -> DL,eq_false_iff -> Ga,eq_iff_iff -> QR
open List renaming length_cons -> AK,getElem?_eq_getElem -> AV,getElem?_eq_none -> Ae,mem_cons_of_mem -> Ar,mem_cons_self -> As,getD_eq_getElem?_getD -> A1,mem_cons -> BK,getElem?_map -> BR,drop_drop -> BU,replicate -> Bo,getElem?_drop -> CD,append_assoc -> CK,getElem?_take -> CY,append_nil -> CZ,map_cons -> Cf,getElem?_cons_succ -> DH,drop_zero -> Dv,mem_append -> Dw,range -> Fz,drop_succ_cons -> Gy,nil_append -> IW,countP_cons_of_pos -> Jh,cons_append -> Ji,all_eq_true -> Jj,getElem?_cons_zero -> SY,countP_cons_of_neg -> SZ,mem_iff_getElem? -> Ys,eq_nil_iff_forall_not_mem -> Z2,all_cons -> ig,take_succ_cons -> th,mem_range -> AFc
open Option renaming some -> AP,map_eq_some_iff -> BC
open Array renaming getElem?_setIfInBounds -> BN,getElem?_eq_none -> CO,getElem?_eq_getElem -> EF,getElem?_toList -> ET,size_setIfInBounds -> EY,getD_eq_getD_getElem? -> Ey,replicate -> tX,getElem?_replicate -> AQD
open BitVec renaming ofInt -> Be
set_option linter.unusedSimpArgs false
namespace Go.Og
variable {P:Program}{G:Nat->Bool}{E:EB}{D:Am}{C:Cx}
theorem O6{α}(l m:List (Nat × α)) id:look (l++m) id=match look l id with
  | some b=>some b | none=>look m id:=by
 induction l with
 | nil=>rfl | cons p l i=>
  obtain⟨k,b⟩:=p;by_cases h:k=id
  ·simp[look,h]
  ·simp only[Ji,look,AW,h,if_false,i]
theorem MJ{n0 n id:Nat}{p:Nat->Bool}:(Ac n0 id&&Cr id (n0+n) && !p (id-n0))=true↔(n0<=id/\id<n0+n/\p (id-n0)=false):=by
 simp only[AI,Ag,Cs,DL,and_assoc]
theorem El n0 n p l id:
  look (DU n0 n p l) id=if n0<=id/\id<n0+n/\p (id-n0)=false then none else look l id:=by
 induction l with
 | nil=>simp[DU,look] | cons q l o=>
  obtain⟨k,b⟩:=q;unfold DU;by_cases g:n0<=k/\k<n0+n/\p (k-n0)=false
  ·rw[if_pos (MJ.2 g),o]
   by_cases h:k=id
   ·subst h;rw[if_pos g,if_pos g]
   ·simp only[look,AW,h,if_false]
  ·rw[if_neg (λr=>g (MJ.1 r))]
   by_cases h:k=id
   ·subst h;rw[if_neg g];simp[look]
   ·simp only[look,AW,h,if_false,o]
theorem Q0 n0 n p l id:
  look (GD n0 n p l) id=if n0<=id/\id<n0+n/\p (id-n0)=false then look l id else none:=by
 induction l with
 | nil=>simp[GD,look] | cons q l o=>
  obtain⟨k,b⟩:=q;unfold GD;by_cases g:n0<=k/\k<n0+n/\p (k-n0)=false
  ·rw[if_pos (MJ.2 g)]
   by_cases h:k=id
   ·subst h;rw[if_pos g];simp[look]
   ·simp only[look,AW,h,if_false,o]
  ·rw[if_neg (λr=>g (MJ.1 r)),o]
   by_cases h:k=id
   ·subst h;rw[if_neg g,if_neg g]
   ·simp only[look,AW,h,if_false]
theorem Ld{n0 n p q}(h:∀k,k<n->p k=q k):∀l,DU n0 n p l=DU n0 n q l
 | []=>rfl | (id,b)::l=>by
  unfold DU;rw[Ld h l];by_cases o:n0<=id/\id<n0+n
  ·rw[h (id-n0) (by omega)]
  ·have:(Ac n0 id&&Cr id (n0+n))=false:=by
    cases i:(Ac n0 id&&Cr id (n0+n))with
    | false=>rfl | true=>simp only[AI,Ag,Cs]at i;exact(o i).elim
   rw[this];simp
theorem O7{n0 n p q}(h:∀k,k<n->p k=q k):∀l,GD n0 n p l=GD n0 n q l
 | []=>rfl | (id,b)::l=>by
  unfold GD;rw[O7 h l];by_cases o:n0<=id/\id<n0+n
  ·rw[h (id-n0) (by omega)]
  ·have:(Ac n0 id&&Cr id (n0+n))=false:=by
    cases i:(Ac n0 id&&Cr id (n0+n))with
    | false=>rfl | true=>simp only[AI,Ag,Cs]at i;exact(o i).elim
   rw[this];simp
mutual
theorem ZY:∀(a b:V),V.beq a b=true->a=b
 | .dead,b,h=>by cases b<;>simp[V.beq]at h
 | .bool a,b,h=>by cases b<;>simp[V.beq]at h;subst h;rfl
 | .int k a,b,h=>by cases b<;>simp[V.beq]at h;obtain⟨rfl,rfl⟩:=h;rfl
 | .str a,b,h=>by cases b<;>simp[V.beq]at h;subst h;rfl
 | .nilp,b,h=>by cases b<;>simp[V.beq]at h;rfl
 | .ptr _ _,b,h=>by cases b<;>simp[V.beq]at h;obtain⟨rfl,rfl⟩:=h;rfl
 | .nils,b,h=>by cases b<;>simp[V.beq]at h;rfl
 | .sl _ _ _ _,b,h=>by cases b<;>simp[V.beq]at h;obtain⟨⟨⟨rfl,rfl⟩,rfl⟩,rfl⟩:=h;rfl
 | .sle _ _ _ _,b,h=>by cases b<;>simp[V.beq]at h;obtain⟨⟨⟨rfl,rfl⟩,rfl⟩,rfl⟩:=h;rfl
 | .nilm,b,h=>by cases b<;>simp[V.beq]at h;rfl
 | .mp _,b,h=>by cases b<;>simp[V.beq]at h;subst h;rfl
 | .fn f x y,b,h=>by
  cases b with
  | fn g u v=>
   simp only[V.beq,AI,AW]at h
   obtain⟨⟨rfl,h1⟩,h2⟩:=h
   rw[Nr x u h1,Nr y v h2]
  | _=>simp[V.beq]at h
 | .nilf,b,h=>by cases b<;>simp[V.beq]at h;rfl
 | .ifc t x,b,h=>by
  cases b with
  | ifc u y=>
   simp only[V.beq,AI,AW]at h
   obtain⟨rfl,h1⟩:=h
   rw[ZY x y h1]
  | _=>simp[V.beq]at h
 | .nili,b,h=>by cases b<;>simp[V.beq]at h;rfl
 | .agg l,b,h=>by
  cases b with
  | agg m=>simp only[V.beq]at h;rw[Nr l m h]
  | _=>simp[V.beq]at h
 | .tup l,b,h=>by
  cases b with
  | tup m=>simp only[V.beq]at h;rw[Nr l m h]
  | _=>simp[V.beq]at h
theorem Nr:∀(l m:List V),RU l m=true->l=m
 | [],m,h=>by cases m<;>simp[RU]at h;rfl
 | a::l,m,h=>by
  cases m with
  | nil=>simp[RU]at h
  | cons b m=>
   simp only[RU,AI]at h
   rw[ZY a b h.1,Nr l m h.2]
end
def Cx.sub(C:Cx)(R:Ren)(Us:H)(w:World):Cx:=
 { C with O:=λa=>w.heap.size<=a\/∃id b j,look Us.bl id=some b/\R id=some j/\j.blk=a,w0:=w }
theorem yB{R}{U Us:H}{w}(h:ER C R U w)(d:∀id b,look Us.bl id=some b->look U.bl id=some b){e}(o:(C.sub R Us w).O e):C.O e:=by
 rcases o with i|⟨id,b,j,n,m,rfl⟩
 ·exact h.new _ (AU h.size i)
 ·obtain⟨p,c,k,_⟩:=h.own id b (d id b n)
  rw[m]at c;cases c;exact k
theorem ER.shrink{R}{U Us:H}{w}(h:ER C R U w)(E:Us.next=U.next)(a:∀id b,look Us.bl id=some b->look U.bl id=some b):ER (C.sub R Us w) R Us w where
 fresh id m:=h.fresh id (E ▸ m);own id b f:=by
  obtain⟨j,k,_,d⟩:=h.own id b (a id b f);exact⟨j,k,.inr ⟨id,b,j,f,k,rfl⟩,d⟩
 inj id o b D i F f q z r p:=h.inj id o b D i F (a _ _ f) (a _ _ q) z r p;ext id b f:=by
  obtain⟨j,k,s,d⟩:=h.ext id b f;exact⟨j,k,λy=>s (yB h a y),d⟩
 glob:=h.glob;fr _ _:=rfl;size:=AL _;new _ g := .inl g;os:=rfl;tape:=rfl;output:=rfl
theorem ER.regrow{R Q}{U Us U' X:H}{w w'}(h:ER C R U w)(B:∀id b,look Us.bl id=some b->look U.bl id=some b)
  (u:ER (C.sub R Us w) Q U' w') (hx:Jf U.next R Q) (h2:X.next=U'.next)
  (P:∀id b,look X.bl id=some b->look U'.bl id=some b\/(look U.bl id=some b/\look Us.bl id=none)):ER C Q X w':=by
 have x:=hx.le h.fresh;have F:∀p,(C.sub R Us w).O p->C.O p:=λp n=>yB h B n;have G:∀id b j,look U.bl id=some b->look Us.bl id=none->R id=some j->¬(C.sub R Us w).O j.blk:=by
  intro id b j t D l n;rcases n with aa|⟨Y,b2,j2,I,W,r⟩
  ·obtain⟨j',L,_,m⟩:=h.own id b t
   rw[l]at L;cases L;have:=m.lt;omega
  ·have:=h.inj Y id b2 b j2 j (B _ _ I) t W l r
   subst this;rw[D]at I;cases I
 have M:∀id b,look U.bl id=some b->Q id=R id:=λid b t=>hx id (h.next_of_own t);refine⟨λid S=>u.fresh id (h2 ▸ S),?_,?_,?_,?_,?_,?_,h.new,u.os.trans h.os,u.tape.trans h.tape,u.output.trans h.output⟩
 ·intro id b t
  rcases P id b t with q|⟨q,E⟩
  ·obtain⟨j,l,n,m⟩:=u.own id b q
   exact⟨j,l,F _ n,m⟩
  ·obtain⟨j,l,n,m⟩:=h.own id b q
   exact⟨j,by rw[M id b q];exact l,n,m.mono x (u.fr _ (G id b j q E l))⟩
 ·intro id k b A i i' t N J s r
  rcases P id b t with q|⟨q,E⟩
  ·rcases P k A N with f|⟨f,z⟩
   ·exact u.inj id k b A i i' q f J s r
   ·exfalso
    obtain⟨j,l,n,_⟩:=u.own id b q;rw[J]at l;cases l;rw[M k A f]at s;exact G k A i' f z s (r ▸ n)
  ·rcases P k A N with f|⟨f,z⟩
   ·exfalso
    obtain⟨j,l,n,_⟩:=u.own k A f;rw[s]at l;cases l;rw[M id b q]at J;exact G id b i q E J (r ▸ n)
   ·rw[M id b q]at J;rw[M k A f]at s
    exact h.inj id k b A i i' q f J s r
 ·intro id b t
  obtain⟨j,l,K,m⟩:=h.ext id b t;exact⟨j,x _ _ l,K,m.mono x (u.fr _ λn=>K (F _ n))⟩
 ·intro g hg
  obtain⟨j,l,t⟩:=h.glob g hg;exact⟨j,x _ _ l,t⟩
 ·intro p K
  rw[<-h.fr p K];exact u.fr p λn=>K (F _ n)
 ·exact AU h.size u.size
theorem ER.allocAt{R}{U M:H}{w w':World}(h:ER C R U w){id}(Q:R id=none)(Z:id<U.next)(G:GI w w') b (i:BI)(W:i.blk=w.heap.size)
  (O:JC (JJ R id i) i b w') (h2:M.next=U.next) (D:∀k,look M.bl k=if k=id then some b else look U.bl k):ER C (JJ R id i) M w':=by
 have F:Le R (JJ R id i):=λk j K=>by
  by_cases x:k=id
  ·subst x;rw[Q]at K;cases K
  ·rw[Bv x];exact K
 have y:=G.old;have T:=h.new _ h.size;refine⟨?_,?_,?_,?_,?_,?_,?_,h.new,G.os.trans h.os,G.tape.trans h.tape,G.output.trans h.output⟩
 ·intro k K
  rw[Bv (by omega)];exact h.fresh k (by omega)
 ·intro k c u
  rw[D]at u;by_cases x:k=id
  ·subst x
   rw[if_pos rfl]at u;cases u;exact⟨i,CT _ _ _,W ▸ T,O⟩
  ·rw[if_neg x]at u
   obtain⟨j,v,L,o⟩:=h.own k c u;exact⟨j,by rw[Bv x];exact v,L,o.mono F (y _ o.lt)⟩
 ·intro k J c S j Y u A v p N
  rw[D]at u A;by_cases x:k=id
  ·by_cases s:J=id
   ·rw[x,s]
   ·exfalso
    subst x;rw[CT]at v;cases v;rw[if_neg s]at A;rw[Bv s]at p;obtain⟨q,P,_,o⟩:=h.own J S A;rw[P]at p;cases p;have:=o.lt;omega
  ·by_cases s:J=id
   ·exfalso
    subst s;rw[CT]at p;cases p;rw[if_neg x]at u;rw[Bv x]at v;obtain⟨q,P,_,o⟩:=h.own k c u;rw[P]at v;cases v;have:=o.lt;omega
   ·rw[if_neg x]at u;rw[if_neg s]at A
    rw[Bv x]at v;rw[Bv s]at p;exact h.inj k J c S j Y u A v p N
 ·intro k c u
  obtain⟨j,v,z,o⟩:=h.ext k c u;refine⟨j,F _ _ v,z,o.mono F (y _ ?_)⟩;rcases Av j.blk w.heap.size with D|D
  ·exact D
  ·exact absurd (h.new _ (AU h.size D)) z
 ·intro g X
  obtain⟨j,v,O⟩:=h.glob g X;exact⟨j,F _ _ v,O⟩
 ·intro I z
  rw[<-h.fr I z];refine y _ ?_;rcases Av I w.heap.size with D|D
  ·exact D
  ·exact absurd (h.new _ (AU h.size D)) z
 ·rw[G.size];have:=h.size;omega
theorem ER.congr{R}{U e:H}{w}(h:ER C R U w)(l:∀id,e.next<=id->R id=none)(f:∀k b,look e.bl k=some b->look U.bl k=some b):ER C R e w:=
 ⟨l,λk c a=>h.own k c (f k c a),λk j c g i m a d=>h.inj k j c g i m (f k c a) (f j g d),h.ext,h.glob,h.fr,h.size,h.new,h.os,h.tape,h.output⟩
theorem bp{R}{U Us:H}{w}(h:ER C R U w)(k:∀id b,look Us.bl id=some b->look U.bl id=some b){id l}(f:rd C.E Us id=some l):rd C.E U id=some l:=by
 unfold rd at f ⊢;cases p:look Us.bl id with
 | some b=>rw[p]at f;rw[k id b p];exact f | none=>
  rw[p]at f;cases q:look C.E id with
  | none=>rw[q]at f;cases f | some b=>
   rw[q]at f;cases s:look U.bl id with
   | none=>exact f | some c=>
    exfalso;obtain⟨j,t,r,_⟩:=h.own id c s;obtain⟨u,g,o,_⟩:=h.ext id b q;rw[t]at g;cases g;exact o r
theorem Wf{R}{U Us:H}{w}(h:ER C R U w)(c:∀id b,look Us.bl id=some b->look U.bl id=some b){id off n l}(d:Sb C.E Us id off n=some l):Sb C.E U id off n=some l:=by
 unfold Sb at d ⊢;cases g:rd C.E Us id with
 | none=>rw[g]at d;cases d | some m=>rw[g]at d;rw[bp h c g];exact d
theorem ku{R}{U Us:H}{w}(h:ER C R U w)(d:∀id b,look Us.bl id=some b->look U.bl id=some b){e x q}(c:C1 C.E Us e x=some q):C1 C.E U e x=some q:=by
 unfold C1 at c ⊢;split at c
 ·exact c
 ·exact c
 ·simp only[BC]at c ⊢
  obtain⟨m,n,rfl⟩:=c;exact⟨m,Wf h d n,rfl⟩
 ·exact c
 ·cases c
theorem jh{R}{U Us:H}{w}(h:ER C R U w)(i:∀id b,look Us.bl id=some b->look U.bl id=some b){op e v}(f:Cy C.E op e Us=some v):Cy C.E op e U=some v:=by
 unfold Cy at f ⊢;split at f
 ·split at f
  ·split at f
   ·rename_i k;rw[bp h i k];exact f
   ·cases f
  ·cases f
 ·split at f
  ·split at f
   ·rename_i k;rw[Wf h i k];exact f
   ·cases f
  ·cases f
 ·split at f
  ·cases f
  ·rename_i m
   rw[if_neg m];split at f
   ·rename_i k;rw[ku h i k];exact f
   ·cases f
 ·unfold NY at f ⊢
  split at f
  ·split at f
   ·rename_i k;rw[i _ _ k];exact f
   ·cases f
  ·cases f
 ·unfold QE at f ⊢
  split at f
  ·split at f
   ·rename_i k;rw[i _ _ k];exact f
   ·cases f
  ·cases f
 ·cases f
end Go.Og
namespace Go.Og
variable {P:Program}{G:Nat->Bool}{E:EB}{D:Am}{C:Cx}
theorem If:∀{n p},Za n p=true->∀k,k<n->p k=true
 | n+1,p,h,k,i=>by
  simp only[Za,AI]at h;by_cases g:k=n
  ·subst g;exact h.1
  ·exact If h.2 k (by omega)
structure Tf(ops:Array Oper)(l:List Bf)(pl:List DP):Prop where
 len:pl.length=ops.size
 llen:l.length=ops.size
 edges:∀(i:Nat) (o:Oper),ops[i]? = some o->∀e∈o.after,Region.binds .any e=true->e.on<i
 anc:∀(i:Nat) (o:Oper) (p:DP),ops[i]? = some o->pl[i]? = some p->∀k,k<ops.size->p.anc.testBit k=true->∃e∈o.after,Region.binds .any e=true/\(e.on=k\/(IB pl e.on).testBit k=true)
 dsts:∀(i k:Nat) (o o':Oper) (p p':DP),i≠k->ops[i]? = some o->ops[k]? = some o'->pl[i]? = some p->pl[k]? = some p'->∀(t:Nat),o.dst=some t ->
  o'.dst≠some t/\(B2 p'.looks t=true->p'.anc.testBit i=true\/p.anc.testBit k=true)
 kk:∀(i k:Nat) (ao ao':Bf) (p':DP),i<k->l[i]? = some ao->l[k]? = some ao'->pl[k]? = some p'->ao.op.cls = .k->ao'.op.cls = .k->p'.anc.testBit i=true
theorem S1{ops:Array Oper}{l:List Bf}{pl}(hl:l.length=ops.size)(h:Qp ops l pl=true):Tf ops l pl:=by
 unfold Qp at h;simp only[AI,AW]at h;obtain⟨P,h⟩:=h;have r:∀{i o},ops[i]? = some o->i<ops.size:=λ{i o} u=>by
  rcases Av i ops.size with h|h
  ·exact h
  ·rw[CO h]at u;cases u
 have n:=If h;have m:∀{i o},l[i]? = some o->i<ops.size:=λ{i o} u=>by
  rcases Av i l.length with h|h
  ·omega
  ·rw[Ae h]at u;cases u
 have f:∀i,i<ops.size->∃o N p,ops[i]? = some o/\l[i]? = some N/\pl[i]? = some p:=λi hi=>
  ⟨_,_,_,EF hi,AV (by omega),AV (by omega)⟩
 refine⟨P,hl,?_,?_,?_,?_⟩
 ·intro i o u e Y O
  obtain⟨W,N,p,y,F,B⟩:=f i (r u);have x:=n i (r u);rw[y,F,B]at x;rw[u]at y;cases y;simp only[AI]at x;have:=Jj.1 x.1 e (by simpa using Y);simp only[O,B3,C7,Cs]at this;exact this
 ·intro i o p u X k hk M
  obtain⟨W,N,p1,y,F,B⟩:=f i (r u);have x:=n i (r u);rw[y,F,B]at x;rw[u]at y;cases y;rw[X]at B;cases B;simp only[AI]at x;have s:=If x.2 k hk;simp only[AI]at s;have:=s.1;rw[M]at this;simp only[B3,C7,List.any_eq_true,AI,B5,AW]at this;obtain⟨e,Y,O,hr⟩:=this;exact⟨e,by simpa using Y,O,hr⟩
 ·intro i k o o' p p' K u G X z t ht
  obtain⟨W,N,p1,y,F,B⟩:=f i (r u);obtain⟨o2,Z,p2,I,C,A⟩:=f k (r G);have x:=n i (r u);rw[y,F,B]at x;rw[u]at y;cases y;rw[X]at B;cases B;rw[G]at I;cases I;rw[z]at A;cases A;simp only[AI]at x;have s:=If x.2 k (r G);have L:=Ga.2 (by rw[ne_eq,AW];exact K);simp only[AI,L,C7]at s;have:=s.2;rw[G,C,z]at this;simp only[ht,AI]at this;obtain⟨⟨h4,h5⟩,_⟩:=this;constructor
  ·intro U
   rw[U]at h4;simp at h4
  ·intro Q
   rw[Q]at h5;simpa using h5
 ·intro i k N aa p' L ha D z hc T
  obtain⟨W,ab,p1,y,F,B⟩:=f i (m ha);obtain⟨o2,Z,p2,I,C,A⟩:=f k (m D);have x:=n i (m ha);rw[y,F,B]at x;rw[ha]at F;cases F;rw[D]at C;cases C;rw[z]at A;cases A;simp only[AI]at x;have s:=If x.2 k (m D);have K:Ax i k=false:=Ga.2 (by rw[ne_eq,AW];omega);simp only[AI,K,C7]at s;have:=s.2;rw[I,D,z]at this;simp only[AI,hc,T]at this;have:=this.2;have O:Cr i k=true:=by simpa using L
  rw[O]at this;simpa using this
theorem Tf.ancLt{ops:Array Oper}{l}{pl:List DP}(h:Tf ops l pl):∀i (p:DP),pl[i]? = some p->∀k,k<ops.size->p.anc.testBit k=true->k<i:=by
 intro i;induction i using QQ with
 | _ i x=>
  intro p m k u z;have w:i<ops.size:=by
   rcases Av i pl.length with v|v
   ·have:=h.len;omega
   ·rw[Ae v]at m;cases m
  obtain⟨e,y,s,o⟩:=h.anc i ops[i] p (EF w) m k u z;have f:=h.edges i ops[i] (EF w) e y s;rcases o with rfl|o
  ·exact f
  ·have t:e.on<pl.length:=by have:=h.len;omega
   have g:=AV t;have:(pl[e.on]).anc.testBit k=true:=by
    simpa[IB,A1,g]using o
   have:=x e.on f _ g k u this;omega
structure Tr(E:EB)(D:Am)(l:List Bf)(pl:List DP)(n0 n:Nat)(e0:Cb)(h0:EB)(i:Nat)(s:DS) where
 vals:Nat->V
 envs:Nat->Cb
 Hh:Nat->EB
 nx:Nat->Nat
 ks:Nat->Nat
 M:Nat
 ssl:s.ss.length=M+1
 ssg:∀(m:Nat),m<=M->s.ss[M-m]? = some (Hh m)
 ksl:s.ks.length=M
 ksg:∀(r:Nat),r<M->s.ks[M-1-r]? = some (ks r)
 ke:s.e=envs i
 ez:envs 0=e0
 es:∀(k:Nat),k<i->∀(o:Bf),l[k]? = some o->envs (k+1)=DF (envs k) o.dst (vals k)
 nx0:nx 0=n0+n
 nxs:s.nx=nx M
 hz:∀id,¬(n0<=id/\id<n0+n)->look (Hh 0) id=look h0 id
 ops:∀(k:Nat),k<i->∀(o:Bf) (p:DP),l[k]? = some o->pl[k]? = some p ->
  (B6 (B7 p.looks (envs k)) o.guard=some false/\vals k=Eh/\s.am.testBit k=false/\∀r,r<M->ks r≠k) \/
  (B6 (B7 p.looks (envs k)) o.guard=some true /\
   ((o.op.cls = .p/\Bp o.op (B7 p.looks (envs k))=some (vals k)/\s.am.testBit k=false/\∀r,r<M->ks r≠k) \/
    (o.op.cls = .l/\(k,o.op,B7 p.looks (envs k),vals k)∈s.ls/\s.am.testBit k=false/\∀r,r<M->ks r≠k) \/
    (o.op.cls = .a/\s.am.testBit k=true/\(∀r,r<M->ks r≠k)/\∃b,Cz o.op (B7 p.looks (envs k)) (n0+k)=some (vals k,b) /\
     ∀m,m<=M->(∀r,r<m->(IB pl (ks r)).testBit k=false)->look (Hh m) (n0+k)=some b) \/
    (o.op.cls = .k/\s.am.testBit k=false/\∃r,r<M/\ks r=k)))
 amlt:∀k,s.am.testBit k=true->k<i
 kst:∀r,r<M->ks r<i/\∃(o:Bf) (p:DP) (U':H),l[ks r]? = some o/\pl[ks r]? = some p/\o.op.cls = .k/\B6 (B7 p.looks (envs (ks r))) o.guard=some true /\
  FW E D o.op (B7 p.looks (envs (ks r))) ⟨nx r,DU n0 n (EN p.anc s.am) (Hh r)⟩=some (vals (ks r),U') /\
  Hh (r+1)=GD n0 n (EN p.anc s.am) (Hh r)++U'.bl/\nx (r+1)=U'.next
 kinc:∀r r',r<r'->r'<M->ks r<ks r'
theorem It{a i k:Nat}:(a ||| 2 ^ i).testBit k=(a.testBit k || decide (i=k)):=by
 rw[WM,Nat.testBit_two_pow]
theorem Tr.start E D l pl n0 n b d : Nonempty (Tr E D l pl n0 n b d 0 ⟨b, n0 + n, [d], [], 0, []⟩) :=
  ⟨{ vals := fun _ => .dead, envs := fun _ => b, Hh := fun _ => d, nx := fun _ => n0 + n, ks := fun _ => 0, M := 0,
     ssl := rfl, ssg := fun m hm => by have : m = 0 := by omega
                                       subst this; rfl
     ksl := rfl, ksg := λr x => by omega
     ke := rfl, ez := rfl, es := λk e => by omega
     nx0 := rfl, nxs := rfl, hz := λ_ _ => rfl
     ops := λk e => by omega
     amlt := λk e => by simp at e
     kst := λr x => by omega
     kinc := λr I h A => by omega }⟩
def Sf{α:Type}(f:Nat->α)(i:Nat)(v:α)(k:Nat):α:=if k=i then v else f k
theorem Cm{α} f i (v:α):Sf f i v i=v:=if_pos rfl
theorem Kd{α} f {i k}(v:α)(h:k≠i):Sf f i v k=f k:=if_neg h
theorem Tr.quiet{l pl n0 n e0 h0 i}{s:DS}(T:Tr E D l pl n0 n e0 h0 i s){o:Bf}{p:DP}(ho:l[i]? = some o)(hp:pl[i]? = some p) v ls
    (hls:∀x,x∈s.ls->x∈ls)
    (G:(B6 (B7 p.looks s.e) o.guard=some false/\v=Eh)\/(B6 (B7 p.looks s.e) o.guard=some true /\
      ((o.op.cls = .p/\Bp o.op (B7 p.looks s.e)=some v)\/(o.op.cls = .l/\(i,o.op,B7 p.looks s.e,v)∈ls)))) :
    Nonempty (Tr E D l pl n0 n e0 h0 (i+1) { s with e:=DF s.e o.dst v,ls:=ls }):=by
  obtain⟨vals,envs,Hh,nx,ks,M,ssl,ssg,ksl,ksg,ke,ez,es,nx0,nxs,hz,ops,amlt,kst,kinc⟩:=T;have I:∀r,r<M->ks r≠i:=λr hr=>by have:=(kst r hr).1;omega
  have L:s.am.testBit i=false:=by
    cases hb:s.am.testBit i with
    | false=>rfl | true=>have:=amlt i hb;omega
  have w:∀k,k<i->Sf vals i v k=vals k:=λk hk=>Kd _ _ (by omega);have c:∀k,k<i+1->Sf envs (i+1) (DF s.e o.dst v) k=envs k:=λk hk=>Kd _ _ (by omega)
  refine⟨{ vals:=Sf vals i v,envs:=Sf envs (i+1) (DF s.e o.dst v),Hh:=Hh,nx:=nx,ks:=ks,M:=M,
            ssl:=ssl,ssg:=ssg,ksl:=ksl,ksg:=ksg,ke:=(Cm _ _ _).symm,ez:=by rw[c 0 (by omega)];exact ez,es:=?_,nx0:=nx0,nxs:=nxs,hz:=hz,ops:=?_,amlt:=λk hk=>WN (amlt k hk),kst:=?_,kinc:=kinc }⟩
  · intro k hk o' f
    by_cases he:k=i
    · subst he
      rw[ho]at f;cases f;rw[Cm,Cm,c k (by omega),ke]
    · rw[c k (by omega),w k (by omega),c (k+1) (by omega)]
      exact es k (by omega) o' f
  · intro k hk o' p' f N
    by_cases he:k=i
    · subst he
      rw[ho]at f;cases f;rw[hp]at N;cases N;rw[c k (by omega),<-ke,Cm];rcases G with ⟨u,d⟩|⟨u,d⟩
      · exact .inl ⟨u,d,L,I⟩
      · refine .inr ⟨u,?_⟩
        rcases d with ⟨d,F⟩|⟨d,F⟩
        · exact .inl ⟨d,F,L,I⟩
        · exact .inr (.inl ⟨d,F,L,I⟩)
    · rw[c k (by omega),w k (by omega)]
      rcases ops k (by omega) o' p' f N with u|⟨u,d|⟨d,F,h4⟩|d|d⟩
      · exact .inl u
      · exact .inr ⟨u,.inl d⟩
      · exact .inr ⟨u,.inr (.inl ⟨d,hls _ F,h4⟩)⟩
      · exact .inr ⟨u,.inr (.inr (.inl d))⟩
      · exact .inr ⟨u,.inr (.inr (.inr d))⟩
  · intro r hr
    obtain⟨u,o',p',U',d,F,h4,h5,h6,h7,h8⟩:=kst r hr;refine⟨by omega,o',p',U',d,F,h4,?_,?_,h7,h8⟩
    · rw[c _ (by omega)];exact h5
    · rw[c _ (by omega),w _ u];exact h6
end Go.Og
namespace Go.Og
variable {P:Program}{G:Nat->Bool}{E:EB}{D:Am}{C:Cx}
theorem KE{pl i}{p:DP}(h:pl[i]? = some p):IB pl i=p.anc:=by simp[IB,A1,h]
theorem Tr.make{ops' : Array Oper}{l : List Bf}{pl}(F : Tf ops' l pl){n0 n}(hn : n = ops'.size){e0 h0 i}{s : DS}(T : Tr E D l pl n0 n e0 h0 i s){o : Bf}{p : DP}
    (ho : l[i]? = some o) (hp : pl[i]? = some p) v (b : MP) (hw : B6 (B7 p.looks s.e) o.guard = some true) (hc : o.op.cls = .a) (ha : Cz o.op (B7 p.looks s.e) (n0 + i) = some (v, b)) :
    Nonempty (Tr E D l pl n0 n e0 h0 (i + 1) { s with e := DF s.e o.dst v, ss := s.ss.map ((n0 + i, b) :: ·), am := s.am ||| 2 ^ i }) := by
  obtain ⟨vals, envs, Hh, nx, ks, M, ssl, ssg, ksl, ksg, ke, ez, es, nx0, nxs, hz, ops, amlt, kst, kinc⟩ := T;have hin : i < n := by
    rcases Av i l.length with h | h
    · have := F.llen; omega
    · rw [Ae h] at ho; cases ho
  have hne : ∀ r, r < M → ks r ≠ i := λr hr => by have := (kst r hr).1; omega
  have G : ∀ k, k < i → Sf vals i v k = vals k := λk A => Kd _ _ (by omega);have f : ∀ k, k < i + 1 → Sf envs (i + 1) (DF s.e o.dst v) k = envs k := λk A => Kd _ _ (by omega);have hlk : ∀ m k, k ≠ i → look ((n0 + i, b) :: Hh m) (n0 + k) = look (Hh m) (n0 + k) := λm k A => by
    simp only [look, AW];rw [if_neg (by omega)]
  have ham : ∀ k, k ≠ i → (s.am ||| 2 ^ i).testBit k = s.am.testBit k := λk A => by
    rw [It]; simp [Ne.symm A]
  refine ⟨{ vals := Sf vals i v, envs := Sf envs (i + 1) (DF s.e o.dst v), Hh := λm => (n0 + i, b) :: Hh m, nx := nx, ks := ks, M := M,
            ssl := by simp [ssl], ssg := λm hm => by rw [BR, ssg m hm]; rfl
            ksl := ksl, ksg := ksg, ke := (Cm _ _ _).symm, ez := by rw [f 0 (by omega)]; exact ez, es := ?_, nx0 := nx0, nxs := nxs, hz := ?_, ops := ?_, amlt := ?_, kst := ?_, kinc := kinc }⟩
  · intro k A o' u
    by_cases he : k = i
    · subst he
      rw [ho] at u; cases u;rw [Cm, Cm, f k (by omega), ke]
    · rw [f k (by omega), G k (by omega), f (k + 1) (by omega)]
      exact es k (by omega) o' u
  · intro id hid
    simp only [look, AW];rw [if_neg (by omega)];exact hz id hid
  · intro k A o' B u hp'
    by_cases he : k = i
    · subst he
      rw [ho] at u; cases u;rw [hp] at hp'; cases hp';rw [f k (by omega), ← ke, Cm];refine .inr ⟨hw, .inr (.inr (.inl ⟨hc, by rw [It]; simp, hne, b, ha, λm _ _ => by simp [look]⟩))⟩
    · rw [f k (by omega), G k (by omega)]
      simp only [ham k he];rcases ops k (by omega) o' B u hp' with h1 | ⟨h1, K | K | ⟨K, h3, h4, b', h5, h6⟩ | K⟩
      · exact .inl h1
      · exact .inr ⟨h1, .inl K⟩
      · exact .inr ⟨h1, .inr (.inl K)⟩
      · exact .inr ⟨h1, .inr (.inr (.inl ⟨K, h3, h4, b', h5, λm hm hr => by rw [hlk m k he]; exact h6 m hm hr⟩))⟩
      · exact .inr ⟨h1, .inr (.inr (.inr K))⟩
  · intro k A
    rw [It] at A;simp only [B5, decide_eq_true_eq] at A;rcases A with A | A
    · have := amlt k A; omega
    · omega
  · intro r hr
    obtain ⟨h1, o', B, U', K, h3, h4, h5, h6, h7, h8⟩ := kst r hr;have hanc : B.anc.testBit i = false := by
      cases hb : B.anc.testBit i with
      | false => rfl | true => have := F.ancLt _ B h3 i (by omega) hb; omega
    have I : ∀ k, k < n → EN B.anc (s.am ||| 2 ^ i) k = EN B.anc s.am k := λk _ => by
      unfold EN;by_cases he : k = i
      · subst he; rw [hanc]; simp
      · rw [ham k he]
    have hvi : EN B.anc (s.am ||| 2 ^ i) (n0 + i - n0) = false := by
      rw [show n0 + i - n0 = i by omega]; unfold EN; rw [hanc]; rfl
    have hhide : DU n0 n (EN B.anc (s.am ||| 2 ^ i)) ((n0 + i, b) :: Hh r) = DU n0 n (EN B.anc s.am) (Hh r) := by
      rw [DU, if_pos (MJ.2 ⟨by omega, by omega, hvi⟩)];exact Ld I _
    have hkeep : GD n0 n (EN B.anc (s.am ||| 2 ^ i)) ((n0 + i, b) :: Hh r) = (n0 + i, b) :: GD n0 n (EN B.anc s.am) (Hh r) := by
      rw [GD, if_pos (MJ.2 ⟨by omega, by omega, hvi⟩)];rw [O7 I]
    refine ⟨by omega, o', B, U', K, h3, h4, ?_, ?_, ?_, h8⟩
    · rw [f _ (by omega)]; exact h5
    · rw [f _ (by omega), G _ h1, hhide]; exact h6
    · rw [hkeep, h7]; rfl
theorem Tr.writes{ops':Array Oper}{l:List Bf}{pl}(F:Tf ops' l pl){n0 n}(hn:n=ops'.size){e0 h0 i}{s:DS}(T:Tr E D l pl n0 n e0 h0 i s){o:Bf}{p:DP}
    (ho:l[i]? = some o) (hp:pl[i]? = some p) (v:V) (U':H) {h:EB}{ss':List (EB)} (hss:s.ss=h::ss') (hw:B6 (B7 p.looks s.e) o.guard=some true) (hc:o.op.cls = .k)
    (hd:FW E D o.op (B7 p.looks s.e) ⟨s.nx,DU n0 n (EN p.anc s.am) h⟩=some (v,U')) :
    Nonempty (Tr E D l pl n0 n e0 h0 (i+1) { s with e:=DF s.e o.dst v,nx:=U'.next,ss:=(GD n0 n (EN p.anc s.am) h++U'.bl)::s.ss,ks:=i::s.ks }):=by
  obtain⟨vals,envs,Hh,nx,ks,M,ssl,ssg,ksl,ksg,ke,ez,es,nx0,nxs,hz,ops,amlt,kst,kinc⟩:=T;have hin:i<n:=by
    rcases Av i l.length with h|h
    · have:=F.llen;omega
    · rw[Ae h]at ho;cases ho
  have hne:∀r,r<M->ks r≠i:=λr hr=>by have:=(kst r hr).1;omega
  have w:h=Hh M:=by
    have:=ssg M (AL _);rw[Nat.sub_self,hss]at this;simpa using this
  have ham:s.am.testBit i=false:=by
    cases hb:s.am.testBit i with
    | false=>rfl | true=>have:=amlt i hb;omega
  have hval:∀k,k<i->Sf vals i v k=vals k:=λk hk=>Kd _ _ (by omega);have f:∀k,k<i+1->Sf envs (i+1) (DF s.e o.dst v) k=envs k:=λk hk=>Kd _ _ (by omega);have hH:∀m,m<=M->Sf Hh (M+1) (GD n0 n (EN p.anc s.am) h++U'.bl) m=Hh m:=λm hm=>Kd _ _ (by omega);have hnx:∀m,m<=M->Sf nx (M+1) U'.next m=nx m:=λm hm=>Kd _ _ (by omega);have u:∀r,r<M->Sf ks M i r=ks r:=λr hr=>Kd _ _ (by omega)
  refine⟨{ vals:=Sf vals i v,envs:=Sf envs (i+1) (DF s.e o.dst v),Hh:=Sf Hh (M+1) (GD n0 n (EN p.anc s.am) h++U'.bl),nx:=Sf nx (M+1) U'.next,ks:=Sf ks M i,M:=M+1,
            ssl:=by simp[ssl],ssg:=?_,ksl:=by simp[ksl],ksg:=?_,ke:=(Cm _ _ _).symm,ez:=by rw[f 0 (by omega)];exact ez,es:=?_,nx0:=by rw[hnx 0 (by omega)];exact nx0,
            nxs:=(Cm _ _ _).symm,hz:=λid hid=>by rw[hH 0 (by omega)];exact hz id hid,ops:=?_,amlt:=λk hk=>WN (amlt k hk),kst:=?_,kinc:=?_ }⟩
  · intro m hm
    by_cases he:m=M+1
    · subst he;rw[Nat.sub_self,Cm];rfl
    · rw[hH m (by omega),show M+1-m=(M-m)+1 by omega,DH]
      exact ssg m (by omega)
  · intro r hr
    by_cases he:r=M
    · subst he;rw[Cm,show r+1-1-r=0 by omega];rfl
    · rw[u r (by omega),show M+1-1-r=(M-1-r)+1 by omega,DH]
      exact ksg r (by omega)
  · intro k hk o' x
    by_cases he:k=i
    · subst he
      rw[ho]at x;cases x;rw[Cm,Cm,f k (by omega),ke]
    · rw[f k (by omega),hval k (by omega),f (k+1) (by omega)]
      exact es k (by omega) o' x
  · intro k hk o' p' x hp'
    by_cases he:k=i
    · subst he
      rw[ho]at x;cases x;rw[hp]at hp';cases hp';rw[f k (by omega),<-ke,Cm];exact .inr ⟨hw,.inr (.inr (.inr ⟨hc,ham,M,by omega,Cm _ _ _⟩))⟩
    · rw[f k (by omega),hval k (by omega)]
      have hnk:(∀r,r<M->ks r≠k)->∀r,r<M+1->Sf ks M i r≠k:=λhh r hr=>by
        by_cases hrm:r=M
        · subst hrm;rw[Cm];omega
        · rw[u r (by omega)];exact hh r (by omega)
      rcases ops k (by omega) o' p' x hp' with ⟨h1,h2,h3,h4⟩|⟨h1,⟨h2,h3,h4,h5⟩|⟨h2,h3,h4,h5⟩|⟨h2,h3,h4,b',h5,h6⟩|⟨h2,h3,r,h4,h5⟩⟩
      · exact .inl ⟨h1,h2,h3,hnk h4⟩
      · exact .inr ⟨h1,.inl ⟨h2,h3,h4,hnk h5⟩⟩
      · exact .inr ⟨h1,.inr (.inl ⟨h2,h3,h4,hnk h5⟩)⟩
      · refine .inr ⟨h1,.inr (.inr (.inl ⟨h2,h3,hnk h4,b',h5,λm hm hr=>?_⟩))⟩
        by_cases hmm:m=M+1
        · subst hmm
          rw[Cm,O6,Q0,w];have hanc:p.anc.testBit k=false:=by
            have:=hr M (by omega);rw[Cm,KE hp]at this;exact this
          have hv:EN p.anc s.am (n0+k-n0)=false:=by
            rw[show n0+k-n0=k by omega];unfold EN;rw[hanc];rfl
          rw[if_pos ⟨by omega,by omega,hv⟩];have:=h6 M (AL _) (λr hrM=>by have:=hr r (by omega);rw[u r hrM]at this;exact this);rw[this]
        · rw[hH m (by omega)]
          exact h6 m (by omega) (λr hrm=>by have:=hr r hrm;rw[u r (by omega)]at this;exact this)
      · exact .inr ⟨h1,.inr (.inr (.inr ⟨h2,h3,r,by omega,by rw[u r h4];exact h5⟩))⟩
  · intro r hr
    by_cases he:r=M
    · subst he
      rw[Cm];refine⟨by omega,o,p,U',ho,hp,hc,?_,?_,?_,?_⟩
      · rw[f i (by omega),<-ke];exact hw
      · rw[f i (by omega),<-ke,Cm,hnx r (by omega),hH r (by omega),<-w,<-nxs];exact hd
      · rw[Cm,hH r (by omega),w]
      · rw[Cm]
    · obtain⟨h1,o',p',U2,h2,h3,h4,h5,h6,h7,h8⟩:=kst r (by omega)
      rw[u r (by omega)];refine⟨by omega,o',p',U2,h2,h3,h4,?_,?_,?_,?_⟩
      · rw[f _ (by omega)];exact h5
      · rw[f _ (by omega),hval _ h1,hnx r (by omega),hH r (by omega)];exact h6
      · rw[hH (r+1) (by omega),hH r (by omega)];exact h7
      · rw[hnx (r+1) (by omega)];exact h8
  · intro r r' hrr hr'
    by_cases he:r'=M
    · subst he
      rw[Cm,u r (by omega)];exact(kst r (by omega)).1
    · rw[u r' (by omega),u r (by omega)]
      exact kinc r r' hrr (by omega)
theorem TK{q:Array Oper}{l:List Bf}{pl:List DP}(F:Tf q l pl){n0 n}(Q:n=q.size){M O}:
  ∀(f:List Bf) e i (s y:DS),l.drop i=f->pl.drop i=e->Nonempty (Tr E D l pl n0 n M O i s)->Ca E D n0 n i f e s=some y ->
   Nonempty (Tr E D l pl n0 n M O (i+f.length) y)
 | [],e,i,s,y,B,G,A,h=>by
  cases e<;>(simp only[Ca,AP.injEq]at h;subst h;exact A)
 | o::f,[],i,s,y,B,G,A,h=>by simp only[Ca]at h;cases h
 | o::f,p::e,i,s,y,B,G,A,h=>by
  have z:l[i]? = some o:=by
   have:=congrArg (·[0]?) B;simpa[CD]using this
  have k:pl[i]? = some p:=by
   have:=congrArg (·[0]?) G;simpa[CD]using this
  have L:l.drop (i+1)=f:=by rw[<-BU,B];rfl
  have N:pl.drop (i+1)=e:=by rw[<-BU,G];rfl
  simp only[Ca]at h;cases g:EK E D n0 n i o p s with
  | none=>rw[g]at h;cases h | some U=>
   rw[g]at h;obtain⟨T⟩:=A;have P:Nonempty (Tr E D l pl n0 n M O (i+1) U):=by
    unfold EK at g;split at g
    ·cases g
    ·rename_i w;cases g
     exact T.quiet z k Eh s.ls (λ_ h=>h) (.inl ⟨w,rfl⟩)
    ·rename_i w
     split at g
     ·rename_i t
      split at g
      ·cases g
      ·rename_i v x;cases g
       exact T.quiet z k v s.ls (λ_ h=>h) (.inr ⟨w,.inl ⟨t,x⟩⟩)
     ·rename_i t
      split at g
      ·cases g
      ·split at g
       ·cases g
       ·rename_i v x;cases g
        exact T.quiet z k v _ (λ_ h=>Ar _ h) (.inr ⟨w,.inr ⟨t,As⟩⟩)
     ·rename_i t
      split at g
      ·cases g
      ·rename_i v b x;cases g
       exact T.make F Q z k v b w t x
     ·rename_i t
      split at g
      ·cases g
      ·rename_i X S
       split at g
       ·cases g
       ·rename_i v U' x;cases g
        exact T.writes F Q z k v U' S w t x
   have:=TK F Q f e (i+1) U y L N P h;rwa [show i+(o::f).length=i+1+f.length by simp;omega]
end Go.Og
namespace Go.Og
variable {P:Program}{G:Nat->Bool}{E:EB}{D:Am}{C:Cx}
theorem TM{n0 n pl A j op z v}:∀(i:List (EB)) (e b:List Nat),GH E n0 n pl A j op z v i e b=true->i.length=e.length+1 ->
  ∀q h,i[q]? = some h->IQ pl j (e.drop q) ((e.take q).reverse++b)=true->Cy E op z ⟨0,DU n0 n (EN (IB pl j) A) h⟩=some v
 | [],e,b,_,p,q,h,f,_=>by simp at f
 | y::i,e,b,o,p,0,h,f,c=>by
  simp only[SY,AP.injEq]at f;subst f;simp only[Dv,List.take_zero,List.reverse_nil,IW]at c;simp only[GH,c,B3,C7,AI]at o;have:=o.1;unfold IB;split at this
  ·rename_i u B
   rw[B,ZY _ _ this]
  ·cases this
 | y::i,[],b,o,p,q+1,h,f,c=>by
  simp at p;subst p;simp at f
 | y::i,k::e,b,o,p,q+1,h,f,c=>by
  simp only[GH,AI]at o;refine TM i e (k::b) o.2 (by simpa using p) q h (by simpa using f) ?_;simp only[Gy,th,List.reverse_cons,CK,List.singleton_append]at c;exact c
theorem D9{a:Array Bool}{k n}(d:a.size=n)(e:k<n):a.getD k true=a.getD k false:=by
 have h:k<a.size:=by omega
 simp[Array.getD,h]
theorem Jt{a:Array Bool}{i k}(f:i<a.size):(a.setIfInBounds i true).getD k false=(decide (k=i) || a.getD k false):=by
 simp only[Ey,BN];by_cases h:i=k
 ·subst h;simp[f]
 ·rw[if_neg h];simp[Ne.symm h]
theorem ZV{p q}(h:∀k,p k=true->q k=true){i}(o:q i=true)(r:p i=false):∀(l:List Nat),i∈l->l.countP p<l.countP q
 | [],d=>by cases d
 | x::l,d=>by
  have c:∀l:List Nat,l.countP p<=l.countP q:=λl=>List.countP_mono_left λx _ f=>h x f;rcases BK.1 d with rfl|d
  ·rw[Jh o,SZ (by simp[r])]
   have:=c l;omega
  ·have t:=ZV h o r l d
   by_cases f:p x=true
   ·rw[Jh f,Jh (h x f)];omega
   ·rw[SZ f]
    by_cases e:q x=true
    ·rw[Jh e];omega
    ·rw[SZ e];exact t
set_option maxHeartbeats 1000000 in
theorem nk (hD:∀f,DB P E G f (D f)) (hmix:P.follows .mixedOrders=true):Zh P E G (AZ E D):=by
  intro C hE hG nt id ops e0 U0 e' U' hplan hW R0 a0 w00 Q hrel0 he0 hnt0 hd0 hQ
  subst hE hG
  generalize hl:ops.toList.map (Bj P C.G nt ops)=l at hplan hW
  generalize hpl:IJ ops=pl at hplan hW
  have hlen:l.length=ops.size:=by rw[<-hl];simp
  have F:=S1 hlen hplan
  unfold AZ at hW
  have hn:l.length=ops.size:=hlen
  generalize hnn:l.length=n at hW
  have hnops:n=ops.size:=by omega
  cases hds:Ca C.E D U0.next n 0 l pl ⟨e0,U0.next+n,[U0.bl],[],0,[]⟩with
  | none=>rw[hds]at hW;cases hW
  | some s=>
    rw[hds]at hW
    simp only at hW
    split at hW
    case isFalse=>cases hW
    rename_i hchk
    obtain⟨T⟩:=TK F hnops l pl 0 _ s rfl rfl (Tr.start C.E D l pl U0.next n e0 U0.bl) hds
    rw[BQ,hnn]at T
    obtain⟨vals,envs,Hh,nx,ks,M,ssl,ssg,ksl,ksg,ke,ez,es,nx0,nxs,hz,hops,amlt,kst,kinc⟩:=T
    have hans:e'=envs n/\U'=⟨nx M,DU U0.next n (λk=>s.am.testBit k) (Hh M)⟩:=by
      have hh:=ssg M (AL _)
      rw[Nat.sub_self]at hh
      split at hW
      · rename_i h ss' hss
        rw[hss]at hh
        simp only[SY,AP.injEq]at hh
        cases hW
        exact⟨ke,by rw[nxs,hh]⟩
      · cases hW
    obtain⟨rfl,rfl⟩:=hans
    clear hW hds
    have some3:∀i,i<n->∃o p,ops[i]? = some o/\l[i]? = some (Bj P C.G nt ops o)/\pl[i]? = some p:=λi hi=>by
      have h1:i<ops.size:=by omega
      refine⟨ops[i],pl[i]'(by have:=F.len;omega),EF h1,?_,AV _⟩
      rw[<-hl,BR,ET,EF h1];rfl
    have hdlt:∀(i:Nat) (o:Oper) (t:Nat),i<n->ops[i]? = some o->o.dst=some t->t<nt:=by
      intro i o t hin ho ht
      obtain⟨o2,p,ho2,hlo,hp⟩:=some3 i hin
      rw[ho]at ho2;cases ho2
      cases hdo:I4 nt o.dst with
      | true=>rw[ht]at hdo;simpa[I4]using hdo
      | false=>
        exfalso
        have hco:Bj P C.G nt ops o=⟨o.dst,.bad,none⟩:=by
          unfold Bj
          rw[hdo]
          split
          · rename_i h;cases h
          · rfl
        have:=hops i hin _ p hlo hp
        rw[hco]at this
        simp[B6,Eg.cls,Bp]at this
    have hload:∀j op em v,(j,op,em,v)∈s.ls->∀m,m<=M->(∀r,m<=r->r<M->(IB pl j).testBit (ks r)=false)->(∀r,r<m->(IB pl (ks r)).testBit j=false) ->
        Cy C.E op em ⟨0,DU U0.next n (EN (IB pl j) s.am) (Hh m)⟩=some v:=by
      intro j op em v hmem m hm h1 h2
      have hc:=Jj.1 hchk _ hmem
      refine TM s.ss s.ks [] hc (by omega) (M-m) (Hh m) (ssg m hm) ?_
      unfold IQ
      simp only[CZ,AI,Jj,DL,List.mem_reverse]
      constructor
      · intro x hx
        obtain⟨q,hq⟩:=Ys.1 hx
        rw[CY]at hq
        split at hq
        · rename_i hqm
          have:=ksg (M-1-q) (by omega)
          rw[show M-1-(M-1-q)=q by omega,hq]at this
          cases this
          exact h1 _ (by omega) (by omega)
        · cases hq
      · intro x hx
        obtain⟨q,hq⟩:=Ys.1 hx
        rw[CD]at hq
        have hql:M-m+q<s.ks.length:=by
          rcases Av (M-m+q) s.ks.length with h|h
          · exact h
          · rw[Ae h]at hq;cases hq
        have:=ksg (M-1-(M-m+q)) (by omega)
        rw[show M-1-(M-1-(M-m+q))=M-m+q by omega,hq]at this
        cases this
        exact h2 _ (by omega)
    let Lf:Array Bool->Nat->Bool:=λlisted k=>listed.getD k false
    let vis:Array Bool->Nat->Bool:=λlisted k=>listed.getD k false&&s.am.testBit k
    let Inv:Array Bool->Act->World->Prop:=λlisted a w=>
      listed.size=n/\(∀i o,listed.getD i false=true->ops[i]? = some o->∀ed∈o.after,Region.binds .any ed=true->listed.getD ed.on false=true)/\a.defers=[] /\
      ∃R m,m<=M/\(∀r,r<M->(listed.getD (ks r) false=true↔r<m))/\Jf U0.next R0 R/\U0.next+n<=nx m/\ER C R ⟨nx m,DU U0.next n (vis listed) (Hh m)⟩ w /\
        (∀k,k<n->listed.getD k false=false->R (U0.next+k)=none)/\nt<=a.tmps.size /\
        (∀i o t,listed.getD i false=true->ops[i]? = some o->o.dst=some t->t<a.tmps.size->vals i = .dead\/∃x,a.tmps[t]? = some x/\BE R (vals i)=some x) /\
        (∀t v,look e0 t=some v->(∀i o,listed.getD i false=true->ops[i]? = some o->o.dst≠some t)->v = .dead\/∃x,a.tmps[t]? = some x/\BE R v=some x)
    have hanc:∀(listed:Array Bool),(∀i o,listed.getD i false=true->ops[i]? = some o->∀ed∈o.after,Region.binds .any ed=true->listed.getD ed.on false=true) ->
        ∀(i:Nat) (o:Oper) (p:DP),ops[i]? = some o->pl[i]? = some p->(∀ed∈o.after,Region.binds .any ed=true->listed.getD ed.on false=true)->∀(k:Nat),k<n->p.anc.testBit k=true->listed.getD k false=true:=by
      intro listed hcl i
      induction i using QQ with
      | _ i ih=>
        intro o p ho hp hed k hk hb
        obtain⟨ed,hem,hbe,hr⟩:=F.anc i o p ho hp k (by omega) hb
        have hlt:=F.edges i o ho ed hem hbe
        have hli:=hed ed hem hbe
        rcases hr with rfl|hr
        · exact hli
        · have hin:i<n:=by
            rcases Av i ops.size with h|h
            · omega
            · rw[CO h]at ho;cases ho
          obtain⟨o2,p2,h1,_,h3⟩:=some3 ed.on (by omega)
          exact ih ed.on hlt o2 p2 h1 h3 (λed2 hm2 hb2=>hcl ed.on o2 hli h1 ed2 hm2 hb2) k hk (by rw[<-KE h3];exact hr)
    have hready_nil:∀listed:Array Bool,listed.size=n->Region.ready .any ops listed=[]->∀k,k<n->listed.getD k false=true:=by
      intro listed hsz hr k
      induction k using QQ with
      | _ k ih=>
        intro hk
        cases hb:listed.getD k false with
        | true=>rfl
        | false=>
          exfalso
          obtain⟨o,p,h1,_,_⟩:=some3 k hk
          have:k∈Region.ready .any ops listed:=mem_ready.2 ⟨by rw[D9 hsz hk];exact hb,o,h1,λed hm hbd=>ih ed.on (F.edges k o h1 ed hm hbd) (by have:=F.edges k o h1 ed hm hbd;omega)⟩
          rw[hr]at this;cases this
    have henv:∀(listed:Array Bool) (a:Act) (R:Ren),
        (∀i o,listed.getD i false=true->ops[i]? = some o->∀ed∈o.after,Region.binds .any ed=true->listed.getD ed.on false=true) ->
        nt<=a.tmps.size ->
        (∀i o t,listed.getD i false=true->ops[i]? = some o->o.dst=some t->t<a.tmps.size->vals i = .dead\/∃x,a.tmps[t]? = some x/\BE R (vals i)=some x) ->
        (∀t v,look e0 t=some v->(∀i o,listed.getD i false=true->ops[i]? = some o->o.dst≠some t)->v = .dead\/∃x,a.tmps[t]? = some x/\BE R v=some x) ->
        ∀(j:Nat) (o:Oper) (p:DP),j<=n->(j=n->∀k,k<n->listed.getD k false=true) ->
          (j<n->ops[j]? = some o/\pl[j]? = some p/\listed.getD j false=false/\(∀ed∈o.after,Region.binds .any ed=true->listed.getD ed.on false=true)) ->
          ∀(t:Nat) (v:V),look (envs j) t=some v->(j<n->B2 p.looks t=true)->v = .dead\/∃x,a.tmps[t]? = some x/\BE R v=some x:=by
      intro listed a R hcl hsz hw hu j o p hj hall hrd
      have hshape:∀j,j<=n->∀t v,look (envs j) t=some v ->
          (∃k o',k<j/\ops[k]? = some o'/\o'.dst=some t/\v=vals k)\/(look e0 t=some v/\∀k o',k<j->ops[k]? = some o'->o'.dst≠some t):=by
        intro j
        induction j with
        | zero=>intro _;rw[ez];exact λt v hv => .inr ⟨hv,λk o' hk=>by omega⟩
        | succ j ih=>
          intro hj
          have h2:=ih (by omega)
          obtain⟨oj,pj,ho1,hl1,_⟩:=some3 j (by omega)
          have hes:=es j (by omega) _ hl1
          have hdst:(Bj P C.G nt ops oj).dst=oj.dst:=by unfold Bj;split<;>rfl
          rw[hdst]at hes
          rw[hes]
          intro t v hv
          cases hd:oj.dst with
          | none=>
            rw[hd]at hv
            simp only[DF]at hv
            rcases h2 t v hv with ⟨k,o',hk,hk2,hk3,hk4⟩|⟨hk,hk2⟩
            · exact .inl ⟨k,o',by omega,hk2,hk3,hk4⟩
            · refine .inr ⟨hk,λk o' hkj hko=>?_⟩
              by_cases he:k=j
              · subst he;rw[ho1]at hko;cases hko;rw[hd];simp
              · exact hk2 k o' (by omega) hko
          | some d=>
            rw[hd]at hv
            simp only[DF,look]at hv
            by_cases hdt:d=t
            · subst hdt
              rw[if_pos (by simp)]at hv
              cases hv
              exact .inl ⟨j,oj,by omega,ho1,hd,rfl⟩
            · rw[if_neg (by simpa using hdt)]at hv
              rcases h2 t v hv with ⟨k,o',hk,hk2,hk3,hk4⟩|⟨hk,hk2⟩
              · exact .inl ⟨k,o',by omega,hk2,hk3,hk4⟩
              · refine .inr ⟨hk,λk o' hkj hko=>?_⟩
                by_cases he:k=j
                · subst he;rw[ho1]at hko;cases hko;rw[hd];simpa using hdt
                · exact hk2 k o' (by omega) hko
      have hsh:=hshape j hj
      intro t v hv hlook
      rcases hsh t v hv with ⟨k,ok,hk,hk2,hk3,rfl⟩|⟨hk,hk2⟩
      ·
        refine hw k ok t ?_ hk2 hk3 (Cj (hdlt k ok t (by omega) hk2 hk3) hsz)
        by_cases hjn:j<n
        · obtain⟨ho,hp,_,hed⟩:=hrd hjn
          obtain⟨o3,p3,h1,_,h3⟩:=some3 k (by omega)
          rw[hk2]at h1;cases h1
          have hd:=(F.dsts k j ok o p3 p (by omega) hk2 ho h3 hp t hk3).2 (hlook hjn)
          rcases hd with hd|hd
          · exact hanc listed hcl j o p ho hp hed k (by omega) hd
          · have:=F.ancLt k p3 h3 j (by omega) hd;omega
        · exact hall (by omega) k (by omega)
      ·
        refine hu t v hk (λi oi hli hoi hdst=>?_)
        have hin:i<n:=by
          rcases Av i ops.size with h|h
          · omega
          · rw[CO h]at hoi;cases hoi
        by_cases hij:i<j
        · exact hk2 i oi hij hoi hdst
        · have hjn:j<n:=by omega
          obtain⟨ho,hp,hnl,_⟩:=hrd hjn
          by_cases hie:i=j
          · subst hie;rw[hnl]at hli;cases hli
          · obtain⟨o3,p3,h1,_,h3⟩:=some3 i hin
            rw[hoi]at h1;cases h1
            have hd:=(F.dsts i j oi o p3 p hie hoi ho h3 hp t hdst).2 (hlook hjn)
            rcases hd with hd|hd
            · have:=F.ancLt j p hp i (by omega) hd;omega
            · have:=hanc listed hcl i oi p3 hoi h3 (λed hm hb=>hcl i oi hli hoi ed hm hb) j hjn hd
              rw[hnl]at this;cases this
    have hput:∀(a:Act) (d:Option Nat) (x:Value) (t:Nat),d≠some t->(a.put d x).tmps[t]? = a.tmps[t]? := by
      intro a d x t hne
      cases d with
      | none=>rfl
      | some d=>
        simp only[Act.put,BN]
        rw[if_neg (λh=>hne (by rw[h]))]
    have hputsz:∀(a:Act) (d:Option Nat) (x:Value),(a.put d x).tmps.size=a.tmps.size:=by
      intro a d x;cases d<;>simp[Act.put]
    have hfin:∀listed a w,Inv listed a w->(∀k,k<n->listed.getD k false=true)->Q .normal a w:=by
      intro listed a w hI hall
      obtain⟨hsz,hcl,hd,R,m,hm,hpre,hx,hnxm,hrel,hres,htsz,hwc,huc⟩:=hI
      have hmM:m=M:=by
        rcases Av m M with h|h
        · have:=(hpre m h).1 (hall _ (by have:=(kst m h).1;omega));omega
        · omega
      subst hmM
      refine hQ R a w hx (by show U0.next<=nx m;omega) ?_ ?_ htsz hd
      · refine hrel.congr (λid hid=>hrel.fresh id hid) (λk b hk=>?_)
        rw[El]at hk ⊢
        by_cases hc:U0.next<=k/\k<U0.next+n/\s.am.testBit (k-U0.next)=false
        · rw[if_pos hc]at hk;cases hk
        · rw[if_neg hc]at hk
          rw[if_neg (λh=>hc ⟨h.1,h.2.1,by have:=h.2.2;simp only[vis,hall (k-U0.next) (by omega),BX]at this;exact this⟩)]
          exact hk
      · refine⟨λt v hv=>?_⟩
        exact henv listed a R hcl htsz hwc huc n default default (AL _) (λ_=>hall) (λh=>by omega) t v hv (λh=>by omega)
    have hstep:∀listed a w,Inv listed a w->∀i,i∈Region.ready .any ops listed->∀K:Act->World->Prop,(∀a' w',Inv (listed.setIfInBounds i true) a' w'->K a' w')->wpOp P ops Q i K a w:=by
      intro listed a w hI i hi K hK
      obtain⟨hsz,hcl,hd,R,m,hm,hpre,hx,hnxm,hrel,hres,htsz,hwc,huc⟩:=hI
      obtain⟨hli,o,ho,hed⟩:=mem_ready.1 hi
      have hin:i<n:=by
        rcases Av i ops.size with h|h
        · omega
        · rw[CO h]at ho;cases ho
      have hnl:listed.getD i false=false:=by rw[<-D9 hsz hin];exact hli
      obtain⟨o2,p,ho2,hlo,hp⟩:=some3 i hin
      rw[ho]at ho2;cases ho2
      have hsz':i<listed.size:=by omega
      have hLs:∀k,(listed.setIfInBounds i true).getD k false=(decide (k=i) || listed.getD k false):=λk=>Jt hsz'
      have hancl:∀k,k<n->p.anc.testBit k=true->listed.getD k false=true:=hanc listed hcl i o p ho hp hed
      have hgl:=hrel.globOk
      have hle0:∀{R'},Jf (nx m) R R'->Le R R':=λh=>h.le hrel.fresh
      have hem:Ch R (B7 p.looks (envs i)) a.tmps:=by
        refine⟨λt v hv=>?_⟩
        obtain⟨ht,hmem⟩:=I0 _ _ _ _ hv
        exact henv listed a R hcl htsz hwc huc i o p (by omega) (λh=>by omega) (λ_=>⟨ho,hp,hnl,hed⟩) t v ht (λ_=>hmem)
      have mk:∀(R':Ren) (m':Nat) (w':World) (x:Value),m'<=M->(∀r,r<M->((listed.setIfInBounds i true).getD (ks r) false=true↔r<m'))->Jf U0.next R0 R'->U0.next+n<=nx m' ->
          ER C R' ⟨nx m',DU U0.next n (vis (listed.setIfInBounds i true)) (Hh m')⟩ w'->(∀k,k<n->(listed.setIfInBounds i true).getD k false=false->R' (U0.next+k)=none)->Le R R' ->
          (vals i = .dead\/BE R' (vals i)=some x)->K (a.put o.dst x) w':=by
        intro R' m' w' x h1 h2 h3 h4 h5 h6 h7 h8
        refine hK _ _ ⟨by rw[EY];exact hsz,?_,by rw[Hm];exact hd,R',m',h1,h2,h3,h4,h5,h6,by rw[hputsz];exact htsz,?_,?_⟩
        · intro i' o' hi' ho' ed hm' hb'
          rw[hLs]at hi' ⊢
          simp only[B5,decide_eq_true_eq]at hi' ⊢
          rcases hi' with rfl|hi'
          · rw[ho]at ho';cases ho'
            exact .inr (hed ed hm' hb')
          · exact .inr (hcl i' o' hi' ho' ed hm' hb')
        · intro i' o' t hi' ho' hdt htl
          rw[hputsz]at htl
          rw[hLs]at hi'
          simp only[B5,decide_eq_true_eq]at hi'
          by_cases he:i'=i
          · subst he
            rw[ho]at ho';cases ho'
            rcases h8 with h8|h8
            · exact .inl h8
            · refine .inr ⟨x,?_,h8⟩
              rw[hdt]
              simp[Act.put,BN,htl]
          · have hi'':=hi'.resolve_left he
            have hi'n:i'<n:=by
              rcases Av i' ops.size with h|h
              · omega
              · rw[CO h]at ho';cases ho'
            obtain⟨o3,p3,h1',_,h3'⟩:=some3 i' hi'n
            rw[ho']at h1';cases h1'
            rw[hput a o.dst x t ((F.dsts i' i o' o p3 p he ho' ho h3' hp t hdt).1)]
            rcases hwc i' o' t hi'' ho' hdt htl with h|⟨y,hy,hc⟩
            · exact .inl h
            · exact .inr ⟨y,hy,C8 h7 _ _ hc⟩
        · intro t v hv hno
          have hot:o.dst≠some t:=hno i o (by rw[hLs];simp) ho
          rw[hput a o.dst x t hot]
          rcases huc t v hv (λi' o' hi' ho'=>hno i' o' (by rw[hLs,hi'];simp) ho')with h|⟨y,hy,hc⟩
          · exact .inl h
          · exact .inr ⟨y,hy,C8 h7 _ _ hc⟩
      have hsame:s.am.testBit i=false->ER C R ⟨nx m,DU U0.next n (vis (listed.setIfInBounds i true)) (Hh m)⟩ w:=by
        intro ham
        rw[Ld (q:=vis listed) (λk hk=>by
          simp only[vis]
          rw[hLs]
          by_cases he:k=i
          · subst he;simp[ham]
          · simp[he])]
        exact hrel
      have hpre1:(∀r,r<M->ks r≠i)->∀r,r<M->((listed.setIfInBounds i true).getD (ks r) false=true↔r<m):=by
        intro hne r hr
        rw[hLs]
        simp only[hne r hr,decide_false,C7]
        exact hpre r hr
      have hres1:∀k,k<n->(listed.setIfInBounds i true).getD k false=false->R (U0.next+k)=none:=by
        intro k hk hkl
        rw[hLs]at hkl
        simp only[Ba]at hkl
        exact hres k hk hkl.2
      have hkbefore:∀r,r<m->(IB pl (ks r)).testBit i=false:=by
        intro r hr
        cases hb:(IB pl (ks r)).testBit i with
        | false=>rfl
        | true=>
          exfalso
          obtain⟨hkn,_⟩:=kst r (by omega)
          obtain⟨o3,p3,h1',_,h3'⟩:=some3 (ks r) hkn
          have hlr:=(hpre r (by omega)).2 hr
          have:=hanc listed hcl (ks r) o3 p3 h1' h3' (λed hm hb=>hcl (ks r) o3 hlr h1' ed hm hb) i hin (by rw[<-KE h3'];exact hb)
          rw[hnl]at this;cases this
      unfold wpOp
      rw[ho]
      simp only
      have hco:Bj P C.G nt ops o=⟨o.dst,.bad,none⟩\/∃g,TL ops o.guard=some g/\Bj P C.G nt ops o=⟨o.dst,Ah P C.G o.op,g⟩:=by
        unfold Bj
        split
        · rename_i g hg _;exact .inr ⟨g,hg,rfl⟩
        · exact .inl rfl
      rcases hco with hco|⟨g,hcg,hco⟩
      · exfalso
        have:=hops i hin _ p hlo hp
        rw[hco]at this
        simp[B6,Eg.cls,Bp]at this
      · have hF:=hops i hin _ p hlo hp
        rw[hco]at hF
        simp only at hF
        rcases hF with ⟨hw,hv,ham,hne⟩|⟨hw,⟨hc,hv,ham,hne⟩|⟨hc,hmem,ham,hne⟩|⟨hc,ham,hne,b,hv,hb⟩|⟨hc,ham,r,hr,hkr⟩⟩
        · rw[if_neg (by rw[EC hem hcg hw];simp)]
          exact mk R m w undef hm (hpre1 hne) hx hnxm (hsame ham) hres1 (Le.refl _) (.inr (by rw[hv];rfl))
        · rw[if_pos (EC hem hcg hw)]
          left
          obtain⟨x,hxv,hrun⟩:=Nv (a:=a) (P:=P) hem hgl o hv w
          unfold Oper.wp
          rw[hrun]
          exact mk R m w x hm (hpre1 hne) hx hnxm (hsame ham) hres1 (Le.refl _) (.inr hxv)
        · rw[if_pos (EC hem hcg hw)]
          left
          have hl1:=hload i _ _ _ hmem m hm (λr hr1 hr2=>by
            cases hbt:(IB pl i).testBit (ks r)with
            | false=>rfl
            | true=>
              exfalso
              have:=hancl (ks r) (kst r hr2).1 (by rw[<-KE hp];exact hbt)
              have:=(hpre r hr2).1 this
              omega) hkbefore
          have hl2:=jh hrel (Us:=⟨0,DU U0.next n (EN (IB pl i) s.am) (Hh m)⟩) (λid b hid=>by
            simp only at hid ⊢
            rw[El]at hid ⊢
            by_cases hcnd:U0.next<=id/\id<U0.next+n/\EN (IB pl i) s.am (id-U0.next)=false
            · rw[if_pos hcnd]at hid;cases hid
            · rw[if_neg hcnd]at hid
              rw[if_neg (λhh=>hcnd ⟨hh.1,hh.2.1,by
                have h3:=hh.2.2
                unfold EN
                cases hbt:(IB pl i).testBit (id-U0.next)with
                | false=>rfl
                | true=>
                  have:=hancl (id-U0.next) (by omega) (by rw[<-KE hp];exact hbt)
                  simp only[vis,this,BX]at h3
                  rw[h3];rfl⟩)]
              exact hid) hl1
          obtain⟨x,hxv,hrun⟩:=Nx (P:=P) hrel hem o hl2
          unfold Oper.wp
          rw[hrun]
          exact mk R m w x hm (hpre1 hne) hx hnxm (hsame ham) hres1 (Le.refl _) (.inr hxv)
        · rw[if_pos (EC hem hcg hw)]
          left
          have hRi:R (U0.next+i)=none:=hres i hin hnl
          obtain⟨x,w',inf,hrun,hnew,hblk,hxv,hok⟩:=QI (a:=a) (P:=P) hem hgl o hv hRi w
          unfold Oper.wp
          rw[hrun]
          have hle:Le R (JJ R (U0.next+i) inf):=λk j hk=>by
            by_cases he:k=U0.next+i
            · subst he;rw[hRi]at hk;cases hk
            · rw[Bv he];exact hk
          refine mk (JJ R (U0.next+i) inf) m w' x hm (hpre1 hne) (hx.trans (λid hid=>Bv (by omega)) (AL U0.next)) hnxm ?_ ?_ hle (.inr hxv)
          · refine hrel.allocAt hRi (by show U0.next+i<nx m;omega) hnew b inf hblk hok rfl (λk=>?_)
            simp only
            rw[El,El]
            by_cases he:k=U0.next+i
            · subst he
              rw[if_pos rfl,if_neg (by
                intro h
                have h3:=h.2.2
                rw[show U0.next+i-U0.next=i by omega]at h3
                simp only[vis]at h3
                rw[hLs,ham]at h3
                simp at h3)]
              exact hb m hm hkbefore
            · rw[if_neg he]
              by_cases hrg:U0.next<=k/\k<U0.next+n
              · have:vis (listed.setIfInBounds i true) (k-U0.next)=vis listed (k-U0.next):=by
                  simp only[vis]
                  rw[hLs]
                  have:k-U0.next≠i:=by omega
                  simp[this]
                rw[this]
              · rw[if_neg (λh=>hrg ⟨h.1,h.2.1⟩),if_neg (λh=>hrg ⟨h.1,h.2.1⟩)]
          · intro k hk hkl
            rw[hLs]at hkl
            simp only[Ba,decide_eq_false_iff_not]at hkl
            rw[Bv (by omega)]
            exact hres k hk hkl.2
        · rw[if_pos (EC hem hcg hw)]
          left
          have hrm:r=m:=by
            have h1:¬r<m:=λh=>by
              have:=(hpre r hr).2 h
              rw[hkr,hnl]at this;cases this
            rcases Av m r with h2|h2
            · exfalso
              obtain⟨hkn,o4,p4,U4,hl4,hp4,hc4,_⟩:=kst m (by omega)
              have hlt:=kinc m r h2 hr
              rw[hkr]at hlt
              have:=F.kk (ks m) i o4 _ p hlt hl4 hlo hp hc4 (by rw[hco];exact hc)
              have:=hancl (ks m) hkn this
              have:=(hpre m (by omega)).1 this
              omega
            · omega
          subst hrm
          obtain⟨_,o4,p4,U4,hl4,hp4,hc4,hw4,hden,hHn,hnxn⟩:=kst r hr
          rw[hkr]at hl4 hp4 hw4 hden
          rw[hlo]at hl4;cases hl4
          rw[hp]at hp4;cases hp4
          rw[hco]at hden
          simp only at hden
          have hsub:∀id b,look (DU U0.next n (EN p.anc s.am) (Hh r)) id=some b->look (DU U0.next n (vis listed) (Hh r)) id=some b:=by
            intro id b hid
            rw[El]at hid ⊢
            by_cases hcnd:U0.next<=id/\id<U0.next+n/\EN p.anc s.am (id-U0.next)=false
            · rw[if_pos hcnd]at hid;cases hid
            · rw[if_neg hcnd]at hid
              rw[if_neg (λhh=>hcnd ⟨hh.1,hh.2.1,by
                have h3:=hh.2.2
                unfold EN
                cases hbt:p.anc.testBit (id-U0.next)with
                | false=>rfl
                | true=>
                  have:=hancl (id-U0.next) (by omega) hbt
                  simp only[vis,this,BX]at h3
                  rw[h3];rfl⟩)]
              exact hid
          have hsmall:=hrel.shrink (Us:=⟨nx r,DU U0.next n (EN p.anc s.am) (Hh r)⟩) rfl hsub
          refine VY hD (C:=C.sub R ⟨nx r,DU U0.next n (EN p.anc s.am) (Hh r)⟩ w) rfl rfl hsmall hem o hden K Q (λR' w' x hx' hn' hrel' hv'=>?_)
          have hnle:nx r<=U4.next:=hn'
          refine mk R' (r+1) w' x (by omega) ?_ (hx.trans hx' (show U0.next<=nx r by omega)) (by rw[hnxn];omega) ?_ ?_ (hle0 hx') hv'
          · intro r' hr'
            rw[hLs]
            simp only[B5,decide_eq_true_eq]
            constructor
            · rintro(h | h)
              · rcases ANy r' r with h2 | h2 | h2
                · omega
                · omega
                · have:=kinc r r' h2 hr';omega
              · have:=(hpre r' hr').1 h;omega
            · intro h
              by_cases he:r'=r
              · subst he;exact .inl hkr
              · exact .inr ((hpre r' hr').2 (by omega))
          · refine hrel.regrow (Us:=⟨nx r,DU U0.next n (EN p.anc s.am) (Hh r)⟩) hsub hrel' hx' hnxn (λid b hid=>?_)
            simp only at hid ⊢
            rw[El]at hid
            split at hid
            · cases hid
            · rename_i hvis
              rw[hHn,O6,Q0]at hid
              by_cases hcnd:U0.next<=id/\id<U0.next+n/\EN p.anc s.am (id-U0.next)=false
              · rw[if_pos hcnd]at hid
                cases hlk:look (Hh r) id with
                | none=>rw[hlk]at hid;exact .inl hid
                | some b'=>
                  rw[hlk]at hid
                  cases hid
                  right
                  rw[El,El,if_pos hcnd]
                  refine⟨?_,rfl⟩
                  rw[if_neg (λhh=>hvis ⟨hh.1,hh.2.1,by
                    have h3:=hh.2.2
                    simp only[vis]at h3 ⊢
                    rw[hLs]
                    by_cases he:id-U0.next=i
                    · rw[he,ham];simp
                    · simp only[he,decide_false,C7];exact h3⟩)]
                  exact hlk
              · rw[if_neg hcnd]at hid
                exact .inl hid
          · intro k hk hkl
            rw[hx' (U0.next+k) (by show U0.next+k<nx r;omega)]
            exact hres1 k hk hkl
    have hany:∀fuel listed a w,Inv listed a w->(Fz n).countP (λk=>!listed.getD k false)<=fuel->wpAny P .any ops Q fuel listed a w:=by
      intro fuel
      induction fuel with
      | zero=>
        intro listed a w hI hcnt
        have hall:∀k,k<n->listed.getD k false=true:=by
          intro k hk
          have h0:(Fz n).countP (λk=>!listed.getD k false)=0:=by omega
          have:=List.countP_eq_zero.1 h0 k (AFc.2 hk)
          simpa using this
        refine⟨?_,hfin listed a w hI hall⟩
        apply Z2.2
        intro j hj
        obtain⟨h1,o,h2,_⟩:=mem_ready.1 hj
        have hjn:j<n:=by
          rcases Av j ops.size with h|h
          · omega
          · rw[CO h]at h2;cases h2
        rw[D9 hI.1 hjn,hall j hjn]at h1
        cases h1
      | succ fuel ih=>
        intro listed a w hI hcnt
        refine⟨λhr=>hfin listed a w hI (hready_nil listed hI.1 hr),λi hi=>?_⟩
        have hin:i<n:=by
          obtain⟨_,o,h2,_⟩:=mem_ready.1 hi
          rcases Av i ops.size with h|h
          · omega
          · rw[CO h]at h2;cases h2
        have hnl:listed.getD i false=false:=by rw[<-D9 hI.1 hin];exact(mem_ready.1 hi).1
        refine hstep listed a w hI i hi _ (λa' w' hI'=>ih _ a' w' hI' ?_)
        have hsz':i<listed.size:=by rw[hI.1];exact hin
        have:=ZV (p:=λk=>!(listed.setIfInBounds i true).getD k false) (q:=λk=>!listed.getD k false) (λk hk=>by
          simp only[DL]at hk ⊢
          rw[Jt hsz']at hk
          simp only[Ba]at hk
          exact hk.2) (i:=i) (by simp only[hnl];rfl) (by simp only[Jt hsz'];simp) (Fz n) (AFc.2 hin)
        omega
    refine wp_region_any hmix ?_
    rw[<-hnops]
    have hrepl:∀k,(tX n false).getD k false=false:=λk=>by
      simp only[Ey,AQD]
      split<;>rfl
    refine hany n _ a0 _ ⟨by simp,?_,hd0,R0,0,BF _,?_,Jf.refl _ _,by rw[nx0];exact AL _,?_,?_,hnt0,?_,?_⟩ ?_
    · intro i o hi;rw[hrepl]at hi;cases hi
    · intro r hr;rw[hrepl];simp
    · refine(hrel0.drawn (w00.drawn+1)).congr (λid hid=>hrel0.fresh id (by have h1:nx 0<=id:=hid;rw[nx0]at h1;omega)) (λk b hk=>?_)
      simp only at hk
      rw[El]at hk
      split at hk
      · cases hk
      · rename_i hc
        have hnr:¬(U0.next<=k/\k<U0.next+n):=λh=>hc ⟨h.1,h.2,by simp only[vis,hrepl,BY]⟩
        rw[hz k hnr]at hk
        exact hk
    · intro k hk _;exact hrel0.fresh _ (by omega)
    · intro i o t hi;rw[hrepl]at hi;cases hi
    · intro t v hv _;exact he0.at_ t v hv
    · refine AU (List.countP_le_length) (by simp)
end Go.Og
namespace Go.Og
abbrev AH:=Option (V × H)
noncomputable section
def CB{α:Type}(l:List (Nat × α))(id:Nat):Option α:=
 List.rec none (λp _ r=>Bool.rec r (some p.2) (Ax p.1 id)) l
def XJ{α:Type}(l:List (Nat × α))(id:Nat):List (Nat × α):=
 List.rec [] (λp l r=>Bool.rec (p::r) l (Ax p.1 id)) l
def mL(l:List V):Nat->Option V:=
 List.rec (λ_=>none) (λa _ b n=>Nat.rec (some a) (λm _=>b m) n) l
def VR(l:EB)(id:Nat):(EB->AH)->AH:=
 List.rec (λk=>k []) (λp _ a k=>a λl'=>Bool.rec (k (p::l')) (k l') (Ax p.1 id)) l
def AG(c:Bool)(a b:AH):AH:=match c with
 | true=>a
 | false=>b
def JK(c:Bool)(a:AH):AH:=match c with
 | true=>a
 | false=>none
def gK(x:Option V)(J:V->AH):AH:=match x with
 | some v=>J v
 | none=>none
def BT(x:AH)(J:V->H->AH):AH:=match x with
 | some (v,U)=>J v U
 | none=>none
def Ab(f:Bool->H->AH)(g:(Bool->H->AH)->AH):AH:=g f
def JX:IntKind->Nat
 | .i8=>127 | .i16=>32767 | .i32=>2147483647 | .i64=>9223372036854775807
 | .u8=>255 | .u16=>65535 | .u32=>4294967295 | .u64=>18446744073709551615
def AHf:IntKind->Nat
 | .i8=>128 | .i16=>32768 | .i32=>2147483648 | .i64=>9223372036854775808
 | .u8=>0 | .u16=>0 | .u32=>0 | .u64=>0
def inK(k:IntKind)(n:Int):Bool:=match n with
 | .ofNat m=>Ac m (JX k)
 | .negSucc m=>Cr m (AHf k)
def BH(k:IntKind)(n:Int):Int:=match inK k n with
 | true=>n
 | false=>k.wrap n
def Cw(a b:Int):Bool:=match a,b with
 | .ofNat m,.ofNat n=>Cr m n
 | .negSucc m,.negSucc n=>Cr n m
 | .negSucc _,.ofNat _=>true
 | .ofNat _,.negSucc _=>false
def I2(a b:Int):Bool:=match a,b with
 | .ofNat m,.ofNat n=>Ac m n
 | .negSucc m,.negSucc n=>Ac n m
 | .negSucc _,.ofNat _=>true
 | .ofNat _,.negSucc _=>false
def BP(k:IntKind)(a b:Int):Int:=BH k (Int.add a b)
def Ez(k:IntKind)(a b:Int):Int:=BH k (Int.sub a b)
def Qx(k:IntKind)(a b:Int):Int:=BH k (Int.mul a b)
def AA1(k:IntKind)(a b:Int):Int:=BH k (Int.tdiv a b)
def Eb(k:IntKind)(a:Int)(n:Nat):Int:=BH k (Int.mul a (AA (Nat.pow 2 (HL n k.bits))))
def kz(k:IntKind)(a:Int)(n:Nat):Int:=match a with
 | .ofNat m => .ofNat (Nat.div m (Nat.pow 2 (HL n k.bits)))
 | .negSucc m=>Int.fdiv (.negSucc m) (2 ^ (HL n k.bits))
def LI(k:IntKind)(a b:Int)(f:Nat->Nat->Nat)(g:Int):Int:=match a,b with
 | .ofNat m,.ofNat n=>match Ac m (JX k)&&Ac n (JX k)with
  | true => .ofNat (f m n)
  | false=>g
 | _,_=>g
def IP(k:IntKind)(a b:Int):Int:=LI k a b Nat.land (k.wrap (Be k.bits a &&& Be k.bits b).toNat)
def Gt(k:IntKind)(a b:Int):Int:=LI k a b Nat.lor (k.wrap (Be k.bits a ||| Be k.bits b).toNat)
def AGm(k:IntKind)(a b:Int):Int:=LI k a b Nat.xor (k.wrap (Be k.bits a ^^^ Be k.bits b).toNat)
def dO(k:IntKind)(a b:Int):Int:=k.wrap (Be k.bits a &&& ~~~Be k.bits b).toNat
def mP(k:IntKind)(a:Int):Int:=BH k (Int.sub 0 a)
def AOZ(k:IntKind)(a:Int):Int:=k.wrap (Be k.bits (if k.signed then -1 else k.max) ^^^ Be k.bits a).toNat
def Wt(b:Int)(J:Nat->AH):AH:=match b with
 | .ofNat n=>J n
 | .negSucc _=>none
def nzK(b:Int)(a:AH):AH:=match b with
 | .ofNat 0=>none
 | _=>a
def ABK(op:BinOp)(k c:IntKind)(a b:Int)(J:V->AH):AH:=
 match op with
 | .shl=>Wt b λn=>J (.int k (Eb k a n))
 | .shr=>Wt b λn=>J (.int k (kz k a n))
 | op=>if k=c then
   match op with
   | .add=>J (.int k (BP k a b))
   | .sub=>J (.int k (Ez k a b))
   | .mul=>J (.int k (Qx k a b))
   | .quo=>nzK b (J (.int k (AA1 k a b)))
   | .rem=>nzK b (J (.int k (Int.tmod a b)))
   | .and=>J (.int k (IP k a b))
   | .or=>J (.int k (Gt k a b))
   | .xor=>J (.int k (AGm k a b))
   | .andNot=>J (.int k (dO k a b))
   | .eql=>J (.bool (Cc a b))
   | .neq=>J (.bool (not (Cc a b)))
   | .lss=>J (.bool (Cw a b))
   | .leq=>J (.bool (I2 a b))
   | .gtr=>J (.bool (Cw b a))
   | .geq=>J (.bool (I2 b a))
   | _=>none
  else none
def XS(a b:BS)(J:BS->AH):AH:=match Ac (AN a.len b.len) 1000000000000 with
 | true=>J (a.cat b)
 | false=>none
def ltS(a b:BS):Bool:=Op.bytesLess a.toList b.toList
def AG5(op:BinOp)(a b:BS)(J:V->AH):AH:=
 match op with
 | .add=>XS a b λs=>J (.str s)
 | .eql=>J (.bool (a.beq b))
 | .neq=>J (.bool (not (a.beq b)))
 | .lss=>J (.bool (ltS a b))
 | .leq=>J (.bool (ltS a b || a.beq b))
 | .gtr=>J (.bool (not (ltS a b || a.beq b)))
 | .geq=>J (.bool (not (ltS a b)))
 | _=>none
def Sh(t:Gx)(x y:V)(J:Bool->AH):AH:=match J7 t x y with
 | some b=>J b
 | none=>none
def eqX(op:BinOp)(t:Gx)(x y:V)(J:V->AH):AH:=match op with
 | .eql=>Sh t x y λb=>J (.bool b)
 | .neq=>Sh t x y λb=>J (.bool (not b))
 | _=>none
def ABh(op:BinOp)(t:Gx)(x y:V)(J:V->AH):AH:=
 match t with
 | .none=>match x,y with
  | .int k a,.int c b=>ABK op k c a b J
  | .str a,.str b=>AG5 op a b J
  | _,_=>none
 | t=>eqX op t x y J
def unX(op:UnOp)(x:V)(J:V->AH):AH:=
 match op,x with
 | .neg,.int k n=>J (.int k (mP k n))
 | .xor,.int k n=>J (.int k (AOZ k n))
 | .not,.bool b=>J (.bool (not b))
 | _,_=>none
inductive DN where
 | any | int (k:IntKind) | bool | str | ptr | one
 | agg (l:List DN)
 | tup (l:List DN)
 deriving Inhabited
def BZ(k:IntKind)(v:V)(J:Int->AH):AH:=match v with
 | .int a n=>if k=a then J n else none
 | _=>none
def CN(v:V)(J:Bool->AH):AH:=match v with
 | .bool b=>J b
 | _=>none
def JM(v:V)(J:BS->AH):AH:=match v with
 | .str s=>J s
 | _=>none
def CM(v:V)(J:Nat->Nat->AH):AH:=match v with
 | .ptr b o=>J b o
 | _=>none
def Cl(v:V)(J:List V->AH):AH:=match v with
 | .agg l=>J l
 | _=>none
def HV(v:V)(J:List V->AH):AH:=match v with
 | .tup l=>J l
 | _=>none
def Aj(l:List V)(J:V->List V->AH):AH:=match l with
 | v::l=>J v l
 | []=>none
def BD(l:List V)(a:AH):AH:=match l with
 | []=>a
 | _::_=>none
def E2(v:V)(a:AH):AH:=match v.one with
 | true=>a
 | false=>none
mutual
def rt:DN->V->(V->AH)->AH
 | .any,v,J=>J v
 | .int k,v,J=>BZ k v λn=>J (.int k n)
 | .bool,v,J=>CN v λb=>J (.bool b)
 | .str,v,J=>JM v λs=>J (.str s)
 | .ptr,v,J=>CM v λb o=>J (.ptr b o)
 | .one,v,J=>E2 v (J v)
 | .agg ts,v,J=>Cl v λl=>yE ts l λl'=>J (.agg l')
 | .tup ts,v,J=>HV v λl=>yE ts l λl'=>J (.tup l')
def yE:List DN->List V->(List V->AH)->AH
 | [],l,J=>BD l (J [])
 | t::ts,l,J=>Aj l λv l'=>rt t v λv'=>yE ts l' λl''=>J (v'::l'')
end
abbrev Qs:=List (Nat × (Nat × Nat))
abbrev Rg:=List (Nat × List V)
def Ce(e:Cb)(x:AO)(J:V->AH):AH:=match x with
 | .con v=>match v.live with
  | true=>J v
  | false=>none
 | .tmp t=>match look e t with
  | some v=>J v
  | none=>none
def Ni(e:Cb):List AO->(List V->AH)->AH
 | [],J=>J []
 | x::l,J=>Ce e x λv=>Ni e l λvs=>J (v::vs)
def Nj(e:Cb)(x:Option AO)(J:Option V->AH):AH:=match x with
 | none=>J none
 | some x=>Ce e x λv=>J (some v)
def Qq(e:Cb):List (Nat × Nat × AO)->(List (Nat × Nat × V)->AH)->AH
 | [],J=>J []
 | (o,s,x)::l,J=>Ce e x λv=>Qq e l λr=>J ((o,s,v)::r)
def Gq(q:Qs):AO->Option (Nat × Nat)
 | .tmp t=>look q t
 | .con _=>none
def Vb(o:Option V)(d:Nat)(J:Nat->AH):AH:=match o with
 | none=>J d
 | some v=>match v with
  | .int _ n=>Wt n J
  | _=>none
def BA(s:BS)(lo a:Option V)(J:BS->AH):AH:=
 Vb a s.len λh=>Vb lo 0 λl=>JK (Ac l h&&Ac h s.len) (J (s.sub l h))
def Az(s:BS)(i:Int)(J:Int->AH):AH:=
 Wt i λn=>JK (Cr n s.len) (J (AA (s.get n)))
def BV(v:V)(J:Nat->AH):AH:=match v with
 | .nils=>J 0
 | .sl _ _ n _=>J n
 | .sle _ _ _ _=>J 0
 | _=>none
def Bl(a:Nat)(v:V)(i:Int)(J:Nat->Nat->AH):AH:=match v with
 | .sl b off len _=>Wt i λn=>JK (Cr n len) (J b (AN off (FP n a)))
 | _=>none
def LU(l:List V)(n:Nat)(J:V->AH):AH:=match mL l n with
 | some v=>J v
 | none=>none
def He(l:List V)(off n:Nat)(J:List V->AH):AH:=match Ac (AN off n) l.length with
 | true=>J ((l.drop off).take n)
 | false=>none
def vO(E:EB)(U:H)(b:Nat)(J:List V->AH):AH:=match CB U.bl b with
 | some (.cells l)=>J l
 | some _=>none
 | none=>match CB E b with
  | some (.cells l)=>J l
  | _=>none
def Ee(E:EB)(U:H)(b off:Nat)(J:V->AH):AH:=vO E U b λl=>LU l off J
def Dt(E:EB)(U:H)(b off n:Nat)(J:List V->AH):AH:=vO E U b λl=>He l off n J
def B9(U:H)(b:MP):H:=⟨U.next+1,(U.next,b)::U.bl⟩
def Mq(U:H)(b:Nat)(c:MP):H:=⟨U.next,(b,c)::XJ U.bl b⟩
def Cg(n b off:Nat)(v:V)(U:H)(J:H->AH):AH:=match CB U.bl b with
 | some (.cells l)=>JK (Ax v.cells.length n&&Ac (AN off n) l.length&&BM v.cells) (J (Mq U b (.cells (Gj l off v.cells))))
 | _=>none
def srcK(E:EB)(U:H)(a:Nat)(v:V)(J:Nat->List V->AH):AH:=match v with
 | .nils=>J 0 []
 | .sle _ _ _ _=>J 0 []
 | .sl b off len _=>vO E U b λl=>He l off (len*a) λl'=>J len l'
 | .str s=>match Ax a 1 with
  | true=>J s.len (Pu s.toList)
  | false=>none
 | _=>none
def Gv(E:EB)(a bytes:Nat)(s x:V)(U:H)(J:V->H->AH):AH:=
 srcK E U a x λn c=>
  match s with
  | .sl b 0 len (.op e)=>match n with
   | 0=>J s U
   | n=>match CB U.bl b with
    | some (.cells l)=>JK (Ax l.length (len*a)&&Ax e a&&CX (len+n) bytes&&BM c)
      (VR U.bl b λd=>J (.sl U.next 0 (len+n) (.op a)) ⟨U.next+1,(U.next,.cells (l++c))::d⟩)
    | _=>none
  | s=>BT (Ex E a bytes s x U) J
def KS(E:EB)(U:H)(v:V)(J:BS->AH):AH:=match v with
 | .str _=>none
 | v=>srcK E U 1 v λ_ l=>match GX l with
  | some s=>J (BS.ofList s)
  | none=>none
def JQ(l:List (Nat × Nat × V))(z:List V)(J:List V->AH):AH:=match I3 l z with
 | some l'=>J l'
 | none=>none
def yh(E:EB)(a:Nat)(d s:V)(U:H):Option (V × H):=
 match d,C1 E U a s with
  | .nils,some (_,_)=>some (.int .i64 0,U)
  | .sle _ _ _ _,some (_,_)=>some (.int .i64 0,U)
  | .sl b off len _,some (n,c)=>
   let m:=HL n len
   if m=0 then some (.int .i64 0,U)else
   match look U.bl b with
   | some (.cells l)=>if Ac (off+m*a) l.length&&BM (c.take (m*a))then some (.int .i64 m,U.set b (.cells (Gj l off (c.take (m*a)))))else none
   | _=>none
  | _,_=>none
theorem oE E a d s e U:FY E (.copy a d s) e U=yh E a (Cv e d) (Cv e s) U:=rfl
def EO(e:Cb)(t:Nat)(J:V->AH):AH:=match look e t with
 | some v=>JK v.live (J v)
 | none=>none
def HE(D:Am)(fv:V)(vs:List V)(U:H)(J:V->H->AH):AH:=match fv with
 | .fn g a cap=>BT (D g (a++vs++cap) U) J
 | _=>none
def DM(E:EB)(D:Am)(id r:Nat)(o:Eg)(e:Cb)(U:H)(J:V->H->AH):AH:=
 match o with
 | .mov x=>Ce e x λv=>J v U
 | .bin op t x y=>Ce e x λa=>Ce e y λb=>ABh op t a b λv=>J v U
 | .un op x=>Ce e x λa=>unX op a λv=>J v U
 | .conv (.toInt k) x=>Ce e x λv=>match v with
  | .int _ n=>J (.int k (BH k n)) U
  | _=>none
 | .conv .same x=>Ce e x λv=>JM v λs=>J (.str s) U
 | .conv .toStr x=>Ce e x λv=>KS E U v λu=>J (.str u) U
 | .conv (.toBytes _) x=>Ce e x λv=>JM v λs=>JK (Ac s.len 1000000000000) (J (.sl id 0 s.len (.op 1)) ⟨r,(id,.cells (Pu s.toList))::U.bl⟩)
 | .nilck x=>Ce e x λv=>CM v λb o=>J (.ptr b o) U
 | .faddr off x=>Ce e x λv=>CM v λb o=>J (.ptr b (AN o off)) U
 | .field off none x=>Ce e x λv=>Cl v λl=>LU l off λu=>J u U
 | .field off (some n) x=>Ce e x λv=>Cl v λl=>He l off n λl'=>J (.agg l') U
 | .extract i x=>Ce e x λv=>HV v λl=>LU l i λu=>J u U
 | .iaddrS g x i=>Ce e x λv=>Ce e i λj=>match j with
  | .int _ n=>Bl g v n λb o=>J (.ptr b o) U
  | _=>none
 | .iaddrA len g x i=>Ce e x λv=>Ce e i λj=>match j with
  | .int _ n=>CM v λb o=>Wt n λm=>JK (Cr m len) (J (.ptr b (AN o (FP m g))) U)
  | _=>none
 | .idxStr x i=>Ce e x λv=>Ce e i λj=>JM v λs=>match j with
  | .int _ n=>Az s n λu=>J (.int .u8 u) U
  | _=>none
 | .len true x=>Ce e x λv=>JM v λs=>J (.int .i64 (AA s.len)) U
 | .len false x=>Ce e x λv=>BV v λn=>J (.int .i64 (AA n)) U
 | .lenC n=>J (.int .i64 (AA n)) U
 | .sliceStr x lo w=>Ce e x λv=>Nj e lo λl=>Nj e w λh=>JM v λs=>BA s l h λu=>J (.str u) U
 | .sliceSl g x lo w mx=>Ce e x λv=>Nj e lo λl=>Nj e w λh=>Nj e mx λm=>gK (Dh g v l h m) λu=>J u U
 | .sliceArr n g x lo w mx=>Ce e x λv=>Nj e lo λl=>Nj e w λh=>Nj e mx λm=>gK (Jr n g v l h m) λu=>J u U
 | .mkifc t x=>Ce e x λv=>J (.ifc t v) U
 | .mkfn f a c=>Ni e a λxs=>Ni e c λC=>J (.fn f xs C) U
 | .build z A=>Qq e A λl=>JQ l z λl'=>J (.agg l') U
 | .cap x=>Ce e x λv=>match v with
  | .nils=>J (.int .i64 0) U
  | .sl _ _ _ (.ex c)=>J (.int .i64 (AA c)) U
  | _=>none
 | .min x l=>Ce e x λv=>Ni e l λvs=>gK (W0 v vs) λu=>match u with
  | .int k n=>J (.int k n) U
  | _=>none
 | .max x l=>Ce e x λv=>Ni e l λvs=>gK (W1 v vs) λu=>match u with
  | .int k n=>J (.int k n) U
  | _=>none
 | .load none x=>Ce e x λv=>CM v λb o=>Ee E U b o λu=>J u U
 | .load (some n) x=>Ce e x λv=>CM v λb o=>Dt E U b o n λu=>J (.agg u) U
 | .alloc _ z=>J (.ptr id 0) ⟨r,(id,.cells z)::U.bl⟩
 | .box _ x=>Ce e x λv=>JK (BM v.cells) (J (.ptr id 0) ⟨r,(id,.cells v.cells)::U.bl⟩)
 | .buildSlice _ n z A=>Qq e A λl=>JQ l z λl'=>JK (BM l') (J (.sl id 0 n (.ex n)) ⟨r,(id,.cells l')::U.bl⟩)
 | .mkslice _ _ bytes z len cap=>Ce e len λa=>Ce e cap λb=>match a,b with
  | .int .i64 n,.int .i64 c=>Wt n λn=>Wt c λc=>JK (Ac n c&&Ac (c*bytes) 281474976710656&&Ac c 1000000000000)
    (J (.sl id 0 n (.ex c)) ⟨r,(id,.cells (Bo c z).flatten)::U.bl⟩)
  | _,_=>none
 | .store n x v=>Ce e x λp=>Ce e v λu=>CM p λb o=>Cg n b o u U λU'=>J .dead U'
 | .append _ g bytes s x=>Ce e s λa=>Ce e x λb=>Gv E g bytes a b U J
 | .copy g d s=>Ce e d λa=>Ce e s λb=>BT (yh E g a b U) J
 | .call f q=>Ni e q λvs=>BT (D f vs U) J
 | .callv f q=>Ce e f λfv=>Ni e q λvs=>HE D fv vs U J
 | .mkmap=>J (.mp id) ⟨r,(id,.map [])::U.bl⟩
 | .lookup t z m x=>Ce e m λp=>Ce e x λk=>gK (NY t z p k U) λv=>J v U
 | .mapset t m k v=>Ce e m λp=>Ce e k λa=>Ce e v λb=>BT (VL t p a b U) J
 | .alloc0 B=>J (.ptr id 0) ⟨r,(id,.unit B)::U.bl⟩
 | .box0 B x=>Ce e x λv=>match v with
  | .agg []=>J (.ptr id 0) ⟨r,(id,.unit B)::U.bl⟩
  | _=>none
 | .load0 x=>Ce e x λv=>CM v λ_ _=>J (.agg []) U
 | .store0 x v=>Ce e x λp=>Ce e v λu=>match p,u with
  | .ptr _ _,.agg []=>J .dead U
  | _,_=>none
 | .faddr0 t x=>Ce e x λv=>gK (QE t v U) λu=>J u U
 | .idxArr n g none x i=>Ce e x λv=>Ce e i λj=>Cl v λl=>match j with
  | .int _ k=>Wt k λm=>JK (Cr m n) (LU l (FP m g) λu=>J u U)
  | _=>none
 | .idxArr n g (some s) x i=>Ce e x λv=>Ce e i λj=>Cl v λl=>match j with
  | .int _ k=>Wt k λm=>JK (Cr m n) (He l (FP m g) s λl'=>J (.agg l') U)
  | _=>none
 | _=>none
def ZW(ty:DN)(v:V)(J:List V->AH):AH:=match ty with
 | .agg _=>Cl v λl=>JK (BM l) (J l)
 | _=>E2 v (J [v])
def ta(E:EB)(D:Am)(g:Bool)(id b:Nat)(o:Eg)(ty:DN)(e:Cb)(q:Qs)(r:Rg)(U:H)(J:V->Rg->H->AH)(c:Nat->Nat->AH):AH:=
 match o with
 | .mov x=>match Gq q x with
  | some (m,off)=>c m off
  | none=>DM E D id b o e U λv U'=>rt ty v λa=>J a r U'
 | .nilck x=>match Gq q x with
  | some (m,off)=>c m off
  | none=>DM E D id b o e U λv U'=>rt ty v λa=>J a r U'
 | .faddr d x=>match Gq q x with
  | some (m,off)=>c m (off+d)
  | none=>DM E D id b o e U λv U'=>rt ty v λa=>J a r U'
 | .load none x=>match Gq q x with
  | some (m,off)=>match look r m with
   | some l=>LU l off λv=>rt ty v λa=>J a r U
   | none=>none
  | none=>DM E D id b o e U λv U'=>rt ty v λa=>J a r U'
 | .load (some n) x=>match Gq q x with
  | some (m,off)=>match look r m with
   | some l=>He l off n λl'=>rt ty (.agg l') λa=>J a r U
   | none=>none
  | none=>DM E D id b o e U λv U'=>rt ty v λa=>J a r U'
 | .store n x v=>match Gq q x with
  | some (m,off)=>match g,look r m with
   | true,some l=>match Gq q v with
    | none=>Ce e v λu=>ZW ty u λf=>JK (Ax f.length n&&Ac (off+n) l.length) (J .dead (MS r m (Gj l off f)) U)
    | some _=>none
   | _,_=>none
  | none=>DM E D id b o e U λv U'=>J v r U'
 | o=>DM E D id b o e U λv U'=>rt ty v λa=>J a r U'
inductive XL where
 | nil
 | op (dst:Option Nat) (ty:DN) (looks:List Nat) (o:Eg) (rest:XL)
 | pal (dst:Nat) (looks:List Nat) (el:TypeId) (z:List V) (rest:XL)
 | grp (t:Nat) (b:Bool) (l:XL) (dst:Nat) (looks:List Nat) (c x y:AO) (rest:XL)
 deriving Inhabited
def XL.size:XL->Nat
 | .nil=>0
 | .op _ _ _ _ r=>r.size+1
 | .pal _ _ _ _ r=>r.size+1
 | .grp _ _ l _ _ _ _ _ r=>l.size+(r.size+1)
def XL.flat(g:Option (Nat × Bool)):XL->List Bf
 | .nil=>[]
 | .op d _ _ o r=>⟨d,o,g⟩::r.flat g
 | .pal d _ a z r=>⟨some d,.alloc a z,g⟩::r.flat g
 | .grp t b l d _ c x y r=>l.flat (some (t,b))++⟨some d,.pick c x y,g⟩::r.flat g
def XL.lks:XL->List (List Nat)
 | .nil=>[]
 | .op _ _ k _ r=>k::r.lks
 | .pal _ k _ _ r=>k::r.lks
 | .grp _ _ l _ k _ _ _ r=>l.lks++k::r.lks
def XL.dsts:XL->List Nat
 | .nil=>[]
 | .op d _ _ _ r=>(match d with | some d=>d::r.dsts | none=>r.dsts)
 | .pal d _ _ _ r=>d::r.dsts
 | .grp _ _ l d _ _ _ _ r=>l.dsts++d::r.dsts
def Br{α:Type}(a:List Nat):List (Nat × α)->List (Nat × α)
 | []=>[]
 | (k,v)::l=>match B2 a k with
  | true=>Br a l
  | false=>(k,v)::Br a l
def CL{α:Type}(d:Option Nat)(l:List (Nat × α)):List (Nat × α):=match d with
 | none=>l
 | some d=>Br [d] l
def JY(m:Nat):Qs->List Nat
 | []=>[]
 | (t,p)::l=>match Ax p.1 m with
  | true=>t::JY m l
  | false=>JY m l
def LF(m:Nat)(q:Qs):Qs:=Br (JY m q) q
def Mu:List Nat->Qs->Qs
 | [],_=>[]
 | t::l,q=>match look q t with
  | some p=>(t,p)::Mu l q
  | none=>Mu l q
def Ei(dr:Bool)(a:List Nat)(e:Cb):Cb:=match dr with
 | true=>B7 a e
 | false=>e
def MR(dr:Bool)(a:List Nat)(q:Qs):Qs:=match dr with
 | true=>Mu a q
 | false=>q
def Sc(q:Qs)(d:Option Nat)(p:Nat × Nat):Qs:=match d with
 | some d=>(d,p)::q
 | none=>q
def Fg (E:EB) (D:Am) (dr a:Bool) (p:Nat) (l:XL):Nat->Cb->Qs->Rg->H->(Cb->Qs->Rg->H->AH)->AH:=
 XL.rec (motive:=λ_=>Bool->Nat->Cb->Qs->Rg->H->(Cb->Qs->Rg->H->AH)->AH)
  (λ_ _ e q r U J=>J e q r U)
  (fun d ty f o _ g a i e q r U J=>
   ta E D a U.next (U.next+1) o ty (Ei dr f e) (MR dr f q) r U
    (λv s U'=>g a (i+1) (DF e d v) (CL d q) s U' J)
    (λm off=>g a (i+1) (CL d e) (Sc (CL d q) d (m,off)) r U J))
  (λd _ _ z _ g a i e q r U J=>match a with
   | true=>g true (i+1) (Br [d] e) ((d,(d,0))::LF d (Br [d] q)) ((d,z)::Br [d] r) U J
   | false=>none)
  (fun t b l d f _ x y _ h g a i e q r U J=>
   Ce (Ei dr [t] e) (.tmp t) λc=>CN c λn=>
    Ab (λv U'=>g a (i+l.size+1) ((d,.bool v)::Br (d::l.dsts) e) (Br (d::l.dsts) q) r U' J) λk=>
     match b with
     | true=>AG n
       (h false i e q r U λj _ _ U'=>Ce (Ei dr f j) x λv=>CN v λv=>k v U')
       (Ce (Ei dr f e) y λv=>CN v λv=>k v U)
     | false=>AG n
       (Ce (Ei dr f e) x λv=>CN v λv=>k v U)
       (h false i e q r U λj _ _ U'=>Ce (Ei dr f j) y λv=>CN v λv=>k v U'))
  l a
section
variable {E:EB}{D:Am}{dr:Bool}{n0 i:Nat}{e:Cb}{q:Qs}{r:Rg}{U:H}{J:Cb->Qs->Rg->H->AH}
theorem wK{b} d ty c o a:Fg E D dr b n0 (.op d ty c o a) i e q r U J=ta E D b U.next (U.next+1) o ty (Ei dr c e) (MR dr c q) r U
      (λv f U'=>Fg E D dr b n0 a (i+1) (DF e d v) (CL d q) f U' J)
      (λm off=>Fg E D dr b n0 a (i+1) (CL d e) (Sc (CL d q) d (m,off)) r U J):=rfl
theorem n8 d c b z a:Fg E D dr true n0 (.pal d c b z a) i e q r U J=Fg E D dr true n0 a (i+1) (Br [d] e) ((d,(d,0))::LF d (Br [d] q)) ((d,z)::Br [d] r) U J:=rfl
theorem jS d c b z a:Fg E D dr false n0 (.pal d c b z a) i e q r U J=none:=rfl
theorem n9 {h} t b (l:XL) d f c x y a:Fg E D dr h n0 (.grp t b l d f c x y a) i e q r U J =
      Ce (Ei dr [t] e) (.tmp t) λc=>CN c λj=>
        Ab (fun v U'=>Fg E D dr h n0 a (i+l.size+1) ((d,.bool v)::Br (d::l.dsts) e) (Br (d::l.dsts) q) r U' J) fun k=>
          match b with
          | true=>AG j
              (Fg E D dr false n0 l i e q r U λg _ _ U'=>Ce (Ei dr f g) x λv=>CN v λv=>k v U')
              (Ce (Ei dr f e) y λv=>CN v λv=>k v U)
          | false=>AG j
              (Ce (Ei dr f e) x λv=>CN v λv=>k v U)
              (Fg E D dr false n0 l i e q r U λg _ _ U'=>Ce (Ei dr f g) y λv=>CN v λv=>k v U'):=rfl
end
structure St where
 e:Cb
 q:Qs
 r:Rg
 U:H
inductive XC where
 | skip
 | ops (l:XL)
 | draw (l:XL) (ancs:List Nat)
 | gdraw (ops:List Bf) (plan:List DP) (ts:List (Nat × DN))
 | seq (a b:XC)
 | cond (c:AO) (a b:XC)
 | block (id:Nat) (c:XC)
 | loop (ts:List (Nat × DN)) (ms:List Nat) (rs:List (Nat × List DN)) (c:XC)
 | exit (id:Nat)
 | ret
 | keep (ts:List (Nat × DN)) (ms:List Nat) (rs:List (Nat × List DN)) (c:XC)
 | bad
 deriving Inhabited
def W4(e:Cb):List (Nat × DN)->(Cb->AH)->AH
 | [],J=>J []
 | (t,ty)::l,J=>EO e t λv=>rt ty v λa=>W4 e l λb=>J ((t,a)::b)
def Q6(b a:List Nat)(q:Qs):Qs:=match b with
 | []=>[]
 | t::l=>match look q t with
  | some p=>(match B2 a p.1 with
   | true=>(t,p)::Q6 l a q
   | false=>Q6 l a q)
  | none=>Q6 l a q
def cw(e:Cb):List (Nat × DN)->(Cb->AH)->AH
 | [],J=>J []
 | (t,ty)::l,J=>Ce e (.tmp t) λv=>rt ty v λa=>cw e l λb=>J ((t,a)::b)
def cu(r:Rg):List (Nat × List DN)->(Rg->AH)->AH
 | [],J=>J []
 | (m,b)::l,J=>match look r m with
  | some c=>yE b c λa=>cu r l λd=>J ((m,a)::d)
  | none=>none
def Bw(f:(St->AH)->St->AH)(N:Nat):St->AH:=Nat.rec (λ_=>none) (λ_ a=>f a) N
theorem Kc f n s:Bw f (n+1) s=f (Bw f n) s:=rfl
def XL.makes:XL->Bool
 | .nil=>false
 | .op _ _ _ o r=>(match o.cls with | .a=>true | _=>r.makes)
 | .pal _ _ _ _ r=>r.makes
 | .grp _ _ l _ _ _ _ _ r=>l.makes || r.makes
def XL.pals:XL->List Nat
 | .nil=>[]
 | .op _ _ _ _ r=>r.pals
 | .pal d _ _ _ r=>d::r.pals
 | .grp _ _ l _ _ _ _ _ r=>l.pals++r.pals
def Hg(q:Qs):List Nat->Bool
 | []=>true
 | d::l=>(JY d q).isEmpty&&Hg q l
def Ko(ts:List (Nat × DN))(d:List Nat)(a:List (Nat × List DN))(s:St)(J:St->AH):AH:=
 cw s.e ts λb=>cu s.r a λc=>J ⟨b,Q6 d (a.map Prod.fst) s.q,c,s.U⟩
def CQ(id:Nat)(c:St->AH)(b:Nat->St->AH):Nat->St->AH:=λj a=>match Ax j id with
 | true=>c a
 | false=>b j a
def Lk(q:Qs)(b:List Nat)(a:AH):AH:=match Hg q b with
 | true=>a
 | false=>none
def DZ(x:Option (Cb × H))(J:Cb->H->AH):AH:=match x with
 | some (e,U)=>J e U
 | none=>none
def A0(E:EB)(D:Am)(W:AJ)(N:Nat)(c:XC):St->(St->AH)->(Nat->St->AH)->(St->AH)->AH:=
 XC.rec (motive:=λ_=>St->(St->AH)->(Nat->St->AH)->(St->AH)->AH)
  (λs a _ _=>a s)
  (λl s a _ _=>Fg E D false true 0 l 0 s.e s.q s.r s.U λe q r U=>a ⟨e,q,r,U⟩)
  (λl _ s a _ _=>Lk s.q l.pals (Fg E D true true 0 l 0 s.e s.q s.r s.U λe q r U=>a ⟨e,q,r,U⟩))
  (λops pl ts s a _ _=>DZ (W ops pl s.e s.U) λu U'=>W4 u ts λk=>a ⟨k,[],[],U'⟩)
  (λ_ _ g f s a b d=>g s (λn=>f n a b d) b d)
  (λc _ _ g f s a b d=>Ce s.e c λv=>CN v λt=>AG t (g s a b d) (f s a b d))
  (λid _ h s a b d=>h s a (CQ id a b) d)
  (λts j i _ h s _ b d=>Ko ts j i s λp=>Bw (λm n=>h n (λo=>Ko ts j i o m) b d) N p)
  (λid s _ b _=>b id s)
  (λs _ _ d=>d s)
  (λts j i _ h s a b d=>Ko ts j i s λp=>h p a b d)
  (λ_ _ _ _=>none)
  c
section
variable {E:EB}{D:Am}{W:AJ}{N:Nat}{s:St}{kn:St->AH}{kx:Nat->St->AH}{kr:St->AH}
theorem oB l:A0 E D W N (.ops l) s kn kx kr=Fg E D false true 0 l 0 s.e s.q s.r s.U λe q r U=>kn ⟨e,q,r,U⟩:=rfl
theorem jV(l:XL) a:A0 E D W N (.draw l a) s kn kx kr=Lk s.q l.pals (Fg E D true true 0 l 0 s.e s.q s.r s.U λe q r U=>kn ⟨e,q,r,U⟩):=rfl
theorem ZR ops pl ts:A0 E D W N (.gdraw ops pl ts) s kn kx kr=DZ (W ops pl s.e s.U) λb U'=>W4 b ts λa=>kn ⟨a,[],[],U'⟩:=rfl
theorem oA a b:A0 E D W N (.seq a b) s kn kx kr=A0 E D W N a s (λe=>A0 E D W N b e kn kx kr) kx kr:=rfl
theorem jW c a b:A0 E D W N (.cond c a b) s kn kx kr=Ce s.e c λv=>CN v λg=>AG g (A0 E D W N a s kn kx kr) (A0 E D W N b s kn kx kr):=rfl
theorem ZS id c:A0 E D W N (.block id c) s kn kx kr=A0 E D W N c s kn (CQ id kn kx) kr:=rfl
theorem jT ts d b c:A0 E D W N (.loop ts d b c) s kn kx kr=Ko ts d b s λh=>Bw (λa i=>A0 E D W N c i (λe=>Ko ts d b e a) kx kr) N h:=rfl
theorem jU ts b a c:A0 E D W N (.keep ts b a c) s kn kx kr=Ko ts b a s λf=>A0 E D W N c f kn kx kr:=rfl
end
structure Dg where
 ntmps:Nat
 params:List DN
 results:List AR
 body:XC
 deriving Inhabited
def Dy(E:EB)(s:St):List AR->(List V->AH)->AH
 | [],J=>J []
 | .tmp t::l,J=>Ce s.e (.tmp t) λv=>Dy E s l λr=>J (v::r)
 | .cell t n::l,J=>match look s.q t with
  | some (m,off)=>match look s.r m with
   | some a=>match n with
    | none=>LU a off λv=>Dy E s l λr=>J (v::r)
    | some n=>He a off n λl'=>Dy E s l λr=>J (.agg l'::r)
   | none=>none
  | none=>Ce s.e (.tmp t) λp=>CM p λb o=>match n with
   | none=>Ee E s.U b o λv=>Dy E s l λr=>J (v::r)
   | some n=>Dt E s.U b o n λv=>Dy E s l λr=>J (.agg v::r)
def Bt(E:EB)(D:Am)(W:AJ)(N:Nat)(f:Dg)(b:List V)(U:H):AH:=
 yE f.params b λa=>A0 E D W N f.body ⟨je 0 a,[],[],U⟩ (λs=>Dy E s f.results λl=>some (Ek l,s.U)) (λ_ _=>none) (λs=>Dy E s f.results λl=>some (Ek l,s.U))
def XC.strip:XC->AC
 | .skip => .skip
 | .ops l => .region (l.flat none)
 | .draw l d => .draw (l.flat none) (List.zipWith DP.mk d l.lks)
 | .gdraw l pl _ => .draw l pl
 | .seq a b => .seq a.strip b.strip
 | .cond c a b => .cond c a.strip b.strip
 | .block id c => .block id c.strip
 | .loop _ _ _ c => .loop c.strip
 | .exit id => .exit id
 | .ret => .ret
 | .keep _ _ _ c=>c.strip
 | .bad => .bad
def Dg.strip(f:Dg):AFn:=⟨f.ntmps,f.results,[],f.body.strip⟩
def DN.known:DN->Bool
 | .any=>false
 | _=>true
def okD(d:Option Nat)(ty:DN)(o:Eg):Bool:=match d,o with
 | none,_=>true
 | some _,.store _ _ _=>false
 | some _,o=>(match o.cls with
  | .k=>ty.known
  | _=>true)
def vC(a:Option Nat)(b:List Nat):Bool:=match a with
 | none=>true
 | some t=>B2 b t
def lZ(t:Nat)(b:Bool)(d:List Nat)(c x y:AO):Bool:=
 (match c with
  | .tmp u=>Ax u t
  | .con _=>false) &&
 (match (match b with | true=>y | false=>x)with
  | .tmp u=>!B2 d u
  | .con _=>true)
def XL.okG:XL->Option (List Nat)->Option Nat->Bool
 | .nil,_,_=>true
 | .op d ty g o r,e,a=>okD d ty o&&vC a g&&(match e,d with
  | some l,some d=>r.okG (some (d::l)) a
  | _,_=>r.okG e a)
 | .pal _ g _ _ r,e,a=>vC a g&&(match e with
  | some _=>false
  | none=>r.okG none a)
 | .grp t b l d g c x y r,e,a=>vC a g&&B2 g t && !B2 l.dsts t&&lZ t b l.dsts c x y&&(match e with
  | some f=>B2 f t
  | none=>true)&&l.okG (some []) (some t)&&(match e with
  | some f=>r.okG (some (d::l.dsts++f)) a
  | none=>r.okG none a)
def nn(l:List Bf)(a:List Nat):Bool:=
 Za l.length λk=>match l[k]? with
  | some b=>(match b.op.cls with
   | .k=>Za l.length λj=>match l[j]? with
    | some c=>(match c.op.cls with
     | .l=>(a.getD j 0).testBit k || (a.getD k 0).testBit j
     | .a=>!Cr j k || (a.getD k 0).testBit j
     | _=>true)
    | none=>false
   | _=>true)
  | none=>false
def Ws:List Bf->Bool
 | []=>true
 | o::l=>(match o.op with
  | .bad=>false
  | _=>true)&&Ws l
def XC.ok:XC->Bool
 | .skip=>true
 | .ops l=>l.okG none none
 | .draw l d=>l.okG none none&&nn (l.flat none) d&&Ax d.length l.lks.length && !l.makes&&Ws (l.flat none)
 | .gdraw _ _ _=>true
 | .seq a b=>a.ok&&b.ok
 | .cond _ a b=>a.ok&&b.ok
 | .block _ c=>c.ok
 | .loop _ _ _ c=>c.ok
 | .exit _=>true
 | .ret=>true
 | .keep _ _ _ c=>c.ok
 | .bad=>true
end
def AO.t(i:Nat):AO := .tmp i
def AO.i(n:Nat):AO := .con (.int .i64 (AA n))
def DN.i:DN := .int .i64
def XL.m(d s:Nat)(k:XL):XL := .op (some d) .any [s] (.mov (.tmp s)) k
def XL.p(d:Nat)(a:List Nat)(o:Eg)(k:XL):XL := .op (some d) .any a o k
def AO.ts:List AO->List Nat
 | []=>[]
 | .tmp i::l=>i::AO.ts l
 | .con _::l=>AO.ts l
def XL.f(d k s:Nat)(r:XL):XL := .op (some d) .any [s] (.faddr k (.tmp s)) r
def XL.n(d s:Nat)(r:XL):XL := .op (some d) .any [s] (.nilck (.tmp s)) r
def XL.u(d s:Nat)(r:XL):XL := .op (some d) .any [s] (.len false (.tmp s)) r
def XL.s(d e x i:Nat)(r:XL):XL := .op (some d) .any [x,i] (.iaddrS e (.tmp x) (.tmp i)) r
def XL.b(d:Nat)(o:BinOp)(t:Gx)(x y:AO)(r:XL):XL := .op (some d) .any (AO.ts [x,y]) (.bin o t x y) r
def XL.q(d n:Nat)(r:XL):XL := .op (some d) .any [] (.mov (.con (.int .i64 (AA n)))) r
def XL.c(d:Nat)(v:V)(r:XL):XL := .op (some d) .any [] (.mov (.con v)) r
def XL.l(d:Nat)(t:DN)(s:Nat)(r:XL):XL := .op (some d) t [s] (.load none (.tmp s)) r
def XL.k(d:Nat)(t:DN)(f:FuncId)(l:List AO)(r:XL):XL := .op (some d) t (AO.ts l) (.call f l) r
def XL.w(n x v:Nat)(r:XL):XL := .op none .any [x,v] (.store n (.tmp x) (.tmp v)) r
def Eg.ts:Eg->List Nat
 | .mov x | .box _ x | .load _ x | .nilck x | .un _ x | .conv _ x | .mkifc _ x | .faddr _ x | .field _ _ x | .extract _ x | .len _ x | .cap x=>AO.ts [x]
 | .bin _ _ x y | .iaddrS _ x y | .iaddrA _ _ x y | .idxStr x y | .idxArr _ _ _ x y | .append _ _ _ x y | .mkslice _ _ _ _ x y=>AO.ts [x,y]
 | .call _ l=>AO.ts l
 | .callv f l=>AO.ts (f::l)
 | _=>[]
def XL.P(d:Nat)(o:Eg)(r:XL):XL := .op (some d) .any o.ts o r
def XL.O(d:Nat)(t:DN)(o:Eg)(r:XL):XL := .op (some d) t o.ts o r
def XL.gA(t:Nat)(b:Bool)(l:XL)(d c x:Nat)(r:XL):XL := .grp t b l d [c,x] (.tmp c) (.tmp x) (.con (.bool false)) r
def XL.gO(t:Nat)(b:Bool)(l:XL)(d c x:Nat)(r:XL):XL := .grp t b l d [c,x] (.tmp c) (.con (.bool true)) (.tmp x) r
def XC.z(a:XL)(b:XC):XC := .seq (.ops a) b
def OU(l:List V)(U:H)(J:H->AH):AH:=JK (BM l) (J (B9 U (.cells l)))
def F0(k:IntKind)(l:List V)(J:Int->List V->AH):AH:=Aj l λv m=>BZ k v λn=>J n m
def LA(l:List V)(J:Bool->List V->AH):AH:=Aj l λv m=>CN v λb=>J b m
def NA(l:List V)(J:BS->List V->AH):AH:=Aj l λv m=>JM v λs=>J s m
end Go.Og
namespace Go.Og
theorem Bb{α}(p:Nat × α) l id:CB (p::l) id=if p.1=id then some p.2 else CB l id:=by
 show (Bool.rec (motive:=λ_=>Option α) (CB l id) (some p.2) (Ax p.1 id))=_;by_cases h:p.1=id
 ·have d:Ax p.1 id=true:=by rw[AW];exact h
  rw[if_pos h,d]
 ·rw[if_neg h]
  have:=Ga.2 (by rw[ne_eq,AW];exact h);rw[this]
theorem B8{α}(l:List (Nat × α)) id:CB l id=look l id:=by
 induction l with
 | nil=>rfl | cons p l f=>
  obtain⟨k,b⟩:=p;rw[Bb,f];simp only[look,AW]
theorem ZQ{α}(p:Nat × α) l id:XJ (p::l) id=if p.1=id then l else p::XJ l id:=by
 show (Bool.rec (motive:=λ_=>List (Nat × α)) (p::XJ l id) l (Ax p.1 id))=_;by_cases h:p.1=id
 ·have d:Ax p.1 id=true:=by rw[AW];exact h
  rw[if_pos h,d]
 ·rw[if_neg h]
  have:=Ga.2 (by rw[ne_eq,AW];exact h);rw[this]
theorem ZE{α}(l:List (Nat × α)) id k (h:id≠k):look (XJ l id) k=look l k:=by
 induction l with
 | nil=>rfl | cons p l o=>
  obtain⟨m,b⟩:=p;rw[ZQ];by_cases j:m=id
  ·rw[if_pos j];simp only[look,AW];rw[if_neg (by omega)]
  ·rw[if_neg j];simp only[look,AW,o]
theorem KW l n:mL l n=l[n]? := by
 induction l generalizing n with
 | nil=>rfl | cons a l h=>
  cases n with
  | zero=>rfl | succ n=>exact h n
theorem TD l id J:VR l id J=J (drop l id):=by
 induction l generalizing J with
 | nil=>rfl | cons p l i=>
  obtain⟨k,b⟩:=p;show VR l id (λl'=>Bool.rec (J ((k,b)::l')) (J l') (Ax k id))=_;rw[i];simp only[drop];cases h:Ax k id<;>simp[h]
theorem EL{c a r}(h:JK c a=some r):c=true/\a=some r:=by
 cases c with
 | true=>exact⟨rfl,h⟩ | false=>cases h
theorem CC a b:AG true a b=a:=rfl
theorem Bx a b:AG false a b=b:=rfl
theorem MK{x J r}(h:gK x J=some r):∃v,x=some v/\J v=some r:=by
 cases x with
 | none=>cases h | some v=>exact⟨v,rfl,h⟩
theorem I9{x J r}(h:BT x J=some r):∃v U,x=some (v,U)/\J v U=some r:=by
 cases x with
 | none=>cases h | some p=>exact⟨p.1,p.2,rfl,h⟩
theorem Ug{k:IntKind}{n}(h:inK k n=true):k.wrap n=n:=by
 unfold IntKind.wrap;cases n with
 | ofNat m=>
  simp only[inK,Ag]at h;cases k<;>simp only[JX]at h<;>simp only[IntKind.signed,IntKind.bits,Int.ofNat_eq_natCast]<;>simp<;>omega
 | negSucc m=>
  simp only[inK,Cs]at h;cases k<;>simp only[AHf]at h<;>(first | omega | skip)<;>simp only[IntKind.signed,IntKind.bits,Int.negSucc_eq]<;>simp<;>omega
theorem G0(k:IntKind) n:BH k n=k.wrap n:=by
 unfold BH;cases h:inK k n with
 | true=>exact(Ug h).symm | false=>rfl
theorem mW a b:Cw a b=decide (a<b):=by
 cases a<;>cases b<;>simp only[Cw]<;>(rw[QR];simp[Cs])<;>omega
theorem ml a b:I2 a b=decide (a<=b):=by
 cases a<;>cases b<;>simp only[I2]<;>(rw[QR];simp[Ag])<;>omega
theorem wu(k:IntKind) a b:BP k a b=k.wrap (a+b):=G0 k _
theorem uu(k:IntKind) a b:Ez k a b=k.wrap (a-b):=G0 k _
theorem vg(k:IntKind) a b:Qx k a b=k.wrap (a*b):=G0 k _
theorem vQ(k:IntKind)(a b:Int):AA1 k a b=k.wrap (a.tdiv b):=G0 k _
theorem ve(k:IntKind) a:mP k a=k.wrap (0-a):=G0 k _
theorem u6(k:IntKind) a n:Eb k a n=k.wrap (a*2 ^ (HL n k.bits)):=by
 unfold Eb;rw[G0];have h:(AA (Nat.pow 2 (HL n k.bits)))=2 ^ (HL n k.bits):=by
  show ((2 ^ (HL n k.bits):Nat):Int)=_;rw[Int.natCast_pow];rfl
 rw[h];rfl
theorem u5(k:IntKind)(a:Int) n:kz k a n=a.fdiv (2 ^ (HL n k.bits)):=by
 cases a with
 | ofNat m=>
  have h:2 ^ (HL n k.bits)=((2 ^ (HL n k.bits):Nat):Int):=by rw[Int.natCast_pow];rfl
  rw[h];show ((m / 2 ^ (HL n k.bits):Nat):Int)=Int.fdiv (m:Int) _;rw[Int.fdiv_eq_ediv_of_nonneg _ (Int.natCast_nonneg _),Int.natCast_ediv]
 | negSucc m=>rfl
theorem Qy(k:IntKind):∃p,JX k+1=2 ^ p/\p<=k.bits:=by
 cases k
 ·exact⟨7,rfl,by decide⟩
 ·exact⟨15,rfl,by decide⟩
 ·exact⟨31,rfl,by decide⟩
 ·exact⟨63,rfl,by decide⟩
 ·exact⟨8,rfl,by decide⟩
 ·exact⟨16,rfl,by decide⟩
 ·exact⟨32,rfl,by decide⟩
 ·exact⟨64,rfl,by decide⟩
theorem KB{k:IntKind}{m}(h:m<=JX k):(Be k.bits (AA m)).toNat=m:=by
 obtain⟨p,f,d⟩:=Qy k;have c:m<2 ^ k.bits:=Cj (by omega) (Ii (by decide) d);have:Be k.bits (AA m)=BitVec.ofNat k.bits m:=by
  show Be k.bits (m:Int)=_;rw[BitVec.ofInt_natCast]
 rw[this,BitVec.toNat_ofNat,Fy c]
theorem Qj{k a b f g}(h:∀m n,a = .ofNat m->b = .ofNat n->m<=JX k->n<=JX k->g = .ofNat (f m n)):LI k a b f g=g:=by
 unfold LI;split
 ·rename_i m n
  cases j:(Ac m (JX k)&&Ac n (JX k))with
  | true=>
   simp only[AI,Ag]at j;exact(h m n rfl rfl j.1 j.2).symm
  | false=>rfl
 ·rfl
theorem QX{k:IntKind}{m}(h:m<=JX k):k.wrap m = .ofNat m:=Ug (by simpa[inK]using h)
theorem wo(k:IntKind) a b:IP k a b=k.wrap (Be k.bits a &&& Be k.bits b).toNat:=by
 refine Qj λm n h i f g=>?_;subst h i;rw[BitVec.toNat_and,KB f,KB g];exact QX (AU Nat.and_le_left f)
theorem AA7(k:IntKind) a b:Gt k a b=k.wrap (Be k.bits a ||| Be k.bits b).toNat:=by
 refine Qj λm n h i j g=>?_;subst h i;obtain⟨p,l,_⟩:=Qy k;rw[BitVec.toNat_or,KB j,KB g];refine QX ?_;have:=ANx (x:=m) (y:=n) (n:=p) (by omega) (by omega);omega
theorem uc(k:IntKind) a b:AGm k a b=k.wrap (Be k.bits a ^^^ Be k.bits b).toNat:=by
 refine Qj λm n h i j g=>?_;subst h i;obtain⟨p,l,_⟩:=Qy k;rw[BitVec.toNat_xor,KB j,KB g];refine QX ?_;have:=Nat.xor_lt_two_pow (x:=m) (y:=n) (n:=p) (by omega) (by omega);omega
theorem GQ{b:Int}{J r}(h:Wt b J=some r):0<=b/\J b.toNat=some r:=by
 cases b with
 | ofNat n=>exact⟨Int.natCast_nonneg n,h⟩ | negSucc n=>cases h
theorem mG{b a r}(h:nzK b a=some r):b≠0/\a=some r:=by
 unfold nzK at h;split at h
 ·cases h
 ·rename_i j;exact⟨λi=>j (by rw[i];rfl),h⟩
theorem jK {op t k u a b J r} (h:ABK op k u a b J=some r):∃v,KC op t (.int k a) (.int u b)=some v/\J v=some r:=by
  cases op
  case shl=>
    obtain⟨s,o⟩:=GQ h;refine⟨_,?_,o⟩;simp only[KC,Qk];rw[if_neg (by omega),u6];rfl
  case shr=>
    obtain⟨s,o⟩:=GQ h;refine⟨_,?_,o⟩;simp only[KC,Qk];rw[if_neg (by omega),u5];rfl
  all_goals
    simp only[ABK]at h;split at h
    · rename_i y
      simp only[KC];rw[if_pos y];first
        | (refine⟨_,?_,h⟩;simp only[dN,VZ,wu,uu,vg,wo,AA7,uc,dO,VX,mW,ml];rfl)
        | (obtain⟨s,o⟩:=mG h
           refine⟨_,?_,o⟩;simp only[dN];rw[if_neg s];first | rfl | (rw[vQ];rfl))
    · cases h
theorem ja{a b:BS}{J r}(h:XS a b J=some r):Ac (AN a.len b.len) 1000000000000=true/\J (a.cat b)=some r:=by
 unfold XS at h;split at h
 ·rename_i i;exact⟨i,h⟩
 ·cases h
theorem il{op t a b J r}(h:AG5 op a b J=some r):∃v,KC op t (.str a) (.str b)=some v/\J v=some r:=by
 cases op
 case add=>
  have m:XS a b (λs=>J (.str s))=some r:=h;obtain⟨l,n⟩:=ja m;exact⟨_,by simp only[KC,kp,l],n⟩
 all_goals first
  | exact⟨_,rfl,h⟩ | cases h
theorem XI{t x y J r}(h:Sh t x y J=some r):∃b,J7 t x y=some b/\J b=some r:=by
 unfold Sh at h;split at h
 ·exact⟨_,‹_›,h⟩
 ·cases h
theorem O8{t x y b}(h:J7 t x y=some b):(∀k n g m,x = .int k n->y = .int g m->False)/\(∀l m,x = .str l->y = .str m->False):=by
 constructor
 ·rintro k n g m rfl rfl;cases t<;>(first|cases h|(rename_i b;cases b<;>cases h))
 ·rintro l m rfl rfl;cases t<;>(first|cases h|(rename_i b;cases b<;>cases h))
theorem jc{op t x y J r}(h:ABh op t x y J=some r):∃v,KC op t x y=some v/\J v=some r:=by
 have d:∀t,eqX op t x y J=some r->∃v,KC op t x y=some v/\J v=some r:=by
  intro t h;unfold eqX at h;split at h
  ·obtain⟨b,m,q⟩:=XI h
   obtain⟨s,p⟩:=O8 m;refine⟨_,?_,q⟩;unfold KC;split
   ·exact(s _ _ _ _ rfl rfl).elim
   ·exact(p _ _ rfl rfl).elim
   ·simp only[m];rfl
  ·obtain⟨b,m,q⟩:=XI h
   obtain⟨s,p⟩:=O8 m;refine⟨_,?_,q⟩;unfold KC;split
   ·exact(s _ _ _ _ rfl rfl).elim
   ·exact(p _ _ rfl rfl).elim
   ·simp only[m];rfl
  ·cases h
 cases t with
 | none=>
  simp only[ABh]at h;split at h
  ·exact jK h
  ·exact il h
  ·cases h
 | bool=>exact d _ h | ptr=>exact d _ h | slice=>exact d _ h | map=>exact d _ h | func=>exact d _ h | iface b=>exact d _ h | flat l=>exact d _ h
theorem kc{op x J r}(h:unX op x J=some r):∃v,unV op x=some v/\J v=some r:=by
 unfold unX at h;split at h
 ·exact⟨_,by simp only[unV,ve],h⟩
 ·exact⟨_,rfl,h⟩
 ·exact⟨_,rfl,h⟩
 ·cases h
theorem Qo{k v J r}(h:BZ k v J=some r):∃n,v = .int k n/\J n=some r:=by
 unfold BZ at h;split at h
 ·split at h
  ·rename_i g;subst g;exact⟨_,rfl,h⟩
  ·cases h
 ·cases h
theorem Gl{v J r}(h:CN v J=some r):∃b,v = .bool b/\J b=some r:=by
 unfold CN at h;split at h
 ·exact⟨_,rfl,h⟩
 ·cases h
theorem Gb{v J r}(h:JM v J=some r):∃s,v = .str s/\J s=some r:=by
 unfold JM at h;split at h
 ·exact⟨_,rfl,h⟩
 ·cases h
theorem Ej{v J r}(h:CM v J=some r):∃b o,v = .ptr b o/\J b o=some r:=by
 unfold CM at h;split at h
 ·exact⟨_,_,rfl,h⟩
 ·cases h
theorem Ge{v J r}(h:Cl v J=some r):∃l,v = .agg l/\J l=some r:=by
 unfold Cl at h;split at h
 ·exact⟨_,rfl,h⟩
 ·cases h
theorem Mr{v J r}(h:HV v J=some r):∃l,v = .tup l/\J l=some r:=by
 unfold HV at h;split at h
 ·exact⟨_,rfl,h⟩
 ·cases h
theorem We{l J r}(h:Aj l J=some r):∃v m,l=v::m/\J v m=some r:=by
 unfold Aj at h;split at h
 ·exact⟨_,_,rfl,h⟩
 ·cases h
theorem Y5{l a r}(h:BD l a=some r):l=[]/\a=some r:=by
 unfold BD at h;split at h
 ·exact⟨rfl,h⟩
 ·cases h
theorem Ms{v:V}{a r}(h:E2 v a=some r):v.one=true/\a=some r:=by
 unfold E2 at h;split at h
 ·exact⟨‹_›,h⟩
 ·cases h
mutual
theorem IZ:∀(ty:DN) (v:V) (J:V->AH) (r:V × H),rt ty v J=some r->J v=some r
 | .any,v,J,r,h=>by simpa only [rt]using h
 | .int k,v,J,r,h=>by simp only[rt]at h;obtain⟨n,rfl,h2⟩:=Qo h;exact h2
 | .bool,v,J,r,h=>by simp only[rt]at h;obtain⟨n,rfl,h2⟩:=Gl h;exact h2
 | .str,v,J,r,h=>by simp only[rt]at h;obtain⟨n,rfl,h2⟩:=Gb h;exact h2
 | .ptr,v,J,r,h=>by simp only[rt]at h;obtain⟨b,o,rfl,h2⟩:=Ej h;exact h2
 | .one,v,J,r,h=>by simp only[rt]at h;exact(Ms h).2
 | .agg ts,v,J,r,h=>by simp only[rt]at h;obtain⟨l,rfl,h2⟩:=Ge h;exact LM ts l _ r h2
 | .tup ts,v,J,r,h=>by simp only[rt]at h;obtain⟨l,rfl,h2⟩:=Mr h;exact LM ts l _ r h2
theorem LM:∀(ts:List DN) (l:List V) (J:List V->AH) (r:V × H),yE ts l J=some r->J l=some r
 | [],l,J,r,h=>by simp only[yE]at h;obtain⟨rfl,h2⟩:=Y5 h;exact h2
 | t::ts,l,J,r,h=>by
  simp only[yE]at h
  obtain⟨v,m,rfl,h⟩:=We h
  have:=IZ t v _ r h
  exact LM ts m _ r this
end
def GJ(e:Cb):Prop:=∀t v,look e t=some v->v.live=true
theorem Ak{e x J r}(h:Ce e x J=some r):∃v,Cv e x=v/\(GJ e->v.live=true)/\J v=some r:=by
 unfold Ce at h;split at h
 ·rename_i v
  split at h
  ·exact⟨v,rfl,λ_=>‹_›,h⟩
  ·cases h
 ·rename_i t
  cases f:look e t with
  | none=>rw[f]at h;cases h | some v=>
   rw[f]at h;exact⟨v,by simp only[Cv,H4,f],λl=>l t v f,h⟩
theorem Gf{e}:∀l J r,Ni e l J=some r->(GJ e->(Gu e l).all V.live=true)/\J (Gu e l)=some r
 | [],J,r,h=>⟨λ_=>rfl,h⟩ | x::l,J,r,h=>by
  simp only[Ni]at h;obtain⟨v,i,j,h⟩:=Ak h;obtain⟨k,m⟩:=Gf l _ r h;subst i;exact⟨λg=>by simp only[Gu,Cf,ig,j g,BX];exact k g,m⟩
theorem Fp{e x J r}(h:Nj e x J=some r):J (D2 e x)=some r:=by
 cases x with
 | none=>exact h | some x=>
  obtain⟨v,f,_,h⟩:=Ak h;subst f;exact h
theorem LQ{e}:∀l J r,Qq e l J=some r->J (LR e l)=some r
 | [],J,r,h=>h | (o,s,x)::l,J,r,h=>by
  simp only[Qq]at h;obtain⟨v,g,_,h⟩:=Ak h;have:=LQ l _ r h;subst g;exact this
theorem Hi{l n J r}(h:LU l n J=some r):∃v,l[n]? = some v/\J v=some r:=by
 unfold LU at h;rw[KW]at h;split at h
 ·exact⟨_,‹_›,h⟩
 ·cases h
theorem Hd{l:List V}{off n J r}(h:He l off n J=some r):Ac (off+n) l.length=true/\J ((l.drop off).take n)=some r:=by
 unfold He at h;split at h
 ·exact⟨‹_›,h⟩
 ·cases h
theorem LP{E U b J r}(h:vO E U b J=some r):∃l,rd E U b=some l/\J l=some r:=by
 unfold vO at h;rw[B8]at h;unfold rd;split at h
 ·rename_i i;rw[i];exact⟨_,rfl,h⟩
 ·cases h
 ·rename_i i
  rw[B8]at h;rw[i];split at h
  ·rename_i j;rw[j];exact⟨_,rfl,h⟩
  ·cases h
theorem PC{o d J r}(h:Vb o d J=some r):∃n,Ip o d=some n/\J n=some r:=by
 unfold Vb at h;split at h
 ·exact⟨d,rfl,h⟩
 ·split at h
  ·obtain⟨j,k⟩:=GQ h
   exact⟨_,by simp only[Ip,if_pos j],k⟩
  ·cases h
theorem Y2{v J r}(h:BV v J=some r):∃n,J n=some r/\∀e x,Cv e x=v->Bp (.len false x) e=some (.int .i64 n):=by
 unfold BV at h;split at h
 ·exact⟨0,h,λe x d=>by simp only[Bp,d];rfl⟩
 ·exact⟨_,h,λe x d=>by simp only[Bp,d]⟩
 ·exact⟨0,h,λe x d=>by simp only[Bp,d];rfl⟩
 ·cases h
theorem Sv{E U g v J r}(h:srcK E U g v J=some r):∃n l,C1 E U g v=some (n,l)/\J n l=some r:=by
 unfold srcK at h;split at h
 ·exact⟨_,_,rfl,h⟩
 ·exact⟨_,_,rfl,h⟩
 ·obtain⟨l,q,p⟩:=LP h
  obtain⟨o,m⟩:=Hd p;exact⟨_,_,by simp only[C1,Sb,q,o,if_true];rfl,m⟩
 ·split at h
  ·rename_i k
   rw[AW]at k;exact⟨_,_,by simp only[C1,if_pos k],h⟩
  ·cases h
 ·cases h
structure Lv(U2 U1:H):Prop where
 next:U2.next=U1.next
 sub:∀k b,look U2.bl k=some b->look U1.bl k=some b
theorem Lv.refl U:Lv U U:=⟨rfl,λ_ _ h=>h⟩
theorem S7(U:H) b c k:look (Mq U b c).bl k=if b=k then some c else look U.bl k:=by
 simp only[Mq,look,AW];by_cases h:b=k
 ·rw[if_pos h,if_pos h]
 ·rw[if_neg h,if_neg h,ZE _ _ _ h]
theorem lJ{U:H}{b c d}(h:look U.bl b=some d):Lv (Mq U b c) (U.set b c):=by
 refine⟨rfl,λk u f=>?_⟩;rw[S7]at f;simp only[H.set,Io];by_cases l:b=k
 ·subst l;rw[if_pos rfl]at f;rw[if_pos rfl,h];exact f
 ·rw[if_neg l]at f;rw[if_neg l];exact f
theorem kq{n b off}{v:V}{U J r}(h:Cg n b off v U J=some r):
  ∃p k,J k=some r/\Lv k p/\∀E e x y,Cv e x = .ptr b off->Cv e y=v->FY E (.store n x y) e U=some (.dead,p):=by
 unfold Cg at h;rw[B8]at h;split at h
 ·rename_i l o
  obtain⟨s,h⟩:=EL h;refine⟨_,_,h,lJ o,λE e x y w t=>?_⟩;have g:(Ax v.cells.length n&&Ac (off+n) l.length&&BM v.cells)=true:=s;simp only[FY,w,t,o];rw[if_pos g]
 ·cases h
theorem TN{E j bytes s x U J r}(h:Gv E j bytes s x U J=some r):
  ∃v o,Ex E j bytes s x U=some (v,o)/\J v o=some r:=by
 unfold Gv at h;obtain⟨n,y,w,h⟩:=Sv h;split at h
 ·rename_i b len e
  split at h
  ·exact⟨_,_,by simp only[Ex,w];rfl,h⟩
  ·rename_i C
   split at h
   ·rename_i l u
    rw[B8]at u;obtain⟨B,h⟩:=EL h;rw[TD]at h;refine⟨_,_,?_,h⟩;simp only[Ex,w];rw[if_neg (by omega),u];simp only;rw[if_pos B];rfl
   ·cases h
 ·obtain⟨v,o,A,z⟩:=I9 h
  exact⟨v,o,A,z⟩
theorem RC{l z J r}(h:JQ l z J=some r):∃l',I3 l z=some l'/\J l'=some r:=by
 unfold JQ at h;split at h
 ·exact⟨_,‹_›,h⟩
 ·cases h
theorem au{E D id nx}{o:Eg}{e}{U:H}{J r}(h:DM E D id nx o e U J=some r):
  (o.cls = .p/\∃v,(GJ e->Bp o e=some v)/\J v U=some r)\/(o.cls = .l/\∃v,(GJ e->Cy E o e U=some v)/\J v U=some r) \/
  (o.cls = .a/\∃v b,(GJ e->Cz o e id=some (v,b))/\J v ⟨nx,(id,b)::U.bl⟩=some r) \/
  (o.cls = .k/\∃v U1 U2,(GJ e->FW E D o e U=some (v,U1))/\Lv U2 U1/\J v U2=some r):=by
 have P:∀{v},o.cls = .p->(GJ e->Bp o e=some v)->J v U=some r->(o.cls = .p/\∃v,(GJ e->Bp o e=some v)/\J v U=some r)\/(o.cls = .l/\∃v,(GJ e->Cy E o e U=some v)/\J v U=some r) \/
  (o.cls = .a/\∃v b,(GJ e->Cz o e id=some (v,b))/\J v ⟨nx,(id,b)::U.bl⟩=some r) \/
  (o.cls = .k/\∃v U1 U2,(GJ e->FW E D o e U=some (v,U1))/\Lv U2 U1/\J v U2=some r):=λQ O h3 => .inl ⟨Q,_,O,h3⟩
 have L:∀{v},o.cls = .l->(GJ e->Cy E o e U=some v)->J v U=some r->(o.cls = .p/\∃v,(GJ e->Bp o e=some v)/\J v U=some r)\/(o.cls = .l/\∃v,(GJ e->Cy E o e U=some v)/\J v U=some r) \/
  (o.cls = .a/\∃v b,(GJ e->Cz o e id=some (v,b))/\J v ⟨nx,(id,b)::U.bl⟩=some r) \/
  (o.cls = .k/\∃v U1 U2,(GJ e->FW E D o e U=some (v,U1))/\Lv U2 U1/\J v U2=some r):=λQ O h3 => .inr (.inl ⟨Q,_,O,h3⟩)
 have A:∀{v b},o.cls = .a->(GJ e->Cz o e id=some (v,b))->J v ⟨nx,(id,b)::U.bl⟩=some r->(o.cls = .p/\∃v,(GJ e->Bp o e=some v)/\J v U=some r)\/(o.cls = .l/\∃v,(GJ e->Cy E o e U=some v)/\J v U=some r) \/
  (o.cls = .a/\∃v b,(GJ e->Cz o e id=some (v,b))/\J v ⟨nx,(id,b)::U.bl⟩=some r) \/
  (o.cls = .k/\∃v U1 U2,(GJ e->FW E D o e U=some (v,U1))/\Lv U2 U1/\J v U2=some r):=λQ O h3 => .inr (.inr (.inl ⟨Q,_,_,O,h3⟩))
 have K:∀{v U1 U2},o.cls = .k->(GJ e->FW E D o e U=some (v,U1))->Lv U2 U1->J v U2=some r->(o.cls = .p/\∃v,(GJ e->Bp o e=some v)/\J v U=some r)\/(o.cls = .l/\∃v,(GJ e->Cy E o e U=some v)/\J v U=some r) \/
  (o.cls = .a/\∃v b,(GJ e->Cz o e id=some (v,b))/\J v ⟨nx,(id,b)::U.bl⟩=some r) \/
  (o.cls = .k/\∃v U1 U2,(GJ e->FW E D o e U=some (v,U1))/\Lv U2 U1/\J v U2=some r):=λQ O h3 h4 => .inr (.inr (.inr ⟨Q,_,_,_,O,h3,h4⟩))
 cases o with
 | mov x=>
  simp only[DM]at h;obtain⟨v,G,S,h⟩:=Ak h;exact P rfl (λM=>by simp only[Bp,G,S M,if_true]) h
 | bin op t x y=>
  simp only[DM]at h;obtain⟨v,G,S,h⟩:=Ak h;obtain⟨u,N,_,h⟩:=Ak h;obtain⟨w,hw,h⟩:=jc h;exact P rfl (λM=>by simp only[Bp,G,N,hw]) h
 | un op x=>
  simp only[DM]at h;obtain⟨v,G,S,h⟩:=Ak h;obtain⟨w,hw,h⟩:=kc h;exact P rfl (λM=>by simp only[Bp,G,hw]) h
 | conv t x=>
  cases t with
  | toInt k=>
   simp only[DM]at h;obtain⟨v,G,S,h⟩:=Ak h;split at h
   ·rw[G0]at h;exact P rfl (λM=>by simp only[Bp,G]) h
   ·cases h
  | same=>
   simp only[DM]at h;obtain⟨v,G,S,h⟩:=Ak h;obtain⟨s,rfl,R⟩:=Gb h;replace h:=R;exact P rfl (λM=>by simp only[Bp,G]) h
  | toBytes el=>
   simp only[DM]at h;obtain⟨v,G,S,h⟩:=Ak h;obtain⟨s,rfl,R⟩:=Gb h;replace h:=R;obtain⟨hc,h⟩:=EL h;exact A rfl (λM=>by simp only[Cz,G,hc,if_true]) h
  | toStr=>
   simp only[DM]at h;obtain⟨v,G,S,h⟩:=Ak h;unfold KS at h;split at h
   ·cases h
   ·rename_i hns
    obtain⟨n,l,Q,O⟩:=Sv h;split at O
    ·rename_i s hs
     have hnot:(Cv e x).isStr=false:=by
      rw[G];cases v<;>first | rfl | (exact(hns _ rfl).elim)
     refine L rfl (λM=>?_) O;simp only[Cy,hnot];rw[G,Q];simp[hs]
    ·cases O
  | bad=>simp only[DM]at h;cases h
 | nilck x=>
  simp only[DM]at h;obtain⟨v,G,S,h⟩:=Ak h;obtain⟨b,o,rfl,R⟩:=Ej h;replace h:=R;exact P rfl (λM=>by simp only[Bp,G]) h
 | faddr off x=>
  simp only[DM]at h;obtain⟨v,G,S,h⟩:=Ak h;obtain⟨b,o,rfl,R⟩:=Ej h;replace h:=R;exact P rfl (λM=>by simp only[Bp,G];rfl) h
 | field off n x=>
  cases n with
  | none=>
   simp only[DM]at h;obtain⟨v,G,S,h⟩:=Ak h;obtain⟨l,rfl,R⟩:=Ge h;replace h:=R;obtain⟨u,N,h⟩:=Hi h;exact P rfl (λM=>by simp only[Bp,G,N]) h
  | some n=>
   simp only[DM]at h;obtain⟨v,G,S,h⟩:=Ak h;obtain⟨l,rfl,R⟩:=Ge h;replace h:=R;obtain⟨N,h⟩:=Hd h;exact P rfl (λM=>by simp only[Bp,G,N,if_true]) h
 | extract i x=>
  simp only[DM]at h;obtain⟨v,G,S,h⟩:=Ak h;obtain⟨l,rfl,R⟩:=Mr h;replace h:=R;obtain⟨u,N,h⟩:=Hi h;exact P rfl (λM=>by simp only[Bp,G,N]) h
 | iaddrS esz x i=>
  simp only[DM]at h;obtain⟨v,G,S,h⟩:=Ak h;obtain⟨u,N,_,h⟩:=Ak h;split at h
  ·unfold Bl at h
   split at h
   ·obtain⟨Q,h⟩:=GQ h
    obtain⟨O,h⟩:=EL h;simp only[Cs]at O;exact P rfl (λM=>by simp only[Bp,G,N];rw[if_pos ⟨Q,by omega⟩];rfl) h
   ·cases h
  ·cases h
 | iaddrA len esz x i=>
  simp only[DM]at h;obtain⟨v,G,S,h⟩:=Ak h;obtain⟨u,N,_,h⟩:=Ak h;split at h
  ·obtain⟨b,o,rfl,R⟩:=Ej h
   replace h:=R;obtain⟨Q,h⟩:=GQ h;obtain⟨O,h⟩:=EL h;simp only[Cs]at O;exact P rfl (λM=>by simp only[Bp,G,N];rw[if_pos ⟨Q,by omega⟩];rfl) h
  ·cases h
 | idxStr x i=>
  simp only[DM]at h;obtain⟨v,G,S,h⟩:=Ak h;obtain⟨u,N,_,h⟩:=Ak h;obtain⟨s,rfl,R⟩:=Gb h;replace h:=R;split at h
  ·obtain⟨Q,h⟩:=GQ h
   obtain⟨O,h⟩:=EL h;exact P rfl (λM=>by simp only[Bp,G,N];rw[if_pos Q,if_pos O];rfl) h
  ·cases h
 | len b x=>
  cases b with
  | true=>
   simp only[DM]at h;obtain⟨v,G,S,h⟩:=Ak h;obtain⟨s,rfl,R⟩:=Gb h;replace h:=R;exact P rfl (λM=>by simp only[Bp,G];rfl) h
  | false=>
   simp only[DM]at h;obtain⟨v,G,S,h⟩:=Ak h;obtain⟨n,Q,O⟩:=Y2 h;exact P rfl (λ_=>O e x G) Q
 | lenC n=>simp only[DM]at h;exact P rfl (λM=>by simp only[Bp];rfl) h | sliceStr x lo hi=>
  simp only[DM]at h;obtain⟨v,G,S,h⟩:=Ak h;have h:=Fp h;have h:=Fp h;obtain⟨s,rfl,R⟩:=Gb h;replace h:=R;unfold BA at h;obtain⟨a,ha,h⟩:=PC h;obtain⟨b,hb,h⟩:=PC h;obtain⟨hc,h⟩:=EL h;exact P rfl (λM=>by simp only[Bp,G,Jq,ha,hb,hc,if_true]) h
 | sliceSl esz x lo hi mx=>
  simp only[DM]at h;obtain⟨v,G,S,h⟩:=Ak h;have h:=Fp h;have h:=Fp h;have h:=Fp h;obtain⟨u,N,h⟩:=MK h;exact P rfl (λM=>by simp only[Bp,G,N]) h
 | sliceArr n esz x lo hi mx=>
  simp only[DM]at h;obtain⟨v,G,S,h⟩:=Ak h;have h:=Fp h;have h:=Fp h;have h:=Fp h;obtain⟨u,N,h⟩:=MK h;exact P rfl (λM=>by simp only[Bp,G,N]) h
 | mkifc t x=>
  simp only[DM]at h;obtain⟨v,G,S,h⟩:=Ak h
  exact P rfl (λM=>by simp only[Bp,G,S M,if_true]) h
 | mkfn f a c=>
  simp only[DM]at h
  obtain⟨Q,h⟩:=Gf _ _ _ h
  obtain⟨O,h⟩:=Gf _ _ _ h
  exact P rfl (λM=>by simp only[Bp,Q M,O M,Bool.and_self,if_true]) h
 | build z ps=>
  simp only[DM]at h
  have h:=LQ _ _ _ h
  obtain⟨l',hf,h⟩:=RC h
  exact P rfl (λM=>by simp only[Bp,hf]) h
 | cap x=>
  simp only[DM]at h
  obtain⟨v,G,S,h⟩:=Ak h
  split at h
  ·exact P rfl (λM=>by simp only[Bp,G]) h
  ·exact P rfl (λM=>by simp only[Bp,G];rfl) h
  ·cases h
 | min x l=>
  simp only[DM]at h
  obtain⟨v,G,S,h⟩:=Ak h
  obtain⟨_,h⟩:=Gf _ _ _ h
  obtain⟨u,N,h⟩:=MK h
  split at h
  ·exact P rfl (λM=>by simp only[Bp,G,N]) h
  ·cases h
 | max x l=>
  simp only[DM]at h
  obtain⟨v,G,S,h⟩:=Ak h
  obtain⟨_,h⟩:=Gf _ _ _ h
  obtain⟨u,N,h⟩:=MK h
  split at h
  ·exact P rfl (λM=>by simp only[Bp,G,N]) h
  ·cases h
 | load n x=>
  cases n with
  | none=>
   simp only[DM]at h
   obtain⟨v,G,S,h⟩:=Ak h
   obtain⟨b,o,rfl,R⟩:=Ej h
   replace h:=R
   obtain⟨l,hr,h⟩:=LP h
   obtain⟨u,N,h⟩:=Hi h
   exact L rfl (λM=>by simp only[Cy,G,hr,N]) h
  | some n=>
   simp only[DM]at h
   obtain⟨v,G,S,h⟩:=Ak h
   obtain⟨b,o,rfl,R⟩:=Ej h
   replace h:=R
   obtain⟨l,hr,h⟩:=LP h
   obtain⟨N,h⟩:=Hd h
   exact L rfl (λM=>by simp only[Cy,G,Sb,hr,N,if_true]) h
 | alloc el z=>simp only[DM]at h;exact A rfl (λM=>by simp only[Cz]) h
 | box el x=>
  simp only[DM]at h
  obtain⟨v,G,S,h⟩:=Ak h
  obtain⟨hc,h⟩:=EL h
  exact A rfl (λM=>by simp only[Cz,G,S M,hc,Bool.and_self,if_true]) h
 | buildSlice el n z ps=>
  simp only[DM]at h
  have h:=LQ _ _ _ h
  obtain⟨l',hf,h⟩:=RC h
  obtain⟨hc,h⟩:=EL h
  exact A rfl (λM=>by simp only[Cz,hf,hc,if_true]) h
 | mkslice el esz bytes z len cap=>
  simp only[DM]at h
  obtain⟨v,G,_,h⟩:=Ak h
  obtain⟨u,N,_,h⟩:=Ak h
  split at h
  ·obtain⟨Q,h⟩:=GQ h
   obtain⟨O,h⟩:=GQ h
   obtain⟨hc,h⟩:=EL h
   simp only[AI,Ag]at hc
   obtain⟨⟨c1,c2⟩,c3⟩:=hc
   refine A rfl (λM=>?_) h
   simp only[Cz,G,N]
   have hcb:∀c:Int,0<=c->c*bytes=((c.toNat*bytes:Nat):Int):=λc O=>by rw[Int.natCast_mul,Int.toNat_of_nonneg O]
   rw[if_pos ⟨Q,by omega,by rw[hcb _ O];omega,by omega⟩]
  ·cases h
 | store n x v=>
  simp only[DM]at h
  obtain⟨p,hp,_,h⟩:=Ak h
  obtain⟨u,N,_,h⟩:=Ak h
  obtain⟨b,o,rfl,R⟩:=Ej h
  replace h:=R
  obtain⟨U1,U2,Q,O,h3⟩:=kq h
  exact K rfl (λM=>by simp only[FW,wm,Eg.cls];exact h3 E e x v hp N) O Q
 | append el esz bytes s x=>
  simp only[DM]at h
  obtain⟨p,hp,_,h⟩:=Ak h
  obtain⟨u,N,_,h⟩:=Ak h
  obtain⟨v,U1,Q,O⟩:=TN h
  exact K rfl (λM=>by simp only[FW,wm,Eg.cls,FY,hp,N];exact Q) (Lv.refl _) O
 | copy esz d s=>
  simp only[DM]at h
  obtain⟨p,hp,_,h⟩:=Ak h
  obtain⟨u,N,_,h⟩:=Ak h
  obtain⟨v,U1,Q,O⟩:=I9 h
  exact K rfl (λM=>by simp only[FW,wm,Eg.cls];rw[oE,hp,N];exact Q) (Lv.refl _) O
 | call f args=>
  simp only[DM]at h
  obtain⟨Q,h⟩:=Gf _ _ _ h
  obtain⟨v,U1,O,h3⟩:=I9 h
  exact K rfl (λM=>by simp only[FW,Q M,if_true];exact O) (Lv.refl _) h3
 | callv f args=>
  simp only[DM]at h
  obtain⟨p,hp,_,h⟩:=Ak h
  obtain⟨Q,h⟩:=Gf _ _ _ h
  unfold HE at h
  split at h
  ·obtain⟨v,U1,O,h3⟩:=I9 h
   exact K rfl (λM=>by simp only[FW,hp,Q M,if_true];exact O) (Lv.refl _) h3
  ·cases h
 | mkmap=>simp only[DM]at h;exact A rfl (λM=>by simp only[Cz]) h
 | lookup t z m x=>
  simp only[DM]at h
  obtain⟨p,hp,_,h⟩:=Ak h
  obtain⟨u,N,_,h⟩:=Ak h
  obtain⟨v,G,h⟩:=MK h
  exact L rfl (λM=>by simp only[Cy,hp,N];exact G) h
 | mapset t m k v=>
  simp only[DM]at h
  obtain⟨p,hp,_,h⟩:=Ak h
  obtain⟨u,N,_,h⟩:=Ak h
  obtain⟨x,hx,_,h⟩:=Ak h
  obtain⟨y,U1,Q,O⟩:=I9 h
  exact K rfl (λM=>by simp only[FW,wm,Eg.cls,FY,hp,N,hx];exact Q) (Lv.refl _) O
 | alloc0 el=>simp only[DM]at h;exact A rfl (λM=>by simp only[Cz]) h
 | box0 el x=>
  simp only[DM]at h
  obtain⟨v,G,S,h⟩:=Ak h
  split at h
  ·exact A rfl (λM=>by simp only[Cz,G]) h
  ·cases h
 | load0 x=>
  simp only[DM]at h
  obtain⟨v,G,S,h⟩:=Ak h
  obtain⟨b,o,rfl,R⟩:=Ej h
  replace h:=R
  exact P rfl (λM=>by simp only[Bp,G]) h
 | store0 x v=>
  simp only[DM]at h
  obtain⟨p,hp,_,h⟩:=Ak h
  obtain⟨u,N,_,h⟩:=Ak h
  split at h
  ·exact K rfl (λM=>by simp only[FW,wm,Eg.cls,FY,hp,N]) (Lv.refl _) h
  ·cases h
 | faddr0 t x=>
  simp only[DM]at h
  obtain⟨p,hp,_,h⟩:=Ak h
  obtain⟨v,G,h⟩:=MK h
  exact L rfl (λM=>by simp only[Cy,hp];exact G) h
 | idxArr n esz s x i=>
  cases s with
  | none=>
   simp only[DM]at h
   obtain⟨p,hp,_,h⟩:=Ak h
   obtain⟨u,N,_,h⟩:=Ak h
   obtain⟨l,rfl,R⟩:=Ge h
   replace h:=R
   split at h
   ·obtain⟨Q,h⟩:=GQ h
    obtain⟨hc,h⟩:=EL h
    obtain⟨v,G,h⟩:=Hi h
    simp only[Cs]at hc
    exact P rfl (λM=>by simp only[Bp,hp,N,M2];rw[if_pos ⟨Q,by omega⟩];exact G) h
   ·cases h
  | some s=>
   simp only[DM]at h
   obtain⟨p,hp,_,h⟩:=Ak h
   obtain⟨u,N,_,h⟩:=Ak h
   obtain⟨l,rfl,R⟩:=Ge h
   replace h:=R
   split at h
   ·obtain⟨Q,h⟩:=GQ h
    obtain⟨hc,h⟩:=EL h
    obtain⟨G,h⟩:=Hd h
    simp only[Cs]at hc
    exact P rfl (λM=>by simp only[Bp,hp,N,M2];rw[if_pos ⟨Q,by omega⟩];simp only[Nat.mul_eq]at G ⊢;rw[if_pos G]) h
   ·cases h
 | pick c a b=>simp only[DM]at h;cases h
 | bad=>simp only[DM]at h;cases h
inductive Out where
 | val (v:V) (r:Rg) (U:H)
 | mark (m off:Nat)
inductive HP(E:EB)(D:Am)(pw:Bool)(id nx:Nat)(o:Eg)(e:Cb)(q:Qs)(r:Rg)(U:H):Out->Prop where
 | p (v:V) (hc:o.cls = .p) (h:GJ e->Bp o e=some v):HP E D pw id nx o e q r U (.val v r U)
 | l (v:V) (hc:o.cls = .l) (h:GJ e->Cy E o e U=some v):HP E D pw id nx o e q r U (.val v r U)
 | a (v:V) (b:MP) (hc:o.cls = .a) (h:GJ e->Cz o e id=some (v,b)):HP E D pw id nx o e q r U (.val v r ⟨nx,(id,b)::U.bl⟩)
 | k (v:V) (U1 U2:H) (hc:o.cls = .k) (h:GJ e->FW E D o e U=some (v,U1)) (hs:Lv U2 U1):HP E D pw id nx o e q r U (.val v r U2)
 | mv (x:AO) (m off:Nat) (ho:o = .mov x\/o = .nilck x) (hm:Gq q x=some (m,off)):HP E D pw id nx o e q r U (.mark m off)
 | fa (d:Nat) (x:AO) (m off:Nat) (ho:o = .faddr d x) (hm:Gq q x=some (m,off)):HP E D pw id nx o e q r U (.mark m (off+d))
 | ld (x:AO) (m off:Nat) (l:List V) (v:V) (ho:o = .load none x) (hm:Gq q x=some (m,off)) (hl:look r m=some l) (h:l[off]? = some v):HP E D pw id nx o e q r U (.val v r U)
 | ldn (n:Nat) (x:AO) (m off:Nat) (l:List V) (ho:o = .load (some n) x) (hm:Gq q x=some (m,off)) (hl:look r m=some l) (h:off+n<=l.length):HP E D pw id nx o e q r U (.val (.agg ((l.drop off).take n)) r U)
 | st (n:Nat) (x y:AO) (m off:Nat) (l cs:List V) (u:V) (hw:pw=true) (ho:o = .store n x y) (hm:Gq q x=some (m,off)) (hl:look r m=some l) (hn:Gq q y=none) (hu:Cv e y=u) (hlu:GJ e->u.live=true)
   (hcs:cs=u.cells) (h1:BM cs=true) (hlen:cs.length=n) (h:off+n<=l.length):HP E D pw id nx o e q r U (.val .dead (MS r m (Gj l off cs)) U)
theorem jC{v:V}(h:v.one=true):v.cells=[v]:=by cases v<;>first | rfl | cases h
theorem XP{ty}{v:V}{J r}(h:ZW ty v J=some r):BM v.cells=true/\J v.cells=some r:=by
 unfold ZW at h;split at h
 ·obtain⟨l,rfl,c⟩:=Ge h
  obtain⟨i,c⟩:=EL c;exact⟨i,c⟩
 ·obtain⟨f,c⟩:=Ms h
  rw[jC f];exact⟨by simp[BM,f],c⟩
theorem vL{ty:DN}{v:V}{J r}(h:rt ty v J=some r)(t:ty.known=true):v.live=true:=by
 cases ty with
 | any=>cases t | int k=>simp only[rt]at h;obtain⟨n,rfl,_⟩:=Qo h;rfl | bool=>simp only[rt]at h;obtain⟨n,rfl,_⟩:=Gl h;rfl | str=>simp only[rt]at h;obtain⟨n,rfl,_⟩:=Gb h;rfl | ptr=>simp only[rt]at h;obtain⟨b,o,rfl,_⟩:=Ej h;rfl | one=>simp only[rt]at h;have:=(Ms h).1;cases v<;>first | rfl | cases this
 | agg ts=>simp only[rt]at h;obtain⟨l,rfl,_⟩:=Ge h;rfl | tup ts=>simp only[rt]at h;obtain⟨l,rfl,_⟩:=Mr h;rfl
theorem mA{E D pw id N}{o:Eg}{ty:DN}{e q r U J Q z}
  (h:ta E D pw id N o ty e q r U J Q=some z) :
  ∃C,HP E D pw id N o e q r U C/\(match C with
   | .val v W U'=>J v W U'=some z/\((∃n x y,o = .store n x y)\/o.cls ≠ .k\/ty.known=false\/v.live=true) | .mark m off=>Q m off=some z):=by
 have gen:(DM E D id N o e U λv U'=>rt ty v λv'=>J v' r U')=some z->∃C,HP E D pw id N o e q r U C/\(match C with
   | .val v W U'=>J v W U'=some z/\((∃n x y,o = .store n x y)\/o.cls ≠ .k\/ty.known=false\/v.live=true) | .mark m off=>Q m off=some z):=by
  intro h;rcases au h with ⟨s,v,w,A⟩|⟨s,v,w,A⟩|⟨s,v,b,w,A⟩|⟨s,v,S,P,w,A,K⟩
  ·exact⟨_,.p v s w,IZ _ _ _ _ A,.inr (.inl (by rw[s];intro h;cases h))⟩
  ·exact⟨_,.l v s w,IZ _ _ _ _ A,.inr (.inl (by rw[s];intro h;cases h))⟩
  ·exact⟨_,.a v b s w,IZ _ _ _ _ A,.inr (.inl (by rw[s];intro h;cases h))⟩
  ·refine⟨_,.k v S P s w A,IZ _ _ _ _ K,?_⟩
   cases hk:ty.known with
   | false=>exact .inr (.inr (.inl rfl)) | true=>exact .inr (.inr (.inr (vL K hk)))
 have np:∀{c:Cls},c = .p\/c = .l->c ≠ .k:=by rintro c (rfl | rfl)<;>(intro h;cases h)
 cases o with
 | mov x=>
  simp only[ta]at h;split at h
  ·rename_i m off B;exact⟨_,.mv x m off (.inl rfl) B,h⟩
  ·exact gen h
 | nilck x=>
  simp only[ta]at h;split at h
  ·rename_i m off B;exact⟨_,.mv x m off (.inr rfl) B,h⟩
  ·exact gen h
 | faddr d x=>
  simp only[ta]at h;split at h
  ·rename_i m off B;exact⟨_,.fa d x m off rfl B,h⟩
  ·exact gen h
 | load n x=>
  cases n with
  | none=>
   simp only[ta]at h;split at h
   ·rename_i m off B
    split at h
    ·rename_i l I
     obtain⟨v,hv,h⟩:=Hi h;exact⟨_,.ld x m off l v rfl B I hv,IZ _ _ _ _ h,.inr (.inl (by intro h;cases h))⟩
    ·cases h
   ·exact gen h
  | some n=>
   simp only[ta]at h;split at h
   ·rename_i m off B
    split at h
    ·rename_i l I
     obtain⟨hv,h⟩:=Hd h;exact⟨_,.ldn n x m off l rfl B I (by simpa using hv),IZ _ _ _ _ h,.inr (.inl (by intro h;cases h))⟩
    ·cases h
   ·exact gen h
 | store n x v=>
  simp only[ta]at h;split at h
  ·rename_i m off B
   split at h
   ·rename_i l I
    split at h
    ·rename_i hn
     obtain⟨u,hu,T,h⟩:=Ak h;obtain⟨w,h⟩:=XP h;obtain⟨s,h⟩:=EL h;simp only[AI,AW,Ag]at s;exact⟨_,.st n x v m off l u.cells u rfl rfl B I hn hu T rfl w s.1 s.2,h,.inl ⟨n,x,v,rfl⟩⟩
    ·cases h
   ·cases h
  ·have h:=h
   rcases au h with ⟨s,v,w,A⟩|⟨s,v,w,A⟩|⟨s,v,b,w,A⟩|⟨s,v,S,P,w,A,K⟩
   ·cases s
   ·cases s
   ·cases s
   ·exact⟨_,.k v S P s w A,K,.inl ⟨_,_,_,rfl⟩⟩
 | _=>exact gen (by simpa only [ta]using h)
variable {P:Program}{D:Am}{C:Cx}{R:Ren}{U:H}{w w':World}
abbrev Bs:=Nat->Option BI
structure X2(C:Cx)(R:Ren)(B:Bs)(r:Rg)(U:H)(w:World):Prop where
 at_:∀m i,B m=some i->C.O i.blk/\∃l,look r m=some l/\JC R i (.cells l) w
 inj:∀m m' i i',B m=some i->B m'=some i'->i.blk=i'.blk->m=m'
 apart:∀m i,B m=some i->∀id b j,look U.bl id=some b->R id=some j->j.blk≠i.blk
structure Ig(R:Ren)(e:Cb)(tmps:Array Value):Prop where
 at_:∀(k:Nat) (v:V),look e k=some v->∃x,tmps[k]? = some x/\BE R v=some x
structure V7(B:Bs)(q:Qs)(tmps:Array Value):Prop where
 at_:∀(k m off:Nat),look q k=some (m,off)->∃i,B m=some i/\tmps[k]? = some (.pointer (some ⟨i.blk,i.shift+off,none⟩))
theorem NZ{v:V}{x}(h:BE R v=some x):v.live=true:=by
 cases v<;>first | rfl | (simp[BE]at h)
theorem Ig.env{e a}(h:Ig R e a):Ch R e a:=⟨λk v b => .inr (h.at_ k v b)⟩
theorem Ig.live{e a}(h:Ig R e a):GJ e:=λt v f=>by
 obtain⟨x,_,d⟩:=h.at_ t v f;exact NZ d
theorem Ig.mono{f e a}(h:Ig R e a)(d:Le R f):Ig f e a:=
 ⟨λk v j=>by obtain⟨x,i,g⟩:=h.at_ k v j;exact⟨x,i,C8 d v x g⟩⟩
theorem ER.frame(h:ER C R U w)(d:∀c,c<w.heap.size->((∃id b j,look U.bl id=some b/\R id=some j/\j.blk=c)\/¬C.O c)->w'.heap[c]? = w.heap[c]?)
  (s:w.heap.size<=w'.heap.size) (t:w'.os=w.os) (o:w'.tape=w.tape) (p:w'.output=w.output):ER C R U w':=by
 refine⟨h.fresh,?_,h.inj,?_,h.glob,?_,AU h.size s,h.new,t.trans h.os,o.trans h.tape,p.trans h.output⟩
 ·intro id b r
  obtain⟨i,q,u,k⟩:=h.own id b r;exact⟨i,q,u,k.mono (Le.refl _) (d _ k.lt (.inl ⟨id,b,i,r,q,rfl⟩))⟩
 ·intro id b r
  obtain⟨i,q,m,k⟩:=h.ext id b r;refine⟨i,q,m,k.mono (Le.refl _) (d _ ?_ (.inr m))⟩;rcases Av i.blk w.heap.size with n|n
  ·exact n
  ·exact absurd (h.new _ (AU h.size n)) m
 ·intro c m
  rw[<-h.fr c m];rcases Av c w.heap.size with n|n
  ·exact d _ n (.inr m)
  ·exact absurd (h.new _ (AU h.size n)) m
theorem X2.mono{e B r}{U':H}(h:X2 C R B r U w)(d:Le R e)(a:∀m i,B m=some i->w'.heap[i.blk]? = w.heap[i.blk]?)
  (k:∀m i,B m=some i->∀id b j,look U'.bl id=some b->e id=some j->j.blk≠i.blk):X2 C e B r U' w' where
 at_ m i o:=by
  obtain⟨q,l,p,n⟩:=h.at_ m i o;exact⟨q,l,p,n.mono d (a m i o)⟩
 inj:=h.inj;apart:=k
theorem X2.lt{B r}(h:X2 C R B r U w){m}{i:BI}(d:B m=some i):i.blk<w.heap.size:=by
 obtain⟨_,l,_,c⟩:=h.at_ m i d;exact c.lt
theorem X2.one(h:ER C R U w){B r}(T:X2 C R B r U w){m}{i:BI}(N:B m=some i){l}(W:look r m=some l):
  ER { C with O:=λe=>e=i.blk\/w.heap.size<=e,w0:=w } (JJ R U.next i) ⟨U.next+1,[(U.next,.cells l)]⟩ w:=by
 have o:=(FD R U.next i).le h.fresh;obtain⟨Q,l',t,E⟩:=T.at_ m i N;rw[W]at t;cases t;have s:∀e,(e=i.blk\/w.heap.size<=e)->C.O e:=by
  rintro e (rfl|z)
  ·exact Q
  ·exact h.new _ (AU h.size z)
 have f:∀id b,look [(U.next,MP.cells l)] id=some b->id=U.next/\b = .cells l:=by
  intro id b k;simp only[look,AW]at k;split at k
  ·rename_i S;cases k;exact⟨S.symm,rfl⟩
  ·cases k
 refine⟨?_,?_,?_,?_,?_,λ_ _=>rfl,AL _,λ_ k => .inr k,rfl,rfl,rfl⟩
 ·intro id F
  have G:U.next+1<=id:=F;rw[Bv (by omega)];exact h.fresh id (by omega)
 ·intro id b k
  obtain⟨rfl,rfl⟩:=f id b k;exact⟨i,CT _ _ _,.inl rfl,E.mono o rfl⟩
 ·intro id y b P j Z k D _ _ _
  rw[(f id b k).1,(f y P D).1]
 ·intro id b k
  obtain⟨j,A,M,L⟩:=h.ext id b k;exact⟨j,o _ _ A,λX=>M (s _ X),L.mono o rfl⟩
 ·intro g z
  obtain⟨j,A,k⟩:=h.glob g z;exact⟨j,o _ _ A,k⟩
theorem Ch.cons{e a}(h:Ch R e a){t v x}(o:a[t]? = some x)(n:BE R v=some x):Ch R ((t,v)::e) a:=by
 refine⟨λk u f=>?_⟩;simp only[look,AW]at f;split at f
 ·rename_i p;subst p;cases f;exact .inr ⟨x,o,n⟩
 ·exact h.at_ k u f
theorem I1{α l m}{a c:α}(h:look l m=some a) k:look (MS l m c) k=if m=k then some c else look l k:=by
 rw[Io];by_cases d:m=k
 ·subst d;rw[if_pos rfl,if_pos rfl,h];rfl
 ·rw[if_neg d,if_neg d]
structure V9(C:Cx)(R:Ren)(B:Bs)(r:Rg)(U:H)(w:World):Prop where
 rel:ER C R U w
 priv:X2 C R B r U w
theorem NK (hD:∀f,DB P C.E C.G f (D f)) {B} {r:Rg} (hm:V9 C R B r U w) {a:Act} {e:Cb} {q:Qs} (he:Ig R e a.tmps) (hq:V7 B q a.tmps)
    (o:Oper) {pw:Bool}{id nx:Nat} (hid:R id=none) (hlt:id<nx) (hnx:U.next<=nx) {out:Out} (h:HP C.E D pw id nx (Ah P C.G o.op) e q r U out) (K:Act->World->Prop) (Q:Exit->Act->World->Prop)
    (hV:∀v r' U',out = .val v r' U'->∀R' w' x,Le R R'->(∀k,k<U.next->k≠id->R' k=R k)->U.next<=U'.next->V9 C R' B r' U' w'->((v = .dead/\(Ah P C.G o.op).cls = .k)\/BE R' v=some x)->K (a.put o.dst x) w')
    (hM:∀m off,out = .mark m off->∀i,B m=some i->K (a.put o.dst (.pointer (some ⟨i.blk,i.shift+off,none⟩))) w):o.wp P a w K Q:=by
  obtain⟨J,G⟩:=hm;have hg:=J.globOk;have hmark:∀x m off,Gq q x=some (m,off)->∃t i,x = .tmp t/\B m=some i/\a.tmps[t]? = some (.pointer (some ⟨i.blk,i.shift+off,none⟩)):=by
    intro x m off hx;cases x with
    | con v=>cases hx | tmp t=>
      obtain⟨i,h1,h2⟩:=hq.at_ t m off hx;exact⟨t,i,rfl,h1,h2⟩
  have hle2:∀i,Le R (JJ R U.next i):=λi=>(FD R U.next i).le J.fresh;have hg2:∀i,EV C.G (JJ R U.next i):=λi g hgg=>by
    obtain⟨j,hj,hb⟩:=hg g hgg;exact⟨j,hle2 i _ _ hj,hb⟩
  have hcp:∀i off,BE (JJ R U.next i) (.ptr U.next off)=some (.pointer (some ⟨i.blk,i.shift+off,none⟩)):=λi off=>DX (CT _ _ _);cases h with
  | p v hc h=>
    replace h:=h he.live;obtain⟨x,hx,hrun⟩:=Nv he.env hg o h w;unfold Oper.wp;rw[hrun];exact hV v r U rfl R w x (Le.refl _) (λ_ _ _=>rfl) (AL _) ⟨J,G⟩ (.inr hx)
  | l v hc h=>
    replace h:=h he.live
    obtain⟨x,hx,hrun⟩:=Nx J he.env o h
    unfold Oper.wp;rw[hrun]
    exact hV v r U rfl R w x (Le.refl _) (λ_ _ _=>rfl) (AL _) ⟨J,G⟩ (.inr hx)
  | a v b hc h=>
    replace h:=h he.live
    obtain⟨x,w',i,hrun,hn,hi,hx,hok⟩:=QI (a:=a) (P:=P) he.env hg o h hid w
    unfold Oper.wp;rw[hrun]
    have hle:Le R (JJ R id i):=λk j M=>by
      by_cases hke:k=id
      · subst hke;rw[hid]at M;cases M
      · rw[Bv hke];exact M
    have hrel1:ER C R ⟨nx,U.bl⟩ w:=J.congr (λk M=>J.fresh k (AU hnx M)) (λ_ _ hb=>hb)
    have hrel2:ER C (JJ R id i) ⟨nx,(id,b)::U.bl⟩ w':=by
      refine hrel1.allocAt hid hlt hn b i hi hok rfl (λk=>?_)
      simp only[look,AW]
      by_cases M:k=id
      · subst M;simp
      · rw[if_neg (Ne.symm M),if_neg M]
    refine hV v r _ rfl (JJ R id i) w' x hle (λk _ M=>Bv M) hnx ⟨hrel2,G.mono hle (λm j hj=>hn.old _ (G.lt hj)) (λm j hj k c j' M hj'=>?_)⟩ (.inr hx)
    simp only[look,AW]at M
    split at M
    · rename_i he';subst he'
      rw[CT]at hj';cases hj'
      have:=G.lt hj
      omega
    · rename_i he'
      rw[Bv (Ne.symm he')]at hj'
      exact G.apart m j hj k c j' M hj'
  | k v U1 U2 hc h hs=>
    replace h:=h he.live
    have hsh:ER (C.sub R U w) R U w:=J.shrink (Us:=U) rfl (λ_ _ hb=>hb)
    refine VY (C:=C.sub R U w) hD rfl rfl hsh he.env o h K Q (λR' w' x hx hn N hv=>?_)
    have hle:Le R R':=hx.le J.fresh
    have hno:∀m i,B m=some i->¬(C.sub R U w).O i.blk:=by
      rintro m i hm (hg|⟨k,b,j,hb,hj,hbl⟩)
      · have:=G.lt hm;omega
      · exact G.apart m i hm k b j hb hj hbl
    have hrel2:ER C R' U1 w':=J.regrow (Us:=U) (λ_ _ hb=>hb) N hx rfl (λk b M => .inl M)
    have hrel3:ER C R' U2 w':=hrel2.congr (λk M=>hrel2.fresh k (by rw[<-hs.next];exact M)) hs.sub
    have hv:(v = .dead/\(Ah P C.G o.op).cls = .k)\/BE R' v=some x:=hv.imp (λh=>⟨h,hc⟩) (λh=>h)
    refine hV v r U2 rfl R' w' x hle (λk M _=>hx k M) (by rw[hs.next];exact hn) ⟨hrel3,G.mono hle (λm i hm=>N.fr _ (hno m i hm)) (λm i hm k b j M hj hbl=>?_)⟩ hv
    obtain⟨j',hj',hO,_⟩:=N.own k b (hs.sub k b M)
    rw[hj]at hj';cases hj'
    exact hno m i hm (hbl ▸ hO)
  | mv x m off ho hmx=>
    obtain⟨t,i,rfl,hB,ht⟩:=hmark x m off hmx
    have he2:Ch (JJ R U.next i) [(t,.ptr U.next off)] a.tmps:=Ch.cons ⟨λk v M=>by simp[look]at M⟩ ht (hcp i off)
    have hap:Bp (Ah P C.G o.op) [(t,.ptr U.next off)]=some (.ptr U.next off):=by
      have hop:Cv [(t,V.ptr U.next off)] (.tmp t) = .ptr U.next off:=by simp[Cv,H4,look]
      rcases ho with ho|ho<;>rw[ho]<;>simp only[Bp,hop,V.live,if_true]
    obtain⟨x,hx,hrun⟩:=Nv (a:=a) (P:=P) he2 (hg2 i) o hap w
    rw[hcp i off]at hx;cases hx
    unfold Oper.wp;rw[hrun]
    exact hM m off rfl i hB
  | fa d x m off ho hmx=>
    obtain⟨t,i,rfl,hB,ht⟩:=hmark x m off hmx
    have he2:Ch (JJ R U.next i) [(t,.ptr U.next off)] a.tmps:=Ch.cons ⟨λk v M=>by simp[look]at M⟩ ht (hcp i off)
    have hap:Bp (Ah P C.G o.op) [(t,.ptr U.next off)]=some (.ptr U.next (off+d)):=by
      have hop:Cv [(t,V.ptr U.next off)] (.tmp t) = .ptr U.next off:=by simp[Cv,H4,look]
      rw[ho];simp only[Bp,hop]
    obtain⟨x,hx,hrun⟩:=Nv (a:=a) (P:=P) he2 (hg2 i) o hap w
    rw[hcp i (off+d)]at hx;cases hx
    unfold Oper.wp;rw[hrun]
    exact hM m (off+d) rfl i hB
  | ld x m off l v ho hmx hl h=>
    obtain⟨t,i,rfl,hB,ht⟩:=hmark x m off hmx
    have hr2:=G.one J hB hl
    have he2:Ch (JJ R U.next i) [(t,.ptr U.next off)] a.tmps:=Ch.cons ⟨λk v M=>by simp[look]at M⟩ ht (hcp i off)
    have hap:Cy C.E (Ah P C.G o.op) [(t,.ptr U.next off)] ⟨U.next+1,[(U.next,.cells l)]⟩=some v:=by
      have hop:Cv [(t,V.ptr U.next off)] (.tmp t) = .ptr U.next off:=by simp[Cv,H4,look]
      rw[ho];simp[Cy,hop,rd,look,h]
    obtain⟨x,hx,hrun⟩:=Nx (a:=a) (P:=P) hr2 he2 o hap
    unfold Oper.wp;rw[hrun]
    obtain⟨_,l',hl',hok⟩:=G.at_ m i hB
    rw[hl]at hl';cases hl'
    obtain⟨arr,el,lo,hi,_,hh,_⟩:=hok
    obtain⟨y,hy,_⟩:=hh off v h
    have hyx:=C8 (hle2 i) v y hy
    rw[hx]at hyx;cases hyx
    exact hV v r U rfl R w x (Le.refl _) (λ_ _ _=>rfl) (AL _) ⟨J,G⟩ (.inr hy)
  | ldn n x m off l ho hmx hl h=>
    obtain⟨t,i,rfl,hB,ht⟩:=hmark x m off hmx
    have hr2:=G.one J hB hl
    have he2:Ch (JJ R U.next i) [(t,.ptr U.next off)] a.tmps:=Ch.cons ⟨λk v M=>by simp[look]at M⟩ ht (hcp i off)
    have hap:Cy C.E (Ah P C.G o.op) [(t,.ptr U.next off)] ⟨U.next+1,[(U.next,.cells l)]⟩=some (.agg ((l.drop off).take n)):=by
      have hop:Cv [(t,V.ptr U.next off)] (.tmp t) = .ptr U.next off:=by simp[Cv,H4,look]
      rw[ho];simp[Cy,hop,Sb,rd,look,h]
    obtain⟨x,hx,hrun⟩:=Nx (a:=a) (P:=P) hr2 he2 o hap
    unfold Oper.wp;rw[hrun]
    obtain⟨_,l',hl',hok⟩:=G.at_ m i hB
    rw[hl]at hl';cases hl'
    obtain⟨arr,el,lo,hi,_,hh,_⟩:=hok
    obtain⟨xs,hxs,_⟩:=hh.cells h
    have hy:BE R (.agg ((l.drop off).take n))=some (.agg xs.toArray):=EA hxs
    have hyx:=C8 (hle2 i) _ _ hy
    rw[hx]at hyx;cases hyx
    exact hV _ r U rfl R w _ (Le.refl _) (λ_ _ _=>rfl) (AL _) ⟨J,G⟩ (.inr hy)
  | st n x y m off l cs u hw ho hmx hl hn hu hlu hcs h1 hlen h=>
    replace hlu:=hlu he.live
    obtain⟨t,i,rfl,hB,ht⟩:=hmark x m off hmx
    have hr2:=G.one J hB hl
    have he2:Ch (JJ R U.next i) ((t,.ptr U.next off)::e) a.tmps:=Ch.cons (he.env.mono (hle2 i)) ht (hcp i off)
    have hop:Cv ((t,V.ptr U.next off)::e) (.tmp t) = .ptr U.next off:=by simp[Cv,H4,look]
    have hoy:Cv ((t,V.ptr U.next off)::e) y=u:=by
      rw[<-hu]
      cases y with
      | con v=>rfl
      | tmp s=>
        have hne:¬t=s:=λhts=>by subst hts;simp only[Gq]at hn hmx;rw[hn]at hmx;cases hmx
        simp only[Cv,H4,look,AW,hne,if_false]
    have hap:FW C.E D (Ah P C.G o.op) ((t,.ptr U.next off)::e) ⟨U.next+1,[(U.next,.cells l)]⟩=some (.dead,(⟨U.next+1,[(U.next,.cells l)]⟩:H).set U.next (.cells (Gj l off cs))):=by
      rw[ho]
      simp only[FW,wm,Eg.cls,FY,hop,hoy]
      simp only[look,AW,if_true]
      rw[if_pos]
      · rw[hcs]
      · simp only[AI,AW,Ag]
        exact⟨⟨by rw[<-hcs];exact hlen,h⟩,by rw[<-hcs];exact h1⟩
    refine VY (C:={ C with O:=λblk=>blk=i.blk\/w.heap.size<=blk,w0:=w }) hD rfl rfl hr2 he2 o hap K Q (λR' w' x hx hn' N hv=>?_)
    have hR'n:R' U.next=some i:=by rw[hx U.next (Jg _)];exact CT _ _ _
    obtain⟨j,hj,_,hok⟩:=N.own U.next (.cells (Gj l off cs)) (by simp[H.set,MS,look])
    rw[hR'n]at hj;cases hj
    have hRR':Le R R':=(hle2 i).trans (hx.le (λk M=>by
      have hk':U.next+1<=k:=M
      rw[Bv (by omega)];exact J.fresh k (by omega)))
    obtain⟨hOi,l',hl',hokl⟩:=G.at_ m i hB
    rw[hl]at hl';cases hl'
    have hcell:∀u':V,(∃k:Nat,(Gj l off cs)[k]? = some u')->∃y,BE R u'=some y:=by
      rintro u' ⟨k,M⟩
      rw[NM]at M
      split at M
      · split at M
        · have huc:∃z,BE R u=some z:=by
            obtain⟨oy,rfl⟩:∃oy,y=Aw C.G oy:=by
              obtain⟨dst,op,ty,pos,after,guard⟩:=o
              simp only at ho
              cases op<;>simp only[Ah]at ho<;>(try (first | (cases ho;done) | ((repeat' split at ho)<;>(cases ho;done))))
              · split at ho
                · cases ho
                · simp only[Eg.store.injEq]at ho;exact⟨_,ho.2.2.symm⟩
                · cases ho
              · rename_i fn _ _;cases fn<;>cases ho
              · rename_i r;cases r<;>cases ho
              · rename_i ok;cases ok
                · cases ho
                · simp only at ho;split at ho<;>cases ho
              · rename_i c
                obtain⟨callee,cargs,argTypes⟩:=c
                simp only at ho
                split at ho
                · unfold Me at ho;(repeat' split at ho)<;>cases ho
                · cases ho
                · cases ho
                · cases ho
            exact⟨_,ev (a:=a) he.env hg hu hlu⟩
          obtain⟨z,hz⟩:=huc
          have hcc:=I7 hz
          rw[<-hcs]at hcc
          obtain⟨y',hy',_⟩:=E6 hcc M
          exact⟨y',hy'⟩
        · cases M
      · obtain⟨arr,el,lo,hi,_,hh,_⟩:=hokl
        obtain⟨y',hy',_⟩:=hh k u' M
        exact⟨y',hy'⟩
    have hokR:JC R i (.cells (Gj l off cs)) w':=by
      obtain⟨arr,el,lo,hi,h1',h2',h3',h4',h5'⟩:=hok
      refine⟨arr,el,lo,hi,h1',λk v M=>?_,h3',h4',h5'⟩
      obtain⟨y',hy',hone,harr⟩:=h2' k v M
      obtain⟨y2,hy2⟩:=hcell v ⟨k,M⟩
      have:=C8 hRR' v y2 hy2
      rw[hy']at this;cases this
      exact⟨_,hy2,hone,harr⟩
    have hfr:∀blk,blk<w.heap.size->blk≠i.blk->w'.heap[blk]? = w.heap[blk]? := λblk hb hne=>N.fr blk (by rintro(h | h);exact hne h;omega)
    have hrelw:ER C R U w':=J.frame (λblk hb hor=>by
      refine hfr blk hb ?_
      rcases hor with ⟨k,b,j,M,hj,rfl⟩|hno
      · exact G.apart m i hB k b j M hj
      · intro he';exact hno (he' ▸ hOi)) N.size N.os N.tape N.output
    refine hV .dead _ U rfl R w' x (Le.refl _) (λ_ _ _=>rfl) (AL _) ⟨hrelw,⟨λm' i' hm'=>?_,G.inj,G.apart⟩⟩ (.inl ⟨rfl,by rw[ho];rfl⟩)
    obtain⟨hO',l2,hl2,hok2⟩:=G.at_ m' i' hm'
    refine⟨hO',?_⟩
    by_cases hmm:m=m'
    · subst hmm
      rw[hB]at hm';cases hm'
      exact⟨_,by rw[I1 hl,if_pos rfl],hokR⟩
    · refine⟨l2,by rw[I1 hl,if_neg hmm];exact hl2,hok2.mono (Le.refl _) (hfr _ hok2.lt (λhbl=>hmm (G.inj m m' i i' hB hm' hbl.symm)))⟩
end Go.Og
namespace Go.Og
variable {P:Program}{E:EB}{D:Am}{C:Cx}{R:Ren}{U:H}{w w':World}
inductive SG(E:EB)(D:Am)(dr:Bool)(n0:Nat):Nat->List (Bf × List Nat)->St->St->Prop where
 | nil (i:Nat) (s:St):SG E D dr n0 i [] s s
 | skip (i:Nat) (o:Bf) (ks:List Nat) (l:List (Bf × List Nat)) (s s':St) (hw:B6 (Ei dr ks s.e) o.guard=some false)
   (h:SG E D dr n0 (i+1) l ⟨DF s.e o.dst Eh,CL o.dst s.q,s.r,s.U⟩ s'):SG E D dr n0 i ((o,ks)::l) s s'
 | val (i:Nat) (o:Bf) (ks:List Nat) (l:List (Bf × List Nat)) (s s':St) (pw:Bool) (v:V) (r':Rg) (U':H) (hw:B6 (Ei dr ks s.e) o.guard=some true)
   (hs:HP E D pw s.U.next (s.U.next+1) o.op (Ei dr ks s.e) (MR dr ks s.q) s.r s.U (.val v r' U'))
   (hl:o.dst=none\/v.live=true\/o.op.cls ≠ .k) (hna:dr=true->o.op.cls ≠ .a)
   (h:SG E D dr n0 (i+1) l ⟨DF s.e o.dst v,CL o.dst s.q,r',U'⟩ s'):SG E D dr n0 i ((o,ks)::l) s s'
 | mark (i:Nat) (o:Bf) (ks:List Nat) (l:List (Bf × List Nat)) (s s':St) (pw:Bool) (id nx m off:Nat) (hw:B6 (Ei dr ks s.e) o.guard=some true)
   (hs:HP E D pw id nx o.op (Ei dr ks s.e) (MR dr ks s.q) s.r s.U (.mark m off))
   (h:SG E D dr n0 (i+1) l ⟨CL o.dst s.e,Sc (CL o.dst s.q) o.dst (m,off),s.r,s.U⟩ s'):SG E D dr n0 i ((o,ks)::l) s s'
 | pal (i:Nat) (o:Bf) (ks:List Nat) (l:List (Bf × List Nat)) (s s':St) (d:Nat) (el:TypeId) (z:List V) (hd:o.dst=some d) (ho:o.op = .alloc el z) (hw:B6 (Ei dr ks s.e) o.guard=some true)
   (h:SG E D dr n0 (i+1) l ⟨Br [d] s.e,(d,(d,0))::LF d (Br [d] s.q),(d,z)::Br [d] s.r,s.U⟩ s'):SG E D dr n0 i ((o,ks)::l) s s'
 | shrink (i:Nat) (l:List (Bf × List Nat)) (s s':St) (e:Cb) (q:Qs) (he:∀t v,look e t=some v->look s.e t=some v) (hq:∀t v,look q t=some v->look s.q t=some v)
   (h:SG E D dr n0 i l ⟨e,q,s.r,s.U⟩ s'):SG E D dr n0 i l s s'
theorem SG.append{dr n0}:∀{i}{l m:List (Bf × List Nat)}{s y j},SG E D dr n0 i l s y->SG E D dr n0 (i+l.length) m y j->SG E D dr n0 i (l++m) s j:=by
 intro i l m s y j h;induction h with
 | nil i s=>intro f;simpa using f | skip i o p l s t n _ g=>intro f;exact .skip i o p _ s j n (g (by rwa [AK,show i+(l.length+1)=i+1+l.length by omega]at f)) | val i o p l s t w v K U' n B J A _ g=>intro f;exact .val i o p _ s j w v K U' n B J A (g (by rwa [AK,show i+(l.length+1)=i+1+l.length by omega]at f)) | mark i o p l s t w id O m off n B _ g=>intro f;exact .mark i o p _ s j w id O m off n B (g (by rwa [AK,show i+(l.length+1)=i+1+l.length by omega]at f)) | pal i o p l s t d F z I N n _ g=>intro f;exact .pal i o p _ s j d F z I N n (g (by rwa [AK,show i+(l.length+1)=i+1+l.length by omega]at f)) | shrink i l s t e q L G _ g=>intro f;exact .shrink i _ s j e q L G (g f)
theorem Cd{α} m (l:List (Nat × α)) t:look (Br m l) t=if B2 m t=true then none else look l t:=by
 induction l with
 | nil=>simp[Br,look] | cons p l r=>
  obtain⟨k,v⟩:=p;simp only[Br];split
  ·rename_i o
   rw[r];by_cases i:B2 m t=true
   ·rw[if_pos i,if_pos i]
   ·rw[if_neg i,if_neg i]
    have d:¬k=t:=λh=>i (h ▸ o);simp only[look,AW,d,if_false]
  ·rename_i o
   simp only[look,AW];by_cases d:k=t
   ·subst d;rw[if_pos rfl,if_neg (by rw[o];simp),if_pos rfl]
   ·rw[if_neg d,if_neg d,r]
theorem Hz d t:B2 [d] t=true↔d=t:=by simp[B2]
theorem DV d l t:B2 (d::l) t=true↔d=t\/B2 l t=true:=by simp[B2]
theorem Gn l m t:B2 (l++m) t=true↔B2 l t=true\/B2 m t=true:=by
 induction l with
 | nil=>simp[B2] | cons a l e=>simp only[Ji,B2,B5,e,or_assoc]
theorem CS{α} d (l:List (Nat × α)) t:look (CL d l) t=if d=some t then none else look l t:=by
 cases d with
 | none=>simp[CL] | some d=>
  simp only[CL,Cd,AP.injEq];by_cases h:d=t
  ·rw[if_pos ((Hz d t).2 h),if_pos h]
  ·rw[if_neg (λf=>h ((Hz d t).1 f)),if_neg h]
theorem Hk e d v t:look (DF e d v) t=if d=some t then some v else look e t:=by
 cases d with
 | none=>simp[DF] | some d=>
  simp only[DF,look,AW,AP.injEq]
theorem MH q d p t:look (Sc q d p) t=if d=some t then some p else look q t:=by
 cases d with
 | none=>simp[Sc] | some d=>
  simp only[Sc,look,AW,AP.injEq]
theorem La{l e t}(h:B2 l t=true):look (B7 l e) t=look e t:=by
 induction l with
 | nil=>simp[B2]at h | cons a l o=>
  simp only[B2,B5,AW]at h;simp only[B7];cases m:look e a with
  | none=>
   simp only;by_cases c:a=t
   ·subst c
    rw[m];cases q:look (B7 l e) a with
    | none=>rfl | some v=>rw[(I0 l e a v q).1]at m;cases m
   ·exact o (h.resolve_left c)
  | some u=>
   simp only[look,AW];by_cases c:a=t
   ·subst c;rw[if_pos rfl,m]
   ·rw[if_neg c];exact o (h.resolve_left c)
theorem H2 j q t p (h:look (Mu j q) t=some p):look q t=some p/\B2 j t=true:=by
 induction j with
 | nil=>simp[Mu,look]at h | cons a j n=>
  simp only[Mu]at h;simp only[B2,B5,AW];cases l:look q a with
  | none=>rw[l]at h;exact(n h).imp id .inr | some u=>
   rw[l]at h;simp only[look,AW]at h;by_cases i:a=t
   ·subst i
    rw[if_pos rfl]at h;cases h;exact⟨l,.inl rfl⟩
   ·rw[if_neg i]at h
    exact(n h).imp id .inr
theorem MG{dr c e t}(h:B2 c t=true):look (Ei dr c e) t=look e t:=by
 cases dr with
 | true=>exact La h | false=>rfl
theorem Wc{dr c e t v}(h:look (Ei dr c e) t=some v):look e t=some v:=by
 cases dr with
 | true=>exact(I0 _ _ _ _ h).1 | false=>exact h
theorem KZ{m}:∀{q t}{p:Nat × Nat},B2 (JY m q) t=false->look q t=some p->p.1≠m
 | [],t,p,_,h=>by simp[look]at h
 | (k,b)::q,t,p,g,h=>by
  simp only[JY]at g;simp only[look,AW]at h;split at g
  ·rename_i v
   have u:¬k=t:=by
    intro l;subst l;simp[B2]at g
   rw[if_neg u]at h;have s:B2 (JY m q) t=false:=by
    cases x:B2 (JY m q) t with
    | false=>rfl | true=>rw[(DV k _ t).2 (.inr x)]at g;cases g
   exact KZ s h
  ·rename_i v
   by_cases w:k=t
   ·rw[if_pos w]at h;cases h
    intro l;rw[<-AW,v]at l;cases l
   ·rw[if_neg w]at h;exact KZ g h
theorem LZ m q t (p:Nat × Nat)(h:look (LF m q) t=some p):p.1≠m/\look q t=some p:=by
 unfold LF at h;rw[Cd]at h;split at h
 ·cases h
 ·rename_i i
  have d:B2 (JY m q) t=false:=by simpa using i
  exact⟨KZ d h,h⟩
theorem OO{dr a}{e:Cb}{t b c}(g:B2 a t=true)(h:look e t=some (.bool c)):B6 (Ei dr a e) (some (t,b))=some (c==b):=by
 simp only[B6,H4,MG g,h]
theorem ND{dr a}{e:Cb}{t b}(f:B2 a t=true)(h:look e t=some Eh):B6 (Ei dr a e) (some (t,b))=some false:=by
 simp only[B6,H4,MG f,h,Eh]
theorem H5:∀(l:XL) g,(l.flat g).length=l.size/\l.lks.length=l.size
 | .nil,g=>⟨rfl,rfl⟩ | .op _ _ _ _ r,g=>by obtain⟨d,e⟩:=H5 r g;simp[XL.flat,XL.lks,XL.size,d,e]
 | .pal _ _ _ _ r,g=>by obtain⟨d,e⟩:=H5 r g;simp[XL.flat,XL.lks,XL.size,d,e]
 | .grp t b l _ _ _ _ _ r,g=>by
  obtain⟨d,e⟩:=H5 r g;obtain⟨f,h⟩:=H5 l (some (t,b));simp[XL.flat,XL.lks,XL.size,d,e,f,h]
theorem Z3(l:XL) g x k (m:List Bf) n:
  (l.flat g++x::m).zip (l.lks++k::n)=(l.flat g).zip l.lks++(x,k)::m.zip n:=by
 obtain⟨c,e⟩:=H5 l g;rw[List.zip_append (by omega)];rfl
theorem UW(l:XL) g:((l.flat g).zip l.lks).length=l.size:=by
 obtain⟨c,d⟩:=H5 l g;simp[c,d]
theorem LK {dr n0}:∀(l:XL) L t b i (s:St),l.okG (some L) (some t)=true ->
    (look s.e t=some Eh\/∃c,look s.e t=some (.bool c)/\(c==b)=false)->B2 l.dsts t=false->(∀u,B2 L u=true->look s.e u=some Eh) ->
    ∃F,SG E D dr n0 i ((l.flat (some (t,b))).zip l.lks) s F/\F.r=s.r/\F.U=s.U/\(∀u,B2 l.dsts u=false->look F.e u=look s.e u/\look F.q u=look s.q u) /\
      (∀u,B2 l.dsts u=true->look F.e u=some Eh)
  | .nil,L,t,b,i,s,B,G,K,C=>⟨s,.nil i s,rfl,rfl,λ_ _=>⟨rfl,rfl⟩,λu v=>by simp[XL.dsts,B2]at v⟩ | .pal _ _ _ _ r,L,t,b,i,s,B,G,K,C=>by simp[XL.okG]at B
  | .op d ty R o r,L,t,b,i,s,B,G,K,C=>by
    simp only[XL.okG,AI]at B;obtain⟨⟨_,A⟩,N⟩:=B;have A:=A;have hw:B6 (Ei dr R s.e) (some (t,b))=some false:=by
      rcases G with G|⟨c,G,hc⟩
      · exact ND A G
      · rw[OO A G,hc]
    cases d with
    | none=>
      have N:=N;obtain⟨F,Y,U,T,O,S⟩:=LK r L t b (i+1) s N G K C;exact⟨F,.skip i ⟨none,o,some (t,b)⟩ R _ s F hw Y,U,T,O,S⟩
    | some d=>
      have N:=N;simp only[XL.dsts]at K;have Z:d≠t/\B2 r.dsts t=false:=by
        simp only[B2,Ba]at K;exact⟨(by intro h;rw[<-AW,K.1]at h;cases h),K.2⟩
      have p:∀u,look (DF s.e (some d) Eh) u=if d=u then some Eh else look s.e u:=λu=>by rw[Hk];simp
      obtain⟨F,Y,U,T,O,S⟩:=LK r (d::L) t b (i+1) ⟨DF s.e (some d) Eh,CL (some d) s.q,s.r,s.U⟩ N
        (by simp only[p,if_neg Z.1];exact G) Z.2 (λu v=>by
          simp only[p];rcases(DV d L u).1 v with h|h
          · rw[if_pos h]
          · by_cases m:d=u
            · rw[if_pos m]
            · rw[if_neg m];exact C u h)
      refine⟨F,.skip i ⟨some d,o,some (t,b)⟩ R _ s F hw Y,U,T,λu v=>?_,λu v=>?_⟩
      · simp only[XL.dsts,B2,Ba]at v
        have m:¬d=u:=by intro h;rw[<-AW,v.1]at h;cases h
        obtain⟨h6,h7⟩:=O u v.2;refine⟨by rw[h6];simp only[p,if_neg m],by rw[h7,CS];simp[m]⟩
      · simp only[XL.dsts]at v
        cases z:B2 r.dsts u with
        | true=>exact S u z | false=>
          rcases(DV d r.dsts u).1 v with h|h
          · rw[(O u z).1];simp only[p,if_pos h]
          · rw[z]at h;cases h
  | .grp t2 b2 l d R c x y r,L,t,b,i,s,B,G,K,C=>by
    simp only[XL.okG,AI,DL]at B;obtain⟨⟨⟨⟨⟨⟨A,_⟩,aa⟩,_⟩,X⟩,hl⟩,N⟩:=B;have A:=A;simp only[XL.dsts]at K;have P:B2 l.dsts t=false/\d≠t/\B2 r.dsts t=false:=by
      have M:¬(B2 (l.dsts++d::r.dsts) t=true):=by rw[K];simp
      rw[Gn,DV]at M;refine⟨?_,λh=>M (.inr (.inl h)),?_⟩
      · cases h:B2 l.dsts t with
        | false=>rfl | true=>exact(M (.inl h)).elim
      · cases h:B2 r.dsts t with
        | false=>rfl | true=>exact(M (.inr (.inr h))).elim
    obtain⟨J,Y,U,T,O,S⟩:=LK l [] t2 b2 i s hl (.inl (C t2 X)) aa (λu v=>by simp[B2]at v);have W:look J.e t=some Eh\/∃c,look J.e t=some (.bool c)/\(c==b)=false:=by rw[(O t P.1).1];exact G
    have hw:B6 (Ei dr R J.e) (some (t,b))=some false:=by
      rcases W with G|⟨c,G,hc⟩
      · exact ND A G
      · rw[OO A G,hc]
    have p:∀u,look (DF J.e (some d) Eh) u=if d=u then some Eh else look J.e u:=λu=>by rw[Hk];simp
    obtain⟨F,g1,g2,g3,g4,g5⟩:=LK r (d::l.dsts++L) t b (i+l.size+1) ⟨DF J.e (some d) Eh,CL (some d) J.q,J.r,J.U⟩ N
      (by simp only[p,if_neg P.2.1];exact W) P.2.2 (λu v=>by
        simp only[p];by_cases m:d=u
        · rw[if_pos m]
        · rw[if_neg m]
          rw[Ji]at v;rcases(DV d _ u).1 v with h|h
          · exact(m h).elim
          · cases I:B2 l.dsts u with
            | true=>exact S u I | false=>
              rcases(Gn _ _ u).1 h with h|h
              · rw[I]at h;cases h
              · rw[(O u I).1];exact C u h)
    refine⟨F,?_,by rw[g2];exact U,by rw[g3];exact T,λu v=>?_,λu v=>?_⟩
    · simp only[XL.flat,XL.lks]
      rw[Z3];refine Y.append ?_;rw[UW];exact .skip _ ⟨some d,.pick c x y,some (t,b)⟩ R _ J F hw g1
    · simp only[XL.dsts]at v
      have M:¬(B2 (l.dsts++d::r.dsts) u=true):=by rw[v];simp
      rw[Gn,DV]at M;have I:B2 l.dsts u=false:=by
        cases h:B2 l.dsts u with
        | false=>rfl | true=>exact(M (.inl h)).elim
      have z:B2 r.dsts u=false:=by
        cases h:B2 r.dsts u with
        | false=>rfl | true=>exact(M (.inr (.inr h))).elim
      have m:=λh=>M (.inr (.inl h));obtain⟨k1,k2⟩:=g4 u z;obtain⟨k3,k4⟩:=O u I;refine⟨by rw[k1];simp only[p,if_neg m];exact k3,by rw[k2,CS];simp only[AP.injEq,if_neg m];exact k4⟩
    · simp only[XL.dsts]at v
      cases z:B2 r.dsts u with
      | true=>exact g5 u z | false=>
        rw[(g4 u z).1];simp only[p];by_cases m:d=u
        · rw[if_pos m]
        · rw[if_neg m]
          rcases(Gn _ _ u).1 v with h|h
          · exact S u h
          · rcases(DV d _ u).1 h with h | h
            · exact(m h).elim
            · rw[z]at h;cases h
end Go.Og
namespace Go.Og
variable {E:EB}{D:Am}
def Gd(g:Option (Nat × Bool))(a:Option Nat)(e:Cb)(c:List Nat):Prop:=
 (g=none/\a=none)\/∃t b,g=some (t,b)/\a=some t/\look e t=some (.bool b)/\B2 c t=false
theorem Gd.wanted{g f e j}(h:Gd g f e j){dr d}(i:vC f d=true):B6 (Ei dr d e) g=some true:=by
 rcases h with ⟨rfl,rfl⟩|⟨t,b,rfl,rfl,k,_⟩
 ·rfl
 ·rw[OO i k];simp
theorem Gd.next{g j}{e k:Cb}{f c}(h:Gd g j e f)(n:∀t,B2 f t=false->B2 c t=false)(m:∀t,B2 f t=false->look k t=look e t):Gd g j k c:=by
 rcases h with ⟨rfl,rfl⟩|⟨t,b,rfl,rfl,l,i⟩
 ·exact .inl ⟨rfl,rfl⟩
 ·exact .inr ⟨t,b,rfl,rfl,by rw[m t i];exact l,n t i⟩
theorem uy{id g o e q r d U U' v}(h:HP E D false id g o e q r U (.val v d U')):d=r:=by
 cases h<;>first | rfl | (rename_i f _ _ _ _ _ _ _ _ _ _;cases f)
theorem Hj{b t}:B2 b t=false↔¬B2 b t=true:=by cases B2 b t<;>simp
theorem FT{d l t}(h:B2 (d::l) t=false):d≠t/\B2 l t=false:=by
 rw[Hj,DV]at h;exact⟨λb=>h (.inl b),Hj.2 λb=>h (.inr b)⟩
theorem NW{l m t}(h:B2 (l++m) t=false):B2 l t=false/\B2 m t=false:=by
 rw[Hj,Gn]at h;exact⟨Hj.2 λb=>h (.inl b),Hj.2 λb=>h (.inr b)⟩
theorem cf{d ty i}{o:Eg}{r:XL}(h:(XL.op d ty i o r).makes=false):o.cls ≠ .a/\r.makes=false:=by
 simp only[XL.makes]at h;split at h
 ·cases h
 ·rename_i j;exact⟨j,h⟩
theorem ZD{t b}{l:XL}{d f c x y}{r:XL}(h:(XL.grp t b l d f c x y r).makes=false):l.makes=false/\r.makes=false:=by
 simpa only [XL.makes,Ba]using h
theorem Wn{d}{ty:DN}{o:Eg}(h:okD (some d) ty o=true):(∀n x y,o = .store n x y->False)/\(o.cls = .k->ty.known=true):=by
 constructor
 ·rintro n x y rfl;cases h
 ·intro k
  cases o<;>(first | (cases k;done) | (cases h;done) | exact h | (rename_i t x;cases t<;>cases k))
theorem I5{dr n0}:∀(l:XL) ds gt g pw i (s:St) J K,
  Fg E D dr pw n0 l i s.e s.q s.r s.U J=some K->l.okG ds gt=true->Gd g gt s.e l.dsts->(dr=true->l.makes=false) ->
  ∃B,SG E D dr n0 i ((l.flat g).zip l.lks) s B/\J B.e B.q B.r B.U=some K/\(pw=false->B.r=s.r) /\
   (∀u,B2 l.dsts u=false->look B.e u=look s.e u)/\(pw=false->∀u,B2 l.dsts u=false->look B.q u=look s.q u)
 | .nil,ds,gt,g,pw,i,s,J,K,h,hok,hg,hmk=>⟨s,.nil i s,h,λ_=>rfl,λ_ _=>rfl,λ_ _ _=>rfl⟩ | .op d ty L o r,ds,gt,g,pw,i,s,J,K,h,hok,hg,hmk=>by
  rw[wK]at h;simp only[XL.okG,AI]at hok;obtain⟨⟨hkd,hks⟩,hr⟩:=hok;have hr':∃ds',r.okG ds' gt=true:=by
   split at hr
   ·exact⟨_,hr⟩
   ·exact⟨_,hr⟩
  obtain⟨ds',hr'⟩:=hr';have hw:=hg.wanted (dr:=dr) hks;have k:∀t,B2 (XL.op d ty L o r).dsts t=false->d≠some t/\B2 r.dsts t=false:=by
   intro t ht;cases d with
   | none=>exact⟨by simp,ht⟩ | some d=>obtain⟨h1,N⟩:=FT ht;exact⟨by simpa using h1,N⟩
  obtain⟨out,hs,hout⟩:=mA h;cases out with
  | val v r' U'=>
   obtain⟨hk,hlv⟩:=hout;have G:∀t,B2 (XL.op d ty L o r).dsts t=false->look (DF s.e d v) t=look s.e t:=λt ht=>by
    rw[Hk,if_neg (k t ht).1]
   obtain⟨B,h1,N,h3,h4,h5⟩:=I5 r ds' gt g pw (i+1) ⟨DF s.e d v,CL d s.q,r',U'⟩ J K hk hr'
    (hg.next (λt ht=>(k t ht).2) G) (λhd=>(cf (hmk hd)).2)
   refine⟨B,.val i ⟨d,o,g⟩ L _ s B pw v r' U' hw hs ?_ (λhd=>(cf (hmk hd)).1) h1,N,λhpw=>?_,λu q=>?_,λhpw u q=>?_⟩
   ·cases d with
    | none=>exact .inl rfl | some d=>
     right;rcases hlv with ⟨n,x,y,rfl⟩|hlv|hlv|hlv
     ·exact((Wn hkd).1 _ _ _ rfl).elim
     ·exact .inr hlv
     ·right
      intro hc;have:=(Wn hkd).2 hc;rw[hlv]at this;cases this
     ·exact .inl hlv
   ·subst hpw;rw[h3 rfl];exact uy hs
   ·rw[h4 u (k u q).2];exact G u q
   ·rw[h5 hpw u (k u q).2]
    show look (CL d s.q) u=_;rw[CS,if_neg (k u q).1]
  | mark m off=>
   have G:∀t,B2 (XL.op d ty L o r).dsts t=false->look (CL d s.e) t=look s.e t:=λt ht=>by
    rw[CS,if_neg (k t ht).1]
   obtain⟨B,h1,N,h3,h4,h5⟩:=I5 r ds' gt g pw (i+1) ⟨CL d s.e,Sc (CL d s.q) d (m,off),s.r,s.U⟩ J K hout hr'
    (hg.next (λt ht=>(k t ht).2) G) (λhd=>(cf (hmk hd)).2)
   refine⟨B,.mark i ⟨d,o,g⟩ L _ s B pw _ _ m off hw hs h1,N,h3,λu q=>?_,λhpw u q=>?_⟩
   ·rw[h4 u (k u q).2];exact G u q
   ·rw[h5 hpw u (k u q).2]
    show look (Sc (CL d s.q) d (m,off)) u=_;rw[MH,if_neg (k u q).1,CS,if_neg (k u q).1]
 | .pal d L el z r,ds,gt,g,pw,i,s,J,K,h,hok,hg,hmk=>by
  cases pw with
  | false=>rw[jS]at h;cases h | true=>
   rw[n8]at h;simp only[XL.okG,AI]at hok;obtain⟨hks,hr⟩:=hok;have hr':r.okG none gt=true:=by
    split at hr
    ·cases hr
    ·exact hr
   have hw:=hg.wanted (dr:=dr) hks;have G:∀t,B2 (XL.pal d L el z r).dsts t=false->look (Br [d] s.e) t=look s.e t:=λt ht=>by
    have:=(FT ht).1;rw[Cd,if_neg (λhh=>this ((Hz d t).1 hh))]
   obtain⟨B,h1,N,h3,h4,h5⟩:=I5 r none gt g true (i+1) ⟨Br [d] s.e,(d,(d,0))::LF d (Br [d] s.q),(d,z)::Br [d] s.r,s.U⟩ J K h hr'
    (hg.next (λt ht=>(FT ht).2) G) hmk
   refine⟨B,.pal i ⟨some d,.alloc el z,g⟩ L _ s B d el z rfl rfl hw h1,N,(λhpw=>by cases hpw),λu q=>?_,(λhpw=>by cases hpw)⟩;rw[h4 u (FT q).2];exact G u q
 | .grp t b l d L c x y r,ds,gt,g,pw,i,s,J,K,h,hok,hg,hmk=>by
  rw[n9]at h;simp only[XL.okG,AI,DL]at hok;obtain⟨⟨⟨⟨⟨⟨hks,hkt⟩,hlt⟩,hpk⟩,_⟩,hl⟩,hr⟩:=hok;have hr':∃ds',r.okG ds' gt=true:=by
   split at hr
   ·exact⟨_,hr⟩
   ·exact⟨_,hr⟩
  obtain⟨ds',hr'⟩:=hr';have k:∀u,B2 (XL.grp t b l d L c x y r).dsts u=false->B2 l.dsts u=false/\d≠u/\B2 r.dsts u=false:=by
   intro u q;obtain⟨h1,N⟩:=NW q;obtain⟨h3,h4⟩:=FT N;exact⟨h1,h3,h4⟩
  unfold lZ at hpk;simp only[AI]at hpk;obtain⟨hct,hother⟩:=hpk;have hct:c = .tmp t:=by
   cases c with
   | con v=>cases hct | tmp u=>simp only[AW]at hct;rw[hct]
  subst hct;obtain⟨v,hv,_,h⟩:=Ak h;obtain⟨cb,rfl,h9⟩:=Gl h;replace h:=h9;have hte:look s.e t=some (.bool cb):=by
   simp only[Cv,H4]at hv;cases hq:look (Ei dr [t] s.e) t with
   | none=>rw[hq]at hv;cases hv | some u=>rw[hq]at hv;simp only at hv;subst hv;exact Wc hq
  have fin:∀(s1:St) (M:Bool),SG E D dr n0 i ((l.flat (some (t,b))).zip l.lks) s s1->s1.r=s.r->(∀u,B2 l.dsts u=false->look s1.e u=look s.e u)->(∀u,B2 l.dsts u=false->look s1.q u=look s.q u) ->
    Bp (.pick (.tmp t) x y) (Ei dr L s1.e)=some (.bool M) ->
    Fg E D dr pw n0 r (i+l.size+1) ((d,.bool M)::Br (d::l.dsts) s.e) (Br (d::l.dsts) s.q) s.r s1.U J=some K ->
    ∃B,SG E D dr n0 i (((XL.grp t b l d L (.tmp t) x y r).flat g).zip (XL.grp t b l d L (.tmp t) x y r).lks) s B/\J B.e B.q B.r B.U=some K/\(pw=false->B.r=s.r) /\
     (∀u,B2 (XL.grp t b l d L (.tmp t) x y r).dsts u=false->look B.e u=look s.e u)/\(pw=false->∀u,B2 (XL.grp t b l d L (.tmp t) x y r).dsts u=false->look B.q u=look s.q u):=by
   intro s1 M hrun hr1 he1 hq1 hp hrest;have G:∀u,d≠u->B2 l.dsts u=false->look ((d,V.bool M)::Br (d::l.dsts) s.e) u=look s.e u:=by
    intro u h1 N;simp only[look,AW,h1,if_false];rw[Cd,if_neg (λhh=>by rcases(DV d _ u).1 hh with hh | hh;exact h1 hh;rw[N]at hh;cases hh)]
   obtain⟨B,h1,N,h3,h4,h5⟩:=I5 r ds' gt g pw (i+l.size+1) ⟨(d,.bool M)::Br (d::l.dsts) s.e,Br (d::l.dsts) s.q,s.r,s1.U⟩ J K hrest hr'
    (hg.next (λu q=>(k u q).2.2) (λu q=>G u (k u q).2.1 (k u q).1)) (λhd=>(ZD (hmk hd)).2)
   have hg1:Gd g gt s1.e (XL.grp t b l d L (.tmp t) x y r).dsts:=hg.next (λ_ q=>q) (λu q=>he1 u (k u q).1);refine⟨B,?_,N,h3,λu q=>?_,λhpw u q=>?_⟩
   ·simp only[XL.flat,XL.lks]
    rw[Z3];refine hrun.append ?_;rw[UW];refine .val _ ⟨some d,.pick (.tmp t) x y,g⟩ L _ s1 B true (.bool M) s1.r s1.U (hg1.wanted hks) (.p _ rfl λ_=>hp) (.inr (.inl rfl)) (λ_ h=>by cases h) ?_;refine .shrink _ _ _ B ((d,.bool M)::Br (d::l.dsts) s.e) (Br (d::l.dsts) s.q) (λu w q=>?_) (λu w q=>?_) (by rw[hr1];exact h1)
    ·simp only[look,AW]at q
     rw[Hk];by_cases hdu:d=u
     ·rw[if_pos hdu]at q;rw[if_pos (by rw[hdu])];exact q
     ·rw[if_neg hdu,Cd]at q
      rw[if_neg (by simpa using hdu)];split at q
      ·cases q
      ·rename_i hm
       rw[he1 u (Hj.2 λhh=>hm ((DV d _ u).2 (.inr hh)))];exact q
    ·rw[Cd]at q
     split at q
     ·cases q
     ·rename_i hm
      show look (CL (some d) s1.q) u=some w;rw[CS,if_neg (λhh=>hm ((DV d _ u).2 (.inl (by simpa using hh)))),hq1 u (Hj.2 λhh=>hm ((DV d _ u).2 (.inr hh)))];exact q
   ·rw[h4 u (k u q).2.2];exact G u (k u q).2.1 (k u q).1
   ·rw[h5 hpw u (k u q).2.2]
    show look (Br (d::l.dsts) s.q) u=_;rw[Cd,if_neg (λhh=>by rcases(DV d _ u).1 hh with hh | hh;exact(k u q).2.1 hh;rw[(k u q).1]at hh;cases hh)]
  have taken:cb=b->∀(z:AO),(∀e,Cv e (.tmp t) = .bool cb->∀M,Cv e z = .bool M->Bp (.pick (.tmp t) x y) e=some (.bool M)) ->
    (Fg E D dr false n0 l i s.e s.q s.r s.U λe' _ _ U'=>Ce (Ei dr L e') z λv=>CN v λv=>
     Fg E D dr pw n0 r (i+l.size+1) ((d,.bool v)::Br (d::l.dsts) s.e) (Br (d::l.dsts) s.q) s.r U' J)=some K ->
    ∃B,SG E D dr n0 i (((XL.grp t b l d L (.tmp t) x y r).flat g).zip (XL.grp t b l d L (.tmp t) x y r).lks) s B/\J B.e B.q B.r B.U=some K/\(pw=false->B.r=s.r) /\
     (∀u,B2 (XL.grp t b l d L (.tmp t) x y r).dsts u=false->look B.e u=look s.e u)/\(pw=false->∀u,B2 (XL.grp t b l d L (.tmp t) x y r).dsts u=false->look B.q u=look s.q u):=by
   intro hcb z hz hh;subst hcb;obtain⟨s1,h1,N,h3,h4,h5⟩:=I5 l (some []) (some t) (some (t,cb)) false i s _ K hh hl (.inr ⟨t,cb,rfl,rfl,hte,hlt⟩) (λhd=>(ZD (hmk hd)).1);obtain⟨v,hv,_,N⟩:=Ak N;obtain⟨M,rfl,h9⟩:=Gl N;replace N:=h9;refine fin s1 M h1 (h3 rfl) h4 (h5 rfl) (hz _ ?_ M hv) N;simp only[Cv,H4,MG hkt,h4 t hlt,hte]
  have left:(cb==b)=false->∀(z:AO),(match z with | .tmp u=>!B2 l.dsts u | .con _=>true)=true->(∀e,Cv e (.tmp t) = .bool cb->∀M,Cv e z = .bool M->Bp (.pick (.tmp t) x y) e=some (.bool M)) ->
    (Ce (Ei dr L s.e) z λv=>CN v λv=>
     Fg E D dr pw n0 r (i+l.size+1) ((d,.bool v)::Br (d::l.dsts) s.e) (Br (d::l.dsts) s.q) s.r s.U J)=some K ->
    ∃B,SG E D dr n0 i (((XL.grp t b l d L (.tmp t) x y r).flat g).zip (XL.grp t b l d L (.tmp t) x y r).lks) s B/\J B.e B.q B.r B.U=some K/\(pw=false->B.r=s.r) /\
     (∀u,B2 (XL.grp t b l d L (.tmp t) x y r).dsts u=false->look B.e u=look s.e u)/\(pw=false->∀u,B2 (XL.grp t b l d L (.tmp t) x y r).dsts u=false->look B.q u=look s.q u):=by
   intro hcb z hz0 hz h;obtain⟨s1,h1,N,h3,h4,_⟩:=LK (D:=D) (dr:=dr) (n0:=n0) l [] t b i s hl (.inr ⟨cb,hte,hcb⟩) hlt (λu q=>by simp[B2]at q);obtain⟨v,hv,_,h5⟩:=Ak h;obtain⟨M,rfl,h9⟩:=Gl h5;replace h5:=h9;refine fin s1 M h1 N (λu q=>(h4 u q).1) (λu q=>(h4 u q).2) (hz _ ?_ M ?_) (by rw[h3];exact h5)
   ·simp only[Cv,H4,MG hkt,(h4 t hlt).1,hte]
   ·cases z with
    | con v=>exact hv | tmp u=>
     simp only[DL]at hz0;simp only[Cv,H4]at hv ⊢;cases hq:look (Ei dr L s.e) u with
     | none=>rw[hq]at hv;cases hv | some u2=>
      rw[hq]at hv;have hq1:look (Ei dr L s1.e) u=some u2:=by
       cases dr with
       | true=>
        obtain⟨h6,h7⟩:=I0 _ _ _ _ hq;show look (B7 L s1.e) u=_;rw[La h7,(h4 u hz0).1];exact h6
       | false=>
        show look s1.e u=_;rw[(h4 u hz0).1];exact hq
      rw[hq1];exact hv
  have hpt:∀e,Cv e (.tmp t) = .bool true->∀M,Cv e x = .bool M->Bp (.pick (.tmp t) x y) e=some (.bool M):=by
   intro e h1 M N;simp only[Bp,h1,N,V.live,if_true]
  have hpf:∀e,Cv e (.tmp t) = .bool false->∀M,Cv e y = .bool M->Bp (.pick (.tmp t) x y) e=some (.bool M):=by
   intro e h1 M N;simp only[Bp,h1,N,V.live,if_true]
  unfold Ab at h;cases b with
  | true=>
   simp only at h hother;cases cb with
   | true=>exact taken rfl x hpt h | false=>exact left rfl y hother hpf h
  | false=>
   simp only at h hother;cases cb with
   | true=>exact left rfl x hother hpt h | false=>exact taken rfl y hpf h
end Go.Og
namespace Go.Og
variable {P:Program}{D:Am}{C:Cx}{R:Ren}{U:H}{w w':World}
theorem Ig.put{e}{a:Act}(h:Ig R e a.tmps){c}(q:I4 a.tmps.size c=true){v x}(r:c=none\/BE R v=some x):Ig R (DF e c v) (a.put c x).tmps:=by
 cases c with
 | none=>exact h | some d=>
  simp only[I4,Cs]at q;refine⟨λk u m=>?_⟩;rw[Hk]at m;simp only[Act.put,BN];by_cases f:d=k
  ·rw[if_pos (by rw[f])]at m
   cases m;rw[if_pos f,if_pos q];exact⟨x,rfl,r.resolve_left (by simp)⟩
  ·rw[if_neg (by simpa using f)]at m
   rw[if_neg f];exact h.at_ k u m
theorem Ig.del{e}{a:Act}(h:Ig R e a.tmps) g x:Ig R (CL g e) (a.put g x).tmps:=by
 refine⟨λk u l=>?_⟩;rw[CS]at l;split at l
 ·cases l
 ·rename_i n
  obtain⟨y,p,t⟩:=h.at_ k u l;refine⟨y,?_,t⟩;cases g with
  | none=>exact p | some d=>
   simp only[Act.put,BN];rw[if_neg (by simpa using n)];exact p
theorem V7.del{B q}{a:Act}(h:V7 B q a.tmps) f x:V7 B (CL f q) (a.put f x).tmps:=by
 refine⟨λk m off l=>?_⟩;rw[CS]at l;split at l
 ·cases l
 ·rename_i o
  obtain⟨i,v,t⟩:=h.at_ k m off l;refine⟨i,v,?_⟩;cases f with
  | none=>exact t | some d=>
   simp only[Act.put,BN];rw[if_neg (by simpa using o)];exact t
theorem V7.mark{B q}{a:Act}(h:V7 B q a.tmps){b}(r:I4 a.tmps.size b=true){m off}{i:BI}(u:B m=some i):
  V7 B (Sc (CL b q) b (m,off)) (a.put b (.pointer (some ⟨i.blk,i.shift+off,none⟩))).tmps:=by
 refine⟨λk t f g=>?_⟩;rw[MH]at g;by_cases d:b=some k
 ·rw[if_pos d]at g
  cases g;subst d;simp only[I4,Cs]at r;exact⟨i,u,by simp[Act.put,BN,r]⟩
 ·rw[if_neg d]at g
  exact(h.del b _).at_ k t f g
theorem Ig.sub{e b:Cb}{a}(h:Ig R e a)(d:∀t v,look b t=some v->look e t=some v):Ig R b a:=
 ⟨λk v c=>h.at_ k v (d k v c)⟩
theorem V7.sub{B}{q b:Qs}{a}(h:V7 B q a)(c:∀t v,look b t=some v->look q t=some v):V7 B b a:=
 ⟨λk m off d=>h.at_ k m off (c k _ d)⟩
theorem Ig.sel{e a}(h:Ig R e a) dr c:Ig R (Ei dr c e) a:=h.sub λ_ _ b=>Wc b
theorem V7.sel{B q a}(h:V7 B q a) dr e:V7 B (MR dr e q) a:=h.sub λt v d=>by
 cases dr with
 | true=>exact(H2 _ _ _ _ d).1 | false=>exact d
theorem lu{B r}(F:V9 C R B r U w){a:Act}(o:Oper){d el z}(t:Ah P C.G o.op = .alloc el z)(K:Act->World->Prop)(Q:Exit->Act->World->Prop)
  (hK:∀i w',V9 C R (λm=>if m=d then some i else B m) ((d,z)::Br [d] r) U w'->K (a.put o.dst (.pointer (some ⟨i.blk,i.shift+0,none⟩))) w'):o.wp P a w K Q:=by
 obtain⟨D,A⟩:=F;have hg:=D.globOk;have ha:Cz (Ah P C.G o.op) [] U.next=some (.ptr U.next 0,.cells z):=by rw[t];rfl
 have he0:Ch R [] a.tmps:=⟨λk v hk=>by simp[look]at hk⟩;obtain⟨x,w',i,hrun,hn,hi,hx,hok⟩:=QI he0 hg o ha (D.fresh _ (AL _)) w;have hcp:BE (JJ R U.next i) (.ptr U.next 0)=some (.pointer (some ⟨i.blk,i.shift+0,none⟩)):=DX (CT _ _ _);rw[hcp]at hx;cases hx;unfold Oper.wp;rw[hrun];have hle:Le R (JJ R U.next i):=(FD R U.next i).le D.fresh;have hzc:∃zs,BL R z=some zs:=by
  obtain⟨dst,op,ty,pos,after,guard⟩:=o;simp only at t;cases op<;>simp only[Ah]at t<;>(try (first | (cases t;done) | ((repeat' split at t)<;>(cases t;done))))
  ·rename_i el'
   split at t
   ·cases t
   ·rename_i z' _ hz
    simp only[Eg.alloc.injEq]at t;rw[<-t.2];unfold Ky at hz;split at hz
    ·split at hz
     ·exact⟨_,dP R hz⟩
     ·cases hz
    ·cases hz
   ·cases t
  ·rename_i fn _ _;cases fn<;>cases t
  ·rename_i r;cases r<;>cases t
  ·rename_i ok;cases ok
   ·cases t
   ·simp only at t;split at t<;>cases t
  ·rename_i c
   obtain⟨callee,cargs,argTypes⟩:=c;simp only at t;split at t
   ·unfold Me at t;(repeat' split at t)<;>cases t
   ·cases t
   ·cases t
   ·cases t
 obtain⟨zs,hzs⟩:=hzc;have hokR:JC R i (.cells z) w':=by
  obtain⟨arr,el',lo,hi',h1,h2,h3,h4,h5⟩:=hok;refine⟨arr,el',lo,hi',h1,λk v hk=>?_,h3,h4,h5⟩;obtain⟨y,hy,hone,harr⟩:=h2 k v hk;obtain⟨y2,hy2,_⟩:=E6 hzs hk;have:=C8 hle v y2 hy2;rw[hy]at this;cases this;exact⟨_,hy2,hone,harr⟩
 have hO:C.O i.blk:=by rw[hi];exact D.new _ D.size
 have hrelw:ER C R U w':=D.frame (λblk hb _=>hn.old blk hb) (by rw[hn.size];omega) hn.os hn.tape hn.output;refine hK i w' ⟨hrelw,⟨λm j F=>?_,λm m' j j' F hm' hbl=>?_,λm j F k b j' hk hj' hbl=>?_⟩⟩
 ·by_cases s:m=d
  ·subst s
   rw[if_pos rfl]at F;cases F;exact⟨hO,z,by simp[look],hokR⟩
  ·rw[if_neg s]at F
   obtain⟨hO',l,hl,hok'⟩:=A.at_ m j F;refine⟨hO',l,?_,hok'.mono (Le.refl _) (hn.old _ hok'.lt)⟩;simp only[look,AW];rw[if_neg (Ne.symm s),Cd,if_neg (λh=>s ((Hz d m).1 h).symm)];exact hl
 ·by_cases s:m=d
  ·by_cases hmd':m'=d
   ·rw[s,hmd']
   ·exfalso
    rw[if_pos s]at F;rw[if_neg hmd']at hm';cases F;have:=A.lt hm';omega
  ·by_cases hmd':m'=d
   ·exfalso
    rw[if_neg s]at F;rw[if_pos hmd']at hm';cases hm';have:=A.lt F;omega
   ·rw[if_neg s]at F;rw[if_neg hmd']at hm'
    exact A.inj m m' j j' F hm' hbl
 ·by_cases s:m=d
  ·rw[if_pos s]at F;cases F
   obtain⟨j2,hj2,_,hok2⟩:=D.own k b hk;rw[hj']at hj2;cases hj2;have:=hok2.lt;omega
  ·rw[if_neg s]at F
   exact A.apart m j F k b j' hk hj' hbl
def Pz(C:Cx)(b:Nat)(d:Ren)(c:Nat)(s:St)(a:Act)(w:World):Prop:=
 ∃R B,Jf b d R/\b<=s.U.next/\V9 C R B s.r s.U w/\Ig R s.e a.tmps/\V7 B s.q a.tmps/\c<=a.tmps.size/\a.defers=[]
theorem V7.pal{B q}{a:Act}(h:V7 B q a.tmps){d}(u:I4 a.tmps.size (some d)=true)(i:BI):
  V7 (λm=>if m=d then some i else B m) ((d,(d,0))::LF d (Br [d] q)) (a.put (some d) (.pointer (some ⟨i.blk,i.shift+0,none⟩))).tmps:=by
 refine⟨λk m off p=>?_⟩;simp only[look,AW]at p;simp only[I4,Cs]at u;by_cases e:d=k
 ·rw[if_pos e]at p
  cases p;exact⟨i,by simp,by simp[Act.put,BN,e,e ▸ u]⟩
 ·rw[if_neg e]at p
  obtain⟨v,s⟩:=LZ _ _ _ _ p;rw[Cd]at s;split at s
  ·cases s
  ·obtain⟨j,w,x⟩:=h.at_ k m off s
   refine⟨j,by rw[if_neg v];exact w,?_⟩;simp only[Act.put,BN];rw[if_neg e];exact x
theorem vJ(hD:∀f,DB P C.E C.G f (D f)){nR R0 nt n0 ops Q}:
  ∀{i}{fl:List (Bf × List Nat)}{s s':St},SG C.E D false n0 i fl s s'->∀(l:List Oper) a w,l.map (Bj P C.G nt ops)=fl.map Prod.fst->Pz C nR R0 nt s a w ->
   (∀a' w',Pz C nR R0 nt s' a' w'->Q .normal a' w')->wpList P ops Q l a w:=by
 intro i fl s s' h;have Y:∀(o:Oper) (l:List Oper) (ao:Bf) (fl:List Bf),(o::l).map (Bj P C.G nt ops)=ao::fl->(∃e,∃b,B6 e ao.guard=some b/\(b=true->ao.op ≠ .bad)) ->
   ao.dst=o.dst/\ao.op=Ah P C.G o.op/\I4 nt o.dst=true/\TL ops o.guard=some ao.guard/\l.map (Bj P C.G nt ops)=fl:=by
  intro o l ao fl hm ⟨e,b,S,hb⟩;simp only[Cf,List.cons.injEq]at hm;obtain⟨T,h2⟩:=hm;unfold Bj at T;split at T
  ·rename_i g hg hd
   subst T;exact⟨rfl,rfl,hd,hg,h2⟩
  ·exfalso
   subst T;simp only[B6,AP.injEq]at S;exact hb S.symm rfl
 have W:∀{pw id nx e q r U al},GJ e->¬HP C.E D pw id nx .bad e q r U al:=by
  intro pw id nx e q r U al af h;cases h with
  | p v hc h=>
   have:=h af;cases this
  | l v hc h=>cases hc | a v b hc h=>cases hc | k v U1 U2 hc h hs=>cases hc | mv x m off K hm=>rcases K with K | K<;>cases K | fa d x m off K hm=>cases K | ld x m off l v K hm L h=>cases K | ldn n x m off l K hm L h=>cases K | st n x y m off l cs u S K hm L hn hu hlu hcs T as h=>cases K
 induction h with
 | nil i s=>
  intro l a w L hI hQ;cases l with
  | nil=>exact hQ a w hI | cons o l=>simp at L
 | shrink i fl s s' e q he hq _ ih=>
  intro l a w L hI hQ;obtain⟨R,B,T,h2,h3,M,h5,Z,h7⟩:=hI;exact ih l a w L ⟨R,B,T,h2,h3,M.sub he,h5.sub hq,Z,h7⟩ hQ
 | skip i o O fl s s' S _ ih=>
  intro l a w L hI hQ;cases l with
  | nil=>simp at L | cons oo l=>
   obtain⟨g1,g2,g3,g4,g5⟩:=Y oo l o _ L ⟨_,false,S,λh=>by cases h⟩;obtain⟨R,B,T,h2,h3,M,h5,Z,h7⟩:=hI;have F:=Kf g3 Z;unfold wpList;rw[if_neg (by rw[EC (M.sel false O).env g4 S];simp)];refine ih l _ w g5 ⟨R,B,T,h2,h3,?_,?_,by rw[NN];exact Z,by rw[Hm];exact h7⟩ hQ
   ·rw[g1];exact M.put F (.inr rfl)
   ·rw[g1];exact h5.del _ _
 | val i o O fl s s' pw v r' U' S hs aj _ _ ih=>
  intro l a w L hI hQ;cases l with
  | nil=>simp at L | cons oo l=>
   obtain⟨R,B,T,h2,h3,M,h5,Z,h7⟩:=hI;obtain⟨g1,g2,g3,g4,g5⟩:=Y oo l o _ L ⟨_,true,S,λ_ hb=>W (M.sel false O).live (hb ▸ hs)⟩;have F:=Kf g3 Z;unfold wpList;rw[if_pos (EC (M.sel false O).env g4 S)];left;rw[g2]at hs;refine NK hD h3 (M.sel false O) (h5.sel false O) oo (h3.rel.fresh _ (AL _)) (Jg _) (C9 _) hs _ Q (λv2 r2 U2 N R' w' x aq hk hn ac hv=>?_) (λm off N=>by cases N);cases N;have hx:=λk ah=>hk k ah (by intro he;subst he;exact JH _ ah);refine ih l _ w' g5 ⟨R',B,T.trans hx h2,AU h2 hn,ac,?_,?_,by rw[NN];exact Z,by rw[Hm];exact h7⟩ hQ
   ·rw[g1]at aj ⊢
    refine(M.mono aq).put F ?_;rcases hv with ⟨rfl,hc⟩|hv
    ·rcases aj with h|h|h
     ·exact .inl h
     ·cases h
     ·rw[g2]at h;exact(h hc).elim
    ·exact .inr hv
   ·rw[g1];exact h5.del _ _
 | mark i o O fl s s' pw id nx m off S hs _ ih=>
  intro l a w L hI hQ;cases l with
  | nil=>simp at L | cons oo l=>
   obtain⟨R,B,T,h2,h3,M,h5,Z,h7⟩:=hI;obtain⟨g1,g2,g3,g4,g5⟩:=Y oo l o _ L ⟨_,true,S,λ_ hb=>W (M.sel false O).live (hb ▸ hs)⟩;have F:=Kf g3 Z;unfold wpList;rw[if_pos (EC (M.sel false O).env g4 S)];left;rw[g2]at hs;have an:HP C.E D pw s.U.next (s.U.next+1) (Ah P C.G oo.op) (Ei false O s.e) (MR false O s.q) s.r s.U (.mark m off):=by
    cases hs with
    | mv x m off K hm=>exact .mv x m off K hm | fa d x m off K hm=>exact .fa d x m off K hm
   refine NK hD h3 (M.sel false O) (h5.sel false O) oo (h3.rel.fresh _ (AL _)) (Jg _) (C9 _) an _ Q (λv2 r2 U2 N=>by cases N) (λm2 ar N ii hB=>?_);cases N;refine ih l _ w g5 ⟨R,B,T,h2,h3,?_,?_,by rw[NN];exact Z,by rw[Hm];exact h7⟩ hQ
   ·rw[g1];exact M.del _ _
   ·rw[g1];exact h5.mark F hB
 | pal i o O fl s s' d el z hd K S _ ih=>
  intro l a w L hI hQ;cases l with
  | nil=>simp at L | cons oo l=>
   obtain⟨g1,g2,g3,g4,g5⟩:=Y oo l o _ L ⟨_,true,S,λ_ hb=>by rw[K]at hb;cases hb⟩;obtain⟨R,B,T,h2,h3,M,h5,Z,h7⟩:=hI;have F:=Kf g3 Z;unfold wpList;rw[if_pos (EC (M.sel false O).env g4 S)];left;rw[g2]at K;rw[hd]at g1;refine lu h3 oo (d:=d) K _ Q (λii w' ac=>?_);rw[<-g1]at F ⊢;refine ih l _ w' g5 ⟨R,_,T,h2,ac,?_,?_,by rw[NN];exact Z,by rw[Hm];exact h7⟩ hQ
   ·exact M.del (some d) _
   ·exact h5.pal F ii
end Go.Og
namespace Go.Og
variable {P:Program}{E:EB}{D:Am}{C:Cx}{R:Ren}{U:H}{w w':World}
inductive Oc where
 | val (v:V)
 | mark (m off:Nat)
 | pal (d:Nat) (z:List V)
def Kq(a b:St):Prop:=(∀t v,look a.e t=some v->look b.e t=some v)/\(∀t v,look a.q t=some v->look b.q t=some v)/\a.r=b.r/\a.U=b.U
theorem Kq.refl s:Kq s s:=⟨λ_ _ h=>h,λ_ _ h=>h,rfl,rfl⟩
inductive At(E:EB)(D:Am)(s:St)(o:Bf)(ks:List Nat):Oc->Bool->St->Prop where
 | skip (s2:St) (hw:B6 (Ei true ks s.e) o.guard=some false) (h:Kq s2 ⟨DF s.e o.dst Eh,CL o.dst s.q,s.r,s.U⟩):At E D s o ks (.val Eh) false s2
 | val (s2:St) (pw:Bool) (v:V) (r':Rg) (U':H) (hw:B6 (Ei true ks s.e) o.guard=some true) (hs:HP E D pw s.U.next (s.U.next+1) o.op (Ei true ks s.e) (MR true ks s.q) s.r s.U (.val v r' U'))
   (hl:o.dst=none\/v.live=true\/o.op.cls ≠ .k) (hna:o.op.cls ≠ .a) (h:Kq s2 ⟨DF s.e o.dst v,CL o.dst s.q,r',U'⟩):At E D s o ks (.val v) true s2
 | mark (s2:St) (pw:Bool) (id nx m off:Nat) (hw:B6 (Ei true ks s.e) o.guard=some true) (hs:HP E D pw id nx o.op (Ei true ks s.e) (MR true ks s.q) s.r s.U (.mark m off))
   (h:Kq s2 ⟨CL o.dst s.e,Sc (CL o.dst s.q) o.dst (m,off),s.r,s.U⟩):At E D s o ks (.mark m off) true s2
 | pal (s2:St) (d:Nat) (el:TypeId) (z:List V) (hd:o.dst=some d) (ho:o.op = .alloc el z) (hw:B6 (Ei true ks s.e) o.guard=some true)
   (h:Kq s2 ⟨Br [d] s.e,(d,(d,0))::LF d (Br [d] s.q),(d,z)::Br [d] s.r,s.U⟩):At E D s o ks (.pal d z) true s2
theorem iw{n0}:∀{i}{K:List (Bf × List Nat)}{s g},SG E D true n0 i K s g ->
  ∃(a:Nat->St) (r:Nat->Oc) (p:Nat->Bool),Kq (a 0) s/\g=a K.length/\∀k o f,K[k]? = some (o,f)->At E D (a k) o f (r k) (p k) (a (k+1)):=by
 intro i K s g h;have cons:∀s Q o f (l:List (Bf × List Nat)) c x,(∀j,Kq j Q->At E D s o f c x j) ->
   (∃(a:Nat->St) (r:Nat->Oc) (p:Nat->Bool),Kq (a 0) Q/\g=a l.length/\∀k o f,l[k]? = some (o,f)->At E D (a k) o f (r k) (p k) (a (k+1))) ->
   ∃(a:Nat->St) (r:Nat->Oc) (p:Nat->Bool),Kq (a 0) s/\g=a ((o,f)::l).length/\∀k O u,((o,f)::l)[k]? = some (O,u)->At E D (a k) O u (r k) (p k) (a (k+1)):=by
  rintro s Q o f l c x W ⟨a,r,p,F,w,R⟩;refine⟨λk=>Nat.casesOn k s a,λk=>Nat.casesOn k c r,λk=>Nat.casesOn k x p,Kq.refl s,w,λk O u G=>?_⟩;cases k with
  | zero=>
   simp only[SY,AP.injEq,Prod.mk.injEq]at G;obtain⟨rfl,rfl⟩:=G;exact W _ F
  | succ k=>
   simp only[DH]at G;exact R k O u G
 induction h with
 | nil i s=>exact⟨λ_=>s,λ_ => .val .dead,λ_=>false,Kq.refl s,rfl,λk o f G=>by simp at G⟩ | skip i o f l s g B _ n=>exact cons s _ o f l _ _ (λj J => .skip j B J) (n (cons:=cons)) | val i o f l s g X v r' U' B J hl U _ n=>exact cons s _ o f l _ _ (λj w => .val j X v r' U' B J hl (U rfl) w) (n (cons:=cons)) | mark i o f l s g X id nx m off B J _ n=>exact cons s _ o f l _ _ (λj w => .mark j X id nx m off B J w) (n (cons:=cons)) | pal i o f l s g d el z hd ho B _ n=>exact cons s _ o f l _ _ (λj w => .pal j d el z hd ho B w) (n (cons:=cons)) | shrink i l s g e q he hq _ n=>
  obtain⟨a,r,p,F,w,R⟩:=n (cons:=cons);exact⟨a,r,p,⟨λt v S=>he t v (F.1 t v S),λt v S=>hq t v (F.2.1 t v S),F.2.2.1,F.2.2.2⟩,w,R⟩
theorem Ss{I id G o e q}{r C rL:Rg}{U' v}(h:HP E D I id G o e q r U (.val v C U'))(B:∀x m off,Gq q x=some (m,off)->look rL m=look r m):
  ∃i,HP E D I id G o e q rL U (.val v i U')/\((C=r/\i=rL)\/∃x m off c l,Gq q x=some (m,off)/\look r m=some l/\C=MS r m c/\i=MS rL m c):=by
 cases h with
 | p _ g h=>exact⟨rL,.p v g h,.inl ⟨rfl,rfl⟩⟩ | l _ g h=>exact⟨rL,.l v g h,.inl ⟨rfl,rfl⟩⟩ | a _ b g h=>exact⟨rL,.a v b g h,.inl ⟨rfl,rfl⟩⟩ | k _ O _ g h M=>exact⟨rL,.k v O U' g h M,.inl ⟨rfl,rfl⟩⟩ | ld x m off l _ t f j h=>exact⟨rL,.ld x m off l v t f (by rw[B x m off f];exact j) h,.inl ⟨rfl,rfl⟩⟩ | ldn n x m off l t f j h=>exact⟨rL,.ldn n x m off l t f (by rw[B x m off f];exact j) h,.inl ⟨rfl,rfl⟩⟩ | st n x y m off l K u J t f j Q P w A L s h=>exact⟨_,.st n x y m off l K u J t f (by rw[B x m off f];exact j) Q P w A L s h,.inr ⟨x,m,off,_,l,f,j,rfl,rfl⟩⟩
theorem Qe{z id G}{o:Eg}{e q r w U' v}(h:HP E D z id G o e q r U (.val v w U'))(t:o.cls ≠ .k)(C:o.cls ≠ .a):w=r/\U'=U:=by
 cases h with
 | p _ d h=>exact⟨rfl,rfl⟩ | l _ d h=>exact⟨rfl,rfl⟩ | a _ b d h=>exact(C d).elim | k _ O _ d h P=>exact(t d).elim | ld x m off l _ f s j h=>exact⟨rfl,rfl⟩ | ldn n x m off l f s j h=>exact⟨rfl,rfl⟩ | st n x y m off l L u M f s j N Q B F K i h=>exact(t (by rw[f];rfl)).elim
theorem mU{j id l g i o e q r rL U k m off}(h:HP E D j id l o e q r U (.mark m off)):HP E D j g i o e q rL k (.mark m off):=by
 cases h with
 | mv x _ _ b c=>exact .mv x m off b c | fa d x _ off b c=>exact .fa d x m off b c
theorem jD{j id i o e q r m off}(h:HP E D j id i o e q r U (.mark m off)):∃x b,Gq q x=some (m,b):=by
 cases h with
 | mv x _ _ g c=>exact⟨x,off,c⟩ | fa d x _ off g c=>exact⟨x,off,c⟩
theorem J0:∀(l:XL) g,l.makes=false->∀o∈l.flat g,∀d,o.op.cls = .a->o.dst=some d->B2 l.pals d=true
 | .nil,g,h,o,e,d,k,n=>by simp[XL.flat]at e
 | .op A ty B op r,g,h,o,e,d,k,n=>by
  obtain⟨u,w⟩:=cf h;simp only[XL.flat,BK]at e;rcases e with rfl|e
  ·exact(u k).elim
  ·exact J0 r g w o e d k n
 | .pal A B D z r,g,h,o,e,d,k,n=>by
  simp only[XL.flat,BK]at e;simp only[XL.pals];rw[DV];rcases e with rfl|e
  ·left;simpa using n
  ·right;exact J0 r g h o e d k n
 | .grp t b l A B c x y r,g,h,o,e,d,k,n=>by
  obtain⟨u,w⟩:=ZD h;simp only[XL.flat,Dw,BK]at e;simp only[XL.pals];rw[Gn];rcases e with e|rfl|e
  ·left;exact J0 l _ u o e d k n
  ·cases k
  ·right;exact J0 r g w o e d k n
theorem Mx{q}:∀{l},Hg q l=true->∀d,B2 l d=true->∀t off,look q t≠some (d,off)
 | [],_,d,e=>by simp[B2]at e
 | a::l,h,d,e=>by
  simp only[Hg,AI]at h;intro t off j;rcases(DV a l d).1 e with rfl|e
  ·have m:JY a q=[]:=by simpa using h.1
   have:=KZ (by rw[m];rfl) j;exact this rfl
  ·exact Mx h.2 d e t off j
end Go.Og
