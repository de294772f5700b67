/- What the last text leans on, part 2 of 7: merged out of smaller texts. No condition. -/
import Derived.Orders
import Derived.Test.YtoengnbdallegaaGreatDoorQ0
open Int renaming ofNat -> AA,tmod -> EW,natCast_nonneg -> Of,natCast_pow -> fX,fdiv_eq_ediv_of_nonneg -> wL
open Bool renaming and_eq_true -> AF,or_eq_true -> BE,or_eq_false_iff -> BP,not_eq_true' -> CR,eq_iff_iff -> De,true_and -> FW,false_or -> FX,eq_false_iff -> Gy,not_true -> Mw
open Nat renaming beq -> AK,le_refl -> AQ,beq_eq -> AU,ble -> Ag,add -> Ar,lt_or_ge -> Ax,ble_eq -> A1,le_trans -> BO,zero_add -> Bp,blt_eq -> CC,blt -> CJ,mod_eq_of_lt -> DA,le_succ -> DQ,min -> Dk,lt_of_lt_of_le -> GA,sub_self -> Gv,lt_succ_self -> Hw,zero_le -> Ke,lt_irrefl -> Mv,strongRecOn -> NJ,testBit_or -> SP,lt_succ_of_lt -> SQ,mul -> Wh,pow_le_pow_right -> X9,lt_trichotomy -> ADN
open Option renaming some -> AL,map_eq_some_iff -> An
open List renaming mem_cons -> AS,replicate -> AY,mem_cons_self -> Aq,length_cons -> Av,getElem?_eq_getElem -> A6,getElem?_eq_none -> BH,getElem?_map -> Bh,all_cons -> Bq,getElem?_cons_succ -> Bz,mem_cons_of_mem -> CE,map_cons -> CF,all_eq_true -> CP,drop_zero -> Cl,getElem?_drop -> C5,append_nil -> C6,nil_append -> Dy,range -> GB,getD_eq_getElem?_getD -> GC,countP_cons_of_pos -> Hx,cons_append -> Lq,getElem?_cons_zero -> Ok,countP_cons_of_neg -> Ol,append_assoc -> SU,eq_nil_iff_forall_not_mem -> U1,mem_append -> fW,take_zero -> wG,mem_range -> wH,getElem?_take -> wJ,drop_drop -> wK
open Array renaming getElem?_setIfInBounds -> Aw,getElem?_eq_none -> Br,getElem?_eq_getElem -> B3,getElem?_toList -> Cq,size_setIfInBounds -> DY,getD_eq_getD_getElem? -> Dl,replicate -> Gc,getElem?_replicate -> AHH
open BitVec renaming ofInt -> Ay
set_option linter.unusedSimpArgs false
namespace Go.Og
variable {P:Program} {G:Nat->Bool} {E:EB} {D:Al} {C:Cx}
theorem MZ {α:Type} (l m:List (Nat × α)) (id:Nat):look (l++m) id=match look l id with
  | some b=>some b
  | none=>look m id:=by
 induction l with
 | nil=>rfl
 | cons p l ih=>
  obtain⟨k,b⟩:=p
  by_cases h:k=id
  ·simp[look,h]
  ·simp only[Lq,look,AU,h,if_false,ih]
theorem JZ {n0 n id:Nat} {p:Nat->Bool}:(Ag n0 id&&CJ id (n0+n) && !p (id-n0))=true↔(n0<=id/\id<n0+n/\p (id-n0)=false):=by
 simp only[AF,A1,CC,CR,and_assoc]
theorem Dh (n0 n:Nat) (p:Nat->Bool) (l:EB) (id:Nat) :
  look (Cf n0 n p l) id=if n0<=id/\id<n0+n/\p (id-n0)=false then none else look l id:=by
 induction l with
 | nil=>simp[Cf,look]
 | cons q l ih=>
  obtain⟨k,b⟩:=q
  unfold Cf
  by_cases hk:n0<=k/\k<n0+n/\p (k-n0)=false
  ·rw[if_pos (JZ.2 hk),ih]
   by_cases h:k=id
   ·subst h;rw[if_pos hk,if_pos hk]
   ·simp only[look,AU,h,if_false]
  ·rw[if_neg (fun hh=>hk (JZ.1 hh))]
   by_cases h:k=id
   ·subst h;rw[if_neg hk];simp[look]
   ·simp only[look,AU,h,if_false,ih]
theorem Ni (n0 n:Nat) (p:Nat->Bool) (l:EB) (id:Nat) :
  look (EO n0 n p l) id=if n0<=id/\id<n0+n/\p (id-n0)=false then look l id else none:=by
 induction l with
 | nil=>simp[EO,look]
 | cons q l ih=>
  obtain⟨k,b⟩:=q
  unfold EO
  by_cases hk:n0<=k/\k<n0+n/\p (k-n0)=false
  ·rw[if_pos (JZ.2 hk)]
   by_cases h:k=id
   ·subst h;rw[if_pos hk];simp[look]
   ·simp only[look,AU,h,if_false,ih]
  ·rw[if_neg (fun hh=>hk (JZ.1 hh)),ih]
   by_cases h:k=id
   ·subst h;rw[if_neg hk,if_neg hk]
   ·simp only[look,AU,h,if_false]
theorem I9 {n0 n:Nat} {p q:Nat->Bool} (h:∀k,k<n->p k=q k):∀l,Cf n0 n p l=Cf n0 n q l
 | []=>rfl
 | (id,b)::l=>by
  unfold Cf
  rw[I9 h l]
  by_cases hk:n0<=id/\id<n0+n
  ·rw[h (id-n0) (by omega)]
  ·have:(Ag n0 id&&CJ id (n0+n))=false:=by
    cases hb:(Ag n0 id&&CJ id (n0+n))with
    | false=>rfl
    | true=>simp only[AF,A1,CC]at hb;exact(hk hb).elim
   rw[this];simp
theorem Ma {n0 n:Nat} {p q:Nat->Bool} (h:∀k,k<n->p k=q k):∀l,EO n0 n p l=EO n0 n q l
 | []=>rfl
 | (id,b)::l=>by
  unfold EO
  rw[Ma h l]
  by_cases hk:n0<=id/\id<n0+n
  ·rw[h (id-n0) (by omega)]
  ·have:(Ag n0 id&&CJ id (n0+n))=false:=by
    cases hb:(Ag n0 id&&CJ id (n0+n))with
    | false=>rfl
    | true=>simp only[AF,A1,CC]at hb;exact(hk hb).elim
   rw[this];simp
mutual
theorem L9:∀(a b:V),V.beq a b=true->a=b
 | .dead,b,h=>by cases b<;>simp[V.beq]at h
 | .bool a,b,h=>by cases b<;>simp[V.beq]at h;subst h;rfl
 | .int k a,b,h=>by cases b<;>simp[V.beq]at h;obtain⟨rfl,rfl⟩:=h;rfl
 | .str a,b,h=>by cases b<;>simp[V.beq]at h;subst h;rfl
 | .nilp,b,h=>by cases b<;>simp[V.beq]at h;rfl
 | .ptr _ _,b,h=>by cases b<;>simp[V.beq]at h;obtain⟨rfl,rfl⟩:=h;rfl
 | .nils,b,h=>by cases b<;>simp[V.beq]at h;rfl
 | .sl _ _ _ _,b,h=>by cases b<;>simp[V.beq]at h;obtain⟨⟨⟨rfl,rfl⟩,rfl⟩,rfl⟩:=h;rfl
 | .sle _ _ _ _,b,h=>by cases b<;>simp[V.beq]at h;obtain⟨⟨⟨rfl,rfl⟩,rfl⟩,rfl⟩:=h;rfl
 | .nilm,b,h=>by cases b<;>simp[V.beq]at h;rfl
 | .mp _,b,h=>by cases b<;>simp[V.beq]at h;subst h;rfl
 | .fn f x y,b,h=>by
  cases b with
  | fn g u v=>
   simp only[V.beq,AF,AU]at h
   obtain⟨⟨rfl,h1⟩,h2⟩:=h
   rw[Jh x u h1,Jh y v h2]
  | _=>simp[V.beq]at h
 | .nilf,b,h=>by cases b<;>simp[V.beq]at h;rfl
 | .ifc t x,b,h=>by
  cases b with
  | ifc u y=>
   simp only[V.beq,AF,AU]at h
   obtain⟨rfl,h1⟩:=h
   rw[L9 x y h1]
  | _=>simp[V.beq]at h
 | .nili,b,h=>by cases b<;>simp[V.beq]at h;rfl
 | .agg l,b,h=>by
  cases b with
  | agg m=>simp only[V.beq]at h;rw[Jh l m h]
  | _=>simp[V.beq]at h
 | .tup l,b,h=>by
  cases b with
  | tup m=>simp only[V.beq]at h;rw[Jh l m h]
  | _=>simp[V.beq]at h
theorem Jh:∀(l m:List V),KR l m=true->l=m
 | [],m,h=>by cases m<;>simp[KR]at h;rfl
 | a::l,m,h=>by
  cases m with
  | nil=>simp[KR]at h
  | cons b m=>
   simp only[KR,AF]at h
   rw[L9 a b h.1,Jh l m h.2]
end
def Cx.sub (C:Cx) (R:Ren) (Zs:H) (w:World):Cx:=
 { C with O:=fun blk=>w.heap.size<=blk\/∃id b j,look Zs.bl id=some b/\R id=some j/\j.blk=blk,w0:=w }
theorem kc {R:Ren} {Z Zs:H} {w:World} (h:DO C R Z w) (hsub:∀id b,look Zs.bl id=some b->look Z.bl id=some b) {blk:Nat} (hO:(C.sub R Zs w).O blk):C.O blk:=by
 rcases hO with hge|⟨id,b,j,hb,hj,rfl⟩
 ·exact h.new _ (BO h.size hge)
 ·obtain⟨j',hj',hO',_⟩:=h.own id b (hsub id b hb)
  rw[hj]at hj';cases hj';exact hO'
theorem DO.shrink {R:Ren} {Z Zs:H} {w:World} (h:DO C R Z w) (hn:Zs.next=Z.next) (hsub:∀id b,look Zs.bl id=some b->look Z.bl id=some b):DO (C.sub R Zs w) R Zs w where
 fresh id hid:=h.fresh id (hn ▸ hid)
 own id b hb:=by
  obtain⟨j,hj,_,hok⟩:=h.own id b (hsub id b hb)
  exact⟨j,hj,.inr ⟨id,b,j,hb,hj,rfl⟩,hok⟩
 inj id id' b b' i i' hb hb' hi hi' hbl:=h.inj id id' b b' i i' (hsub _ _ hb) (hsub _ _ hb') hi hi' hbl
 ext id b hb:=by
  obtain⟨j,hj,hno,hok⟩:=h.ext id b hb
  exact⟨j,hj,fun hO=>hno (kc h hsub hO),hok⟩
 glob:=h.glob
 fr _ _:=rfl
 size:=AQ _
 new _ hblk := .inl hblk
 os:=rfl
 tape:=rfl
 output:=rfl
theorem DO.regrow {R R':Ren} {Z Zs Z' Z2:H} {w w':World} (h:DO C R Z w) (hsub:∀id b,look Zs.bl id=some b->look Z.bl id=some b)
  (hs:DO (C.sub R Zs w) R' Z' w') (hx:GQ Z.next R R') (h2:Z2.next=Z'.next)
  (hl:∀id b,look Z2.bl id=some b->look Z'.bl id=some b\/(look Z.bl id=some b/\look Zs.bl id=none)):DO C R' Z2 w':=by
 have hle:Le R R':=hx.le h.fresh
 have hOO:∀blk,(C.sub R Zs w).O blk->C.O blk:=fun blk hO=>kc h hsub hO
 have hno:∀id b j,look Z.bl id=some b->look Zs.bl id=none->R id=some j->¬(C.sub R Zs w).O j.blk:=by
  intro id b j hb hnone hj hO
  rcases hO with hge|⟨id2,b2,j2,hb2,hj2,hbl⟩
  ·obtain⟨j',hj',_,hok⟩:=h.own id b hb
   rw[hj]at hj';cases hj'
   have:=hok.lt
   omega
  ·have:=h.inj id2 id b2 b j2 j (hsub _ _ hb2) hb hj2 hj hbl
   subst this
   rw[hnone]at hb2;cases hb2
 have hR:∀id b,look Z.bl id=some b->R' id=R id:=fun id b hb=>hx id (h.next_of_own hb)
 refine⟨fun id hid=>hs.fresh id (h2 ▸ hid),?_,?_,?_,?_,?_,?_,h.new,hs.os.trans h.os,hs.tape.trans h.tape,hs.output.trans h.output⟩
 ·intro id b hb
  rcases hl id b hb with h1|⟨h1,h1n⟩
  ·obtain⟨j,hj,hO,hok⟩:=hs.own id b h1
   exact⟨j,hj,hOO _ hO,hok⟩
  ·obtain⟨j,hj,hO,hok⟩:=h.own id b h1
   exact⟨j,by rw[hR id b h1];exact hj,hO,hok.mono hle (hs.fr _ (hno id b j h1 h1n hj))⟩
 ·intro id id' b b' i i' hb hb' hi hi' hbl
  rcases hl id b hb with h1|⟨h1,h1n⟩
  ·rcases hl id' b' hb' with h1'|⟨h1',h1n'⟩
   ·exact hs.inj id id' b b' i i' h1 h1' hi hi' hbl
   ·exfalso
    obtain⟨j,hj,hO,_⟩:=hs.own id b h1
    rw[hi]at hj;cases hj
    rw[hR id' b' h1']at hi'
    exact hno id' b' i' h1' h1n' hi' (hbl ▸ hO)
  ·rcases hl id' b' hb' with h1'|⟨h1',h1n'⟩
   ·exfalso
    obtain⟨j,hj,hO,_⟩:=hs.own id' b' h1'
    rw[hi']at hj;cases hj
    rw[hR id b h1]at hi
    exact hno id b i h1 h1n hi (hbl ▸ hO)
   ·rw[hR id b h1]at hi;rw[hR id' b' h1']at hi'
    exact h.inj id id' b b' i i' h1 h1' hi hi' hbl
 ·intro id b hb
  obtain⟨j,hj,hn,hok⟩:=h.ext id b hb
  exact⟨j,hle _ _ hj,hn,hok.mono hle (hs.fr _ fun hO=>hn (hOO _ hO))⟩
 ·intro g hg
  obtain⟨j,hj,hb⟩:=h.glob g hg
  exact⟨j,hle _ _ hj,hb⟩
 ·intro blk hn
  rw[<-h.fr blk hn]
  exact hs.fr blk fun hO=>hn (hOO _ hO)
 ·exact BO h.size hs.size
theorem DO.allocAt {R:Ren} {Z Z2:H} {w w':World} (h:DO C R Z w) {id:Nat} (hid:R id=none) (hlt:id<Z.next) (hn:ER w w') (b:Ea) (i:BI) (hi:i.blk=w.heap.size)
  (hb:EP (Hy R id i) i b w') (h2:Z2.next=Z.next) (hl:∀k,look Z2.bl k=if k=id then some b else look Z.bl k):DO C (Hy R id i) Z2 w':=by
 have hle:Le R (Hy R id i):=fun k j hk=>by
  by_cases he:k=id
  ·subst he;rw[hid]at hk;cases hk
  ·rw[Bb he];exact hk
 have hold:=hn.old
 have hO:C.O w.heap.size:=h.new _ h.size
 refine⟨?_,?_,?_,?_,?_,?_,?_,h.new,hn.os.trans h.os,hn.tape.trans h.tape,hn.output.trans h.output⟩
 ·intro k hk
  rw[Bb (by omega)];exact h.fresh k (by omega)
 ·intro k c hc
  rw[hl]at hc
  by_cases he:k=id
  ·subst he
   rw[if_pos rfl]at hc;cases hc
   exact⟨i,B0 _ _ _,hi ▸ hO,hb⟩
  ·rw[if_neg he]at hc
   obtain⟨j,hj,hOj,hok⟩:=h.own k c hc
   exact⟨j,by rw[Bb he];exact hj,hOj,hok.mono hle (hold _ hok.lt)⟩
 ·intro k k' c c' j j' hc hc' hj hj' hbl
  rw[hl]at hc hc'
  by_cases he:k=id
  ·by_cases he':k'=id
   ·rw[he,he']
   ·exfalso
    subst he
    rw[B0]at hj;cases hj
    rw[if_neg he']at hc'
    rw[Bb he']at hj'
    obtain⟨q,hq,_,hok⟩:=h.own k' c' hc'
    rw[hq]at hj';cases hj'
    have:=hok.lt
    omega
  ·by_cases he':k'=id
   ·exfalso
    subst he'
    rw[B0]at hj';cases hj'
    rw[if_neg he]at hc
    rw[Bb he]at hj
    obtain⟨q,hq,_,hok⟩:=h.own k c hc
    rw[hq]at hj;cases hj
    have:=hok.lt
    omega
   ·rw[if_neg he]at hc;rw[if_neg he']at hc'
    rw[Bb he]at hj;rw[Bb he']at hj'
    exact h.inj k k' c c' j j' hc hc' hj hj' hbl
 ·intro k c hc
  obtain⟨j,hj,hno,hok⟩:=h.ext k c hc
  refine⟨j,hle _ _ hj,hno,hok.mono hle (hold _ ?_)⟩
  rcases Ax j.blk w.heap.size with hl|hl
  ·exact hl
  ·exact absurd (h.new _ (BO h.size hl)) hno
 ·intro g hg
  obtain⟨j,hj,hb⟩:=h.glob g hg
  exact⟨j,hle _ _ hj,hb⟩
 ·intro blk hno
  rw[<-h.fr blk hno]
  refine hold _ ?_
  rcases Ax blk w.heap.size with hl|hl
  ·exact hl
  ·exact absurd (h.new _ (BO h.size hl)) hno
 ·rw[hn.size];have:=h.size;omega
theorem DO.congr {R:Ren} {Z Z2:H} {w:World} (h:DO C R Z w) (hn:∀id,Z2.next<=id->R id=none) (hl:∀k b,look Z2.bl k=some b->look Z.bl k=some b):DO C R Z2 w:=
 ⟨hn,fun k c hk=>h.own k c (hl k c hk),fun k k' c c' i i' hk hk'=>h.inj k k' c c' i i' (hl k c hk) (hl k' c' hk'),h.ext,h.glob,h.fr,h.size,h.new,h.os,h.tape,h.output⟩
theorem VB {R:Ren} {Z Zs:H} {w:World} (h:DO C R Z w) (hsub:∀id b,look Zs.bl id=some b->look Z.bl id=some b) {id:Nat} {l:List V} (hr:rd C.E Zs id=some l):rd C.E Z id=some l:=by
 unfold rd at hr ⊢
 cases hs:look Zs.bl id with
 | some b=>rw[hs]at hr;rw[hsub id b hs];exact hr
 | none=>
  rw[hs]at hr
  cases he:look C.E id with
  | none=>rw[he]at hr;cases hr
  | some b=>
   rw[he]at hr
   cases ho:look Z.bl id with
   | none=>exact hr
   | some c=>
    exfalso
    obtain⟨j,hj,hO,_⟩:=h.own id c ho
    obtain⟨j',hj',hno,_⟩:=h.ext id b he
    rw[hj]at hj';cases hj'
    exact hno hO
theorem Se {R:Ren} {Z Zs:H} {w:World} (h:DO C R Z w) (hsub:∀id b,look Zs.bl id=some b->look Z.bl id=some b) {id off n:Nat} {l:List V} (hr:Ki C.E Zs id off n=some l):Ki C.E Z id off n=some l:=by
 unfold Ki at hr ⊢
 cases hs:rd C.E Zs id with
 | none=>rw[hs]at hr;cases hr
 | some m=>rw[hs]at hr;rw[VB h hsub hs];exact hr
theorem YM {R:Ren} {Z Zs:H} {w:World} (h:DO C R Z w) (hsub:∀id b,look Zs.bl id=some b->look Z.bl id=some b) {esz:Nat} {x:V} {q:Nat × List V} (hr:CH C.E Zs esz x=some q):CH C.E Z esz x=some q:=by
 unfold CH at hr ⊢
 split at hr
 ·exact hr
 ·exact hr
 ·simp only[An]at hr ⊢
  obtain⟨m,hm,rfl⟩:=hr
  exact⟨m,Se h hsub hm,rfl⟩
 ·exact hr
 ·cases hr
theorem Xx {R:Ren} {Z Zs:H} {w:World} (h:DO C R Z w) (hsub:∀id b,look Zs.bl id=some b->look Z.bl id=some b) {op:Dx} {e:Bk} {v:V} (hr:CO C.E op e Zs=some v):CO C.E op e Z=some v:=by
 unfold CO at hr ⊢
 split at hr
 ·split at hr
  ·split at hr
   ·rename_i hq;rw[VB h hsub hq];exact hr
   ·cases hr
  ·cases hr
 ·split at hr
  ·split at hr
   ·rename_i hq;rw[Se h hsub hq];exact hr
   ·cases hr
  ·cases hr
 ·split at hr
  ·cases hr
  ·rename_i hns
   rw[if_neg hns]
   split at hr
   ·rename_i hq;rw[YM h hsub hq];exact hr
   ·cases hr
 ·unfold LB at hr ⊢
  split at hr
  ·split at hr
   ·rename_i hq;rw[hsub _ _ hq];exact hr
   ·cases hr
  ·cases hr
 ·unfold M3 at hr ⊢
  split at hr
  ·split at hr
   ·rename_i hq;rw[hsub _ _ hq];exact hr
   ·cases hr
  ·cases hr
 ·cases hr
end Go.Og
namespace Go.Og
variable {P:Program} {G:Nat->Bool} {E:EB} {D:Al} {C:Cx}
theorem Gt:∀{n:Nat} {p:Nat->Bool},Uc n p=true->∀k,k<n->p k=true
 | n+1,p,h,k,hk=>by
  simp only[Uc,AF]at h
  by_cases he:k=n
  ·subst he;exact h.1
  ·exact Gt h.2 k (by omega)
structure P0 (ops:Array Oper) (l:List BC) (pl:List DP):Prop where
 len:pl.length=ops.size
 llen:l.length=ops.size
 edges:∀(i:Nat) (o:Oper),ops[i]? = some o->∀e∈o.after,Region.binds .any e=true->e.on<i
 anc:∀(i:Nat) (o:Oper) (p:DP),ops[i]? = some o->pl[i]? = some p->∀k,k<ops.size->p.anc.testBit k=true->∃e∈o.after,Region.binds .any e=true/\(e.on=k\/(GN pl e.on).testBit k=true)
 dsts:∀(i k:Nat) (o o':Oper) (p p':DP),i≠k->ops[i]? = some o->ops[k]? = some o'->pl[i]? = some p->pl[k]? = some p'->∀(t:Nat),o.dst=some t ->
  o'.dst≠some t/\(BX p'.looks t=true->p'.anc.testBit i=true\/p.anc.testBit k=true)
 kk:∀(i k:Nat) (ao ao':BC) (p':DP),i<k->l[i]? = some ao->l[k]? = some ao'->pl[k]? = some p'->ao.op.cls = .k->ao'.op.cls = .k->p'.anc.testBit i=true
theorem PI {ops:Array Oper} {l:List BC} {pl:List DP} (hl:l.length=ops.size) (h:NZ ops l pl=true):P0 ops l pl:=by
 unfold NZ at h
 simp only[AF,AU]at h
 obtain⟨hlen,h⟩:=h
 have hlt:∀{i:Nat} {o:Oper},ops[i]? = some o->i<ops.size:=fun {i o} ho=>by
  rcases Ax i ops.size with h|h
  ·exact h
  ·rw[Br h]at ho;cases ho
 have hmain:=Gt h
 have hl_lt:∀{i:Nat} {o:BC},l[i]? = some o->i<ops.size:=fun {i o} ho=>by
  rcases Ax i l.length with h|h
  ·omega
  ·rw[BH h]at ho;cases ho
 have some3:∀i,i<ops.size->∃o ao p,ops[i]? = some o/\l[i]? = some ao/\pl[i]? = some p:=fun i hi=>
  ⟨_,_,_,B3 hi,A6 (by omega),A6 (by omega)⟩
 refine⟨hlen,hl,?_,?_,?_,?_⟩
 ·intro i o ho e he hb
  obtain⟨o1,ao,p,h1,h2,h3⟩:=some3 i (hlt ho)
  have hm:=hmain i (hlt ho)
  rw[h1,h2,h3]at hm
  rw[ho]at h1;cases h1
  simp only[AF]at hm
  have:=CP.1 hm.1 e (by simpa using he)
  simp only[hb,Mw,FX,CC]at this
  exact this
 ·intro i o p ho hp k hk hbit
  obtain⟨o1,ao,p1,h1,h2,h3⟩:=some3 i (hlt ho)
  have hm:=hmain i (hlt ho)
  rw[h1,h2,h3]at hm
  rw[ho]at h1;cases h1
  rw[hp]at h3;cases h3
  simp only[AF]at hm
  have hk2:=Gt hm.2 k hk
  simp only[AF]at hk2
  have:=hk2.1
  rw[hbit]at this
  simp only[Mw,FX,List.any_eq_true,AF,BE,AU]at this
  obtain⟨e,he,hb,hr⟩:=this
  exact⟨e,by simpa using he,hb,hr⟩
 ·intro i k o o' p p' hne ho ho' hp hp' t ht
  obtain⟨o1,ao,p1,h1,h2,h3⟩:=some3 i (hlt ho)
  obtain⟨o2,ao2,p2,h1',h2',h3'⟩:=some3 k (hlt ho')
  have hm:=hmain i (hlt ho)
  rw[h1,h2,h3]at hm
  rw[ho]at h1;cases h1
  rw[hp]at h3;cases h3
  rw[ho']at h1';cases h1'
  rw[hp']at h3';cases h3'
  simp only[AF]at hm
  have hk2:=Gt hm.2 k (hlt ho')
  have hik:AK i k=false:=Gy.2 (by rw[ne_eq,AU];exact hne)
  simp only[AF,hik,FX]at hk2
  have:=hk2.2
  rw[ho',h2',hp']at this
  simp only[ht,AF]at this
  obtain⟨⟨h4,h5⟩,_⟩:=this
  constructor
  ·intro heq
   rw[heq]at h4
   simp at h4
  ·intro hmem
   rw[hmem]at h5
   simpa using h5
 ·intro i k ao ao' p' hik ha ha' hp' hc hc'
  obtain⟨o1,ao1,p1,h1,h2,h3⟩:=some3 i (hl_lt ha)
  obtain⟨o2,ao2,p2,h1',h2',h3'⟩:=some3 k (hl_lt ha')
  have hm:=hmain i (hl_lt ha)
  rw[h1,h2,h3]at hm
  rw[ha]at h2;cases h2
  rw[ha']at h2';cases h2'
  rw[hp']at h3';cases h3'
  simp only[AF]at hm
  have hk2:=Gt hm.2 k (hl_lt ha')
  have hne:AK i k=false:=Gy.2 (by rw[ne_eq,AU];omega)
  simp only[AF,hne,FX]at hk2
  have:=hk2.2
  rw[h1',ha',hp']at this
  simp only[AF,hc,hc']at this
  have:=this.2
  have hb:CJ i k=true:=by simpa using hik
  rw[hb]at this
  simpa using this
theorem P0.ancLt {ops:Array Oper} {l:List BC} {pl:List DP} (h:P0 ops l pl):∀(i:Nat) (p:DP),pl[i]? = some p->∀(k:Nat),k<ops.size->p.anc.testBit k=true->k<i:=by
 intro i
 induction i using NJ with
 | _ i ih=>
  intro p hp k hk hb
  have hi:i<ops.size:=by
   rcases Ax i pl.length with h1|h1
   ·have:=h.len;omega
   ·rw[BH h1]at hp;cases hp
  obtain⟨e,he,hbe,hr⟩:=h.anc i ops[i] p (B3 hi) hp k hk hb
  have hlt:=h.edges i ops[i] (B3 hi) e he hbe
  rcases hr with rfl|hr
  ·exact hlt
  ·have hel:e.on<pl.length:=by have:=h.len;omega
   have hp':pl[e.on]? = some pl[e.on]:=A6 hel
   have:(pl[e.on]).anc.testBit k=true:=by
    simpa[GN,GC,hp']using hr
   have:=ih e.on hlt _ hp' k hk this
   omega
structure Tr (E:EB) (D:Al) (l:List BC) (pl:List DP) (n0 n:Nat) (e0:Bk) (h0:EB) (i:Nat) (s:DS) where
 vals:Nat->V
 envs:Nat->Bk
 Hh:Nat->EB
 nx:Nat->Nat
 ks:Nat->Nat
 M:Nat
 ssl:s.ss.length=M+1
 ssg:∀(m:Nat),m<=M->s.ss[M-m]? = some (Hh m)
 ksl:s.ks.length=M
 ksg:∀(r:Nat),r<M->s.ks[M-1-r]? = some (ks r)
 ke:s.e=envs i
 ez:envs 0=e0
 es:∀(k:Nat),k<i->∀(o:BC),l[k]? = some o->envs (k+1)=CS (envs k) o.dst (vals k)
 nx0:nx 0=n0+n
 nxs:s.nx=nx M
 hz:∀id,¬(n0<=id/\id<n0+n)->look (Hh 0) id=look h0 id
 ops:∀(k:Nat),k<i->∀(o:BC) (p:DP),l[k]? = some o->pl[k]? = some p ->
  (BW (restr p.looks (envs k)) o.guard=some false/\vals k=DV/\s.am.testBit k=false/\∀r,r<M->ks r≠k) \/
  (BW (restr p.looks (envs k)) o.guard=some true /\
   ((o.op.cls = .p/\BJ o.op (restr p.looks (envs k))=some (vals k)/\s.am.testBit k=false/\∀r,r<M->ks r≠k) \/
    (o.op.cls = .l/\(k,o.op,restr p.looks (envs k),vals k)∈s.ls/\s.am.testBit k=false/\∀r,r<M->ks r≠k) \/
    (o.op.cls = .a/\s.am.testBit k=true/\(∀r,r<M->ks r≠k)/\∃b,CN o.op (restr p.looks (envs k)) (n0+k)=some (vals k,b) /\
     ∀m,m<=M->(∀r,r<m->(GN pl (ks r)).testBit k=false)->look (Hh m) (n0+k)=some b) \/
    (o.op.cls = .k/\s.am.testBit k=false/\∃r,r<M/\ks r=k)))
 amlt:∀k,s.am.testBit k=true->k<i
 kst:∀r,r<M->ks r<i/\∃(o:BC) (p:DP) (Z':H),l[ks r]? = some o/\pl[ks r]? = some p/\o.op.cls = .k/\BW (restr p.looks (envs (ks r))) o.guard=some true /\
  Dc E D o.op (restr p.looks (envs (ks r))) ⟨nx r,Cf n0 n (DK p.anc s.am) (Hh r)⟩=some (vals (ks r),Z') /\
  Hh (r+1)=EO n0 n (DK p.anc s.am) (Hh r)++Z'.bl/\nx (r+1)=Z'.next
 kinc:∀r r',r<r'->r'<M->ks r<ks r'
theorem G5 {a i k:Nat}:(a ||| 2 ^ i).testBit k=(a.testBit k || decide (i=k)):=by
 rw[SP,Nat.testBit_two_pow]
theorem Tr.start (E : EB) (D : Al) (l : List BC) (pl : List DP) (n0 n : Nat) (e0 : Bk) (h0 : EB) : Nonempty (Tr E D l pl n0 n e0 h0 0 ⟨e0, n0 + n, [h0], [], 0, []⟩) :=
  ⟨{ vals := fun _ => .dead, envs := fun _ => e0, Hh := fun _ => h0, nx := fun _ => n0 + n, ks := fun _ => 0, M := 0,
     ssl := rfl, ssg := fun m hm => by have : m = 0 := by omega
                                       subst this; rfl
     ksl := rfl, ksg := fun r hr => by omega
     ke := rfl, ez := rfl, es := fun k hk => by omega
     nx0 := rfl, nxs := rfl, hz := fun _ _ => rfl
     ops := fun k hk => by omega
     amlt := fun k hk => by simp at hk
     kst := fun r hr => by omega
     kinc := fun r r' h h' => by omega }⟩
def Ot {α:Type} (f:Nat->α) (i:Nat) (v:α) (k:Nat):α:=if k=i then v else f k
theorem CL {α:Type} (f:Nat->α) (i:Nat) (v:α):Ot f i v i=v:=if_pos rfl
theorem IS {α:Type} (f:Nat->α) {i k:Nat} (v:α) (h:k≠i):Ot f i v k=f k:=if_neg h
theorem Tr.quiet {l:List BC} {pl:List DP} {n0 n:Nat} {e0:Bk} {h0:EB} {i:Nat} {s:DS} (T:Tr E D l pl n0 n e0 h0 i s) {o:BC} {p:DP} (ho:l[i]? = some o) (hp:pl[i]? = some p) (v:V) (ls:List (Nat × Dx × Bk × V))
    (hls:∀x,x∈s.ls->x∈ls)
    (hcase:(BW (restr p.looks s.e) o.guard=some false/\v=DV)\/(BW (restr p.looks s.e) o.guard=some true /\
      ((o.op.cls = .p/\BJ o.op (restr p.looks s.e)=some v)\/(o.op.cls = .l/\(i,o.op,restr p.looks s.e,v)∈ls)))) :
    Nonempty (Tr E D l pl n0 n e0 h0 (i+1) { s with e:=CS s.e o.dst v,ls:=ls }):=by
  obtain⟨vals,envs,Hh,nx,ks,M,ssl,ssg,ksl,ksg,ke,ez,es,nx0,nxs,hz,ops,amlt,kst,kinc⟩:=T
  have hne:∀r,r<M->ks r≠i:=fun r hr=>by have:=(kst r hr).1;omega
  have ham:s.am.testBit i=false:=by
    cases hb:s.am.testBit i with
    | false=>rfl
    | true=>have:=amlt i hb;omega
  have hval:∀k,k<i->Ot vals i v k=vals k:=fun k hk=>IS _ _ (by omega)
  have henv:∀k,k<i+1->Ot envs (i+1) (CS s.e o.dst v) k=envs k:=fun k hk=>IS _ _ (by omega)
  refine⟨{ vals:=Ot vals i v,envs:=Ot envs (i+1) (CS s.e o.dst v),Hh:=Hh,nx:=nx,ks:=ks,M:=M,
            ssl:=ssl,ssg:=ssg,ksl:=ksl,ksg:=ksg,ke:=(CL _ _ _).symm,ez:=by rw[henv 0 (by omega)];exact ez,es:=?_,nx0:=nx0,nxs:=nxs,hz:=hz,ops:=?_,amlt:=fun k hk=>SQ (amlt k hk),kst:=?_,kinc:=kinc }⟩
  · intro k hk o' ho'
    by_cases he:k=i
    · subst he
      rw[ho]at ho';cases ho'
      rw[CL,CL,henv k (by omega),ke]
    · rw[henv k (by omega),hval k (by omega),henv (k+1) (by omega)]
      exact es k (by omega) o' ho'
  · intro k hk o' p' ho' hp'
    by_cases he:k=i
    · subst he
      rw[ho]at ho';cases ho'
      rw[hp]at hp';cases hp'
      rw[henv k (by omega),<-ke,CL]
      rcases hcase with ⟨h1,h2⟩|⟨h1,h2⟩
      · exact .inl ⟨h1,h2,ham,hne⟩
      · refine .inr ⟨h1,?_⟩
        rcases h2 with ⟨h2,h3⟩|⟨h2,h3⟩
        · exact .inl ⟨h2,h3,ham,hne⟩
        · exact .inr (.inl ⟨h2,h3,ham,hne⟩)
    · rw[henv k (by omega),hval k (by omega)]
      rcases ops k (by omega) o' p' ho' hp' with h1|⟨h1,h2|⟨h2,h3,h4⟩|h2|h2⟩
      · exact .inl h1
      · exact .inr ⟨h1,.inl h2⟩
      · exact .inr ⟨h1,.inr (.inl ⟨h2,hls _ h3,h4⟩)⟩
      · exact .inr ⟨h1,.inr (.inr (.inl h2))⟩
      · exact .inr ⟨h1,.inr (.inr (.inr h2))⟩
  · intro r hr
    obtain⟨h1,o',p',Z',h2,h3,h4,h5,h6,h7,h8⟩:=kst r hr
    refine⟨by omega,o',p',Z',h2,h3,h4,?_,?_,h7,h8⟩
    · rw[henv _ (by omega)];exact h5
    · rw[henv _ (by omega),hval _ h1];exact h6
end Go.Og
namespace Go.Og
variable {P:Program} {G:Nat->Bool} {E:EB} {D:Al} {C:Cx}
theorem IG {pl:List DP} {i:Nat} {p:DP} (h:pl[i]? = some p):GN pl i=p.anc:=by simp[GN,GC,h]
theorem Tr.make {ops' : Array Oper} {l : List BC} {pl : List DP} (F : P0 ops' l pl) {n0 n : Nat} (hn : n = ops'.size) {e0 : Bk} {h0 : EB} {i : Nat} {s : DS} (T : Tr E D l pl n0 n e0 h0 i s) {o : BC} {p : DP}
    (ho : l[i]? = some o) (hp : pl[i]? = some p) (v : V) (b : Ea) (hw : BW (restr p.looks s.e) o.guard = some true) (hc : o.op.cls = .a) (ha : CN o.op (restr p.looks s.e) (n0 + i) = some (v, b)) :
    Nonempty (Tr E D l pl n0 n e0 h0 (i + 1) { s with e := CS s.e o.dst v, ss := s.ss.map ((n0 + i, b) :: ·), am := s.am ||| 2 ^ i }) := by
  obtain ⟨vals, envs, Hh, nx, ks, M, ssl, ssg, ksl, ksg, ke, ez, es, nx0, nxs, hz, ops, amlt, kst, kinc⟩ := T
  have hin : i < n := by
    rcases Ax i l.length with h | h
    · have := F.llen; omega
    · rw [BH h] at ho; cases ho
  have hne : ∀ r, r < M → ks r ≠ i := fun r hr => by have := (kst r hr).1; omega
  have hval : ∀ k, k < i → Ot vals i v k = vals k := fun k hk => IS _ _ (by omega)
  have henv : ∀ k, k < i + 1 → Ot envs (i + 1) (CS s.e o.dst v) k = envs k := fun k hk => IS _ _ (by omega)
  have hlk : ∀ m k, k ≠ i → look ((n0 + i, b) :: Hh m) (n0 + k) = look (Hh m) (n0 + k) := fun m k hk => by
    simp only [look, AU]
    rw [if_neg (by omega)]
  have ham : ∀ k, k ≠ i → (s.am ||| 2 ^ i).testBit k = s.am.testBit k := fun k hk => by
    rw [G5]; simp [Ne.symm hk]
  refine ⟨{ vals := Ot vals i v, envs := Ot envs (i + 1) (CS s.e o.dst v), Hh := fun m => (n0 + i, b) :: Hh m, nx := nx, ks := ks, M := M,
            ssl := by simp [ssl], ssg := fun m hm => by rw [Bh, ssg m hm]; rfl
            ksl := ksl, ksg := ksg, ke := (CL _ _ _).symm, ez := by rw [henv 0 (by omega)]; exact ez, es := ?_, nx0 := nx0, nxs := nxs, hz := ?_, ops := ?_, amlt := ?_, kst := ?_, kinc := kinc }⟩
  · intro k hk o' ho'
    by_cases he : k = i
    · subst he
      rw [ho] at ho'; cases ho'
      rw [CL, CL, henv k (by omega), ke]
    · rw [henv k (by omega), hval k (by omega), henv (k + 1) (by omega)]
      exact es k (by omega) o' ho'
  · intro id hid
    simp only [look, AU]
    rw [if_neg (by omega)]
    exact hz id hid
  · intro k hk o' p' ho' hp'
    by_cases he : k = i
    · subst he
      rw [ho] at ho'; cases ho'
      rw [hp] at hp'; cases hp'
      rw [henv k (by omega), ← ke, CL]
      refine .inr ⟨hw, .inr (.inr (.inl ⟨hc, by rw [G5]; simp, hne, b, ha, fun m _ _ => by simp [look]⟩))⟩
    · rw [henv k (by omega), hval k (by omega)]
      simp only [ham k he]
      rcases ops k (by omega) o' p' ho' hp' with h1 | ⟨h1, h2 | h2 | ⟨h2, h3, h4, b', h5, h6⟩ | h2⟩
      · exact .inl h1
      · exact .inr ⟨h1, .inl h2⟩
      · exact .inr ⟨h1, .inr (.inl h2)⟩
      · exact .inr ⟨h1, .inr (.inr (.inl ⟨h2, h3, h4, b', h5, fun m hm hr => by rw [hlk m k he]; exact h6 m hm hr⟩))⟩
      · exact .inr ⟨h1, .inr (.inr (.inr h2))⟩
  · intro k hk
    rw [G5] at hk
    simp only [BE, decide_eq_true_eq] at hk
    rcases hk with hk | hk
    · have := amlt k hk; omega
    · omega
  · intro r hr
    obtain ⟨h1, o', p', Z', h2, h3, h4, h5, h6, h7, h8⟩ := kst r hr
    have hanc : p'.anc.testBit i = false := by
      cases hb : p'.anc.testBit i with
      | false => rfl
      | true => have := F.ancLt _ p' h3 i (by omega) hb; omega
    have hcong : ∀ k, k < n → DK p'.anc (s.am ||| 2 ^ i) k = DK p'.anc s.am k := fun k _ => by
      unfold DK
      by_cases he : k = i
      · subst he; rw [hanc]; simp
      · rw [ham k he]
    have hvi : DK p'.anc (s.am ||| 2 ^ i) (n0 + i - n0) = false := by
      rw [show n0 + i - n0 = i by omega]; unfold DK; rw [hanc]; rfl
    have hhide : Cf n0 n (DK p'.anc (s.am ||| 2 ^ i)) ((n0 + i, b) :: Hh r) = Cf n0 n (DK p'.anc s.am) (Hh r) := by
      rw [Cf, if_pos (JZ.2 ⟨by omega, by omega, hvi⟩)]
      exact I9 hcong _
    have hkeep : EO n0 n (DK p'.anc (s.am ||| 2 ^ i)) ((n0 + i, b) :: Hh r) = (n0 + i, b) :: EO n0 n (DK p'.anc s.am) (Hh r) := by
      rw [EO, if_pos (JZ.2 ⟨by omega, by omega, hvi⟩)]
      rw [Ma hcong]
    refine ⟨by omega, o', p', Z', h2, h3, h4, ?_, ?_, ?_, h8⟩
    · rw [henv _ (by omega)]; exact h5
    · rw [henv _ (by omega), hval _ h1, hhide]; exact h6
    · rw [hkeep, h7]; rfl
theorem Tr.writes {ops':Array Oper} {l:List BC} {pl:List DP} (F:P0 ops' l pl) {n0 n:Nat} (hn:n=ops'.size) {e0:Bk} {h0:EB} {i:Nat} {s:DS} (T:Tr E D l pl n0 n e0 h0 i s) {o:BC} {p:DP}
    (ho:l[i]? = some o) (hp:pl[i]? = some p) (v:V) (Z':H) {h:EB} {ss':List (EB)} (hss:s.ss=h::ss') (hw:BW (restr p.looks s.e) o.guard=some true) (hc:o.op.cls = .k)
    (hd:Dc E D o.op (restr p.looks s.e) ⟨s.nx,Cf n0 n (DK p.anc s.am) h⟩=some (v,Z')) :
    Nonempty (Tr E D l pl n0 n e0 h0 (i+1) { s with e:=CS s.e o.dst v,nx:=Z'.next,ss:=(EO n0 n (DK p.anc s.am) h++Z'.bl)::s.ss,ks:=i::s.ks }):=by
  obtain⟨vals,envs,Hh,nx,ks,M,ssl,ssg,ksl,ksg,ke,ez,es,nx0,nxs,hz,ops,amlt,kst,kinc⟩:=T
  have hin:i<n:=by
    rcases Ax i l.length with h|h
    · have:=F.llen;omega
    · rw[BH h]at ho;cases ho
  have hne:∀r,r<M->ks r≠i:=fun r hr=>by have:=(kst r hr).1;omega
  have hhead:h=Hh M:=by
    have:=ssg M (AQ _)
    rw[Gv,hss]at this
    simpa using this
  have ham:s.am.testBit i=false:=by
    cases hb:s.am.testBit i with
    | false=>rfl
    | true=>have:=amlt i hb;omega
  have hval:∀k,k<i->Ot vals i v k=vals k:=fun k hk=>IS _ _ (by omega)
  have henv:∀k,k<i+1->Ot envs (i+1) (CS s.e o.dst v) k=envs k:=fun k hk=>IS _ _ (by omega)
  have hH:∀m,m<=M->Ot Hh (M+1) (EO n0 n (DK p.anc s.am) h++Z'.bl) m=Hh m:=fun m hm=>IS _ _ (by omega)
  have hnx:∀m,m<=M->Ot nx (M+1) Z'.next m=nx m:=fun m hm=>IS _ _ (by omega)
  have hks:∀r,r<M->Ot ks M i r=ks r:=fun r hr=>IS _ _ (by omega)
  refine⟨{ vals:=Ot vals i v,envs:=Ot envs (i+1) (CS s.e o.dst v),Hh:=Ot Hh (M+1) (EO n0 n (DK p.anc s.am) h++Z'.bl),nx:=Ot nx (M+1) Z'.next,ks:=Ot ks M i,M:=M+1,
            ssl:=by simp[ssl],ssg:=?_,ksl:=by simp[ksl],ksg:=?_,ke:=(CL _ _ _).symm,ez:=by rw[henv 0 (by omega)];exact ez,es:=?_,nx0:=by rw[hnx 0 (by omega)];exact nx0,
            nxs:=(CL _ _ _).symm,hz:=fun id hid=>by rw[hH 0 (by omega)];exact hz id hid,ops:=?_,amlt:=fun k hk=>SQ (amlt k hk),kst:=?_,kinc:=?_ }⟩
  · intro m hm
    by_cases he:m=M+1
    · subst he;rw[Gv,CL];rfl
    · rw[hH m (by omega),show M+1-m=(M-m)+1 by omega,Bz]
      exact ssg m (by omega)
  · intro r hr
    by_cases he:r=M
    · subst he;rw[CL,show r+1-1-r=0 by omega];rfl
    · rw[hks r (by omega),show M+1-1-r=(M-1-r)+1 by omega,Bz]
      exact ksg r (by omega)
  · intro k hk o' ho'
    by_cases he:k=i
    · subst he
      rw[ho]at ho';cases ho'
      rw[CL,CL,henv k (by omega),ke]
    · rw[henv k (by omega),hval k (by omega),henv (k+1) (by omega)]
      exact es k (by omega) o' ho'
  · intro k hk o' p' ho' hp'
    by_cases he:k=i
    · subst he
      rw[ho]at ho';cases ho'
      rw[hp]at hp';cases hp'
      rw[henv k (by omega),<-ke,CL]
      exact .inr ⟨hw,.inr (.inr (.inr ⟨hc,ham,M,by omega,CL _ _ _⟩))⟩
    · rw[henv k (by omega),hval k (by omega)]
      have hnk:(∀r,r<M->ks r≠k)->∀r,r<M+1->Ot ks M i r≠k:=fun hh r hr=>by
        by_cases hrm:r=M
        · subst hrm;rw[CL];omega
        · rw[hks r (by omega)];exact hh r (by omega)
      rcases ops k (by omega) o' p' ho' hp' with ⟨h1,h2,h3,h4⟩|⟨h1,⟨h2,h3,h4,h5⟩|⟨h2,h3,h4,h5⟩|⟨h2,h3,h4,b',h5,h6⟩|⟨h2,h3,r,h4,h5⟩⟩
      · exact .inl ⟨h1,h2,h3,hnk h4⟩
      · exact .inr ⟨h1,.inl ⟨h2,h3,h4,hnk h5⟩⟩
      · exact .inr ⟨h1,.inr (.inl ⟨h2,h3,h4,hnk h5⟩)⟩
      · refine .inr ⟨h1,.inr (.inr (.inl ⟨h2,h3,hnk h4,b',h5,fun m hm hr=>?_⟩))⟩
        by_cases hmm:m=M+1
        · subst hmm
          rw[CL,MZ,Ni,hhead]
          have hanc:p.anc.testBit k=false:=by
            have:=hr M (by omega)
            rw[CL,IG hp]at this
            exact this
          have hv:DK p.anc s.am (n0+k-n0)=false:=by
            rw[show n0+k-n0=k by omega];unfold DK;rw[hanc];rfl
          rw[if_pos ⟨by omega,by omega,hv⟩]
          have:=h6 M (AQ _) (fun r hrM=>by have:=hr r (by omega);rw[hks r hrM]at this;exact this)
          rw[this]
        · rw[hH m (by omega)]
          exact h6 m (by omega) (fun r hrm=>by have:=hr r hrm;rw[hks r (by omega)]at this;exact this)
      · exact .inr ⟨h1,.inr (.inr (.inr ⟨h2,h3,r,by omega,by rw[hks r h4];exact h5⟩))⟩
  · intro r hr
    by_cases he:r=M
    · subst he
      rw[CL]
      refine⟨by omega,o,p,Z',ho,hp,hc,?_,?_,?_,?_⟩
      · rw[henv i (by omega),<-ke];exact hw
      · rw[henv i (by omega),<-ke,CL,hnx r (by omega),hH r (by omega),<-hhead,<-nxs];exact hd
      · rw[CL,hH r (by omega),hhead]
      · rw[CL]
    · obtain⟨h1,o',p',Z2,h2,h3,h4,h5,h6,h7,h8⟩:=kst r (by omega)
      rw[hks r (by omega)]
      refine⟨by omega,o',p',Z2,h2,h3,h4,?_,?_,?_,?_⟩
      · rw[henv _ (by omega)];exact h5
      · rw[henv _ (by omega),hval _ h1,hnx r (by omega),hH r (by omega)];exact h6
      · rw[hH (r+1) (by omega),hH r (by omega)];exact h7
      · rw[hnx (r+1) (by omega)];exact h8
  · intro r r' hrr hr'
    by_cases he:r'=M
    · subst he
      rw[CL,hks r (by omega)]
      exact(kst r (by omega)).1
    · rw[hks r' (by omega),hks r (by omega)]
      exact kinc r r' hrr (by omega)
theorem PU {ops':Array Oper} {l:List BC} {pl:List DP} (F:P0 ops' l pl) {n0 n:Nat} (hn:n=ops'.size) {e0:Bk} {h0:EB} :
  ∀(rest:List BC) (prest:List DP) (i:Nat) (s s':DS),l.drop i=rest->pl.drop i=prest->Nonempty (Tr E D l pl n0 n e0 h0 i s)->CA E D n0 n i rest prest s=some s' ->
   Nonempty (Tr E D l pl n0 n e0 h0 (i+rest.length) s')
 | [],prest,i,s,s',hl,hp,hT,h=>by
  cases prest<;>(simp only[CA,AL.injEq]at h;subst h;exact hT)
 | o::rest,[],i,s,s',hl,hp,hT,h=>by simp only[CA]at h;cases h
 | o::rest,p::prest,i,s,s',hl,hp,hT,h=>by
  have ho:l[i]? = some o:=by
   have:=congrArg (·[0]?) hl
   simpa[C5]using this
  have hpp:pl[i]? = some p:=by
   have:=congrArg (·[0]?) hp
   simpa[C5]using this
  have hl':l.drop (i+1)=rest:=by rw[<-wK,hl];rfl
  have hp':pl.drop (i+1)=prest:=by rw[<-wK,hp];rfl
  simp only[CA]at h
  cases hs:Db E D n0 n i o p s with
  | none=>rw[hs]at h;cases h
  | some s1=>
   rw[hs]at h
   obtain⟨T⟩:=hT
   have hT1:Nonempty (Tr E D l pl n0 n e0 h0 (i+1) s1):=by
    unfold Db at hs
    split at hs
    ·cases hs
    ·rename_i hw;cases hs
     exact T.quiet ho hpp DV s.ls (fun _ h=>h) (.inl ⟨hw,rfl⟩)
    ·rename_i hw
     split at hs
     ·rename_i hc
      split at hs
      ·cases hs
      ·rename_i v hv;cases hs
       exact T.quiet ho hpp v s.ls (fun _ h=>h) (.inr ⟨hw,.inl ⟨hc,hv⟩⟩)
     ·rename_i hc
      split at hs
      ·cases hs
      ·split at hs
       ·cases hs
       ·rename_i v hv;cases hs
        exact T.quiet ho hpp v _ (fun _ h=>CE _ h) (.inr ⟨hw,.inr ⟨hc,Aq⟩⟩)
     ·rename_i hc
      split at hs
      ·cases hs
      ·rename_i v b hv;cases hs
       exact T.make F hn ho hpp v b hw hc hv
     ·rename_i hc
      split at hs
      ·cases hs
      ·rename_i hh hss
       split at hs
       ·cases hs
       ·rename_i v Z' hv;cases hs
        exact T.writes F hn ho hpp v Z' hss hw hc hv
   have:=PU F hn rest prest (i+1) s1 s' hl' hp' hT1 h
   rwa [show i+(o::rest).length=i+1+rest.length by simp;omega]
end Go.Og
namespace Go.Og
variable {P:Program} {G:Nat->Bool} {E:EB} {D:Al} {C:Cx}
theorem PX {n0 n:Nat} {pl:List DP} {am j:Nat} {op:Dx} {em:Bk} {v:V}:∀(ss:List (EB)) (ks more:List Nat),Ej E n0 n pl am j op em v ss ks more=true->ss.length=ks.length+1 ->
  ∀(q:Nat) (h:EB),ss[q]? = some h->Nj pl j (ks.drop q) ((ks.take q).reverse++more)=true->CO E op em ⟨0,Cf n0 n (DK (GN pl j) am) h⟩=some v
 | [],ks,more,_,hl,q,h,hq,_=>by simp at hq
 | h'::ss,ks,more,hc,hl,0,h,hq,hleg=>by
  simp only[Ok,AL.injEq]at hq
  subst hq
  simp only[Cl,wG,List.reverse_nil,Dy]at hleg
  simp only[Ej,hleg,Mw,FX,AF]at hc
  have:=hc.1
  unfold GN
  split at this
  ·rename_i u hu
   rw[hu,L9 _ _ this]
  ·cases this
 | h'::ss,[],more,hc,hl,q+1,h,hq,hleg=>by
  simp at hl
  subst hl
  simp at hq
 | h'::ss,k::ks,more,hc,hl,q+1,h,hq,hleg=>by
  simp only[Ej,AF]at hc
  refine PX ss ks (k::more) hc.2 (by simpa using hl) q h (by simpa using hq) ?_
  simp only[List.drop_succ_cons,List.take_succ_cons,List.reverse_cons,SU,List.singleton_append]at hleg
  exact hleg
theorem DE {listed:Array Bool} {k n:Nat} (hs:listed.size=n) (hk:k<n):listed.getD k true=listed.getD k false:=by
 have h:k<listed.size:=by omega
 simp[Array.getD,h]
theorem H5 {listed:Array Bool} {i k:Nat} (hi:i<listed.size):(listed.setIfInBounds i true).getD k false=(decide (k=i) || listed.getD k false):=by
 simp only[Dl,Aw]
 by_cases h:i=k
 ·subst h;simp[hi]
 ·rw[if_neg h];simp[Ne.symm h]
theorem US {p q:Nat->Bool} (h:∀k,p k=true->q k=true) {i:Nat} (hq:q i=true) (hp:p i=false):∀(l:List Nat),i∈l->l.countP p<l.countP q
 | [],hm=>by cases hm
 | x::l,hm=>by
  have hmono:∀l:List Nat,l.countP p<=l.countP q:=fun l=>List.countP_mono_left fun x _ hx=>h x hx
  rcases AS.1 hm with rfl|hm
  ·rw[Hx hq,Ol (by simp[hp])]
   have:=hmono l;omega
  ·have ih:=US h hq hp l hm
   by_cases hx:p x=true
   ·rw[Hx hx,Hx (h x hx)];omega
   ·rw[Ol hx]
    by_cases hqx:q x=true
    ·rw[Hx hqx];omega
    ·rw[Ol hqx];exact ih
set_option maxHeartbeats 1000000 in
theorem TK (hD:∀f,CB P E G f (D f)) (hmix:P.follows .mixedOrders=true):OF P E G (AZ E D):=by
  intro C hE hG nt id ops e0 Z0 e' Z' hplan hW R0 a0 w00 Q hrel0 he0 hnt0 hd0 hQ
  subst hE hG
  generalize hl:ops.toList.map (Az P C.G nt ops)=l at hplan hW
  generalize hpl:Fj ops=pl at hplan hW
  have hlen:l.length=ops.size:=by rw[<-hl];simp
  have F:=PI hlen hplan
  unfold AZ at hW
  have hn:l.length=ops.size:=hlen
  generalize hnn:l.length=n at hW
  have hnops:n=ops.size:=by omega
  cases hds:CA C.E D Z0.next n 0 l pl ⟨e0,Z0.next+n,[Z0.bl],[],0,[]⟩with
  | none=>rw[hds]at hW;cases hW
  | some s=>
    rw[hds]at hW
    simp only at hW
    split at hW
    case isFalse=>cases hW
    rename_i hchk
    obtain⟨T⟩:=PU F hnops l pl 0 _ s rfl rfl (Tr.start C.E D l pl Z0.next n e0 Z0.bl) hds
    rw[Bp,hnn]at T
    obtain⟨vals,envs,Hh,nx,ks,M,ssl,ssg,ksl,ksg,ke,ez,es,nx0,nxs,hz,hops,amlt,kst,kinc⟩:=T
    have hans:e'=envs n/\Z'=⟨nx M,Cf Z0.next n (fun k=>s.am.testBit k) (Hh M)⟩:=by
      have hh:=ssg M (AQ _)
      rw[Gv]at hh
      split at hW
      · rename_i h ss' hss
        rw[hss]at hh
        simp only[Ok,AL.injEq]at hh
        cases hW
        exact⟨ke,by rw[nxs,hh]⟩
      · cases hW
    obtain⟨rfl,rfl⟩:=hans
    clear hW hds
    have some3:∀i,i<n->∃o p,ops[i]? = some o/\l[i]? = some (Az P C.G nt ops o)/\pl[i]? = some p:=fun i hi=>by
      have h1:i<ops.size:=by omega
      refine⟨ops[i],pl[i]'(by have:=F.len;omega),B3 h1,?_,A6 _⟩
      rw[<-hl,Bh,Cq,B3 h1];rfl
    have hdlt:∀(i:Nat) (o:Oper) (t:Nat),i<n->ops[i]? = some o->o.dst=some t->t<nt:=by
      intro i o t hin ho ht
      obtain⟨o2,p,ho2,hlo,hp⟩:=some3 i hin
      rw[ho]at ho2;cases ho2
      cases hdo:Ff nt o.dst with
      | true=>rw[ht]at hdo;simpa[Ff]using hdo
      | false=>
        exfalso
        have hco:Az P C.G nt ops o=⟨o.dst,.bad,none⟩:=by
          unfold Az
          rw[hdo]
          split
          · rename_i h;cases h
          · rfl
        have:=hops i hin _ p hlo hp
        rw[hco]at this
        simp[BW,Dx.cls,BJ]at this
    have hload:∀j op em v,(j,op,em,v)∈s.ls->∀m,m<=M->(∀r,m<=r->r<M->(GN pl j).testBit (ks r)=false)->(∀r,r<m->(GN pl (ks r)).testBit j=false) ->
        CO C.E op em ⟨0,Cf Z0.next n (DK (GN pl j) s.am) (Hh m)⟩=some v:=by
      intro j op em v hmem m hm h1 h2
      have hc:=CP.1 hchk _ hmem
      refine PX s.ss s.ks [] hc (by omega) (M-m) (Hh m) (ssg m hm) ?_
      unfold Nj
      simp only[C6,AF,CP,CR,List.mem_reverse]
      constructor
      · intro x hx
        obtain⟨q,hq⟩:=List.mem_iff_getElem?.1 hx
        rw[wJ]at hq
        split at hq
        · rename_i hqm
          have:=ksg (M-1-q) (by omega)
          rw[show M-1-(M-1-q)=q by omega,hq]at this
          cases this
          exact h1 _ (by omega) (by omega)
        · cases hq
      · intro x hx
        obtain⟨q,hq⟩:=List.mem_iff_getElem?.1 hx
        rw[C5]at hq
        have hql:M-m+q<s.ks.length:=by
          rcases Ax (M-m+q) s.ks.length with h|h
          · exact h
          · rw[BH h]at hq;cases hq
        have:=ksg (M-1-(M-m+q)) (by omega)
        rw[show M-1-(M-1-(M-m+q))=M-m+q by omega,hq]at this
        cases this
        exact h2 _ (by omega)
    let Lf:Array Bool->Nat->Bool:=fun listed k=>listed.getD k false
    let vis:Array Bool->Nat->Bool:=fun listed k=>listed.getD k false&&s.am.testBit k
    let Inv:Array Bool->Act->World->Prop:=fun listed a w=>
      listed.size=n/\(∀i o,listed.getD i false=true->ops[i]? = some o->∀ed∈o.after,Region.binds .any ed=true->listed.getD ed.on false=true)/\a.defers=[] /\
      ∃R m,m<=M/\(∀r,r<M->(listed.getD (ks r) false=true↔r<m))/\GQ Z0.next R0 R/\Z0.next+n<=nx m/\DO C R ⟨nx m,Cf Z0.next n (vis listed) (Hh m)⟩ w /\
        (∀k,k<n->listed.getD k false=false->R (Z0.next+k)=none)/\nt<=a.tmps.size /\
        (∀i o t,listed.getD i false=true->ops[i]? = some o->o.dst=some t->t<a.tmps.size->vals i = .dead\/∃x,a.tmps[t]? = some x/\Am R (vals i)=some x) /\
        (∀t v,look e0 t=some v->(∀i o,listed.getD i false=true->ops[i]? = some o->o.dst≠some t)->v = .dead\/∃x,a.tmps[t]? = some x/\Am R v=some x)
    have hanc:∀(listed:Array Bool),(∀i o,listed.getD i false=true->ops[i]? = some o->∀ed∈o.after,Region.binds .any ed=true->listed.getD ed.on false=true) ->
        ∀(i:Nat) (o:Oper) (p:DP),ops[i]? = some o->pl[i]? = some p->(∀ed∈o.after,Region.binds .any ed=true->listed.getD ed.on false=true)->∀(k:Nat),k<n->p.anc.testBit k=true->listed.getD k false=true:=by
      intro listed hcl i
      induction i using NJ with
      | _ i ih=>
        intro o p ho hp hed k hk hb
        obtain⟨ed,hem,hbe,hr⟩:=F.anc i o p ho hp k (by omega) hb
        have hlt:=F.edges i o ho ed hem hbe
        have hli:=hed ed hem hbe
        rcases hr with rfl|hr
        · exact hli
        · have hin:i<n:=by
            rcases Ax i ops.size with h|h
            · omega
            · rw[Br h]at ho;cases ho
          obtain⟨o2,p2,h1,_,h3⟩:=some3 ed.on (by omega)
          exact ih ed.on hlt o2 p2 h1 h3 (fun ed2 hm2 hb2=>hcl ed.on o2 hli h1 ed2 hm2 hb2) k hk (by rw[<-IG h3];exact hr)
    have hready_nil:∀listed:Array Bool,listed.size=n->Region.ready .any ops listed=[]->∀k,k<n->listed.getD k false=true:=by
      intro listed hsz hr k
      induction k using NJ with
      | _ k ih=>
        intro hk
        cases hb:listed.getD k false with
        | true=>rfl
        | false=>
          exfalso
          obtain⟨o,p,h1,_,_⟩:=some3 k hk
          have:k∈Region.ready .any ops listed:=mem_ready.2 ⟨by rw[DE hsz hk];exact hb,o,h1,fun ed hm hbd=>ih ed.on (F.edges k o h1 ed hm hbd) (by have:=F.edges k o h1 ed hm hbd;omega)⟩
          rw[hr]at this;cases this
    have henv:∀(listed:Array Bool) (a:Act) (R:Ren),
        (∀i o,listed.getD i false=true->ops[i]? = some o->∀ed∈o.after,Region.binds .any ed=true->listed.getD ed.on false=true) ->
        nt<=a.tmps.size ->
        (∀i o t,listed.getD i false=true->ops[i]? = some o->o.dst=some t->t<a.tmps.size->vals i = .dead\/∃x,a.tmps[t]? = some x/\Am R (vals i)=some x) ->
        (∀t v,look e0 t=some v->(∀i o,listed.getD i false=true->ops[i]? = some o->o.dst≠some t)->v = .dead\/∃x,a.tmps[t]? = some x/\Am R v=some x) ->
        ∀(j:Nat) (o:Oper) (p:DP),j<=n->(j=n->∀k,k<n->listed.getD k false=true) ->
          (j<n->ops[j]? = some o/\pl[j]? = some p/\listed.getD j false=false/\(∀ed∈o.after,Region.binds .any ed=true->listed.getD ed.on false=true)) ->
          ∀(t:Nat) (v:V),look (envs j) t=some v->(j<n->BX p.looks t=true)->v = .dead\/∃x,a.tmps[t]? = some x/\Am R v=some x:=by
      intro listed a R hcl hsz hw hu j o p hj hall hrd
      have hshape:∀j,j<=n->∀t v,look (envs j) t=some v ->
          (∃k o',k<j/\ops[k]? = some o'/\o'.dst=some t/\v=vals k)\/(look e0 t=some v/\∀k o',k<j->ops[k]? = some o'->o'.dst≠some t):=by
        intro j
        induction j with
        | zero=>intro _;rw[ez];exact fun t v hv => .inr ⟨hv,fun k o' hk=>by omega⟩
        | succ j ih=>
          intro hj
          have h2:=ih (by omega)
          obtain⟨oj,pj,ho1,hl1,_⟩:=some3 j (by omega)
          have hes:=es j (by omega) _ hl1
          have hdst:(Az P C.G nt ops oj).dst=oj.dst:=by unfold Az;split<;>rfl
          rw[hdst]at hes
          rw[hes]
          intro t v hv
          cases hd:oj.dst with
          | none=>
            rw[hd]at hv
            simp only[CS]at hv
            rcases h2 t v hv with ⟨k,o',hk,hk2,hk3,hk4⟩|⟨hk,hk2⟩
            · exact .inl ⟨k,o',by omega,hk2,hk3,hk4⟩
            · refine .inr ⟨hk,fun k o' hkj hko=>?_⟩
              by_cases he:k=j
              · subst he;rw[ho1]at hko;cases hko;rw[hd];simp
              · exact hk2 k o' (by omega) hko
          | some d=>
            rw[hd]at hv
            simp only[CS,look]at hv
            by_cases hdt:d=t
            · subst hdt
              rw[if_pos (by simp)]at hv
              cases hv
              exact .inl ⟨j,oj,by omega,ho1,hd,rfl⟩
            · rw[if_neg (by simpa using hdt)]at hv
              rcases h2 t v hv with ⟨k,o',hk,hk2,hk3,hk4⟩|⟨hk,hk2⟩
              · exact .inl ⟨k,o',by omega,hk2,hk3,hk4⟩
              · refine .inr ⟨hk,fun k o' hkj hko=>?_⟩
                by_cases he:k=j
                · subst he;rw[ho1]at hko;cases hko;rw[hd];simpa using hdt
                · exact hk2 k o' (by omega) hko
      have hsh:=hshape j hj
      intro t v hv hlook
      rcases hsh t v hv with ⟨k,ok,hk,hk2,hk3,rfl⟩|⟨hk,hk2⟩
      ·
        refine hw k ok t ?_ hk2 hk3 (GA (hdlt k ok t (by omega) hk2 hk3) hsz)
        by_cases hjn:j<n
        · obtain⟨ho,hp,_,hed⟩:=hrd hjn
          obtain⟨o3,p3,h1,_,h3⟩:=some3 k (by omega)
          rw[hk2]at h1;cases h1
          have hd:=(F.dsts k j ok o p3 p (by omega) hk2 ho h3 hp t hk3).2 (hlook hjn)
          rcases hd with hd|hd
          · exact hanc listed hcl j o p ho hp hed k (by omega) hd
          · have:=F.ancLt k p3 h3 j (by omega) hd;omega
        · exact hall (by omega) k (by omega)
      ·
        refine hu t v hk (fun i oi hli hoi hdst=>?_)
        have hin:i<n:=by
          rcases Ax i ops.size with h|h
          · omega
          · rw[Br h]at hoi;cases hoi
        by_cases hij:i<j
        · exact hk2 i oi hij hoi hdst
        · have hjn:j<n:=by omega
          obtain⟨ho,hp,hnl,_⟩:=hrd hjn
          by_cases hie:i=j
          · subst hie;rw[hnl]at hli;cases hli
          · obtain⟨o3,p3,h1,_,h3⟩:=some3 i hin
            rw[hoi]at h1;cases h1
            have hd:=(F.dsts i j oi o p3 p hie hoi ho h3 hp t hdst).2 (hlook hjn)
            rcases hd with hd|hd
            · have:=F.ancLt j p hp i (by omega) hd;omega
            · have:=hanc listed hcl i oi p3 hoi h3 (fun ed hm hb=>hcl i oi hli hoi ed hm hb) j hjn hd
              rw[hnl]at this;cases this
    have hput:∀(a:Act) (d:Option Nat) (x:Value) (t:Nat),d≠some t->(a.put d x).tmps[t]? = a.tmps[t]? := by
      intro a d x t hne
      cases d with
      | none=>rfl
      | some d=>
        simp only[Act.put,Aw]
        rw[if_neg (fun h=>hne (by rw[h]))]
    have hputsz:∀(a:Act) (d:Option Nat) (x:Value),(a.put d x).tmps.size=a.tmps.size:=by
      intro a d x;cases d<;>simp[Act.put]
    have hfin:∀listed a w,Inv listed a w->(∀k,k<n->listed.getD k false=true)->Q .normal a w:=by
      intro listed a w hI hall
      obtain⟨hsz,hcl,hd,R,m,hm,hpre,hx,hnxm,hrel,hres,htsz,hwc,huc⟩:=hI
      have hmM:m=M:=by
        rcases Ax m M with h|h
        · have:=(hpre m h).1 (hall _ (by have:=(kst m h).1;omega));omega
        · omega
      subst hmM
      refine hQ R a w hx (by show Z0.next<=nx m;omega) ?_ ?_ htsz hd
      · refine hrel.congr (fun id hid=>hrel.fresh id hid) (fun k b hk=>?_)
        rw[Dh]at hk ⊢
        by_cases hc:Z0.next<=k/\k<Z0.next+n/\s.am.testBit (k-Z0.next)=false
        · rw[if_pos hc]at hk;cases hk
        · rw[if_neg hc]at hk
          rw[if_neg (fun h=>hc ⟨h.1,h.2.1,by have:=h.2.2;simp only[vis,hall (k-Z0.next) (by omega),FW]at this;exact this⟩)]
          exact hk
      · refine⟨fun t v hv=>?_⟩
        exact henv listed a R hcl htsz hwc huc n default default (AQ _) (fun _=>hall) (fun h=>by omega) t v hv (fun h=>by omega)
    have hstep:∀listed a w,Inv listed a w->∀i,i∈Region.ready .any ops listed->∀K:Act->World->Prop,(∀a' w',Inv (listed.setIfInBounds i true) a' w'->K a' w')->wpOp P ops Q i K a w:=by
      intro listed a w hI i hi K hK
      obtain⟨hsz,hcl,hd,R,m,hm,hpre,hx,hnxm,hrel,hres,htsz,hwc,huc⟩:=hI
      obtain⟨hli,o,ho,hed⟩:=mem_ready.1 hi
      have hin:i<n:=by
        rcases Ax i ops.size with h|h
        · omega
        · rw[Br h]at ho;cases ho
      have hnl:listed.getD i false=false:=by rw[<-DE hsz hin];exact hli
      obtain⟨o2,p,ho2,hlo,hp⟩:=some3 i hin
      rw[ho]at ho2;cases ho2
      have hsz':i<listed.size:=by omega
      have hLs:∀k,(listed.setIfInBounds i true).getD k false=(decide (k=i) || listed.getD k false):=fun k=>H5 hsz'
      have hancl:∀k,k<n->p.anc.testBit k=true->listed.getD k false=true:=hanc listed hcl i o p ho hp hed
      have hgl:=hrel.globOk
      have hle0:∀{R'},GQ (nx m) R R'->Le R R':=fun h=>h.le hrel.fresh
      have hem:Bf R (restr p.looks (envs i)) a.tmps:=by
        refine⟨fun t v hv=>?_⟩
        obtain⟨ht,hmem⟩:=Fo _ _ _ _ hv
        exact henv listed a R hcl htsz hwc huc i o p (by omega) (fun h=>by omega) (fun _=>⟨ho,hp,hnl,hed⟩) t v ht (fun _=>hmem)
      have mk:∀(R':Ren) (m':Nat) (w':World) (x:Value),m'<=M->(∀r,r<M->((listed.setIfInBounds i true).getD (ks r) false=true↔r<m'))->GQ Z0.next R0 R'->Z0.next+n<=nx m' ->
          DO C R' ⟨nx m',Cf Z0.next n (vis (listed.setIfInBounds i true)) (Hh m')⟩ w'->(∀k,k<n->(listed.setIfInBounds i true).getD k false=false->R' (Z0.next+k)=none)->Le R R' ->
          (vals i = .dead\/Am R' (vals i)=some x)->K (a.put o.dst x) w':=by
        intro R' m' w' x h1 h2 h3 h4 h5 h6 h7 h8
        refine hK _ _ ⟨by rw[DY];exact hsz,?_,by rw[D6];exact hd,R',m',h1,h2,h3,h4,h5,h6,by rw[hputsz];exact htsz,?_,?_⟩
        · intro i' o' hi' ho' ed hm' hb'
          rw[hLs]at hi' ⊢
          simp only[BE,decide_eq_true_eq]at hi' ⊢
          rcases hi' with rfl|hi'
          · rw[ho]at ho';cases ho'
            exact .inr (hed ed hm' hb')
          · exact .inr (hcl i' o' hi' ho' ed hm' hb')
        · intro i' o' t hi' ho' hdt htl
          rw[hputsz]at htl
          rw[hLs]at hi'
          simp only[BE,decide_eq_true_eq]at hi'
          by_cases he:i'=i
          · subst he
            rw[ho]at ho';cases ho'
            rcases h8 with h8|h8
            · exact .inl h8
            · refine .inr ⟨x,?_,h8⟩
              rw[hdt]
              simp[Act.put,Aw,htl]
          · have hi'':=hi'.resolve_left he
            have hi'n:i'<n:=by
              rcases Ax i' ops.size with h|h
              · omega
              · rw[Br h]at ho';cases ho'
            obtain⟨o3,p3,h1',_,h3'⟩:=some3 i' hi'n
            rw[ho']at h1';cases h1'
            rw[hput a o.dst x t ((F.dsts i' i o' o p3 p he ho' ho h3' hp t hdt).1)]
            rcases hwc i' o' t hi'' ho' hdt htl with h|⟨y,hy,hc⟩
            · exact .inl h
            · exact .inr ⟨y,hy,CV h7 _ _ hc⟩
        · intro t v hv hno
          have hot:o.dst≠some t:=hno i o (by rw[hLs];simp) ho
          rw[hput a o.dst x t hot]
          rcases huc t v hv (fun i' o' hi' ho'=>hno i' o' (by rw[hLs,hi'];simp) ho')with h|⟨y,hy,hc⟩
          · exact .inl h
          · exact .inr ⟨y,hy,CV h7 _ _ hc⟩
      have hsame:s.am.testBit i=false->DO C R ⟨nx m,Cf Z0.next n (vis (listed.setIfInBounds i true)) (Hh m)⟩ w:=by
        intro ham
        rw[I9 (q:=vis listed) (fun k hk=>by
          simp only[vis]
          rw[hLs]
          by_cases he:k=i
          · subst he;simp[ham]
          · simp[he])]
        exact hrel
      have hpre1:(∀r,r<M->ks r≠i)->∀r,r<M->((listed.setIfInBounds i true).getD (ks r) false=true↔r<m):=by
        intro hne r hr
        rw[hLs]
        simp only[hne r hr,decide_false,FX]
        exact hpre r hr
      have hres1:∀k,k<n->(listed.setIfInBounds i true).getD k false=false->R (Z0.next+k)=none:=by
        intro k hk hkl
        rw[hLs]at hkl
        simp only[BP]at hkl
        exact hres k hk hkl.2
      have hkbefore:∀r,r<m->(GN pl (ks r)).testBit i=false:=by
        intro r hr
        cases hb:(GN pl (ks r)).testBit i with
        | false=>rfl
        | true=>
          exfalso
          obtain⟨hkn,_⟩:=kst r (by omega)
          obtain⟨o3,p3,h1',_,h3'⟩:=some3 (ks r) hkn
          have hlr:=(hpre r (by omega)).2 hr
          have:=hanc listed hcl (ks r) o3 p3 h1' h3' (fun ed hm hb=>hcl (ks r) o3 hlr h1' ed hm hb) i hin (by rw[<-IG h3'];exact hb)
          rw[hnl]at this;cases this
      unfold wpOp
      rw[ho]
      simp only
      have hco:Az P C.G nt ops o=⟨o.dst,.bad,none⟩\/∃g,N4 ops o.guard=some g/\Az P C.G nt ops o=⟨o.dst,Ad P C.G o.op,g⟩:=by
        unfold Az
        split
        · rename_i g hg _;exact .inr ⟨g,hg,rfl⟩
        · exact .inl rfl
      rcases hco with hco|⟨g,hcg,hco⟩
      · exfalso
        have:=hops i hin _ p hlo hp
        rw[hco]at this
        simp[BW,Dx.cls,BJ]at this
      · have hF:=hops i hin _ p hlo hp
        rw[hco]at hF
        simp only at hF
        rcases hF with ⟨hw,hv,ham,hne⟩|⟨hw,⟨hc,hv,ham,hne⟩|⟨hc,hmem,ham,hne⟩|⟨hc,ham,hne,b,hv,hb⟩|⟨hc,ham,r,hr,hkr⟩⟩
        · rw[if_neg (by rw[C0 hem hcg hw];simp)]
          exact mk R m w undef hm (hpre1 hne) hx hnxm (hsame ham) hres1 (Le.refl _) (.inr (by rw[hv];rfl))
        · rw[if_pos (C0 hem hcg hw)]
          left
          obtain⟨x,hxv,hrun⟩:=LY (a:=a) (P:=P) hem hgl o hv w
          unfold Oper.wp
          rw[hrun]
          exact mk R m w x hm (hpre1 hne) hx hnxm (hsame ham) hres1 (Le.refl _) (.inr hxv)
        · rw[if_pos (C0 hem hcg hw)]
          left
          have hl1:=hload i _ _ _ hmem m hm (fun r hr1 hr2=>by
            cases hbt:(GN pl i).testBit (ks r)with
            | false=>rfl
            | true=>
              exfalso
              have:=hancl (ks r) (kst r hr2).1 (by rw[<-IG hp];exact hbt)
              have:=(hpre r hr2).1 this
              omega) hkbefore
          have hl2:=Xx hrel (Zs:=⟨0,Cf Z0.next n (DK (GN pl i) s.am) (Hh m)⟩) (fun id b hid=>by
            simp only at hid ⊢
            rw[Dh]at hid ⊢
            by_cases hcnd:Z0.next<=id/\id<Z0.next+n/\DK (GN pl i) s.am (id-Z0.next)=false
            · rw[if_pos hcnd]at hid;cases hid
            · rw[if_neg hcnd]at hid
              rw[if_neg (fun hh=>hcnd ⟨hh.1,hh.2.1,by
                have h3:=hh.2.2
                unfold DK
                cases hbt:(GN pl i).testBit (id-Z0.next)with
                | false=>rfl
                | true=>
                  have:=hancl (id-Z0.next) (by omega) (by rw[<-IG hp];exact hbt)
                  simp only[vis,this,FW]at h3
                  rw[h3];rfl⟩)]
              exact hid) hl1
          obtain⟨x,hxv,hrun⟩:=LZ (P:=P) hrel hem o hl2
          unfold Oper.wp
          rw[hrun]
          exact mk R m w x hm (hpre1 hne) hx hnxm (hsame ham) hres1 (Le.refl _) (.inr hxv)
        · rw[if_pos (C0 hem hcg hw)]
          left
          have hRi:R (Z0.next+i)=none:=hres i hin hnl
          obtain⟨x,w',inf,hrun,hnew,hblk,hxv,hok⟩:=NI (a:=a) (P:=P) hem hgl o hv hRi w
          unfold Oper.wp
          rw[hrun]
          have hle:Le R (Hy R (Z0.next+i) inf):=fun k j hk=>by
            by_cases he:k=Z0.next+i
            · subst he;rw[hRi]at hk;cases hk
            · rw[Bb he];exact hk
          refine mk (Hy R (Z0.next+i) inf) m w' x hm (hpre1 hne) (hx.trans (fun id hid=>Bb (by omega)) (AQ Z0.next)) hnxm ?_ ?_ hle (.inr hxv)
          · refine hrel.allocAt hRi (by show Z0.next+i<nx m;omega) hnew b inf hblk hok rfl (fun k=>?_)
            simp only
            rw[Dh,Dh]
            by_cases he:k=Z0.next+i
            · subst he
              rw[if_pos rfl,if_neg (by
                intro h
                have h3:=h.2.2
                rw[show Z0.next+i-Z0.next=i by omega]at h3
                simp only[vis]at h3
                rw[hLs,ham]at h3
                simp at h3)]
              exact hb m hm hkbefore
            · rw[if_neg he]
              by_cases hrg:Z0.next<=k/\k<Z0.next+n
              · have:vis (listed.setIfInBounds i true) (k-Z0.next)=vis listed (k-Z0.next):=by
                  simp only[vis]
                  rw[hLs]
                  have:k-Z0.next≠i:=by omega
                  simp[this]
                rw[this]
              · rw[if_neg (fun h=>hrg ⟨h.1,h.2.1⟩),if_neg (fun h=>hrg ⟨h.1,h.2.1⟩)]
          · intro k hk hkl
            rw[hLs]at hkl
            simp only[BP,decide_eq_false_iff_not]at hkl
            rw[Bb (by omega)]
            exact hres k hk hkl.2
        · rw[if_pos (C0 hem hcg hw)]
          left
          have hrm:r=m:=by
            have h1:¬r<m:=fun h=>by
              have:=(hpre r hr).2 h
              rw[hkr,hnl]at this;cases this
            rcases Ax m r with h2|h2
            · exfalso
              obtain⟨hkn,o4,p4,Z4,hl4,hp4,hc4,_⟩:=kst m (by omega)
              have hlt:=kinc m r h2 hr
              rw[hkr]at hlt
              have:=F.kk (ks m) i o4 _ p hlt hl4 hlo hp hc4 (by rw[hco];exact hc)
              have:=hancl (ks m) hkn this
              have:=(hpre m (by omega)).1 this
              omega
            · omega
          subst hrm
          obtain⟨_,o4,p4,Z4,hl4,hp4,hc4,hw4,hden,hHn,hnxn⟩:=kst r hr
          rw[hkr]at hl4 hp4 hw4 hden
          rw[hlo]at hl4;cases hl4
          rw[hp]at hp4;cases hp4
          rw[hco]at hden
          simp only at hden
          have hsub:∀id b,look (Cf Z0.next n (DK p.anc s.am) (Hh r)) id=some b->look (Cf Z0.next n (vis listed) (Hh r)) id=some b:=by
            intro id b hid
            rw[Dh]at hid ⊢
            by_cases hcnd:Z0.next<=id/\id<Z0.next+n/\DK p.anc s.am (id-Z0.next)=false
            · rw[if_pos hcnd]at hid;cases hid
            · rw[if_neg hcnd]at hid
              rw[if_neg (fun hh=>hcnd ⟨hh.1,hh.2.1,by
                have h3:=hh.2.2
                unfold DK
                cases hbt:p.anc.testBit (id-Z0.next)with
                | false=>rfl
                | true=>
                  have:=hancl (id-Z0.next) (by omega) hbt
                  simp only[vis,this,FW]at h3
                  rw[h3];rfl⟩)]
              exact hid
          have hsmall:=hrel.shrink (Zs:=⟨nx r,Cf Z0.next n (DK p.anc s.am) (Hh r)⟩) rfl hsub
          refine NH hD (C:=C.sub R ⟨nx r,Cf Z0.next n (DK p.anc s.am) (Hh r)⟩ w) rfl rfl hsmall hem o hden K Q (fun R' w' x hx' hn' hrel' hv'=>?_)
          have hnle:nx r<=Z4.next:=hn'
          refine mk R' (r+1) w' x (by omega) ?_ (hx.trans hx' (show Z0.next<=nx r by omega)) (by rw[hnxn];omega) ?_ ?_ (hle0 hx') hv'
          · intro r' hr'
            rw[hLs]
            simp only[BE,decide_eq_true_eq]
            constructor
            · rintro(h | h)
              · rcases ADN r' r with h2 | h2 | h2
                · omega
                · omega
                · have:=kinc r r' h2 hr';omega
              · have:=(hpre r' hr').1 h;omega
            · intro h
              by_cases he:r'=r
              · subst he;exact .inl hkr
              · exact .inr ((hpre r' hr').2 (by omega))
          · refine hrel.regrow (Zs:=⟨nx r,Cf Z0.next n (DK p.anc s.am) (Hh r)⟩) hsub hrel' hx' hnxn (fun id b hid=>?_)
            simp only at hid ⊢
            rw[Dh]at hid
            split at hid
            · cases hid
            · rename_i hvis
              rw[hHn,MZ,Ni]at hid
              by_cases hcnd:Z0.next<=id/\id<Z0.next+n/\DK p.anc s.am (id-Z0.next)=false
              · rw[if_pos hcnd]at hid
                cases hlk:look (Hh r) id with
                | none=>rw[hlk]at hid;exact .inl hid
                | some b'=>
                  rw[hlk]at hid
                  cases hid
                  right
                  rw[Dh,Dh,if_pos hcnd]
                  refine⟨?_,rfl⟩
                  rw[if_neg (fun hh=>hvis ⟨hh.1,hh.2.1,by
                    have h3:=hh.2.2
                    simp only[vis]at h3 ⊢
                    rw[hLs]
                    by_cases he:id-Z0.next=i
                    · rw[he,ham];simp
                    · simp only[he,decide_false,FX];exact h3⟩)]
                  exact hlk
              · rw[if_neg hcnd]at hid
                exact .inl hid
          · intro k hk hkl
            rw[hx' (Z0.next+k) (by show Z0.next+k<nx r;omega)]
            exact hres1 k hk hkl
    have hany:∀fuel listed a w,Inv listed a w->(GB n).countP (fun k=>!listed.getD k false)<=fuel->wpAny P .any ops Q fuel listed a w:=by
      intro fuel
      induction fuel with
      | zero=>
        intro listed a w hI hcnt
        have hall:∀k,k<n->listed.getD k false=true:=by
          intro k hk
          have h0:(GB n).countP (fun k=>!listed.getD k false)=0:=by omega
          have:=List.countP_eq_zero.1 h0 k (wH.2 hk)
          simpa using this
        refine⟨?_,hfin listed a w hI hall⟩
        apply U1.2
        intro j hj
        obtain⟨h1,o,h2,_⟩:=mem_ready.1 hj
        have hjn:j<n:=by
          rcases Ax j ops.size with h|h
          · omega
          · rw[Br h]at h2;cases h2
        rw[DE hI.1 hjn,hall j hjn]at h1
        cases h1
      | succ fuel ih=>
        intro listed a w hI hcnt
        refine⟨fun hr=>hfin listed a w hI (hready_nil listed hI.1 hr),fun i hi=>?_⟩
        have hin:i<n:=by
          obtain⟨_,o,h2,_⟩:=mem_ready.1 hi
          rcases Ax i ops.size with h|h
          · omega
          · rw[Br h]at h2;cases h2
        have hnl:listed.getD i false=false:=by rw[<-DE hI.1 hin];exact(mem_ready.1 hi).1
        refine hstep listed a w hI i hi _ (fun a' w' hI'=>ih _ a' w' hI' ?_)
        have hsz':i<listed.size:=by rw[hI.1];exact hin
        have:=US (p:=fun k=>!(listed.setIfInBounds i true).getD k false) (q:=fun k=>!listed.getD k false) (fun k hk=>by
          simp only[CR]at hk ⊢
          rw[H5 hsz']at hk
          simp only[BP]at hk
          exact hk.2) (i:=i) (by simp only[hnl];rfl) (by simp only[H5 hsz'];simp) (GB n) (wH.2 hin)
        omega
    refine wp_region_any hmix ?_
    rw[<-hnops]
    have hrepl:∀k,(Gc n false).getD k false=false:=fun k=>by
      simp only[Dl,AHH]
      split<;>rfl
    refine hany n _ a0 _ ⟨by simp,?_,hd0,R0,0,Ke _,?_,GQ.refl _ _,by rw[nx0];exact AQ _,?_,?_,hnt0,?_,?_⟩ ?_
    · intro i o hi;rw[hrepl]at hi;cases hi
    · intro r hr;rw[hrepl];simp
    · refine(hrel0.drawn (w00.drawn+1)).congr (fun id hid=>hrel0.fresh id (by have h1:nx 0<=id:=hid;rw[nx0]at h1;omega)) (fun k b hk=>?_)
      simp only at hk
      rw[Dh]at hk
      split at hk
      · cases hk
      · rename_i hc
        have hnr:¬(Z0.next<=k/\k<Z0.next+n):=fun h=>hc ⟨h.1,h.2,by simp only[vis,hrepl,Bool.false_and]⟩
        rw[hz k hnr]at hk
        exact hk
    · intro k hk _;exact hrel0.fresh _ (by omega)
    · intro i o t hi;rw[hrepl]at hi;cases hi
    · intro t v hv _;exact he0.at_ t v hv
    · refine BO (List.countP_le_length) (by simp)
end Go.Og
namespace Go.Og
abbrev AG:=Option (V × H)
noncomputable section
def BB {α:Type} (l:List (Nat × α)) (id:Nat):Option α:=
 List.rec none (fun p _ r=>Bool.rec r (some p.2) (AK p.1 id)) l
def TJ {α:Type} (l:List (Nat × α)) (id:Nat):List (Nat × α):=
 List.rec [] (fun p l r=>Bool.rec (p::r) l (AK p.1 id)) l
def gm (l:List V):Nat->Option V:=
 List.rec (fun _=>none) (fun a _ ih n=>Nat.rec (some a) (fun m _=>ih m) n) l
def Nw (l:EB) (id:Nat):(EB->AG)->AG:=
 List.rec (fun k=>k []) (fun p _ ih k=>ih fun l'=>Bool.rec (k (p::l')) (k l') (AK p.1 id)) l
def AJ (c:Bool) (a b:AG):AG:=match c with
 | true=>a
 | false=>b
def Fx (c:Bool) (a:AG):AG:=match c with
 | true=>a
 | false=>none
def gK (x:Option V) (J:V->AG):AG:=match x with
 | some v=>J v
 | none=>none
def AV (x:AG) (J:V->H->AG):AG:=match x with
 | some (v,Z)=>J v Z
 | none=>none
def Ac (f:Bool->H->AG) (g:(Bool->H->AG)->AG):AG:=g f
def KB:IntKind->Nat
 | .i8=>127 | .i16=>32767 | .i32=>2147483647 | .i64=>9223372036854775807
 | .u8=>255 | .u16=>65535 | .u32=>4294967295 | .u64=>18446744073709551615
def xU:IntKind->Nat
 | .i8=>128 | .i16=>32768 | .i32=>2147483648 | .i64=>9223372036854775808
 | .u8=>0 | .u16=>0 | .u32=>0 | .u64=>0
def wQ (k:IntKind) (n:Int):Bool:=match n with
 | .ofNat m=>Ag m (KB k)
 | .negSucc m=>CJ m (xU k)
def As (k:IntKind) (n:Int):Int:=match wQ k n with
 | true=>n
 | false=>k.wrap n
def K9 (a b:Int):Int:=if b > a then b else a
def Cr (a b:Int):Bool:=match a,b with
 | .ofNat m,.ofNat n=>CJ m n
 | .negSucc m,.negSucc n=>CJ n m
 | .negSucc _,.ofNat _=>true
 | .ofNat _,.negSucc _=>false
def I7 (a b:Int):Bool:=match a,b with
 | .ofNat m,.ofNat n=>Ag m n
 | .negSucc m,.negSucc n=>Ag n m
 | .negSucc _,.ofNat _=>true
 | .ofNat _,.negSucc _=>false
def CM (k:IntKind) (a b:Int):Int:=As k (Int.add a b)
def D2 (k:IntKind) (a b:Int):Int:=As k (Int.sub a b)
def Hr (k:IntKind) (a b:Int):Int:=As k (Int.mul a b)
def xL (k:IntKind) (a b:Int):Int:=As k (Int.tdiv a b)
def Kt (k:IntKind) (a:Int) (n:Nat):Int:=As k (Int.mul a (AA (Nat.pow 2 (Dk n k.bits))))
def Ge (k:IntKind) (a:Int) (n:Nat):Int:=match a with
 | .ofNat m => .ofNat (Nat.div m (Nat.pow 2 (Dk n k.bits)))
 | .negSucc m=>Int.fdiv (.negSucc m) (2 ^ (Dk n k.bits))
def NT (k:IntKind) (a b:Int) (f:Nat->Nat->Nat) (g:Int):Int:=match a,b with
 | .ofNat m,.ofNat n=>match Ag m (KB k)&&Ag n (KB k)with
  | true => .ofNat (f m n)
  | false=>g
 | _,_=>g
def HI (k:IntKind) (a b:Int):Int:=NT k a b Nat.land (k.wrap (Ay k.bits a &&& Ay k.bits b).toNat)
def K0 (k:IntKind) (a b:Int):Int:=NT k a b Nat.lor (k.wrap (Ay k.bits a ||| Ay k.bits b).toNat)
def wk (k:IntKind) (a b:Int):Int:=NT k a b Nat.xor (k.wrap (Ay k.bits a ^^^ Ay k.bits b).toNat)
def Ia (k:IntKind) (a b:Int):Int:=k.wrap (Ay k.bits a &&& ~~~Ay k.bits b).toNat
def qT (k:IntKind) (a:Int):Int:=As k (Int.sub 0 a)
def ADp (k:IntKind) (a:Int):Int:=k.wrap (Ay k.bits (if k.signed then -1 else k.max) ^^^ Ay k.bits a).toNat
def Mz (b:Int) (J:Nat->AG):AG:=match b with
 | .ofNat n=>J n
 | .negSucc _=>none
def nzK (b:Int) (a:AG):AG:=match b with
 | .ofNat 0=>none
 | _=>a
def qh (op:BinOp) (k k':IntKind) (a b:Int) (J:V->AG):AG:=
 match op with
 | .shl=>Mz b fun n=>J (.int k (Kt k a n))
 | .shr=>Mz b fun n=>J (.int k (Ge k a n))
 | op=>if k=k' then
   match op with
   | .add=>J (.int k (CM k a b))
   | .sub=>J (.int k (D2 k a b))
   | .mul=>J (.int k (Hr k a b))
   | .quo=>nzK b (J (.int k (xL k a b)))
   | .rem=>nzK b (J (.int k (EW a b)))
   | .and=>J (.int k (HI k a b))
   | .or=>J (.int k (K0 k a b))
   | .xor=>J (.int k (wk k a b))
   | .andNot=>J (.int k (Ia k a b))
   | .eql=>J (.bool (B5 a b))
   | .neq=>J (.bool (not (B5 a b)))
   | .lss=>J (.bool (Cr a b))
   | .leq=>J (.bool (I7 a b))
   | .gtr=>J (.bool (Cr b a))
   | .geq=>J (.bool (I7 b a))
   | _=>none
  else none
def O7 (a b:BS) (J:BS->AG):AG:=match Ag (Ar a.len b.len) 1000000000000 with
 | true=>J (a.cat b)
 | false=>none
def ltS (a b:BS):Bool:=Op.bytesLess a.toList b.toList
def xE (op:BinOp) (a b:BS) (J:V->AG):AG:=
 match op with
 | .add=>O7 a b fun s=>J (.str s)
 | .eql=>J (.bool (a.beq b))
 | .neq=>J (.bool (not (a.beq b)))
 | .lss=>J (.bool (ltS a b))
 | .leq=>J (.bool (ltS a b || a.beq b))
 | .gtr=>J (.bool (not (ltS a b || a.beq b)))
 | .geq=>J (.bool (not (ltS a b)))
 | _=>none
def YA (t:Es) (x y:V) (J:Bool->AG):AG:=match JA t x y with
 | some b=>J b
 | none=>none
def eqX (op:BinOp) (t:Es) (x y:V) (J:V->AG):AG:=match op with
 | .eql=>YA t x y fun b=>J (.bool b)
 | .neq=>YA t x y fun b=>J (.bool (not b))
 | _=>none
def q9 (op:BinOp) (t:Es) (x y:V) (J:V->AG):AG:=
 match t with
 | .none=>match x,y with
  | .int k a,.int k' b=>qh op k k' a b J
  | .str a,.str b=>xE op a b J
  | _,_=>none
 | t=>eqX op t x y J
def unX (op:UnOp) (x:V) (J:V->AG):AG:=
 match op,x with
 | .neg,.int k n=>J (.int k (qT k n))
 | .xor,.int k n=>J (.int k (ADp k n))
 | .not,.bool b=>J (.bool (not b))
 | _,_=>none
inductive Co where
 | any | int (k:IntKind) | bool | str | ptr | one
 | agg (l:List Co)
 | tup (l:List Co)
 deriving Inhabited
def Aj (k:IntKind) (v:V) (J:Int->AG):AG:=match v with
 | .int k' n=>if k=k' then J n else none
 | _=>none
def Aa (v:V) (J:Bool->AG):AG:=match v with
 | .bool b=>J b
 | _=>none
def HR (v:V) (J:BS->AG):AG:=match v with
 | .str s=>J s
 | _=>none
def Bv (v:V) (J:Nat->Nat->AG):AG:=match v with
 | .ptr b o=>J b o
 | _=>none
def Ba (v:V) (J:List V->AG):AG:=match v with
 | .agg l=>J l
 | _=>none
def C1 (v:V) (J:List V->AG):AG:=match v with
 | .tup l=>J l
 | _=>none
def AB (l:List V) (J:V->List V->AG):AG:=match l with
 | v::l=>J v l
 | []=>none
def AT (l:List V) (a:AG):AG:=match l with
 | []=>a
 | _::_=>none
def BU (v:V) (a:AG):AG:=match v.one with
 | true=>a
 | false=>none
mutual
def rt:Co->V->(V->AG)->AG
 | .any,v,J=>J v
 | .int k,v,J=>Aj k v fun n=>J (.int k n)
 | .bool,v,J=>Aa v fun b=>J (.bool b)
 | .str,v,J=>HR v fun s=>J (.str s)
 | .ptr,v,J=>Bv v fun b o=>J (.ptr b o)
 | .one,v,J=>BU v (J v)
 | .agg ts,v,J=>Ba v fun l=>kg ts l fun l'=>J (.agg l')
 | .tup ts,v,J=>C1 v fun l=>kg ts l fun l'=>J (.tup l')
def kg:List Co->List V->(List V->AG)->AG
 | [],l,J=>AT l (J [])
 | t::ts,l,J=>AB l fun v l'=>rt t v fun v'=>kg ts l' fun l''=>J (v'::l'')
end
abbrev Qs:=List (Nat × (Nat × Nat))
abbrev Rg:=List (Nat × List V)
def B9 (e:Bk) (x:AO) (J:V->AG):AG:=match x with
 | .con v=>match v.live with
  | true=>J v
  | false=>none
 | .tmp t=>match look e t with
  | some v=>J v
  | none=>none
def LH (e:Bk):List AO->(List V->AG)->AG
 | [],J=>J []
 | x::l,J=>B9 e x fun v=>LH e l fun vs=>J (v::vs)
def LI (e:Bk) (x:Option AO) (J:Option V->AG):AG:=match x with
 | none=>J none
 | some x=>B9 e x fun v=>J (some v)
def Na (e:Bk):List (Nat × Nat × AO)->(List (Nat × Nat × V)->AG)->AG
 | [],J=>J []
 | (o,s,x)::l,J=>B9 e x fun v=>Na e l fun r=>J ((o,s,v)::r)
def Eo (q:Qs):AO->Option (Nat × Nat)
 | .tmp t=>look q t
 | .con _=>none
def Ru (o:Option V) (d:Nat) (J:Nat->AG):AG:=match o with
 | none=>J d
 | some v=>match v with
  | .int _ n=>Mz n J
  | _=>none
def Ek (s:BS) (lo hi:Option V) (J:BS->AG):AG:=
 Ru hi s.len fun h=>Ru lo 0 fun l=>Fx (Ag l h&&Ag h s.len) (J (s.sub l h))
def Cs (s:BS) (i:Int) (J:Int->AG):AG:=
 Mz i fun n=>Fx (CJ n s.len) (J (AA (s.get n)))
def A0 (v:V) (J:Nat->AG):AG:=match v with
 | .nils=>J 0
 | .sl _ _ n _=>J n
 | .sle _ _ _ _=>J 0
 | _=>none
def Ab (esz:Nat) (v:V) (i:Int) (J:Nat->Nat->AG):AG:=match v with
 | .sl b off len _=>Mz i fun n=>Fx (CJ n len) (J b (Ar off (Wh n esz)))
 | _=>none
def I2 (l:List V) (n:Nat) (J:V->AG):AG:=match gm l n with
 | some v=>J v
 | none=>none
def GR (l:List V) (off n:Nat) (J:List V->AG):AG:=match Ag (Ar off n) l.length with
 | true=>J ((l.drop off).take n)
 | false=>none
def Yb (E:EB) (Z:H) (b:Nat) (J:List V->AG):AG:=match BB Z.bl b with
 | some (.cells l)=>J l
 | some _=>none
 | none=>match BB E b with
  | some (.cells l)=>J l
  | _=>none
def BY (E:EB) (Z:H) (b off:Nat) (J:V->AG):AG:=Yb E Z b fun l=>I2 l off J
def BV (E:EB) (Z:H) (b off n:Nat) (J:List V->AG):AG:=Yb E Z b fun l=>GR l off n J
def B6 (Z:H) (b:Ea):H:=⟨Z.next+1,(Z.next,b)::Z.bl⟩
def Qf (Z:H) (b:Nat) (c:Ea):H:=⟨Z.next,(b,c)::TJ Z.bl b⟩
def FY (n b off:Nat) (v:V) (Z:H) (J:H->AG):AG:=match BB Z.bl b with
 | some (.cells l)=>Fx (AK v.cells.length n&&Ag (Ar off n) l.length&&allOne v.cells) (J (Qf Z b (.cells (HQ l off v.cells))))
 | _=>none
def srcK (E:EB) (Z:H) (esz:Nat) (v:V) (J:Nat->List V->AG):AG:=match v with
 | .nils=>J 0 []
 | .sle _ _ _ _=>J 0 []
 | .sl b off len _=>Yb E Z b fun l=>GR l off (len*esz) fun l'=>J len l'
 | .str s=>match AK esz 1 with
  | true=>J s.len (XD s.toList)
  | false=>none
 | _=>none
def DI (E:EB) (esz bytes:Nat) (s x:V) (Z:H) (J:V->H->AG):AG:=
 srcK E Z esz x fun n new=>
  match s with
  | .sl b 0 len (.op e)=>match n with
   | 0=>J s Z
   | n=>match BB Z.bl b with
    | some (.cells l)=>Fx (AK l.length (len*esz)&&AK e esz&&CT (len+n) bytes&&allOne new)
      (Nw Z.bl b fun bl'=>J (.sl Z.next 0 (len+n) (.op esz)) ⟨Z.next+1,(Z.next,.cells (l++new))::bl'⟩)
    | _=>none
  | s=>AV (Cb E esz bytes s x Z) J
def Iv (E:EB) (Z:H) (v:V) (J:BS->AG):AG:=match v with
 | .str _=>none
 | v=>srcK E Z 1 v fun _ l=>match GG l with
  | some s=>J (BS.ofList s)
  | none=>none
def H7 (l:List (Nat × Nat × V)) (z:List V) (J:List V->AG):AG:=match GY l z with
 | some l'=>J l'
 | none=>none
def kz (E:EB) (esz:Nat) (d s:V) (Z:H):Option (V × H):=
 match d,CH E Z esz s with
  | .nils,some (_,_)=>some (.int .i64 0,Z)
  | .sle _ _ _ _,some (_,_)=>some (.int .i64 0,Z)
  | .sl b off len _,some (n,src)=>
   let m:=Dk n len
   if m=0 then some (.int .i64 0,Z)else
   match look Z.bl b with
   | some (.cells l)=>if Ag (off+m*esz) l.length&&allOne (src.take (m*esz))then some (.int .i64 m,Z.set b (.cells (HQ l off (src.take (m*esz)))))else none
   | _=>none
  | _,_=>none
theorem aK (E:EB) (esz:Nat) (d s:AO) (e:Bk) (Z:H):Dz E (.copy esz d s) e Z=kz E esz (B4 e d) (B4 e s) Z:=rfl
def BR (e:Bk) (t:Nat) (J:V->AG):AG:=match look e t with
 | some v=>Fx v.live (J v)
 | none=>none
def GV (D:Al) (fv:V) (vs:List V) (Z:H) (J:V->H->AG):AG:=match fv with
 | .fn g first cap=>AV (D g (first++vs++cap) Z) J
 | _=>none
def Cc (E:EB) (D:Al) (id nx:Nat) (o:Dx) (e:Bk) (Z:H) (J:V->H->AG):AG:=
 match o with
 | .mov x=>B9 e x fun v=>J v Z
 | .bin op t x y=>B9 e x fun a=>B9 e y fun b=>q9 op t a b fun v=>J v Z
 | .un op x=>B9 e x fun a=>unX op a fun v=>J v Z
 | .conv (.toInt k) x=>B9 e x fun v=>match v with
  | .int _ n=>J (.int k (As k n)) Z
  | _=>none
 | .conv .same x=>B9 e x fun v=>HR v fun s=>J (.str s) Z
 | .conv .toStr x=>B9 e x fun v=>Iv E Z v fun u=>J (.str u) Z
 | .conv (.toBytes _) x=>B9 e x fun v=>HR v fun s=>Fx (Ag s.len 1000000000000) (J (.sl id 0 s.len (.op 1)) ⟨nx,(id,.cells (XD s.toList))::Z.bl⟩)
 | .nilck x=>B9 e x fun v=>Bv v fun b o=>J (.ptr b o) Z
 | .faddr off x=>B9 e x fun v=>Bv v fun b o=>J (.ptr b (Ar o off)) Z
 | .field off none x=>B9 e x fun v=>Ba v fun l=>I2 l off fun u=>J u Z
 | .field off (some n) x=>B9 e x fun v=>Ba v fun l=>GR l off n fun l'=>J (.agg l') Z
 | .extract i x=>B9 e x fun v=>C1 v fun l=>I2 l i fun u=>J u Z
 | .iaddrS esz x i=>B9 e x fun v=>B9 e i fun j=>match j with
  | .int _ n=>Ab esz v n fun b o=>J (.ptr b o) Z
  | _=>none
 | .iaddrA len esz x i=>B9 e x fun v=>B9 e i fun j=>match j with
  | .int _ n=>Bv v fun b o=>Mz n fun m=>Fx (CJ m len) (J (.ptr b (Ar o (Wh m esz))) Z)
  | _=>none
 | .idxStr x i=>B9 e x fun v=>B9 e i fun j=>HR v fun s=>match j with
  | .int _ n=>Cs s n fun u=>J (.int .u8 u) Z
  | _=>none
 | .len true x=>B9 e x fun v=>HR v fun s=>J (.int .i64 (AA s.len)) Z
 | .len false x=>B9 e x fun v=>A0 v fun n=>J (.int .i64 (AA n)) Z
 | .lenC n=>J (.int .i64 (AA n)) Z
 | .sliceStr x lo hi=>B9 e x fun v=>LI e lo fun l=>LI e hi fun h=>HR v fun s=>Ek s l h fun u=>J (.str u) Z
 | .sliceSl esz x lo hi mx=>B9 e x fun v=>LI e lo fun l=>LI e hi fun h=>LI e mx fun m=>gK (Dm esz v l h m) fun u=>J u Z
 | .sliceArr n esz x lo hi mx=>B9 e x fun v=>LI e lo fun l=>LI e hi fun h=>LI e mx fun m=>gK (H3 n esz v l h m) fun u=>J u Z
 | .mkifc t x=>B9 e x fun v=>J (.ifc t v) Z
 | .mkfn f a c=>LH e a fun xs=>LH e c fun ys=>J (.fn f xs ys) Z
 | .build z ps=>Na e ps fun l=>H7 l z fun l'=>J (.agg l') Z
 | .cap x=>B9 e x fun v=>match v with
  | .nils=>J (.int .i64 0) Z
  | .sl _ _ _ (.ex c)=>J (.int .i64 (AA c)) Z
  | _=>none
 | .min x l=>B9 e x fun v=>LH e l fun vs=>gK (S0 v vs) fun u=>match u with
  | .int k n=>J (.int k n) Z
  | _=>none
 | .max x l=>B9 e x fun v=>LH e l fun vs=>gK (S1 v vs) fun u=>match u with
  | .int k n=>J (.int k n) Z
  | _=>none
 | .load none x=>B9 e x fun v=>Bv v fun b o=>BY E Z b o fun u=>J u Z
 | .load (some n) x=>B9 e x fun v=>Bv v fun b o=>BV E Z b o n fun u=>J (.agg u) Z
 | .alloc _ z=>J (.ptr id 0) ⟨nx,(id,.cells z)::Z.bl⟩
 | .box _ x=>B9 e x fun v=>Fx (allOne v.cells) (J (.ptr id 0) ⟨nx,(id,.cells v.cells)::Z.bl⟩)
 | .buildSlice _ n z ps=>Na e ps fun l=>H7 l z fun l'=>Fx (allOne l') (J (.sl id 0 n (.ex n)) ⟨nx,(id,.cells l')::Z.bl⟩)
 | .mkslice _ _ bytes z len cap=>B9 e len fun a=>B9 e cap fun b=>match a,b with
  | .int .i64 n,.int .i64 c=>Mz n fun n=>Mz c fun c=>Fx (Ag n c&&Ag (c*bytes) 281474976710656&&Ag c 1000000000000)
    (J (.sl id 0 n (.ex c)) ⟨nx,(id,.cells (AY c z).flatten)::Z.bl⟩)
  | _,_=>none
 | .store n x v=>B9 e x fun p=>B9 e v fun u=>Bv p fun b o=>FY n b o u Z fun Z'=>J .dead Z'
 | .append _ esz bytes s x=>B9 e s fun a=>B9 e x fun b=>DI E esz bytes a b Z J
 | .copy esz d s=>B9 e d fun a=>B9 e s fun b=>AV (kz E esz a b Z) J
 | .call f args=>LH e args fun vs=>AV (D f vs Z) J
 | .callv f args=>B9 e f fun fv=>LH e args fun vs=>GV D fv vs Z J
 | .mkmap=>J (.mp id) ⟨nx,(id,.map [])::Z.bl⟩
 | .lookup t z m x=>B9 e m fun p=>B9 e x fun k=>gK (LB t z p k Z) fun v=>J v Z
 | .mapset t m k v=>B9 e m fun p=>B9 e k fun a=>B9 e v fun b=>AV (Qp t p a b Z) J
 | .alloc0 el=>J (.ptr id 0) ⟨nx,(id,.unit el)::Z.bl⟩
 | .box0 el x=>B9 e x fun v=>match v with
  | .agg []=>J (.ptr id 0) ⟨nx,(id,.unit el)::Z.bl⟩
  | _=>none
 | .load0 x=>B9 e x fun v=>Bv v fun _ _=>J (.agg []) Z
 | .store0 x v=>B9 e x fun p=>B9 e v fun u=>match p,u with
  | .ptr _ _,.agg []=>J .dead Z
  | _,_=>none
 | .faddr0 t x=>B9 e x fun v=>gK (M3 t v Z) fun u=>J u Z
 | .idxArr n esz none x i=>B9 e x fun v=>B9 e i fun j=>Ba v fun l=>match j with
  | .int _ k=>Mz k fun m=>Fx (CJ m n) (I2 l (Wh m esz) fun u=>J u Z)
  | _=>none
 | .idxArr n esz (some s) x i=>B9 e x fun v=>B9 e i fun j=>Ba v fun l=>match j with
  | .int _ k=>Mz k fun m=>Fx (CJ m n) (GR l (Wh m esz) s fun l'=>J (.agg l') Z)
  | _=>none
 | _=>none
def UU (ty:Co) (v:V) (J:List V->AG):AG:=match ty with
 | .agg _=>Ba v fun l=>Fx (allOne l) (J l)
 | _=>BU v (J [v])
def fg (E:EB) (D:Al) (pw:Bool) (id nx:Nat) (o:Dx) (ty:Co) (e:Bk) (q:Qs) (r:Rg) (Z:H) (J:V->Rg->H->AG) (Jm:Nat->Nat->AG):AG:=
 match o with
 | .mov x=>match Eo q x with
  | some (m,off)=>Jm m off
  | none=>Cc E D id nx o e Z fun v Z'=>rt ty v fun v'=>J v' r Z'
 | .nilck x=>match Eo q x with
  | some (m,off)=>Jm m off
  | none=>Cc E D id nx o e Z fun v Z'=>rt ty v fun v'=>J v' r Z'
 | .faddr d x=>match Eo q x with
  | some (m,off)=>Jm m (off+d)
  | none=>Cc E D id nx o e Z fun v Z'=>rt ty v fun v'=>J v' r Z'
 | .load none x=>match Eo q x with
  | some (m,off)=>match look r m with
   | some l=>I2 l off fun v=>rt ty v fun v'=>J v' r Z
   | none=>none
  | none=>Cc E D id nx o e Z fun v Z'=>rt ty v fun v'=>J v' r Z'
 | .load (some n) x=>match Eo q x with
  | some (m,off)=>match look r m with
   | some l=>GR l off n fun l'=>rt ty (.agg l') fun v'=>J v' r Z
   | none=>none
  | none=>Cc E D id nx o e Z fun v Z'=>rt ty v fun v'=>J v' r Z'
 | .store n x v=>match Eo q x with
  | some (m,off)=>match pw,look r m with
   | true,some l=>match Eo q v with
    | none=>B9 e v fun u=>UU ty u fun cs=>Fx (AK cs.length n&&Ag (off+n) l.length) (J .dead (IL r m (HQ l off cs)) Z)
    | some _=>none
   | _,_=>none
  | none=>Cc E D id nx o e Z fun v Z'=>J v r Z'
 | o=>Cc E D id nx o e Z fun v Z'=>rt ty v fun v'=>J v' r Z'
inductive XL where
 | nil
 | op (dst:Option Nat) (ty:Co) (looks:List Nat) (o:Dx) (rest:XL)
 | pal (dst:Nat) (looks:List Nat) (el:TypeId) (z:List V) (rest:XL)
 | grp (t:Nat) (b:Bool) (l:XL) (dst:Nat) (looks:List Nat) (c x y:AO) (rest:XL)
 deriving Inhabited
def XL.size:XL->Nat
 | .nil=>0
 | .op _ _ _ _ r=>r.size+1
 | .pal _ _ _ _ r=>r.size+1
 | .grp _ _ l _ _ _ _ _ r=>l.size+(r.size+1)
def XL.flat (g:Option (Nat × Bool)):XL->List BC
 | .nil=>[]
 | .op d _ _ o r=>⟨d,o,g⟩::r.flat g
 | .pal d _ el z r=>⟨some d,.alloc el z,g⟩::r.flat g
 | .grp t b l d _ c x y r=>l.flat (some (t,b))++⟨some d,.pick c x y,g⟩::r.flat g
def XL.lks:XL->List (List Nat)
 | .nil=>[]
 | .op _ _ k _ r=>k::r.lks
 | .pal _ k _ _ r=>k::r.lks
 | .grp _ _ l _ k _ _ _ r=>l.lks++k::r.lks
def XL.dsts:XL->List Nat
 | .nil=>[]
 | .op d _ _ _ r=>(match d with | some d=>d::r.dsts | none=>r.dsts)
 | .pal d _ _ _ r=>d::r.dsts
 | .grp _ _ l d _ _ _ _ r=>l.dsts++d::r.dsts
def BT {α:Type} (ds:List Nat):List (Nat × α)->List (Nat × α)
 | []=>[]
 | (k,v)::l=>match BX ds k with
  | true=>BT ds l
  | false=>(k,v)::BT ds l
def Bn {α:Type} (d:Option Nat) (l:List (Nat × α)):List (Nat × α):=match d with
 | none=>l
 | some d=>BT [d] l
def Hs (m:Nat):Qs->List Nat
 | []=>[]
 | (t,p)::l=>match AK p.1 m with
  | true=>t::Hs m l
  | false=>Hs m l
def Iu (m:Nat) (q:Qs):Qs:=BT (Hs m q) q
def J7:List Nat->Qs->Qs
 | [],_=>[]
 | t::l,q=>match look q t with
  | some p=>(t,p)::J7 l q
  | none=>J7 l q
def Df (dr:Bool) (ks:List Nat) (e:Bk):Bk:=match dr with
 | true=>restr ks e
 | false=>e
def Ji (dr:Bool) (ks:List Nat) (q:Qs):Qs:=match dr with
 | true=>J7 ks q
 | false=>q
def Oo (q:Qs) (d:Option Nat) (p:Nat × Nat):Qs:=match d with
 | some d=>(d,p)::q
 | none=>q
def IA (E:EB) (D:Al) (dr pw:Bool) (_n0:Nat) (l:XL):Nat->Bk->Qs->Rg->H->(Bk->Qs->Rg->H->AG)->AG:=
 XL.rec (motive:=fun _=>Bool->Nat->Bk->Qs->Rg->H->(Bk->Qs->Rg->H->AG)->AG)
  (fun _ _ e q r Z J=>J e q r Z)
  (fun d ty ks o _ ih pw i e q r Z J=>
   fg E D pw Z.next (Z.next+1) o ty (Df dr ks e) (Ji dr ks q) r Z
    (fun v r' Z'=>ih pw (i+1) (CS e d v) (Bn d q) r' Z' J)
    (fun m off=>ih pw (i+1) (Bn d e) (Oo (Bn d q) d (m,off)) r Z J))
  (fun d _ _ z _ ih pw i e q r Z J=>match pw with
   | true=>ih true (i+1) (BT [d] e) ((d,(d,0))::Iu d (BT [d] q)) ((d,z)::BT [d] r) Z J
   | false=>none)
  (fun t b l d ks _ x y _ ihl ih pw i e q r Z J=>
   B9 (Df dr [t] e) (.tmp t) fun c=>Aa c fun cb=>
    Ac (fun v Z'=>ih pw (i+l.size+1) ((d,.bool v)::BT (d::l.dsts) e) (BT (d::l.dsts) q) r Z' J) fun k=>
     match b with
     | true=>AJ cb
       (ihl false i e q r Z fun e' _ _ Z'=>B9 (Df dr ks e') x fun v=>Aa v fun v=>k v Z')
       (B9 (Df dr ks e) y fun v=>Aa v fun v=>k v Z)
     | false=>AJ cb
       (B9 (Df dr ks e) x fun v=>Aa v fun v=>k v Z)
       (ihl false i e q r Z fun e' _ _ Z'=>B9 (Df dr ks e') y fun v=>Aa v fun v=>k v Z'))
  l pw
section
variable {E:EB} {D:Al} {dr:Bool} {n0 i:Nat} {e:Bk} {q:Qs} {r:Rg} {Z:H} {J:Bk->Qs->Rg->H->AG}
theorem iN {pw:Bool} (d:Option Nat) (ty:Co) (ks:List Nat) (o:Dx) (rest:XL):IA E D dr pw n0 (.op d ty ks o rest) i e q r Z J=fg E D pw Z.next (Z.next+1) o ty (Df dr ks e) (Ji dr ks q) r Z
      (fun v r' Z'=>IA E D dr pw n0 rest (i+1) (CS e d v) (Bn d q) r' Z' J)
      (fun m off=>IA E D dr pw n0 rest (i+1) (Bn d e) (Oo (Bn d q) d (m,off)) r Z J):=rfl
theorem aE (d:Nat) (ks:List Nat) (el:TypeId) (z:List V) (rest:XL):IA E D dr true n0 (.pal d ks el z rest) i e q r Z J=IA E D dr true n0 rest (i+1) (BT [d] e) ((d,(d,0))::Iu d (BT [d] q)) ((d,z)::BT [d] r) Z J:=rfl
theorem Xi (d:Nat) (ks:List Nat) (el:TypeId) (z:List V) (rest:XL):IA E D dr false n0 (.pal d ks el z rest) i e q r Z J=none:=rfl
theorem aF {pw:Bool} (t:Nat) (b:Bool) (l:XL) (d:Nat) (ks:List Nat) (c x y:AO) (rest:XL):IA E D dr pw n0 (.grp t b l d ks c x y rest) i e q r Z J =
      B9 (Df dr [t] e) (.tmp t) fun c=>Aa c fun cb=>
        Ac (fun v Z'=>IA E D dr pw n0 rest (i+l.size+1) ((d,.bool v)::BT (d::l.dsts) e) (BT (d::l.dsts) q) r Z' J) fun k=>
          match b with
          | true=>AJ cb
              (IA E D dr false n0 l i e q r Z fun e' _ _ Z'=>B9 (Df dr ks e') x fun v=>Aa v fun v=>k v Z')
              (B9 (Df dr ks e) y fun v=>Aa v fun v=>k v Z)
          | false=>AJ cb
              (B9 (Df dr ks e) x fun v=>Aa v fun v=>k v Z)
              (IA E D dr false n0 l i e q r Z fun e' _ _ Z'=>B9 (Df dr ks e') y fun v=>Aa v fun v=>k v Z'):=rfl
end
structure St where
 e:Bk
 q:Qs
 r:Rg
 Z:H
inductive XC where
 | skip
 | ops (l:XL)
 | draw (l:XL) (ancs:List Nat)
 | gdraw (ops:List BC) (plan:List DP) (ts:List (Nat × Co))
 | seq (a b:XC)
 | cond (c:AO) (a b:XC)
 | block (id:Nat) (c:XC)
 | loop (ts:List (Nat × Co)) (ms:List Nat) (rs:List (Nat × List Co)) (c:XC)
 | exit (id:Nat)
 | ret
 | keep (ts:List (Nat × Co)) (ms:List Nat) (rs:List (Nat × List Co)) (c:XC)
 | bad
 deriving Inhabited
def S4 (e:Bk):List (Nat × Co)->(Bk->AG)->AG
 | [],J=>J []
 | (t,ty)::l,J=>BR e t fun v=>rt ty v fun v'=>S4 e l fun e'=>J ((t,v')::e')
def Np (ms rs:List Nat) (q:Qs):Qs:=match ms with
 | []=>[]
 | t::l=>match look q t with
  | some p=>(match BX rs p.1 with
   | true=>(t,p)::Np l rs q
   | false=>Np l rs q)
  | none=>Np l rs q
def VU (e:Bk):List (Nat × Co)->(Bk->AG)->AG
 | [],J=>J []
 | (t,ty)::l,J=>B9 e (.tmp t) fun v=>rt ty v fun v'=>VU e l fun e'=>J ((t,v')::e')
def VT (r:Rg):List (Nat × List Co)->(Rg->AG)->AG
 | [],J=>J []
 | (m,tys)::l,J=>match look r m with
  | some cs=>kg tys cs fun cs'=>VT r l fun r'=>J ((m,cs')::r')
  | none=>none
def Af (f:(St->AG)->St->AG) (N:Nat):St->AG:=Nat.rec (fun _=>none) (fun _ ih=>f ih) N
theorem Ak (f:(St->AG)->St->AG) (n:Nat) (s:St):Af f (n+1) s=f (Af f n) s:=rfl
def XL.makes:XL->Bool
 | .nil=>false
 | .op _ _ _ o r=>(match o.cls with | .a=>true | _=>r.makes)
 | .pal _ _ _ _ r=>r.makes
 | .grp _ _ l _ _ _ _ _ r=>l.makes || r.makes
def XL.pals:XL->List Nat
 | .nil=>[]
 | .op _ _ _ _ r=>r.pals
 | .pal d _ _ _ r=>d::r.pals
 | .grp _ _ l _ _ _ _ _ r=>l.pals++r.pals
def Nc (q:Qs):List Nat->Bool
 | []=>true
 | d::l=>(Hs d q).isEmpty&&Nc q l
def Ii (ts:List (Nat × Co)) (ms:List Nat) (rs:List (Nat × List Co)) (s:St) (J:St->AG):AG:=
 VU s.e ts fun e'=>VT s.r rs fun r'=>J ⟨e',Np ms (rs.map Prod.fst) s.q,r',s.Z⟩
def BN (id:Nat) (kn:St->AG) (kx:Nat->St->AG):Nat->St->AG:=fun j s'=>match AK j id with
 | true=>kn s'
 | false=>kx j s'
def aC (q:Qs) (ds:List Nat) (a:AG):AG:=match Nc q ds with
 | true=>a
 | false=>none
def Cp (x:Option (Bk × H)) (J:Bk->H->AG):AG:=match x with
 | some (e,Z)=>J e Z
 | none=>none
def AM (E:EB) (D:Al) (W:AE) (N:Nat) (c:XC):St->(St->AG)->(Nat->St->AG)->(St->AG)->AG:=
 XC.rec (motive:=fun _=>St->(St->AG)->(Nat->St->AG)->(St->AG)->AG)
  (fun s kn _ _=>kn s)
  (fun l s kn _ _=>IA E D false true 0 l 0 s.e s.q s.r s.Z fun e q r Z=>kn ⟨e,q,r,Z⟩)
  (fun l _ s kn _ _=>aC s.q l.pals (IA E D true true 0 l 0 s.e s.q s.r s.Z fun e q r Z=>kn ⟨e,q,r,Z⟩))
  (fun ops pl ts s kn _ _=>Cp (W ops pl s.e s.Z) fun e' Z'=>S4 e' ts fun e''=>kn ⟨e'',[],[],Z'⟩)
  (fun _ _ iha ihb s kn kx kr=>iha s (fun s'=>ihb s' kn kx kr) kx kr)
  (fun c _ _ iha ihb s kn kx kr=>B9 s.e c fun v=>Aa v fun cb=>AJ cb (iha s kn kx kr) (ihb s kn kx kr))
  (fun id _ ih s kn kx kr=>ih s kn (BN id kn kx) kr)
  (fun ts ms rs _ ih s _ kx kr=>Ii ts ms rs s fun s0=>Af (fun rec s'=>ih s' (fun s''=>Ii ts ms rs s'' rec) kx kr) N s0)
  (fun id s _ kx _=>kx id s)
  (fun s _ _ kr=>kr s)
  (fun ts ms rs _ ih s kn kx kr=>Ii ts ms rs s fun s0=>ih s0 kn kx kr)
  (fun _ _ _ _=>none)
  c
section
variable {E:EB} {D:Al} {W:AE} {N:Nat} {s:St} {kn:St->AG} {kx:Nat->St->AG} {kr:St->AG}
theorem aH (l:XL):AM E D W N (.ops l) s kn kx kr=IA E D false true 0 l 0 s.e s.q s.r s.Z fun e q r Z=>kn ⟨e,q,r,Z⟩:=rfl
theorem Xl (l:XL) (ancs:List Nat):AM E D W N (.draw l ancs) s kn kx kr=aC s.q l.pals (IA E D true true 0 l 0 s.e s.q s.r s.Z fun e q r Z=>kn ⟨e,q,r,Z⟩):=rfl
theorem UO (ops:List BC) (pl:List DP) (ts:List (Nat × Co)):AM E D W N (.gdraw ops pl ts) s kn kx kr=Cp (W ops pl s.e s.Z) fun e' Z'=>S4 e' ts fun e''=>kn ⟨e'',[],[],Z'⟩:=rfl
theorem aG (a b:XC):AM E D W N (.seq a b) s kn kx kr=AM E D W N a s (fun s'=>AM E D W N b s' kn kx kr) kx kr:=rfl
theorem Xm (c:AO) (a b:XC):AM E D W N (.cond c a b) s kn kx kr=B9 s.e c fun v=>Aa v fun cb=>AJ cb (AM E D W N a s kn kx kr) (AM E D W N b s kn kx kr):=rfl
theorem UP (id:Nat) (c:XC):AM E D W N (.block id c) s kn kx kr=AM E D W N c s kn (BN id kn kx) kr:=rfl
theorem Xj (ts:List (Nat × Co)) (ms:List Nat) (rs:List (Nat × List Co)) (c:XC):AM E D W N (.loop ts ms rs c) s kn kx kr=Ii ts ms rs s fun s0=>Af (fun rec s'=>AM E D W N c s' (fun s''=>Ii ts ms rs s'' rec) kx kr) N s0:=rfl
theorem Xk (ts:List (Nat × Co)) (ms:List Nat) (rs:List (Nat × List Co)) (c:XC):AM E D W N (.keep ts ms rs c) s kn kx kr=Ii ts ms rs s fun s0=>AM E D W N c s0 kn kx kr:=rfl
end
structure C9 where
 ntmps:Nat
 params:List Co
 results:List AR
 body:XC
 deriving Inhabited
def Cy (E:EB) (s:St):List AR->(List V->AG)->AG
 | [],J=>J []
 | .tmp t::l,J=>B9 s.e (.tmp t) fun v=>Cy E s l fun r=>J (v::r)
 | .cell t n::l,J=>match look s.q t with
  | some (m,off)=>match look s.r m with
   | some cs=>match n with
    | none=>I2 cs off fun v=>Cy E s l fun r=>J (v::r)
    | some n=>GR cs off n fun l'=>Cy E s l fun r=>J (.agg l'::r)
   | none=>none
  | none=>B9 s.e (.tmp t) fun p=>Bv p fun b o=>match n with
   | none=>BY E s.Z b o fun v=>Cy E s l fun r=>J (v::r)
   | some n=>BV E s.Z b o n fun v=>Cy E s l fun r=>J (.agg v::r)
def Be (E:EB) (D:Al) (W:AE) (N:Nat) (f:C9) (args:List V) (Z:H):AG:=
 kg f.params args fun args'=>AM E D W N f.body ⟨Ms 0 args',[],[],Z⟩ (fun s=>Cy E s f.results fun l=>some (DH l,s.Z)) (fun _ _=>none) (fun s=>Cy E s f.results fun l=>some (DH l,s.Z))
def XC.strip:XC->AC
 | .skip => .skip
 | .ops l => .region (l.flat none)
 | .draw l ancs => .draw (l.flat none) (List.zipWith DP.mk ancs l.lks)
 | .gdraw l pl _ => .draw l pl
 | .seq a b => .seq a.strip b.strip
 | .cond c a b => .cond c a.strip b.strip
 | .block id c => .block id c.strip
 | .loop _ _ _ c => .loop c.strip
 | .exit id => .exit id
 | .ret => .ret
 | .keep _ _ _ c=>c.strip
 | .bad => .bad
def C9.strip (f:C9):X8:=⟨f.ntmps,f.results,[],f.body.strip⟩
def Co.known:Co->Bool
 | .any=>false
 | _=>true
def okD (d:Option Nat) (ty:Co) (o:Dx):Bool:=match d,o with
 | none,_=>true
 | some _,.store _ _ _=>false
 | some _,o=>(match o.cls with
  | .k=>ty.known
  | _=>true)
def gI (gt:Option Nat) (ks:List Nat):Bool:=match gt with
 | none=>true
 | some t=>BX ks t
def Yy (t:Nat) (b:Bool) (ds:List Nat) (c x y:AO):Bool:=
 (match c with
  | .tmp u=>AK u t
  | .con _=>false) &&
 (match (match b with | true=>y | false=>x)with
  | .tmp u=>!BX ds u
  | .con _=>true)
def XL.okG:XL->Option (List Nat)->Option Nat->Bool
 | .nil,_,_=>true
 | .op d ty ks o r,ds,gt=>okD d ty o&&gI gt ks&&(match ds,d with
  | some l,some d=>r.okG (some (d::l)) gt
  | _,_=>r.okG ds gt)
 | .pal _ ks _ _ r,ds,gt=>gI gt ks&&(match ds with
  | some _=>false
  | none=>r.okG none gt)
 | .grp t b l d ks c x y r,ds,gt=>gI gt ks&&BX ks t && !BX l.dsts t&&Yy t b l.dsts c x y&&(match ds with
  | some ds'=>BX ds' t
  | none=>true)&&l.okG (some []) (some t)&&(match ds with
  | some ds'=>r.okG (some (d::l.dsts++ds')) gt
  | none=>r.okG none gt)
def aB (l:List BC) (ancs:List Nat):Bool:=
 Uc l.length fun k=>match l[k]? with
  | some ok=>(match ok.op.cls with
   | .k=>Uc l.length fun j=>match l[j]? with
    | some oj=>(match oj.op.cls with
     | .l=>(ancs.getD j 0).testBit k || (ancs.getD k 0).testBit j
     | .a=>!CJ j k || (ancs.getD k 0).testBit j
     | _=>true)
    | none=>false
   | _=>true)
  | none=>false
def Sz:List BC->Bool
 | []=>true
 | o::l=>(match o.op with
  | .bad=>false
  | _=>true)&&Sz l
def XC.ok:XC->Bool
 | .skip=>true
 | .ops l=>l.okG none none
 | .draw l ancs=>l.okG none none&&aB (l.flat none) ancs&&AK ancs.length l.lks.length && !l.makes&&Sz (l.flat none)
 | .gdraw _ _ _=>true
 | .seq a b=>a.ok&&b.ok
 | .cond _ a b=>a.ok&&b.ok
 | .block _ c=>c.ok
 | .loop _ _ _ c=>c.ok
 | .exit _=>true
 | .ret=>true
 | .keep _ _ _ c=>c.ok
 | .bad=>true
end
def AO.t (i:Nat):AO := .tmp i
def AO.i (n:Nat):AO := .con (.int .i64 (AA n))
def Co.i:Co := .int .i64
def XL.m (d s:Nat) (k:XL):XL := .op (some d) .any [s] (.mov (.tmp s)) k
def XL.p (d:Nat) (ks:List Nat) (o:Dx) (k:XL):XL := .op (some d) .any ks o k
def AO.ts:List AO->List Nat
 | []=>[]
 | .tmp i::l=>i::AO.ts l
 | .con _::l=>AO.ts l
def XL.f (d k s:Nat) (r:XL):XL := .op (some d) .any [s] (.faddr k (.tmp s)) r
def XL.n (d s:Nat) (r:XL):XL := .op (some d) .any [s] (.nilck (.tmp s)) r
def XL.u (d s:Nat) (r:XL):XL := .op (some d) .any [s] (.len false (.tmp s)) r
def XL.s (d e x i:Nat) (r:XL):XL := .op (some d) .any [x,i] (.iaddrS e (.tmp x) (.tmp i)) r
def XL.b (d:Nat) (o:BinOp) (t:Es) (x y:AO) (r:XL):XL := .op (some d) .any (AO.ts [x,y]) (.bin o t x y) r
def XL.q (d n:Nat) (r:XL):XL := .op (some d) .any [] (.mov (.con (.int .i64 (AA n)))) r
def XL.c (d:Nat) (v:V) (r:XL):XL := .op (some d) .any [] (.mov (.con v)) r
def XL.l (d:Nat) (t:Co) (s:Nat) (r:XL):XL := .op (some d) t [s] (.load none (.tmp s)) r
def XL.k (d:Nat) (t:Co) (f:FuncId) (l:List AO) (r:XL):XL := .op (some d) t (AO.ts l) (.call f l) r
def XL.w (n x v:Nat) (r:XL):XL := .op none .any [x,v] (.store n (.tmp x) (.tmp v)) r
def Dx.ts:Dx->List Nat
 | .mov x | .box _ x | .load _ x | .nilck x | .un _ x | .conv _ x | .mkifc _ x | .faddr _ x | .field _ _ x | .extract _ x | .len _ x | .cap x=>AO.ts [x]
 | .bin _ _ x y | .iaddrS _ x y | .iaddrA _ _ x y | .idxStr x y | .idxArr _ _ _ x y | .append _ _ _ x y | .mkslice _ _ _ _ x y=>AO.ts [x,y]
 | .call _ l=>AO.ts l
 | .callv f l=>AO.ts (f::l)
 | _=>[]
def XL.P (d:Nat) (o:Dx) (r:XL):XL := .op (some d) .any o.ts o r
def XL.O (d:Nat) (t:Co) (o:Dx) (r:XL):XL := .op (some d) t o.ts o r
def XL.gA (t:Nat) (b:Bool) (l:XL) (d c x:Nat) (r:XL):XL := .grp t b l d [c,x] (.tmp c) (.tmp x) (.con (.bool false)) r
def XL.gO (t:Nat) (b:Bool) (l:XL) (d c x:Nat) (r:XL):XL := .grp t b l d [c,x] (.tmp c) (.con (.bool true)) (.tmp x) r
def XC.z (a:XL) (b:XC):XC := .seq (.ops a) b
def Gi (l:List V) (Z:H) (J:H->AG):AG:=Fx (allOne l) (J (B6 Z (.cells l)))
def Ah (k:IntKind) (l:List V) (J:Int->List V->AG):AG:=AB l fun v m=>Aj k v fun n=>J n m
def C7 (l:List V) (J:Bool->List V->AG):AG:=AB l fun v m=>Aa v fun b=>J b m
def Hz (l:List V) (J:BS->List V->AG):AG:=AB l fun v m=>HR v fun s=>J s m
end Go.Og
namespace Go.Og
theorem BA {α:Type} (p:Nat × α) (l:List (Nat × α)) (id:Nat):BB (p::l) id=if p.1=id then some p.2 else BB l id:=by
 show (Bool.rec (motive:=fun _=>Option α) (BB l id) (some p.2) (AK p.1 id))=_
 by_cases h:p.1=id
 ·have hb:AK p.1 id=true:=by rw[AU];exact h
  rw[if_pos h,hb]
 ·rw[if_neg h]
  have:AK p.1 id=false:=Gy.2 (by rw[ne_eq,AU];exact h)
  rw[this]
theorem Ap {α:Type} (l:List (Nat × α)) (id:Nat):BB l id=look l id:=by
 induction l with
 | nil=>rfl
 | cons p l ih=>
  obtain⟨k,b⟩:=p
  rw[BA,ih]
  simp only[look,AU]
theorem UN {α:Type} (p:Nat × α) (l:List (Nat × α)) (id:Nat):TJ (p::l) id=if p.1=id then l else p::TJ l id:=by
 show (Bool.rec (motive:=fun _=>List (Nat × α)) (p::TJ l id) l (AK p.1 id))=_
 by_cases h:p.1=id
 ·have hb:AK p.1 id=true:=by rw[AU];exact h
  rw[if_pos h,hb]
 ·rw[if_neg h]
  have:AK p.1 id=false:=Gy.2 (by rw[ne_eq,AU];exact h)
  rw[this]
theorem UG {α:Type} (l:List (Nat × α)) (id k:Nat) (h:id≠k):look (TJ l id) k=look l k:=by
 induction l with
 | nil=>rfl
 | cons p l ih=>
  obtain⟨m,b⟩:=p
  rw[UN]
  by_cases hm:m=id
  ·rw[if_pos hm];simp only[look,AU];rw[if_neg (by omega)]
  ·rw[if_neg hm];simp only[look,AU,ih]
theorem Qn (l:List V) (n:Nat):gm l n=l[n]? := by
 induction l generalizing n with
 | nil=>rfl
 | cons a l ih=>
  cases n with
  | zero=>rfl
  | succ n=>exact ih n
theorem Lz (l:EB) (id:Nat) (J:EB->AG):Nw l id J=J (drop l id):=by
 induction l generalizing J with
 | nil=>rfl
 | cons p l ih=>
  obtain⟨k,b⟩:=p
  show Nw l id (fun l'=>Bool.rec (motive:=fun _=>AG) (J ((k,b)::l')) (J l') (AK k id))=_
  rw[ih]
  simp only[drop]
  cases hb:AK k id<;>simp[hb]
theorem DL {c:Bool} {a:AG} {r:V × H} (h:Fx c a=some r):c=true/\a=some r:=by
 cases c with
 | true=>exact⟨rfl,h⟩
 | false=>cases h
theorem IU (a b:AG):AJ true a b=a:=rfl
theorem Md (a b:AG):AJ false a b=b:=rfl
theorem Jc {x:Option V} {J:V->AG} {r:V × H} (h:gK x J=some r):∃v,x=some v/\J v=some r:=by
 cases x with
 | none=>cases h
 | some v=>exact⟨v,rfl,h⟩
theorem HG {x:AG} {J:V->H->AG} {r:V × H} (h:AV x J=some r):∃v Z,x=some (v,Z)/\J v Z=some r:=by
 cases x with
 | none=>cases h
 | some p=>exact⟨p.1,p.2,rfl,h⟩
theorem QX {k:IntKind} {n:Int} (h:wQ k n=true):k.wrap n=n:=by
 unfold IntKind.wrap
 cases n with
 | ofNat m=>
  simp only[wQ,A1]at h
  cases k<;>simp only[KB]at h<;>simp only[IntKind.signed,IntKind.bits,Int.ofNat_eq_natCast]<;>simp<;>omega
 | negSucc m=>
  simp only[wQ,CC]at h
  cases k<;>simp only[xU]at h<;>(first | omega | skip)<;>simp only[IntKind.signed,IntKind.bits,Int.negSucc_eq]<;>simp<;>omega
theorem DJ (k:IntKind) (n:Int):As k n=k.wrap n:=by
 unfold As
 cases h:wQ k n with
 | true=>exact(QX h).symm
 | false=>rfl
theorem ZD (a b:Int):Cr a b=decide (a<b):=by
 cases a<;>cases b<;>simp only[Cr]<;>(rw[De];simp[CC])<;>omega
theorem ZH (a b:Int):I7 a b=decide (a<=b):=by
 cases a<;>cases b<;>simp only[I7]<;>(rw[De];simp[A1])<;>omega
theorem La (k:IntKind) (a b:Int):CM k a b=k.wrap (a+b):=DJ k _
theorem gE (k:IntKind) (a b:Int):D2 k a b=k.wrap (a-b):=DJ k _
theorem gu (k:IntKind) (a b:Int):Hr k a b=k.wrap (a*b):=DJ k _
theorem gX (k:IntKind) (a b:Int):xL k a b=k.wrap (a.tdiv b):=DJ k _
theorem gq (k:IntKind) (a:Int):qT k a=k.wrap (0-a):=DJ k _
theorem Qe (k:IntKind) (a:Int) (n:Nat):Kt k a n=k.wrap (a*2 ^ (Dk n k.bits)):=by
 unfold Kt
 rw[DJ]
 have h:(AA (Nat.pow 2 (Dk n k.bits)))=(2:Int) ^ (Dk n k.bits):=by
  show ((2 ^ (Dk n k.bits):Nat):Int)=_
  rw[fX];rfl
 rw[h];rfl
theorem Mx (k:IntKind) (a:Int) (n:Nat):Ge k a n=a.fdiv (2 ^ (Dk n k.bits)):=by
 cases a with
 | ofNat m=>
  have h:(2:Int) ^ (Dk n k.bits)=((2 ^ (Dk n k.bits):Nat):Int):=by rw[fX];rfl
  rw[h]
  show ((m / 2 ^ (Dk n k.bits):Nat):Int)=Int.fdiv ((m:Nat):Int) _
  rw[wL _ (Of _),Int.natCast_ediv]
 | negSucc m=>rfl
theorem Nh (k:IntKind):∃p,KB k+1=2 ^ p/\p<=k.bits:=by
 cases k
 ·exact⟨7,rfl,by decide⟩
 ·exact⟨15,rfl,by decide⟩
 ·exact⟨31,rfl,by decide⟩
 ·exact⟨63,rfl,by decide⟩
 ·exact⟨8,rfl,by decide⟩
 ·exact⟨16,rfl,by decide⟩
 ·exact⟨32,rfl,by decide⟩
 ·exact⟨64,rfl,by decide⟩
theorem IC {k:IntKind} {m:Nat} (h:m<=KB k):(Ay k.bits (AA m)).toNat=m:=by
 obtain⟨p,hp,hb⟩:=Nh k
 have h1:m<2 ^ k.bits:=GA (by omega) (X9 (by decide) hb)
 have:Ay k.bits (AA m)=BitVec.ofNat k.bits m:=by
  show Ay k.bits ((m:Nat):Int)=_
  rw[BitVec.ofInt_natCast]
 rw[this,BitVec.toNat_ofNat,DA h1]
theorem NS {k:IntKind} {a b:Int} {f:Nat->Nat->Nat} {g:Int} (h:∀m n,a = .ofNat m->b = .ofNat n->m<=KB k->n<=KB k->g = .ofNat (f m n)):NT k a b f g=g:=by
 unfold NT
 split
 ·rename_i m n
  cases hc:(Ag m (KB k)&&Ag n (KB k))with
  | true=>
   simp only[AF,A1]at hc
   exact(h m n rfl rfl hc.1 hc.2).symm
  | false=>rfl
 ·rfl
theorem NN {k:IntKind} {m:Nat} (h:m<=KB k):k.wrap (m:Int) = .ofNat m:=QX (n := .ofNat m) (by simpa[wQ]using h)
theorem Vt (k:IntKind) (a b:Int):HI k a b=k.wrap (Ay k.bits a &&& Ay k.bits b).toNat:=by
 refine NS fun m n ha hb hm hn=>?_
 subst ha hb
 rw[BitVec.toNat_and,IC hm,IC hn]
 exact NN (BO Nat.and_le_left hm)
theorem Y2 (k:IntKind) (a b:Int):K0 k a b=k.wrap (Ay k.bits a ||| Ay k.bits b).toNat:=by
 refine NS fun m n ha hb hm hn=>?_
 subst ha hb
 obtain⟨p,hp,_⟩:=Nh k
 rw[BitVec.toNat_or,IC hm,IC hn]
 refine NN ?_
 have:=Nat.or_lt_two_pow (x:=m) (y:=n) (n:=p) (by omega) (by omega)
 omega
theorem fp (k:IntKind) (a b:Int):wk k a b=k.wrap (Ay k.bits a ^^^ Ay k.bits b).toNat:=by
 refine NS fun m n ha hb hm hn=>?_
 subst ha hb
 obtain⟨p,hp,_⟩:=Nh k
 rw[BitVec.toNat_xor,IC hm,IC hn]
 refine NN ?_
 have:=Nat.xor_lt_two_pow (x:=m) (y:=n) (n:=p) (by omega) (by omega)
 omega
theorem EX {b:Int} {J:Nat->AG} {r:V × H} (h:Mz b J=some r):0<=b/\J b.toNat=some r:=by
 cases b with
 | ofNat n=>exact⟨Of n,h⟩
 | negSucc n=>cases h
theorem Y8 {b:Int} {a:AG} {r:V × H} (h:nzK b a=some r):b≠0/\a=some r:=by
 unfold nzK at h
 split at h
 ·cases h
 ·rename_i hb;exact⟨fun h0=>hb (by rw[h0];rfl),h⟩
theorem XE {op:BinOp} {t:Es} {k k':IntKind} {a b:Int} {J:V->AG} {r:V × H} (h:qh op k k' a b J=some r):∃v,HH op t (.int k a) (.int k' b)=some v/\J v=some r:=by
  cases op
  case shl=>
    obtain⟨h1,h2⟩:=EX h
    refine⟨_,?_,h2⟩
    simp only[HH,NV]
    rw[if_neg (by omega),Qe];rfl
  case shr=>
    obtain⟨h1,h2⟩:=EX h
    refine⟨_,?_,h2⟩
    simp only[HH,NV]
    rw[if_neg (by omega),Mx];rfl
  all_goals
    simp only[qh]at h
    split at h
    · rename_i hk
      simp only[HH]
      rw[if_pos hk]
      first
        | (refine⟨_,?_,h⟩;simp only[Vq,Rr,La,gE,gu,Vt,Y2,fp,Ia,KK,ZD,ZH];rfl)
        | (obtain⟨h1,h2⟩:=Y8 h
           refine⟨_,?_,h2⟩
           simp only[Vq]
           rw[if_neg h1]
           first | rfl | (rw[gX];rfl))
    · cases h
theorem Xs {a b:BS} {J:BS->AG} {r:V × H} (h:O7 a b J=some r):Ag (Ar a.len b.len) 1000000000000=true/\J (a.cat b)=some r:=by
 unfold O7 at h
 split at h
 ·rename_i hc;exact⟨hc,h⟩
 ·cases h
theorem Wo {op:BinOp} {t:Es} {a b:BS} {J:V->AG} {r:V × H} (h:xE op a b J=some r):∃v,HH op t (.str a) (.str b)=some v/\J v=some r:=by
 cases op
 case add=>
  have h':O7 a b (fun s=>J (.str s))=some r:=h
  obtain⟨h1,h2⟩:=Xs h'
  exact⟨_,by simp only[HH,YJ,h1],h2⟩
 all_goals first
  | exact⟨_,rfl,h⟩
  | cases h
theorem TF {t:Es} {x y:V} {J:Bool->AG} {r:V × H} (h:YA t x y J=some r):∃b,JA t x y=some b/\J b=some r:=by
 unfold YA at h
 split at h
 ·exact⟨_,‹_›,h⟩
 ·cases h
theorem Mb {t:Es} {x y:V} {b:Bool} (h:JA t x y=some b):(∀k n k' m,x = .int k n->y = .int k' m->False)/\(∀l m,x = .str l->y = .str m->False):=by
 constructor
 ·rintro k n k' m rfl rfl;cases t<;>(first|cases h|(rename_i b;cases b<;>cases h))
 ·rintro l m rfl rfl;cases t<;>(first|cases h|(rename_i b;cases b<;>cases h))
theorem Xt {op:BinOp} {t:Es} {x y:V} {J:V->AG} {r:V × H} (h:q9 op t x y J=some r):∃v,HH op t x y=some v/\J v=some r:=by
 have eqs:∀(t:Es),eqX op t x y J=some r->∃v,HH op t x y=some v/\J v=some r:=by
  intro t h
  unfold eqX at h
  split at h
  ·obtain⟨b,h1,h2⟩:=TF h
   obtain⟨h3,h4⟩:=Mb h1
   refine⟨_,?_,h2⟩
   unfold HH
   split
   ·exact(h3 _ _ _ _ rfl rfl).elim
   ·exact(h4 _ _ rfl rfl).elim
   ·simp only[h1];rfl
  ·obtain⟨b,h1,h2⟩:=TF h
   obtain⟨h3,h4⟩:=Mb h1
   refine⟨_,?_,h2⟩
   unfold HH
   split
   ·exact(h3 _ _ _ _ rfl rfl).elim
   ·exact(h4 _ _ rfl rfl).elim
   ·simp only[h1];rfl
  ·cases h
 cases t with
 | none=>
  simp only[q9]at h
  split at h
  ·exact XE h
  ·exact Wo h
  ·cases h
 | bool=>exact eqs _ h
 | ptr=>exact eqs _ h
 | slice=>exact eqs _ h
 | map=>exact eqs _ h
 | func=>exact eqs _ h
 | iface b=>exact eqs _ h
 | flat l=>exact eqs _ h
theorem YF {op:UnOp} {x:V} {J:V->AG} {r:V × H} (h:unX op x J=some r):∃v,unV op x=some v/\J v=some r:=by
 unfold unX at h
 split at h
 ·exact⟨_,by simp only[unV,gq],h⟩
 ·exact⟨_,rfl,h⟩
 ·exact⟨_,rfl,h⟩
 ·cases h
theorem NX {k:IntKind} {v:V} {J:Int->AG} {r:V × H} (h:Aj k v J=some r):∃n,v = .int k n/\J n=some r:=by
 unfold Aj at h
 split at h
 ·split at h
  ·rename_i hk;subst hk;exact⟨_,rfl,h⟩
  ·cases h
 ·cases h
theorem Em {v:V} {J:Bool->AG} {r:V × H} (h:Aa v J=some r):∃b,v = .bool b/\J b=some r:=by
 unfold Aa at h
 split at h
 ·exact⟨_,rfl,h⟩
 ·cases h
theorem Ef {v:V} {J:BS->AG} {r:V × H} (h:HR v J=some r):∃s,v = .str s/\J s=some r:=by
 unfold HR at h
 split at h
 ·exact⟨_,rfl,h⟩
 ·cases h
theorem Dg {v:V} {J:Nat->Nat->AG} {r:V × H} (h:Bv v J=some r):∃b o,v = .ptr b o/\J b o=some r:=by
 unfold Bv at h
 split at h
 ·exact⟨_,_,rfl,h⟩
 ·cases h
theorem Eg {v:V} {J:List V->AG} {r:V × H} (h:Ba v J=some r):∃l,v = .agg l/\J l=some r:=by
 unfold Ba at h
 split at h
 ·exact⟨_,rfl,h⟩
 ·cases h
theorem J4 {v:V} {J:List V->AG} {r:V × H} (h:C1 v J=some r):∃l,v = .tup l/\J l=some r:=by
 unfold C1 at h
 split at h
 ·exact⟨_,rfl,h⟩
 ·cases h
theorem Sa {l:List V} {J:V->List V->AG} {r:V × H} (h:AB l J=some r):∃v m,l=v::m/\J v m=some r:=by
 unfold AB at h
 split at h
 ·exact⟨_,_,rfl,h⟩
 ·cases h
theorem UC {l:List V} {a:AG} {r:V × H} (h:AT l a=some r):l=[]/\a=some r:=by
 unfold AT at h
 split at h
 ·exact⟨rfl,h⟩
 ·cases h
theorem J5 {v:V} {a:AG} {r:V × H} (h:BU v a=some r):v.one=true/\a=some r:=by
 unfold BU at h
 split at h
 ·exact⟨‹_›,h⟩
 ·cases h
mutual
theorem Gf:∀(ty:Co) (v:V) (J:V->AG) (r:V × H),rt ty v J=some r->J v=some r
 | .any,v,J,r,h=>by simpa only [rt]using h
 | .int k,v,J,r,h=>by simp only[rt]at h;obtain⟨n,rfl,h2⟩:=NX h;exact h2
 | .bool,v,J,r,h=>by simp only[rt]at h;obtain⟨n,rfl,h2⟩:=Em h;exact h2
 | .str,v,J,r,h=>by simp only[rt]at h;obtain⟨n,rfl,h2⟩:=Ef h;exact h2
 | .ptr,v,J,r,h=>by simp only[rt]at h;obtain⟨b,o,rfl,h2⟩:=Dg h;exact h2
 | .one,v,J,r,h=>by simp only[rt]at h;exact(J5 h).2
 | .agg ts,v,J,r,h=>by simp only[rt]at h;obtain⟨l,rfl,h2⟩:=Eg h;exact Ix ts l _ r h2
 | .tup ts,v,J,r,h=>by simp only[rt]at h;obtain⟨l,rfl,h2⟩:=J4 h;exact Ix ts l _ r h2
theorem Ix:∀(ts:List Co) (l:List V) (J:List V->AG) (r:V × H),kg ts l J=some r->J l=some r
 | [],l,J,r,h=>by simp only[kg]at h;obtain⟨rfl,h2⟩:=UC h;exact h2
 | t::ts,l,J,r,h=>by
  simp only[kg]at h
  obtain⟨v,m,rfl,h⟩:=Sa h
  have:=Gf t v _ r h
  exact Ix ts m _ r this
end
def ET (e:Bk):Prop:=∀t v,look e t=some v->v.live=true
theorem Ae {e:Bk} {x:AO} {J:V->AG} {r:V × H} (h:B9 e x J=some r):∃v,B4 e x=v/\(ET e->v.live=true)/\J v=some r:=by
 unfold B9 at h
 split at h
 ·rename_i v
  split at h
  ·exact⟨v,rfl,fun _=>‹_›,h⟩
  ·cases h
 ·rename_i t
  cases hl:look e t with
  | none=>rw[hl]at h;cases h
  | some v=>
   rw[hl]at h
   exact⟨v,by simp only[B4,Ft,hl],fun he=>he t v hl,h⟩
theorem Ei {e:Bk}:∀(l:List AO) (J:List V->AG) (r:V × H),LH e l J=some r->(ET e->(Er e l).all V.live=true)/\J (Er e l)=some r
 | [],J,r,h=>⟨fun _=>rfl,h⟩
 | x::l,J,r,h=>by
  simp only[LH]at h
  obtain⟨v,hv,hl,h⟩:=Ae h
  obtain⟨h1,h2⟩:=Ei l _ r h
  subst hv
  exact⟨fun he=>by simp only[Er,CF,Bq,hl he,FW];exact h1 he,h2⟩
theorem D4 {e:Bk} {x:Option AO} {J:Option V->AG} {r:V × H} (h:LI e x J=some r):J (Ct e x)=some r:=by
 cases x with
 | none=>exact h
 | some x=>
  obtain⟨v,hv,_,h⟩:=Ae h
  subst hv;exact h
theorem Iz {e:Bk}:∀(l:List (Nat × Nat × AO)) (J:List (Nat × Nat × V)->AG) (r:V × H),Na e l J=some r->J (I0 e l)=some r
 | [],J,r,h=>h
 | (o,s,x)::l,J,r,h=>by
  simp only[Na]at h
  obtain⟨v,hv,_,h⟩:=Ae h
  have:=Iz l _ r h
  subst hv;exact this
theorem Fk {l:List V} {n:Nat} {J:V->AG} {r:V × H} (h:I2 l n J=some r):∃v,l[n]? = some v/\J v=some r:=by
 unfold I2 at h
 rw[Qn]at h
 split at h
 ·exact⟨_,‹_›,h⟩
 ·cases h
theorem Fh {l:List V} {off n:Nat} {J:List V->AG} {r:V × H} (h:GR l off n J=some r):Ag (off+n) l.length=true/\J ((l.drop off).take n)=some r:=by
 unfold GR at h
 split at h
 ·exact⟨‹_›,h⟩
 ·cases h
theorem Iy {E:EB} {Z:H} {b:Nat} {J:List V->AG} {r:V × H} (h:Yb E Z b J=some r):∃l,rd E Z b=some l/\J l=some r:=by
 unfold Yb at h
 rw[Ap]at h
 unfold rd
 split at h
 ·rename_i hb;rw[hb];exact⟨_,rfl,h⟩
 ·cases h
 ·rename_i hb
  rw[Ap]at h
  rw[hb]
  split at h
  ·rename_i he;rw[he];exact⟨_,rfl,h⟩
  ·cases h
theorem Mg {o:Option V} {d:Nat} {J:Nat->AG} {r:V × H} (h:Ru o d J=some r):∃n,GZ o d=some n/\J n=some r:=by
 unfold Ru at h
 split at h
 ·exact⟨d,rfl,h⟩
 ·split at h
  ·obtain⟨h1,h2⟩:=EX h
   exact⟨_,by simp only[GZ,if_pos h1],h2⟩
  ·cases h
theorem T9 {v:V} {J:Nat->AG} {r:V × H} (h:A0 v J=some r):∃n:Nat,J n=some r/\∀e x,B4 e x=v->BJ (.len false x) e=some (.int .i64 n):=by
 unfold A0 at h
 split at h
 ·exact⟨0,h,fun e x hx=>by simp only[BJ,hx];rfl⟩
 ·exact⟨_,h,fun e x hx=>by simp only[BJ,hx]⟩
 ·exact⟨0,h,fun e x hx=>by simp only[BJ,hx];rfl⟩
 ·cases h
theorem PF {E:EB} {Z:H} {esz:Nat} {v:V} {J:Nat->List V->AG} {r:V × H} (h:srcK E Z esz v J=some r):∃n l,CH E Z esz v=some (n,l)/\J n l=some r:=by
 unfold srcK at h
 split at h
 ·exact⟨_,_,rfl,h⟩
 ·exact⟨_,_,rfl,h⟩
 ·obtain⟨l,h1,h2⟩:=Iy h
  obtain⟨h3,h4⟩:=Fh h2
  exact⟨_,_,by simp only[CH,Ki,h1,h3,if_true];rfl,h4⟩
 ·split at h
  ·rename_i he
   rw[AU]at he
   exact⟨_,_,by simp only[CH,if_pos he],h⟩
  ·cases h
 ·cases h
structure JF (Z2 Z1:H):Prop where
 next:Z2.next=Z1.next
 sub:∀k b,look Z2.bl k=some b->look Z1.bl k=some b
theorem JF.refl (Z:H):JF Z Z:=⟨rfl,fun _ _ h=>h⟩
theorem PM (Z:H) (b:Nat) (c:Ea) (k:Nat):look (Qf Z b c).bl k=if b=k then some c else look Z.bl k:=by
 simp only[Qf,look,AU]
 by_cases h:b=k
 ·rw[if_pos h,if_pos h]
 ·rw[if_neg h,if_neg h,UG _ _ _ h]
theorem YS {Z:H} {b:Nat} {c d:Ea} (h:look Z.bl b=some d):JF (Qf Z b c) (Z.set b c):=by
 refine⟨rfl,fun k u hk=>?_⟩
 rw[PM]at hk
 simp only[H.set,EH]
 by_cases he:b=k
 ·subst he;rw[if_pos rfl]at hk;rw[if_pos rfl,h];exact hk
 ·rw[if_neg he]at hk;rw[if_neg he];exact hk
theorem YK {n b off:Nat} {v:V} {Z:H} {J:H->AG} {r:V × H} (h:FY n b off v Z J=some r) :
  ∃Z1 Z2,J Z2=some r/\JF Z2 Z1/\∀(E:EB) (e:Bk) (x y:AO),B4 e x = .ptr b off->B4 e y=v->Dz E (.store n x y) e Z=some (.dead,Z1):=by
 unfold FY at h
 rw[Ap]at h
 split at h
 ·rename_i l hb
  obtain⟨hc,h⟩:=DL h
  refine⟨_,_,h,YS hb,fun E e x y hx hy=>?_⟩
  have hc':(AK v.cells.length n&&Ag (off+n) l.length&&allOne v.cells)=true:=hc
  simp only[Dz,hx,hy,hb]
  rw[if_pos hc']
 ·cases h
theorem Pb {E:EB} {esz bytes:Nat} {s x:V} {Z:H} {J:V->H->AG} {r:V × H} (h:DI E esz bytes s x Z J=some r) :
  ∃v Z1,Cb E esz bytes s x Z=some (v,Z1)/\J v Z1=some r:=by
 unfold DI at h
 obtain⟨n,new,h1,h⟩:=PF h
 split at h
 ·rename_i b len e
  split at h
  ·exact⟨_,_,by simp only[Cb,h1];rfl,h⟩
  ·rename_i hn
   split at h
   ·rename_i l hb
    rw[Ap]at hb
    obtain⟨hc,h⟩:=DL h
    rw[Lz]at h
    refine⟨_,_,?_,h⟩
    simp only[Cb,h1]
    rw[if_neg (by omega),hb]
    simp only
    rw[if_pos hc]
    rfl
   ·cases h
 ·obtain⟨v,Z1,h2,h3⟩:=HG h
  exact⟨v,Z1,h2,h3⟩
theorem Nx {l:List (Nat × Nat × V)} {z:List V} {J:List V->AG} {r:V × H} (h:H7 l z J=some r):∃l',GY l z=some l'/\J l'=some r:=by
 unfold H7 at h
 split at h
 ·exact⟨_,‹_›,h⟩
 ·cases h
theorem U4 {E:EB} {D:Al} {id nx:Nat} {o:Dx} {e:Bk} {Z:H} {J:V->H->AG} {r:V × H} (h:Cc E D id nx o e Z J=some r) :
  (o.cls = .p/\∃v,(ET e->BJ o e=some v)/\J v Z=some r)\/(o.cls = .l/\∃v,(ET e->CO E o e Z=some v)/\J v Z=some r) \/
  (o.cls = .a/\∃v b,(ET e->CN o e id=some (v,b))/\J v ⟨nx,(id,b)::Z.bl⟩=some r) \/
  (o.cls = .k/\∃v Z1 Z2,(ET e->Dc E D o e Z=some (v,Z1))/\JF Z2 Z1/\J v Z2=some r):=by
 have P:∀{v},o.cls = .p->(ET e->BJ o e=some v)->J v Z=some r->(o.cls = .p/\∃v,(ET e->BJ o e=some v)/\J v Z=some r)\/(o.cls = .l/\∃v,(ET e->CO E o e Z=some v)/\J v Z=some r) \/
  (o.cls = .a/\∃v b,(ET e->CN o e id=some (v,b))/\J v ⟨nx,(id,b)::Z.bl⟩=some r) \/
  (o.cls = .k/\∃v Z1 Z2,(ET e->Dc E D o e Z=some (v,Z1))/\JF Z2 Z1/\J v Z2=some r):=fun h1 h2 h3 => .inl ⟨h1,_,h2,h3⟩
 have L:∀{v},o.cls = .l->(ET e->CO E o e Z=some v)->J v Z=some r->(o.cls = .p/\∃v,(ET e->BJ o e=some v)/\J v Z=some r)\/(o.cls = .l/\∃v,(ET e->CO E o e Z=some v)/\J v Z=some r) \/
  (o.cls = .a/\∃v b,(ET e->CN o e id=some (v,b))/\J v ⟨nx,(id,b)::Z.bl⟩=some r) \/
  (o.cls = .k/\∃v Z1 Z2,(ET e->Dc E D o e Z=some (v,Z1))/\JF Z2 Z1/\J v Z2=some r):=fun h1 h2 h3 => .inr (.inl ⟨h1,_,h2,h3⟩)
 have A:∀{v b},o.cls = .a->(ET e->CN o e id=some (v,b))->J v ⟨nx,(id,b)::Z.bl⟩=some r->(o.cls = .p/\∃v,(ET e->BJ o e=some v)/\J v Z=some r)\/(o.cls = .l/\∃v,(ET e->CO E o e Z=some v)/\J v Z=some r) \/
  (o.cls = .a/\∃v b,(ET e->CN o e id=some (v,b))/\J v ⟨nx,(id,b)::Z.bl⟩=some r) \/
  (o.cls = .k/\∃v Z1 Z2,(ET e->Dc E D o e Z=some (v,Z1))/\JF Z2 Z1/\J v Z2=some r):=fun h1 h2 h3 => .inr (.inr (.inl ⟨h1,_,_,h2,h3⟩))
 have K:∀{v Z1 Z2},o.cls = .k->(ET e->Dc E D o e Z=some (v,Z1))->JF Z2 Z1->J v Z2=some r->(o.cls = .p/\∃v,(ET e->BJ o e=some v)/\J v Z=some r)\/(o.cls = .l/\∃v,(ET e->CO E o e Z=some v)/\J v Z=some r) \/
  (o.cls = .a/\∃v b,(ET e->CN o e id=some (v,b))/\J v ⟨nx,(id,b)::Z.bl⟩=some r) \/
  (o.cls = .k/\∃v Z1 Z2,(ET e->Dc E D o e Z=some (v,Z1))/\JF Z2 Z1/\J v Z2=some r):=fun h1 h2 h3 h4 => .inr (.inr (.inr ⟨h1,_,_,_,h2,h3,h4⟩))
 cases o with
 | mov x=>
  simp only[Cc]at h
  obtain⟨v,hv,hl,h⟩:=Ae h
  exact P rfl (fun he=>by simp only[BJ,hv,hl he,if_true]) h
 | bin op t x y=>
  simp only[Cc]at h
  obtain⟨v,hv,hl,h⟩:=Ae h
  obtain⟨u,hu,_,h⟩:=Ae h
  obtain⟨w,hw,h⟩:=Xt h
  exact P rfl (fun he=>by simp only[BJ,hv,hu,hw]) h
 | un op x=>
  simp only[Cc]at h
  obtain⟨v,hv,hl,h⟩:=Ae h
  obtain⟨w,hw,h⟩:=YF h
  exact P rfl (fun he=>by simp only[BJ,hv,hw]) h
 | conv t x=>
  cases t with
  | toInt k=>
   simp only[Cc]at h
   obtain⟨v,hv,hl,h⟩:=Ae h
   split at h
   ·rw[DJ]at h;exact P rfl (fun he=>by simp only[BJ,hv]) h
   ·cases h
  | same=>
   simp only[Cc]at h
   obtain⟨v,hv,hl,h⟩:=Ae h
   obtain⟨s,rfl,h9⟩:=Ef h
   replace h:=h9
   exact P rfl (fun he=>by simp only[BJ,hv]) h
  | toBytes el=>
   simp only[Cc]at h
   obtain⟨v,hv,hl,h⟩:=Ae h
   obtain⟨s,rfl,h9⟩:=Ef h
   replace h:=h9
   obtain⟨hc,h⟩:=DL h
   exact A rfl (fun he=>by simp only[CN,hv,hc,if_true]) h
  | toStr=>
   simp only[Cc]at h
   obtain⟨v,hv,hl,h⟩:=Ae h
   unfold Iv at h
   split at h
   ·cases h
   ·rename_i hns
    obtain⟨n,l,h1,h2⟩:=PF h
    split at h2
    ·rename_i s hs
     have hnot:(B4 e x).isStr=false:=by
      rw[hv]
      cases v<;>first | rfl | (exact(hns _ rfl).elim)
     refine L rfl (fun he=>?_) h2
     simp only[CO,hnot]
     rw[hv,h1]
     simp[hs]
    ·cases h2
  | bad=>simp only[Cc]at h;cases h
 | nilck x=>
  simp only[Cc]at h
  obtain⟨v,hv,hl,h⟩:=Ae h
  obtain⟨b,o,rfl,h9⟩:=Dg h
  replace h:=h9
  exact P rfl (fun he=>by simp only[BJ,hv]) h
 | faddr off x=>
  simp only[Cc]at h
  obtain⟨v,hv,hl,h⟩:=Ae h
  obtain⟨b,o,rfl,h9⟩:=Dg h
  replace h:=h9
  exact P rfl (fun he=>by simp only[BJ,hv];rfl) h
 | field off n x=>
  cases n with
  | none=>
   simp only[Cc]at h
   obtain⟨v,hv,hl,h⟩:=Ae h
   obtain⟨l,rfl,h9⟩:=Eg h
   replace h:=h9
   obtain⟨u,hu,h⟩:=Fk h
   exact P rfl (fun he=>by simp only[BJ,hv,hu]) h
  | some n=>
   simp only[Cc]at h
   obtain⟨v,hv,hl,h⟩:=Ae h
   obtain⟨l,rfl,h9⟩:=Eg h
   replace h:=h9
   obtain⟨hu,h⟩:=Fh h
   exact P rfl (fun he=>by simp only[BJ,hv,hu,if_true]) h
 | extract i x=>
  simp only[Cc]at h
  obtain⟨v,hv,hl,h⟩:=Ae h
  obtain⟨l,rfl,h9⟩:=J4 h
  replace h:=h9
  obtain⟨u,hu,h⟩:=Fk h
  exact P rfl (fun he=>by simp only[BJ,hv,hu]) h
 | iaddrS esz x i=>
  simp only[Cc]at h
  obtain⟨v,hv,hl,h⟩:=Ae h
  obtain⟨u,hu,_,h⟩:=Ae h
  split at h
  ·unfold Ab at h
   split at h
   ·obtain⟨h1,h⟩:=EX h
    obtain⟨h2,h⟩:=DL h
    simp only[CC]at h2
    exact P rfl (fun he=>by simp only[BJ,hv,hu];rw[if_pos ⟨h1,by omega⟩];rfl) h
   ·cases h
  ·cases h
 | iaddrA len esz x i=>
  simp only[Cc]at h
  obtain⟨v,hv,hl,h⟩:=Ae h
  obtain⟨u,hu,_,h⟩:=Ae h
  split at h
  ·obtain⟨b,o,rfl,h9⟩:=Dg h
   replace h:=h9
   obtain⟨h1,h⟩:=EX h
   obtain⟨h2,h⟩:=DL h
   simp only[CC]at h2
   exact P rfl (fun he=>by simp only[BJ,hv,hu];rw[if_pos ⟨h1,by omega⟩];rfl) h
  ·cases h
 | idxStr x i=>
  simp only[Cc]at h
  obtain⟨v,hv,hl,h⟩:=Ae h
  obtain⟨u,hu,_,h⟩:=Ae h
  obtain⟨s,rfl,h9⟩:=Ef h
  replace h:=h9
  split at h
  ·obtain⟨h1,h⟩:=EX h
   obtain⟨h2,h⟩:=DL h
   exact P rfl (fun he=>by simp only[BJ,hv,hu];rw[if_pos h1,if_pos h2];rfl) h
  ·cases h
 | len b x=>
  cases b with
  | true=>
   simp only[Cc]at h
   obtain⟨v,hv,hl,h⟩:=Ae h
   obtain⟨s,rfl,h9⟩:=Ef h
   replace h:=h9
   exact P rfl (fun he=>by simp only[BJ,hv];rfl) h
  | false=>
   simp only[Cc]at h
   obtain⟨v,hv,hl,h⟩:=Ae h
   obtain⟨n,h1,h2⟩:=T9 h
   exact P rfl (fun _=>h2 e x hv) h1
 | lenC n=>simp only[Cc]at h;exact P rfl (fun he=>by simp only[BJ];rfl) h
 | sliceStr x lo hi=>
  simp only[Cc]at h
  obtain⟨v,hv,hl,h⟩:=Ae h
  have h:=D4 h
  have h:=D4 h
  obtain⟨s,rfl,h9⟩:=Ef h
  replace h:=h9
  unfold Ek at h
  obtain⟨a,ha,h⟩:=Mg h
  obtain⟨b,hb,h⟩:=Mg h
  obtain⟨hc,h⟩:=DL h
  exact P rfl (fun he=>by simp only[BJ,hv,H2,ha,hb,hc,if_true]) h
 | sliceSl esz x lo hi mx=>
  simp only[Cc]at h
  obtain⟨v,hv,hl,h⟩:=Ae h
  have h:=D4 h
  have h:=D4 h
  have h:=D4 h
  obtain⟨u,hu,h⟩:=Jc h
  exact P rfl (fun he=>by simp only[BJ,hv,hu]) h
 | sliceArr n esz x lo hi mx=>
  simp only[Cc]at h
  obtain⟨v,hv,hl,h⟩:=Ae h
  have h:=D4 h
  have h:=D4 h
  have h:=D4 h
  obtain⟨u,hu,h⟩:=Jc h
  exact P rfl (fun he=>by simp only[BJ,hv,hu]) h
 | mkifc t x=>
  simp only[Cc]at h
  obtain⟨v,hv,hl,h⟩:=Ae h
  exact P rfl (fun he=>by simp only[BJ,hv,hl he,if_true]) h
 | mkfn f a c=>
  simp only[Cc]at h
  obtain⟨h1,h⟩:=Ei _ _ _ h
  obtain⟨h2,h⟩:=Ei _ _ _ h
  exact P rfl (fun he=>by simp only[BJ,h1 he,h2 he,Bool.and_self,if_true]) h
 | build z ps=>
  simp only[Cc]at h
  have h:=Iz _ _ _ h
  obtain⟨l',hf,h⟩:=Nx h
  exact P rfl (fun he=>by simp only[BJ,hf]) h
 | cap x=>
  simp only[Cc]at h
  obtain⟨v,hv,hl,h⟩:=Ae h
  split at h
  ·exact P rfl (fun he=>by simp only[BJ,hv]) h
  ·exact P rfl (fun he=>by simp only[BJ,hv];rfl) h
  ·cases h
 | min x l=>
  simp only[Cc]at h
  obtain⟨v,hv,hl,h⟩:=Ae h
  obtain⟨_,h⟩:=Ei _ _ _ h
  obtain⟨u,hu,h⟩:=Jc h
  split at h
  ·exact P rfl (fun he=>by simp only[BJ,hv,hu]) h
  ·cases h
 | max x l=>
  simp only[Cc]at h
  obtain⟨v,hv,hl,h⟩:=Ae h
  obtain⟨_,h⟩:=Ei _ _ _ h
  obtain⟨u,hu,h⟩:=Jc h
  split at h
  ·exact P rfl (fun he=>by simp only[BJ,hv,hu]) h
  ·cases h
 | load n x=>
  cases n with
  | none=>
   simp only[Cc]at h
   obtain⟨v,hv,hl,h⟩:=Ae h
   obtain⟨b,o,rfl,h9⟩:=Dg h
   replace h:=h9
   obtain⟨l,hr,h⟩:=Iy h
   obtain⟨u,hu,h⟩:=Fk h
   exact L rfl (fun he=>by simp only[CO,hv,hr,hu]) h
  | some n=>
   simp only[Cc]at h
   obtain⟨v,hv,hl,h⟩:=Ae h
   obtain⟨b,o,rfl,h9⟩:=Dg h
   replace h:=h9
   obtain⟨l,hr,h⟩:=Iy h
   obtain⟨hu,h⟩:=Fh h
   exact L rfl (fun he=>by simp only[CO,hv,Ki,hr,hu,if_true]) h
 | alloc el z=>simp only[Cc]at h;exact A rfl (fun he=>by simp only[CN]) h
 | box el x=>
  simp only[Cc]at h
  obtain⟨v,hv,hl,h⟩:=Ae h
  obtain⟨hc,h⟩:=DL h
  exact A rfl (fun he=>by simp only[CN,hv,hl he,hc,Bool.and_self,if_true]) h
 | buildSlice el n z ps=>
  simp only[Cc]at h
  have h:=Iz _ _ _ h
  obtain⟨l',hf,h⟩:=Nx h
  obtain⟨hc,h⟩:=DL h
  exact A rfl (fun he=>by simp only[CN,hf,hc,if_true]) h
 | mkslice el esz bytes z len cap=>
  simp only[Cc]at h
  obtain⟨v,hv,_,h⟩:=Ae h
  obtain⟨u,hu,_,h⟩:=Ae h
  split at h
  ·obtain⟨h1,h⟩:=EX h
   obtain⟨h2,h⟩:=EX h
   obtain⟨hc,h⟩:=DL h
   simp only[AF,A1]at hc
   obtain⟨⟨c1,c2⟩,c3⟩:=hc
   refine A rfl (fun he=>?_) h
   simp only[CN,hv,hu]
   have hcb:∀c:Int,0<=c->c*bytes=((c.toNat*bytes:Nat):Int):=fun c h2=>by rw[Int.natCast_mul,Int.toNat_of_nonneg h2]
   rw[if_pos ⟨h1,by omega,by rw[hcb _ h2];omega,by omega⟩]
  ·cases h
 | store n x v=>
  simp only[Cc]at h
  obtain⟨p,hp,_,h⟩:=Ae h
  obtain⟨u,hu,_,h⟩:=Ae h
  obtain⟨b,o,rfl,h9⟩:=Dg h
  replace h:=h9
  obtain⟨Z1,Z2,h1,h2,h3⟩:=YK h
  exact K rfl (fun he=>by simp only[Dc,fi,Dx.cls];exact h3 E e x v hp hu) h2 h1
 | append el esz bytes s x=>
  simp only[Cc]at h
  obtain⟨p,hp,_,h⟩:=Ae h
  obtain⟨u,hu,_,h⟩:=Ae h
  obtain⟨v,Z1,h1,h2⟩:=Pb h
  exact K rfl (fun he=>by simp only[Dc,fi,Dx.cls,Dz,hp,hu];exact h1) (JF.refl _) h2
 | copy esz d s=>
  simp only[Cc]at h
  obtain⟨p,hp,_,h⟩:=Ae h
  obtain⟨u,hu,_,h⟩:=Ae h
  obtain⟨v,Z1,h1,h2⟩:=HG h
  exact K rfl (fun he=>by simp only[Dc,fi,Dx.cls];rw[aK,hp,hu];exact h1) (JF.refl _) h2
 | call f args=>
  simp only[Cc]at h
  obtain⟨h1,h⟩:=Ei _ _ _ h
  obtain⟨v,Z1,h2,h3⟩:=HG h
  exact K rfl (fun he=>by simp only[Dc,h1 he,if_true];exact h2) (JF.refl _) h3
 | callv f args=>
  simp only[Cc]at h
  obtain⟨p,hp,_,h⟩:=Ae h
  obtain⟨h1,h⟩:=Ei _ _ _ h
  unfold GV at h
  split at h
  ·obtain⟨v,Z1,h2,h3⟩:=HG h
   exact K rfl (fun he=>by simp only[Dc,hp,h1 he,if_true];exact h2) (JF.refl _) h3
  ·cases h
 | mkmap=>simp only[Cc]at h;exact A rfl (fun he=>by simp only[CN]) h
 | lookup t z m x=>
  simp only[Cc]at h
  obtain⟨p,hp,_,h⟩:=Ae h
  obtain⟨u,hu,_,h⟩:=Ae h
  obtain⟨v,hv,h⟩:=Jc h
  exact L rfl (fun he=>by simp only[CO,hp,hu];exact hv) h
 | mapset t m k v=>
  simp only[Cc]at h
  obtain⟨p,hp,_,h⟩:=Ae h
  obtain⟨u,hu,_,h⟩:=Ae h
  obtain⟨x,hx,_,h⟩:=Ae h
  obtain⟨y,Z1,h1,h2⟩:=HG h
  exact K rfl (fun he=>by simp only[Dc,fi,Dx.cls,Dz,hp,hu,hx];exact h1) (JF.refl _) h2
 | alloc0 el=>simp only[Cc]at h;exact A rfl (fun he=>by simp only[CN]) h
 | box0 el x=>
  simp only[Cc]at h
  obtain⟨v,hv,hl,h⟩:=Ae h
  split at h
  ·exact A rfl (fun he=>by simp only[CN,hv]) h
  ·cases h
 | load0 x=>
  simp only[Cc]at h
  obtain⟨v,hv,hl,h⟩:=Ae h
  obtain⟨b,o,rfl,h9⟩:=Dg h
  replace h:=h9
  exact P rfl (fun he=>by simp only[BJ,hv]) h
 | store0 x v=>
  simp only[Cc]at h
  obtain⟨p,hp,_,h⟩:=Ae h
  obtain⟨u,hu,_,h⟩:=Ae h
  split at h
  ·exact K rfl (fun he=>by simp only[Dc,fi,Dx.cls,Dz,hp,hu]) (JF.refl _) h
  ·cases h
 | faddr0 t x=>
  simp only[Cc]at h
  obtain⟨p,hp,_,h⟩:=Ae h
  obtain⟨v,hv,h⟩:=Jc h
  exact L rfl (fun he=>by simp only[CO,hp];exact hv) h
 | idxArr n esz s x i=>
  cases s with
  | none=>
   simp only[Cc]at h
   obtain⟨p,hp,_,h⟩:=Ae h
   obtain⟨u,hu,_,h⟩:=Ae h
   obtain⟨l,rfl,h9⟩:=Eg h
   replace h:=h9
   split at h
   ·obtain⟨h1,h⟩:=EX h
    obtain⟨hc,h⟩:=DL h
    obtain⟨v,hv,h⟩:=Fk h
    simp only[CC]at hc
    exact P rfl (fun he=>by simp only[BJ,hp,hu,KI];rw[if_pos ⟨h1,by omega⟩];exact hv) h
   ·cases h
  | some s=>
   simp only[Cc]at h
   obtain⟨p,hp,_,h⟩:=Ae h
   obtain⟨u,hu,_,h⟩:=Ae h
   obtain⟨l,rfl,h9⟩:=Eg h
   replace h:=h9
   split at h
   ·obtain⟨h1,h⟩:=EX h
    obtain⟨hc,h⟩:=DL h
    obtain⟨hv,h⟩:=Fh h
    simp only[CC]at hc
    exact P rfl (fun he=>by simp only[BJ,hp,hu,KI];rw[if_pos ⟨h1,by omega⟩];simp only[Nat.mul_eq]at hv ⊢;rw[if_pos hv]) h
   ·cases h
 | pick c a b=>simp only[Cc]at h;cases h
 | bad=>simp only[Cc]at h;cases h
inductive Out where
 | val (v:V) (r:Rg) (Z:H)
 | mark (m off:Nat)
inductive FZ (E:EB) (D:Al) (pw:Bool) (id nx:Nat) (o:Dx) (e:Bk) (q:Qs) (r:Rg) (Z:H):Out->Prop where
 | p (v:V) (hc:o.cls = .p) (h:ET e->BJ o e=some v):FZ E D pw id nx o e q r Z (.val v r Z)
 | l (v:V) (hc:o.cls = .l) (h:ET e->CO E o e Z=some v):FZ E D pw id nx o e q r Z (.val v r Z)
 | a (v:V) (b:Ea) (hc:o.cls = .a) (h:ET e->CN o e id=some (v,b)):FZ E D pw id nx o e q r Z (.val v r ⟨nx,(id,b)::Z.bl⟩)
 | k (v:V) (Z1 Z2:H) (hc:o.cls = .k) (h:ET e->Dc E D o e Z=some (v,Z1)) (hs:JF Z2 Z1):FZ E D pw id nx o e q r Z (.val v r Z2)
 | mv (x:AO) (m off:Nat) (ho:o = .mov x\/o = .nilck x) (hm:Eo q x=some (m,off)):FZ E D pw id nx o e q r Z (.mark m off)
 | fa (d:Nat) (x:AO) (m off:Nat) (ho:o = .faddr d x) (hm:Eo q x=some (m,off)):FZ E D pw id nx o e q r Z (.mark m (off+d))
 | ld (x:AO) (m off:Nat) (l:List V) (v:V) (ho:o = .load none x) (hm:Eo q x=some (m,off)) (hl:look r m=some l) (h:l[off]? = some v):FZ E D pw id nx o e q r Z (.val v r Z)
 | ldn (n:Nat) (x:AO) (m off:Nat) (l:List V) (ho:o = .load (some n) x) (hm:Eo q x=some (m,off)) (hl:look r m=some l) (h:off+n<=l.length):FZ E D pw id nx o e q r Z (.val (.agg ((l.drop off).take n)) r Z)
 | st (n:Nat) (x y:AO) (m off:Nat) (l cs:List V) (u:V) (hw:pw=true) (ho:o = .store n x y) (hm:Eo q x=some (m,off)) (hl:look r m=some l) (hn:Eo q y=none) (hu:B4 e y=u) (hlu:ET e->u.live=true)
   (hcs:cs=u.cells) (h1:allOne cs=true) (hlen:cs.length=n) (h:off+n<=l.length):FZ E D pw id nx o e q r Z (.val .dead (IL r m (HQ l off cs)) Z)
theorem W2 {v:V} (h:v.one=true):v.cells=[v]:=by cases v<;>first | rfl | cases h
theorem TQ {ty:Co} {v:V} {J:List V->AG} {r:V × H} (h:UU ty v J=some r):allOne v.cells=true/\J v.cells=some r:=by
 unfold UU at h
 split at h
 ·obtain⟨l,rfl,h2⟩:=Eg h
  obtain⟨hc,h2⟩:=DL h2
  exact⟨hc,h2⟩
 ·obtain⟨h1,h2⟩:=J5 h
  rw[W2 h1]
  exact⟨by simp[allOne,h1],h2⟩
theorem gQ {ty:Co} {v:V} {J:V->AG} {r:V × H} (h:rt ty v J=some r) (hk:ty.known=true):v.live=true:=by
 cases ty with
 | any=>cases hk
 | int k=>simp only[rt]at h;obtain⟨n,rfl,_⟩:=NX h;rfl
 | bool=>simp only[rt]at h;obtain⟨n,rfl,_⟩:=Em h;rfl
 | str=>simp only[rt]at h;obtain⟨n,rfl,_⟩:=Ef h;rfl
 | ptr=>simp only[rt]at h;obtain⟨b,o,rfl,_⟩:=Dg h;rfl
 | one=>simp only[rt]at h;have:=(J5 h).1;cases v<;>first | rfl | cases this
 | agg ts=>simp only[rt]at h;obtain⟨l,rfl,_⟩:=Eg h;rfl
 | tup ts=>simp only[rt]at h;obtain⟨l,rfl,_⟩:=J4 h;rfl
theorem Y3 {E:EB} {D:Al} {pw:Bool} {id nx:Nat} {o:Dx} {ty:Co} {e:Bk} {q:Qs} {r:Rg} {Z:H} {J:V->Rg->H->AG} {Jm:Nat->Nat->AG} {res:V × H}
  (h:fg E D pw id nx o ty e q r Z J Jm=some res) :
  ∃out,FZ E D pw id nx o e q r Z out/\(match out with
   | .val v r' Z'=>J v r' Z'=some res/\((∃n x y,o = .store n x y)\/o.cls ≠ .k\/ty.known=false\/v.live=true)
   | .mark m off=>Jm m off=some res):=by
 have gen:(Cc E D id nx o e Z fun v Z'=>rt ty v fun v'=>J v' r Z')=some res->∃out,FZ E D pw id nx o e q r Z out/\(match out with
   | .val v r' Z'=>J v r' Z'=some res/\((∃n x y,o = .store n x y)\/o.cls ≠ .k\/ty.known=false\/v.live=true)
   | .mark m off=>Jm m off=some res):=by
  intro h
  rcases U4 h with ⟨hc,v,h1,h2⟩|⟨hc,v,h1,h2⟩|⟨hc,v,b,h1,h2⟩|⟨hc,v,Z1,Z2,h1,h2,h3⟩
  ·exact⟨_,.p v hc h1,Gf _ _ _ _ h2,.inr (.inl (by rw[hc];intro h;cases h))⟩
  ·exact⟨_,.l v hc h1,Gf _ _ _ _ h2,.inr (.inl (by rw[hc];intro h;cases h))⟩
  ·exact⟨_,.a v b hc h1,Gf _ _ _ _ h2,.inr (.inl (by rw[hc];intro h;cases h))⟩
  ·refine⟨_,.k v Z1 Z2 hc h1 h2,Gf _ _ _ _ h3,?_⟩
   cases hk:ty.known with
   | false=>exact .inr (.inr (.inl rfl))
   | true=>exact .inr (.inr (.inr (gQ h3 hk)))
 have np:∀{c:Cls},c = .p\/c = .l->c ≠ .k:=by rintro c (rfl | rfl)<;>(intro h;cases h)
 cases o with
 | mov x=>
  simp only[fg]at h
  split at h
  ·rename_i m off hm;exact⟨_,.mv x m off (.inl rfl) hm,h⟩
  ·exact gen h
 | nilck x=>
  simp only[fg]at h
  split at h
  ·rename_i m off hm;exact⟨_,.mv x m off (.inr rfl) hm,h⟩
  ·exact gen h
 | faddr d x=>
  simp only[fg]at h
  split at h
  ·rename_i m off hm;exact⟨_,.fa d x m off rfl hm,h⟩
  ·exact gen h
 | load n x=>
  cases n with
  | none=>
   simp only[fg]at h
   split at h
   ·rename_i m off hm
    split at h
    ·rename_i l hl
     obtain⟨v,hv,h⟩:=Fk h
     exact⟨_,.ld x m off l v rfl hm hl hv,Gf _ _ _ _ h,.inr (.inl (by intro h;cases h))⟩
    ·cases h
   ·exact gen h
  | some n=>
   simp only[fg]at h
   split at h
   ·rename_i m off hm
    split at h
    ·rename_i l hl
     obtain⟨hv,h⟩:=Fh h
     exact⟨_,.ldn n x m off l rfl hm hl (by simpa using hv),Gf _ _ _ _ h,.inr (.inl (by intro h;cases h))⟩
    ·cases h
   ·exact gen h
 | store n x v=>
  simp only[fg]at h
  split at h
  ·rename_i m off hm
   split at h
   ·rename_i l hl
    split at h
    ·rename_i hn
     obtain⟨u,hu,hlu,h⟩:=Ae h
     obtain⟨h1,h⟩:=TQ h
     obtain⟨hc,h⟩:=DL h
     simp only[AF,AU,A1]at hc
     exact⟨_,.st n x v m off l u.cells u rfl rfl hm hl hn hu hlu rfl h1 hc.1 hc.2,h,.inl ⟨n,x,v,rfl⟩⟩
    ·cases h
   ·cases h
  ·have h:(Cc E D id nx (.store n x v) e Z fun v Z'=>J v r Z')=some res:=h
   rcases U4 h with ⟨hc,v,h1,h2⟩|⟨hc,v,h1,h2⟩|⟨hc,v,b,h1,h2⟩|⟨hc,v,Z1,Z2,h1,h2,h3⟩
   ·cases hc
   ·cases hc
   ·cases hc
   ·exact⟨_,.k v Z1 Z2 hc h1 h2,h3,.inl ⟨_,_,_,rfl⟩⟩
 | _=>exact gen (by simpa only [fg]using h)
variable {P:Program} {D:Al} {C:Cx} {R:Ren} {Z:H} {w w':World}
abbrev Bs:=Nat->Option BI
structure Tl (C:Cx) (R:Ren) (B:Bs) (r:Rg) (Z:H) (w:World):Prop where
 at_:∀m i,B m=some i->C.O i.blk/\∃l,look r m=some l/\EP R i (.cells l) w
 inj:∀m m' i i',B m=some i->B m'=some i'->i.blk=i'.blk->m=m'
 apart:∀m i,B m=some i->∀id b j,look Z.bl id=some b->R id=some j->j.blk≠i.blk
structure Gu (R:Ren) (e:Bk) (tmps:Array Value):Prop where
 at_:∀(k:Nat) (v:V),look e k=some v->∃x,tmps[k]? = some x/\Am R v=some x
structure SK (B:Bs) (q:Qs) (tmps:Array Value):Prop where
 at_:∀(k m off:Nat),look q k=some (m,off)->∃i,B m=some i/\tmps[k]? = some (.pointer (some ⟨i.blk,i.shift+off,none⟩))
theorem LC {v:V} {x:Value} (h:Am R v=some x):v.live=true:=by
 cases v<;>first | rfl | (simp[Am]at h)
theorem Gu.env {e:Bk} {tmps:Array Value} (h:Gu R e tmps):Bf R e tmps:=⟨fun k v hk => .inr (h.at_ k v hk)⟩
theorem Gu.live {e:Bk} {tmps:Array Value} (h:Gu R e tmps):ET e:=fun t v ht=>by
 obtain⟨x,_,hx⟩:=h.at_ t v ht
 exact LC hx
theorem Gu.mono {R':Ren} {e:Bk} {tmps:Array Value} (h:Gu R e tmps) (hle:Le R R'):Gu R' e tmps:=
 ⟨fun k v hk=>by obtain⟨x,h1,h2⟩:=h.at_ k v hk;exact⟨x,h1,CV hle v x h2⟩⟩
theorem DO.frame (h:DO C R Z w) (hold:∀blk,blk<w.heap.size->((∃id b j,look Z.bl id=some b/\R id=some j/\j.blk=blk)\/¬C.O blk)->w'.heap[blk]? = w.heap[blk]?)
  (hsz:w.heap.size<=w'.heap.size) (hos:w'.os=w.os) (htape:w'.tape=w.tape) (hout:w'.output=w.output):DO C R Z w':=by
 refine⟨h.fresh,?_,h.inj,?_,h.glob,?_,BO h.size hsz,h.new,hos.trans h.os,htape.trans h.tape,hout.trans h.output⟩
 ·intro id b hb
  obtain⟨i,hi,hO,hok⟩:=h.own id b hb
  exact⟨i,hi,hO,hok.mono (Le.refl _) (hold _ hok.lt (.inl ⟨id,b,i,hb,hi,rfl⟩))⟩
 ·intro id b hb
  obtain⟨i,hi,hn,hok⟩:=h.ext id b hb
  refine⟨i,hi,hn,hok.mono (Le.refl _) (hold _ ?_ (.inr hn))⟩
  rcases Ax i.blk w.heap.size with hl|hl
  ·exact hl
  ·exact absurd (h.new _ (BO h.size hl)) hn
 ·intro blk hn
  rw[<-h.fr blk hn]
  rcases Ax blk w.heap.size with hl|hl
  ·exact hold _ hl (.inr hn)
  ·exact absurd (h.new _ (BO h.size hl)) hn
theorem Tl.mono {R':Ren} {B:Bs} {r:Rg} {Z':H} (h:Tl C R B r Z w) (hle:Le R R') (hold:∀m i,B m=some i->w'.heap[i.blk]? = w.heap[i.blk]?)
  (hap:∀m i,B m=some i->∀id b j,look Z'.bl id=some b->R' id=some j->j.blk≠i.blk):Tl C R' B r Z' w' where
 at_ m i hm:=by
  obtain⟨hO,l,hl,hok⟩:=h.at_ m i hm
  exact⟨hO,l,hl,hok.mono hle (hold m i hm)⟩
 inj:=h.inj
 apart:=hap
theorem Tl.lt {B:Bs} {r:Rg} (h:Tl C R B r Z w) {m:Nat} {i:BI} (hm:B m=some i):i.blk<w.heap.size:=by
 obtain⟨_,l,_,hok⟩:=h.at_ m i hm
 exact hok.lt
theorem Tl.one (h:DO C R Z w) {B:Bs} {r:Rg} (hp:Tl C R B r Z w) {m:Nat} {i:BI} (hm:B m=some i) {l:List V} (hl:look r m=some l) :
  DO { C with O:=fun blk=>blk=i.blk\/w.heap.size<=blk,w0:=w } (Hy R Z.next i) ⟨Z.next+1,[(Z.next,.cells l)]⟩ w:=by
 have hle:Le R (Hy R Z.next i):=(EG R Z.next i).le h.fresh
 obtain⟨hO,l',hl',hok⟩:=hp.at_ m i hm
 rw[hl]at hl';cases hl'
 have hsub:∀blk,(blk=i.blk\/w.heap.size<=blk)->C.O blk:=by
  rintro blk (rfl|hg)
  ·exact hO
  ·exact h.new _ (BO h.size hg)
 have hlook:∀id b,look [(Z.next,Ea.cells l)] id=some b->id=Z.next/\b = .cells l:=by
  intro id b hb
  simp only[look,AU]at hb
  split at hb
  ·rename_i he;cases hb;exact⟨he.symm,rfl⟩
  ·cases hb
 refine⟨?_,?_,?_,?_,?_,fun _ _=>rfl,AQ _,fun _ hb => .inr hb,rfl,rfl,rfl⟩
 ·intro id hid
  have hid':Z.next+1<=id:=hid
  rw[Bb (by omega)];exact h.fresh id (by omega)
 ·intro id b hb
  obtain⟨rfl,rfl⟩:=hlook id b hb
  exact⟨i,B0 _ _ _,.inl rfl,hok.mono hle rfl⟩
 ·intro id id' b b' j j' hb hb' _ _ _
  rw[(hlook id b hb).1,(hlook id' b' hb').1]
 ·intro id b hb
  obtain⟨j,hj,hn,hk⟩:=h.ext id b hb
  exact⟨j,hle _ _ hj,fun ho=>hn (hsub _ ho),hk.mono hle rfl⟩
 ·intro g hg
  obtain⟨j,hj,hb⟩:=h.glob g hg
  exact⟨j,hle _ _ hj,hb⟩
theorem Bf.cons {e:Bk} {tmps:Array Value} (h:Bf R e tmps) {t:Nat} {v:V} {x:Value} (ht:tmps[t]? = some x) (hv:Am R v=some x):Bf R ((t,v)::e) tmps:=by
 refine⟨fun k u hk=>?_⟩
 simp only[look,AU]at hk
 split at hk
 ·rename_i he;subst he;cases hk;exact .inr ⟨x,ht,hv⟩
 ·exact h.at_ k u hk
theorem G9 {α:Type} {l:List (Nat × α)} {m:Nat} {a c:α} (h:look l m=some a) (k:Nat):look (IL l m c) k=if m=k then some c else look l k:=by
 rw[EH]
 by_cases he:m=k
 ·subst he;rw[if_pos rfl,if_pos rfl,h];rfl
 ·rw[if_neg he,if_neg he]
structure SL (C:Cx) (R:Ren) (B:Bs) (r:Rg) (Z:H) (w:World):Prop where
 rel:DO C R Z w
 priv:Tl C R B r Z w
theorem Kq (hD:∀f,CB P C.E C.G f (D f)) {B:Bs} {r:Rg} (hm:SL C R B r Z w) {a:Act} {e:Bk} {q:Qs} (he:Gu R e a.tmps) (hq:SK B q a.tmps)
    (o:Oper) {pw:Bool} {id nx:Nat} (hid:R id=none) (hlt:id<nx) (hnx:Z.next<=nx) {out:Out} (h:FZ C.E D pw id nx (Ad P C.G o.op) e q r Z out) (K:Act->World->Prop) (Q:Exit->Act->World->Prop)
    (hV:∀v r' Z',out = .val v r' Z'->∀R' w' x,Le R R'->(∀k,k<Z.next->k≠id->R' k=R k)->Z.next<=Z'.next->SL C R' B r' Z' w'->((v = .dead/\(Ad P C.G o.op).cls = .k)\/Am R' v=some x)->K (a.put o.dst x) w')
    (hM:∀m off,out = .mark m off->∀i,B m=some i->K (a.put o.dst (.pointer (some ⟨i.blk,i.shift+off,none⟩))) w):o.wp P a w K Q:=by
  obtain⟨hrel,hpriv⟩:=hm
  have hg:=hrel.globOk
  have hmark:∀x m off,Eo q x=some (m,off)->∃t i,x = .tmp t/\B m=some i/\a.tmps[t]? = some (.pointer (some ⟨i.blk,i.shift+off,none⟩)):=by
    intro x m off hx
    cases x with
    | con v=>cases hx
    | tmp t=>
      obtain⟨i,h1,h2⟩:=hq.at_ t m off hx
      exact⟨t,i,rfl,h1,h2⟩
  have hle2:∀i,Le R (Hy R Z.next i):=fun i=>(EG R Z.next i).le hrel.fresh
  have hg2:∀i,DX C.G (Hy R Z.next i):=fun i g hgg=>by
    obtain⟨j,hj,hb⟩:=hg g hgg
    exact⟨j,hle2 i _ _ hj,hb⟩
  have hcp:∀i off,Am (Hy R Z.next i) (.ptr Z.next off)=some (.pointer (some ⟨i.blk,i.shift+off,none⟩)):=fun i off=>Ci (B0 _ _ _)
  cases h with
  | p v hc h=>
    replace h:=h he.live
    obtain⟨x,hx,hrun⟩:=LY (a:=a) (P:=P) he.env hg o h w
    unfold Oper.wp;rw[hrun]
    exact hV v r Z rfl R w x (Le.refl _) (fun _ _ _=>rfl) (AQ _) ⟨hrel,hpriv⟩ (.inr hx)
  | l v hc h=>
    replace h:=h he.live
    obtain⟨x,hx,hrun⟩:=LZ (a:=a) (P:=P) hrel he.env o h
    unfold Oper.wp;rw[hrun]
    exact hV v r Z rfl R w x (Le.refl _) (fun _ _ _=>rfl) (AQ _) ⟨hrel,hpriv⟩ (.inr hx)
  | a v b hc h=>
    replace h:=h he.live
    obtain⟨x,w',i,hrun,hn,hi,hx,hok⟩:=NI (a:=a) (P:=P) he.env hg o h hid w
    unfold Oper.wp;rw[hrun]
    have hle:Le R (Hy R id i):=fun k j hk=>by
      by_cases hke:k=id
      · subst hke;rw[hid]at hk;cases hk
      · rw[Bb hke];exact hk
    have hrel1:DO C R ⟨nx,Z.bl⟩ w:=hrel.congr (fun k hk=>hrel.fresh k (BO hnx hk)) (fun _ _ hb=>hb)
    have hrel2:DO C (Hy R id i) ⟨nx,(id,b)::Z.bl⟩ w':=by
      refine hrel1.allocAt hid hlt hn b i hi hok rfl (fun k=>?_)
      simp only[look,AU]
      by_cases hk:k=id
      · subst hk;simp
      · rw[if_neg (Ne.symm hk),if_neg hk]
    refine hV v r _ rfl (Hy R id i) w' x hle (fun k _ hk=>Bb hk) hnx ⟨hrel2,hpriv.mono hle (fun m j hj=>hn.old _ (hpriv.lt hj)) (fun m j hj k c j' hk hj'=>?_)⟩ (.inr hx)
    simp only[look,AU]at hk
    split at hk
    · rename_i he';subst he'
      rw[B0]at hj';cases hj'
      have:=hpriv.lt hj
      omega
    · rename_i he'
      rw[Bb (Ne.symm he')]at hj'
      exact hpriv.apart m j hj k c j' hk hj'
  | k v Z1 Z2 hc h hs=>
    replace h:=h he.live
    have hsh:DO (C.sub R Z w) R Z w:=hrel.shrink (Zs:=Z) rfl (fun _ _ hb=>hb)
    refine NH (C:=C.sub R Z w) hD rfl rfl hsh he.env o h K Q (fun R' w' x hx hn hrel' hv=>?_)
    have hle:Le R R':=hx.le hrel.fresh
    have hno:∀m i,B m=some i->¬(C.sub R Z w).O i.blk:=by
      rintro m i hm (hg|⟨k,b,j,hb,hj,hbl⟩)
      · have:=hpriv.lt hm;omega
      · exact hpriv.apart m i hm k b j hb hj hbl
    have hrel2:DO C R' Z1 w':=hrel.regrow (Zs:=Z) (fun _ _ hb=>hb) hrel' hx rfl (fun k b hk => .inl hk)
    have hrel3:DO C R' Z2 w':=hrel2.congr (fun k hk=>hrel2.fresh k (by rw[<-hs.next];exact hk)) hs.sub
    have hv:(v = .dead/\(Ad P C.G o.op).cls = .k)\/Am R' v=some x:=hv.imp (fun h=>⟨h,hc⟩) (fun h=>h)
    refine hV v r Z2 rfl R' w' x hle (fun k hk _=>hx k hk) (by rw[hs.next];exact hn) ⟨hrel3,hpriv.mono hle (fun m i hm=>hrel'.fr _ (hno m i hm)) (fun m i hm k b j hk hj hbl=>?_)⟩ hv
    obtain⟨j',hj',hO,_⟩:=hrel'.own k b (hs.sub k b hk)
    rw[hj]at hj';cases hj'
    exact hno m i hm (hbl ▸ hO)
  | mv x m off ho hmx=>
    obtain⟨t,i,rfl,hB,ht⟩:=hmark x m off hmx
    have he2:Bf (Hy R Z.next i) [(t,.ptr Z.next off)] a.tmps:=Bf.cons ⟨fun k v hk=>by simp[look]at hk⟩ ht (hcp i off)
    have hap:BJ (Ad P C.G o.op) [(t,.ptr Z.next off)]=some (.ptr Z.next off):=by
      have hop:B4 [(t,V.ptr Z.next off)] (.tmp t) = .ptr Z.next off:=by simp[B4,Ft,look]
      rcases ho with ho|ho<;>rw[ho]<;>simp only[BJ,hop,V.live,if_true]
    obtain⟨x,hx,hrun⟩:=LY (a:=a) (P:=P) he2 (hg2 i) o hap w
    rw[hcp i off]at hx;cases hx
    unfold Oper.wp;rw[hrun]
    exact hM m off rfl i hB
  | fa d x m off ho hmx=>
    obtain⟨t,i,rfl,hB,ht⟩:=hmark x m off hmx
    have he2:Bf (Hy R Z.next i) [(t,.ptr Z.next off)] a.tmps:=Bf.cons ⟨fun k v hk=>by simp[look]at hk⟩ ht (hcp i off)
    have hap:BJ (Ad P C.G o.op) [(t,.ptr Z.next off)]=some (.ptr Z.next (off+d)):=by
      have hop:B4 [(t,V.ptr Z.next off)] (.tmp t) = .ptr Z.next off:=by simp[B4,Ft,look]
      rw[ho];simp only[BJ,hop]
    obtain⟨x,hx,hrun⟩:=LY (a:=a) (P:=P) he2 (hg2 i) o hap w
    rw[hcp i (off+d)]at hx;cases hx
    unfold Oper.wp;rw[hrun]
    exact hM m (off+d) rfl i hB
  | ld x m off l v ho hmx hl h=>
    obtain⟨t,i,rfl,hB,ht⟩:=hmark x m off hmx
    have hr2:=hpriv.one hrel hB hl
    have he2:Bf (Hy R Z.next i) [(t,.ptr Z.next off)] a.tmps:=Bf.cons ⟨fun k v hk=>by simp[look]at hk⟩ ht (hcp i off)
    have hap:CO C.E (Ad P C.G o.op) [(t,.ptr Z.next off)] ⟨Z.next+1,[(Z.next,.cells l)]⟩=some v:=by
      have hop:B4 [(t,V.ptr Z.next off)] (.tmp t) = .ptr Z.next off:=by simp[B4,Ft,look]
      rw[ho];simp[CO,hop,rd,look,h]
    obtain⟨x,hx,hrun⟩:=LZ (a:=a) (P:=P) hr2 he2 o hap
    unfold Oper.wp;rw[hrun]
    obtain⟨_,l',hl',hok⟩:=hpriv.at_ m i hB
    rw[hl]at hl';cases hl'
    obtain⟨arr,el,lo,hi,_,hh,_⟩:=hok
    obtain⟨y,hy,_⟩:=hh off v h
    have hyx:=CV (hle2 i) v y hy
    rw[hx]at hyx;cases hyx
    exact hV v r Z rfl R w x (Le.refl _) (fun _ _ _=>rfl) (AQ _) ⟨hrel,hpriv⟩ (.inr hy)
  | ldn n x m off l ho hmx hl h=>
    obtain⟨t,i,rfl,hB,ht⟩:=hmark x m off hmx
    have hr2:=hpriv.one hrel hB hl
    have he2:Bf (Hy R Z.next i) [(t,.ptr Z.next off)] a.tmps:=Bf.cons ⟨fun k v hk=>by simp[look]at hk⟩ ht (hcp i off)
    have hap:CO C.E (Ad P C.G o.op) [(t,.ptr Z.next off)] ⟨Z.next+1,[(Z.next,.cells l)]⟩=some (.agg ((l.drop off).take n)):=by
      have hop:B4 [(t,V.ptr Z.next off)] (.tmp t) = .ptr Z.next off:=by simp[B4,Ft,look]
      rw[ho];simp[CO,hop,Ki,rd,look,h]
    obtain⟨x,hx,hrun⟩:=LZ (a:=a) (P:=P) hr2 he2 o hap
    unfold Oper.wp;rw[hrun]
    obtain⟨_,l',hl',hok⟩:=hpriv.at_ m i hB
    rw[hl]at hl';cases hl'
    obtain⟨arr,el,lo,hi,_,hh,_⟩:=hok
    obtain⟨xs,hxs,_⟩:=hh.cells h
    have hy:Am R (.agg ((l.drop off).take n))=some (.agg xs.toArray):=DF hxs
    have hyx:=CV (hle2 i) _ _ hy
    rw[hx]at hyx;cases hyx
    exact hV _ r Z rfl R w _ (Le.refl _) (fun _ _ _=>rfl) (AQ _) ⟨hrel,hpriv⟩ (.inr hy)
  | st n x y m off l cs u hw ho hmx hl hn hu hlu hcs h1 hlen h=>
    replace hlu:=hlu he.live
    obtain⟨t,i,rfl,hB,ht⟩:=hmark x m off hmx
    have hr2:=hpriv.one hrel hB hl
    have he2:Bf (Hy R Z.next i) ((t,.ptr Z.next off)::e) a.tmps:=Bf.cons (he.env.mono (hle2 i)) ht (hcp i off)
    have hop:B4 ((t,V.ptr Z.next off)::e) (.tmp t) = .ptr Z.next off:=by simp[B4,Ft,look]
    have hoy:B4 ((t,V.ptr Z.next off)::e) y=u:=by
      rw[<-hu]
      cases y with
      | con v=>rfl
      | tmp s=>
        have hne:¬t=s:=fun hts=>by subst hts;simp only[Eo]at hn hmx;rw[hn]at hmx;cases hmx
        simp only[B4,Ft,look,AU,hne,if_false]
    have hap:Dc C.E D (Ad P C.G o.op) ((t,.ptr Z.next off)::e) ⟨Z.next+1,[(Z.next,.cells l)]⟩=some (.dead,(⟨Z.next+1,[(Z.next,.cells l)]⟩:H).set Z.next (.cells (HQ l off cs))):=by
      rw[ho]
      simp only[Dc,fi,Dx.cls,Dz,hop,hoy]
      simp only[look,AU,if_true]
      rw[if_pos]
      · rw[hcs]
      · simp only[AF,AU,A1]
        exact⟨⟨by rw[<-hcs];exact hlen,h⟩,by rw[<-hcs];exact h1⟩
    refine NH (C:={ C with O:=fun blk=>blk=i.blk\/w.heap.size<=blk,w0:=w }) hD rfl rfl hr2 he2 o hap K Q (fun R' w' x hx hn' hrel' hv=>?_)
    have hR'n:R' Z.next=some i:=by rw[hx Z.next (Hw _)];exact B0 _ _ _
    obtain⟨j,hj,_,hok⟩:=hrel'.own Z.next (.cells (HQ l off cs)) (by simp[H.set,IL,look])
    rw[hR'n]at hj;cases hj
    have hRR':Le R R':=(hle2 i).trans (hx.le (fun k hk=>by
      have hk':Z.next+1<=k:=hk
      rw[Bb (by omega)];exact hrel.fresh k (by omega)))
    obtain⟨hOi,l',hl',hokl⟩:=hpriv.at_ m i hB
    rw[hl]at hl';cases hl'
    have hcell:∀u':V,(∃k:Nat,(HQ l off cs)[k]? = some u')->∃y,Am R u'=some y:=by
      rintro u' ⟨k,hk⟩
      rw[Ks]at hk
      split at hk
      · split at hk
        · have huc:∃z,Am R u=some z:=by
            obtain⟨oy,rfl⟩:∃oy,y=Ai C.G oy:=by
              obtain⟨dst,op,ty,pos,after,guard⟩:=o
              simp only at ho
              cases op<;>simp only[Ad]at ho<;>(try (first | (cases ho;done) | ((repeat' split at ho)<;>(cases ho;done))))
              · split at ho
                · cases ho
                · simp only[Dx.store.injEq]at ho;exact⟨_,ho.2.2.symm⟩
                · cases ho
              · rename_i fn _ _;cases fn<;>cases ho
              · rename_i r;cases r<;>cases ho
              · rename_i ok;cases ok
                · cases ho
                · simp only at ho;split at ho<;>cases ho
              · rename_i c
                obtain⟨callee,cargs,argTypes⟩:=c
                simp only at ho
                split at ho
                · unfold Js at ho;(repeat' split at ho)<;>cases ho
                · cases ho
                · cases ho
                · cases ho
            exact⟨_,ev (a:=a) he.env hg hu hlu⟩
          obtain⟨z,hz⟩:=huc
          have hcc:=HD hz
          rw[<-hcs]at hcc
          obtain⟨y',hy',_⟩:=Da hcc hk
          exact⟨y',hy'⟩
        · cases hk
      · obtain⟨arr,el,lo,hi,_,hh,_⟩:=hokl
        obtain⟨y',hy',_⟩:=hh k u' hk
        exact⟨y',hy'⟩
    have hokR:EP R i (.cells (HQ l off cs)) w':=by
      obtain⟨arr,el,lo,hi,h1',h2',h3',h4',h5'⟩:=hok
      refine⟨arr,el,lo,hi,h1',fun k v hk=>?_,h3',h4',h5'⟩
      obtain⟨y',hy',hone,harr⟩:=h2' k v hk
      obtain⟨y2,hy2⟩:=hcell v ⟨k,hk⟩
      have:=CV hRR' v y2 hy2
      rw[hy']at this;cases this
      exact⟨_,hy2,hone,harr⟩
    have hfr:∀blk,blk<w.heap.size->blk≠i.blk->w'.heap[blk]? = w.heap[blk]? := fun blk hb hne=>hrel'.fr blk (by rintro(h | h);exact hne h;omega)
    have hrelw:DO C R Z w':=hrel.frame (fun blk hb hor=>by
      refine hfr blk hb ?_
      rcases hor with ⟨k,b,j,hk,hj,rfl⟩|hno
      · exact hpriv.apart m i hB k b j hk hj
      · intro he';exact hno (he' ▸ hOi)) hrel'.size hrel'.os hrel'.tape hrel'.output
    refine hV .dead _ Z rfl R w' x (Le.refl _) (fun _ _ _=>rfl) (AQ _) ⟨hrelw,⟨fun m' i' hm'=>?_,hpriv.inj,hpriv.apart⟩⟩ (.inl ⟨rfl,by rw[ho];rfl⟩)
    obtain⟨hO',l2,hl2,ZN⟩:=hpriv.at_ m' i' hm'
    refine⟨hO',?_⟩
    by_cases hmm:m=m'
    · subst hmm
      rw[hB]at hm';cases hm'
      exact⟨_,by rw[G9 hl,if_pos rfl],hokR⟩
    · refine⟨l2,by rw[G9 hl,if_neg hmm];exact hl2,ZN.mono (Le.refl _) (hfr _ ZN.lt (fun hbl=>hmm (hpriv.inj m m' i i' hB hm' hbl.symm)))⟩
end Go.Og
namespace Go.Og
variable {P:Program} {E:EB} {D:Al} {C:Cx} {R:Ren} {Z:H} {w w':World}
inductive OG (E:EB) (D:Al) (dr:Bool) (n0:Nat):Nat->List (BC × List Nat)->St->St->Prop where
 | nil (i:Nat) (s:St):OG E D dr n0 i [] s s
 | skip (i:Nat) (o:BC) (ks:List Nat) (l:List (BC × List Nat)) (s s':St) (hw:BW (Df dr ks s.e) o.guard=some false)
   (h:OG E D dr n0 (i+1) l ⟨CS s.e o.dst DV,Bn o.dst s.q,s.r,s.Z⟩ s'):OG E D dr n0 i ((o,ks)::l) s s'
 | val (i:Nat) (o:BC) (ks:List Nat) (l:List (BC × List Nat)) (s s':St) (pw:Bool) (v:V) (r':Rg) (Z':H) (hw:BW (Df dr ks s.e) o.guard=some true)
   (hs:FZ E D pw s.Z.next (s.Z.next+1) o.op (Df dr ks s.e) (Ji dr ks s.q) s.r s.Z (.val v r' Z'))
   (hl:o.dst=none\/v.live=true\/o.op.cls ≠ .k) (hna:dr=true->o.op.cls ≠ .a)
   (h:OG E D dr n0 (i+1) l ⟨CS s.e o.dst v,Bn o.dst s.q,r',Z'⟩ s'):OG E D dr n0 i ((o,ks)::l) s s'
 | mark (i:Nat) (o:BC) (ks:List Nat) (l:List (BC × List Nat)) (s s':St) (pw:Bool) (id nx m off:Nat) (hw:BW (Df dr ks s.e) o.guard=some true)
   (hs:FZ E D pw id nx o.op (Df dr ks s.e) (Ji dr ks s.q) s.r s.Z (.mark m off))
   (h:OG E D dr n0 (i+1) l ⟨Bn o.dst s.e,Oo (Bn o.dst s.q) o.dst (m,off),s.r,s.Z⟩ s'):OG E D dr n0 i ((o,ks)::l) s s'
 | pal (i:Nat) (o:BC) (ks:List Nat) (l:List (BC × List Nat)) (s s':St) (d:Nat) (el:TypeId) (z:List V) (hd:o.dst=some d) (ho:o.op = .alloc el z) (hw:BW (Df dr ks s.e) o.guard=some true)
   (h:OG E D dr n0 (i+1) l ⟨BT [d] s.e,(d,(d,0))::Iu d (BT [d] s.q),(d,z)::BT [d] s.r,s.Z⟩ s'):OG E D dr n0 i ((o,ks)::l) s s'
 | shrink (i:Nat) (l:List (BC × List Nat)) (s s':St) (e:Bk) (q:Qs) (he:∀t v,look e t=some v->look s.e t=some v) (hq:∀t v,look q t=some v->look s.q t=some v)
   (h:OG E D dr n0 i l ⟨e,q,s.r,s.Z⟩ s'):OG E D dr n0 i l s s'
theorem OG.append {dr:Bool} {n0:Nat}:∀{i:Nat} {l m:List (BC × List Nat)} {s s1 s2:St},OG E D dr n0 i l s s1->OG E D dr n0 (i+l.length) m s1 s2->OG E D dr n0 i (l++m) s s2:=by
 intro i l m s s1 s2 h
 induction h with
 | nil i s=>intro h2;simpa using h2
 | skip i o ks l s s' hw _ ih=>intro h2;exact .skip i o ks _ s s2 hw (ih (by rwa [Av,show i+(l.length+1)=i+1+l.length by omega]at h2))
 | val i o ks l s s' pw v r' Z' hw hs hl hna _ ih=>intro h2;exact .val i o ks _ s s2 pw v r' Z' hw hs hl hna (ih (by rwa [Av,show i+(l.length+1)=i+1+l.length by omega]at h2))
 | mark i o ks l s s' pw id nx m off hw hs _ ih=>intro h2;exact .mark i o ks _ s s2 pw id nx m off hw hs (ih (by rwa [Av,show i+(l.length+1)=i+1+l.length by omega]at h2))
 | pal i o ks l s s' d el z hd ho hw _ ih=>intro h2;exact .pal i o ks _ s s2 d el z hd ho hw (ih (by rwa [Av,show i+(l.length+1)=i+1+l.length by omega]at h2))
 | shrink i l s s' e q he hq _ ih=>intro h2;exact .shrink i _ s s2 e q he hq (ih h2)
theorem B8 {α:Type} (ds:List Nat) (l:List (Nat × α)) (t:Nat):look (BT ds l) t=if BX ds t=true then none else look l t:=by
 induction l with
 | nil=>simp[BT,look]
 | cons p l ih=>
  obtain⟨k,v⟩:=p
  simp only[BT]
  split
  ·rename_i hk
   rw[ih]
   by_cases ht:BX ds t=true
   ·rw[if_pos ht,if_pos ht]
   ·rw[if_neg ht,if_neg ht]
    have hkt:¬k=t:=fun h=>ht (h ▸ hk)
    simp only[look,AU,hkt,if_false]
  ·rename_i hk
   simp only[look,AU]
   by_cases hkt:k=t
   ·subst hkt;rw[if_pos rfl,if_neg (by rw[hk];simp),if_pos rfl]
   ·rw[if_neg hkt,if_neg hkt,ih]
theorem GI (d t:Nat):BX [d] t=true↔d=t:=by simp[BX]
theorem Ch (d:Nat) (l:List Nat) (t:Nat):BX (d::l) t=true↔d=t\/BX l t=true:=by simp[BX]
theorem En (l m:List Nat) (t:Nat):BX (l++m) t=true↔BX l t=true\/BX m t=true:=by
 induction l with
 | nil=>simp[BX]
 | cons a l ih=>simp only[Lq,BX,BE,ih,or_assoc]
theorem Bt {α:Type} (d:Option Nat) (l:List (Nat × α)) (t:Nat):look (Bn d l) t=if d=some t then none else look l t:=by
 cases d with
 | none=>simp[Bn]
 | some d=>
  simp only[Bn,B8,AL.injEq]
  by_cases h:d=t
  ·rw[if_pos ((GI d t).2 h),if_pos h]
  ·rw[if_neg (fun hh=>h ((GI d t).1 hh)),if_neg h]
theorem Fp (e:Bk) (d:Option Nat) (v:V) (t:Nat):look (CS e d v) t=if d=some t then some v else look e t:=by
 cases d with
 | none=>simp[CS]
 | some d=>
  simp only[CS,look,AU,AL.injEq]
theorem JY (q:Qs) (d:Option Nat) (p:Nat × Nat) (t:Nat):look (Oo q d p) t=if d=some t then some p else look q t:=by
 cases d with
 | none=>simp[Oo]
 | some d=>
  simp only[Oo,look,AU,AL.injEq]
theorem I4 {ks:List Nat} {e:Bk} {t:Nat} (h:BX ks t=true):look (restr ks e) t=look e t:=by
 induction ks with
 | nil=>simp[BX]at h
 | cons a ks ih=>
  simp only[BX,BE,AU]at h
  simp only[restr]
  cases ha:look e a with
  | none=>
   simp only
   by_cases hat:a=t
   ·subst hat
    rw[ha]
    cases hl:look (restr ks e) a with
    | none=>rfl
    | some v=>rw[(Fo ks e a v hl).1]at ha;cases ha
   ·exact ih (h.resolve_left hat)
  | some u=>
   simp only[look,AU]
   by_cases hat:a=t
   ·subst hat;rw[if_pos rfl,ha]
   ·rw[if_neg hat];exact ih (h.resolve_left hat)
theorem GJ (ls:List Nat) (q:Qs) (t:Nat) (p:Nat × Nat) (h:look (J7 ls q) t=some p):look q t=some p/\BX ls t=true:=by
 induction ls with
 | nil=>simp[J7,look]at h
 | cons a ls ih=>
  simp only[J7]at h
  simp only[BX,BE,AU]
  cases ha:look q a with
  | none=>rw[ha]at h;exact(ih h).imp id .inr
  | some u=>
   rw[ha]at h
   simp only[look,AU]at h
   by_cases hat:a=t
   ·subst hat
    rw[if_pos rfl]at h
    cases h
    exact⟨ha,.inl rfl⟩
   ·rw[if_neg hat]at h
    exact(ih h).imp id .inr
theorem JW {dr:Bool} {ks:List Nat} {e:Bk} {t:Nat} (h:BX ks t=true):look (Df dr ks e) t=look e t:=by
 cases dr with
 | true=>exact I4 h
 | false=>rfl
theorem SZ {dr:Bool} {ks:List Nat} {e:Bk} {t:Nat} {v:V} (h:look (Df dr ks e) t=some v):look e t=some v:=by
 cases dr with
 | true=>exact(Fo _ _ _ _ h).1
 | false=>exact h
theorem IN {m:Nat}:∀{q:Qs} {t:Nat} {p:Nat × Nat},BX (Hs m q) t=false->look q t=some p->p.1≠m
 | [],t,p,_,h=>by simp[look]at h
 | (k,b)::q,t,p,hm,h=>by
  simp only[Hs]at hm
  simp only[look,AU]at h
  split at hm
  ·rename_i hb
   have hkt:¬k=t:=by
    intro he;subst he
    simp[BX]at hm
   rw[if_neg hkt]at h
   have hm2:BX (Hs m q) t=false:=by
    cases h2:BX (Hs m q) t with
    | false=>rfl
    | true=>rw[(Ch k _ t).2 (.inr h2)]at hm;cases hm
   exact IN hm2 h
  ·rename_i hb
   by_cases hk:k=t
   ·rw[if_pos hk]at h;cases h
    intro he;rw[<-AU,hb]at he;cases he
   ·rw[if_neg hk]at h;exact IN hm h
theorem I3 (m:Nat) (q:Qs) (t:Nat) (p:Nat × Nat) (h:look (Iu m q) t=some p):p.1≠m/\look q t=some p:=by
 unfold Iu at h
 rw[B8]at h
 split at h
 ·cases h
 ·rename_i hm
  have hm2:BX (Hs m q) t=false:=by simpa using hm
  exact⟨IN hm2 h,h⟩
theorem Lu {dr:Bool} {ks:List Nat} {e:Bk} {t:Nat} {b c:Bool} (hm:BX ks t=true) (h:look e t=some (.bool c)):BW (Df dr ks e) (some (t,b))=some (c==b):=by
 simp only[BW,Ft,JW hm,h]
theorem Km {dr:Bool} {ks:List Nat} {e:Bk} {t:Nat} {b:Bool} (hm:BX ks t=true) (h:look e t=some DV):BW (Df dr ks e) (some (t,b))=some false:=by
 simp only[BW,Ft,JW hm,h,DV]
theorem GL:∀(l:XL) (g:Option (Nat × Bool)),(l.flat g).length=l.size/\l.lks.length=l.size
 | .nil,g=>⟨rfl,rfl⟩
 | .op _ _ _ _ r,g=>by obtain⟨h1,h2⟩:=GL r g;simp[XL.flat,XL.lks,XL.size,h1,h2]
 | .pal _ _ _ _ r,g=>by obtain⟨h1,h2⟩:=GL r g;simp[XL.flat,XL.lks,XL.size,h1,h2]
 | .grp t b l _ _ _ _ _ r,g=>by
  obtain⟨h1,h2⟩:=GL r g
  obtain⟨h3,h4⟩:=GL l (some (t,b))
  simp[XL.flat,XL.lks,XL.size,h1,h2,h3,h4]
theorem U2 (l:XL) (g:Option (Nat × Bool)) (x:BC) (k:List Nat) (m:List BC) (n:List (List Nat)) :
  (l.flat g++x::m).zip (l.lks++k::n)=(l.flat g).zip l.lks++(x,k)::m.zip n:=by
 obtain⟨h1,h2⟩:=GL l g
 rw[List.zip_append (by omega)]
 rfl
theorem QU (l:XL) (g:Option (Nat × Bool)):((l.flat g).zip l.lks).length=l.size:=by
 obtain⟨h1,h2⟩:=GL l g
 simp[h1,h2]
theorem Iw {dr:Bool} {n0:Nat}:∀(l:XL) (ds:List Nat) (t:Nat) (b:Bool) (i:Nat) (s:St),l.okG (some ds) (some t)=true ->
    (look s.e t=some DV\/∃c,look s.e t=some (.bool c)/\(c==b)=false)->BX l.dsts t=false->(∀u,BX ds u=true->look s.e u=some DV) ->
    ∃s',OG E D dr n0 i ((l.flat (some (t,b))).zip l.lks) s s'/\s'.r=s.r/\s'.Z=s.Z/\(∀u,BX l.dsts u=false->look s'.e u=look s.e u/\look s'.q u=look s.q u) /\
      (∀u,BX l.dsts u=true->look s'.e u=some DV)
  | .nil,ds,t,b,i,s,hok,ht,hd,hds=>⟨s,.nil i s,rfl,rfl,fun _ _=>⟨rfl,rfl⟩,fun u hu=>by simp[XL.dsts,BX]at hu⟩
  | .pal _ _ _ _ r,ds,t,b,i,s,hok,ht,hd,hds=>by simp[XL.okG]at hok
  | .op d ty ks o r,ds,t,b,i,s,hok,ht,hd,hds=>by
    simp only[XL.okG,AF]at hok
    obtain⟨⟨_,hks⟩,hr⟩:=hok
    have hks:BX ks t=true:=hks
    have hw:BW (Df dr ks s.e) (some (t,b))=some false:=by
      rcases ht with ht|⟨c,ht,hc⟩
      · exact Km hks ht
      · rw[Lu hks ht,hc]
    cases d with
    | none=>
      have hr:r.okG (some ds) (some t)=true:=hr
      obtain⟨s',h1,h2,h3,h4,h5⟩:=Iw (dr:=dr) (n0:=n0) r ds t b (i+1) s hr ht hd hds
      exact⟨s',.skip i ⟨none,o,some (t,b)⟩ ks _ s s' hw h1,h2,h3,h4,h5⟩
    | some d=>
      have hr:r.okG (some (d::ds)) (some t)=true:=hr
      simp only[XL.dsts]at hd
      have hdt:d≠t/\BX r.dsts t=false:=by
        simp only[BX,BP]at hd
        exact⟨(by intro h;rw[<-AU,hd.1]at h;cases h),hd.2⟩
      have hput:∀u,look (CS s.e (some d) DV) u=if d=u then some DV else look s.e u:=fun u=>by rw[Fp];simp
      obtain⟨s',h1,h2,h3,h4,h5⟩:=Iw (dr:=dr) (n0:=n0) r (d::ds) t b (i+1) ⟨CS s.e (some d) DV,Bn (some d) s.q,s.r,s.Z⟩ hr
        (by simp only[hput,if_neg hdt.1];exact ht) hdt.2 (fun u hu=>by
          simp only[hput]
          rcases(Ch d ds u).1 hu with h|h
          · rw[if_pos h]
          · by_cases hdu:d=u
            · rw[if_pos hdu]
            · rw[if_neg hdu];exact hds u h)
      refine⟨s',.skip i ⟨some d,o,some (t,b)⟩ ks _ s s' hw h1,h2,h3,fun u hu=>?_,fun u hu=>?_⟩
      · simp only[XL.dsts,BX,BP]at hu
        have hdu:¬d=u:=by intro h;rw[<-AU,hu.1]at h;cases h
        obtain⟨h6,h7⟩:=h4 u hu.2
        refine⟨by rw[h6];simp only[hput,if_neg hdu],by rw[h7,Bt];simp[hdu]⟩
      · simp only[XL.dsts]at hu
        cases hru:BX r.dsts u with
        | true=>exact h5 u hru
        | false=>
          rcases(Ch d r.dsts u).1 hu with h|h
          · rw[(h4 u hru).1];simp only[hput,if_pos h]
          · rw[hru]at h;cases h
  | .grp t2 b2 l d ks c x y r,ds,t,b,i,s,hok,ht,hd,hds=>by
    simp only[XL.okG,AF,CR]at hok
    obtain⟨⟨⟨⟨⟨⟨hks,_⟩,hlt⟩,_⟩,hdt2⟩,hl⟩,hr⟩:=hok
    have hks:BX ks t=true:=hks
    simp only[XL.dsts]at hd
    have hdl:BX l.dsts t=false/\d≠t/\BX r.dsts t=false:=by
      have h0:¬(BX (l.dsts++d::r.dsts) t=true):=by rw[hd];simp
      rw[En,Ch]at h0
      refine⟨?_,fun h=>h0 (.inr (.inl h)),?_⟩
      · cases h:BX l.dsts t with
        | false=>rfl
        | true=>exact(h0 (.inl h)).elim
      · cases h:BX r.dsts t with
        | false=>rfl
        | true=>exact(h0 (.inr (.inr h))).elim
    obtain⟨s1,h1,h2,h3,h4,h5⟩:=Iw (dr:=dr) (n0:=n0) l [] t2 b2 i s hl (.inl (hds t2 hdt2)) hlt (fun u hu=>by simp[BX]at hu)
    have ht1:look s1.e t=some DV\/∃c,look s1.e t=some (.bool c)/\(c==b)=false:=by rw[(h4 t hdl.1).1];exact ht
    have hw:BW (Df dr ks s1.e) (some (t,b))=some false:=by
      rcases ht1 with ht|⟨c,ht,hc⟩
      · exact Km hks ht
      · rw[Lu hks ht,hc]
    have hput:∀u,look (CS s1.e (some d) DV) u=if d=u then some DV else look s1.e u:=fun u=>by rw[Fp];simp
    obtain⟨s',g1,g2,g3,g4,g5⟩:=Iw (dr:=dr) (n0:=n0) r (d::l.dsts++ds) t b (i+l.size+1) ⟨CS s1.e (some d) DV,Bn (some d) s1.q,s1.r,s1.Z⟩ hr
      (by simp only[hput,if_neg hdl.2.1];exact ht1) hdl.2.2 (fun u hu=>by
        simp only[hput]
        by_cases hdu:d=u
        · rw[if_pos hdu]
        · rw[if_neg hdu]
          rw[Lq]at hu
          rcases(Ch d _ u).1 hu with h|h
          · exact(hdu h).elim
          · cases hlu:BX l.dsts u with
            | true=>exact h5 u hlu
            | false=>
              rcases(En _ _ u).1 h with h|h
              · rw[hlu]at h;cases h
              · rw[(h4 u hlu).1];exact hds u h)
    refine⟨s',?_,by rw[g2];exact h2,by rw[g3];exact h3,fun u hu=>?_,fun u hu=>?_⟩
    · simp only[XL.flat,XL.lks]
      rw[U2]
      refine h1.append ?_
      rw[QU]
      exact .skip _ ⟨some d,.pick c x y,some (t,b)⟩ ks _ s1 s' hw g1
    · simp only[XL.dsts]at hu
      have h0:¬(BX (l.dsts++d::r.dsts) u=true):=by rw[hu];simp
      rw[En,Ch]at h0
      have hlu:BX l.dsts u=false:=by
        cases h:BX l.dsts u with
        | false=>rfl
        | true=>exact(h0 (.inl h)).elim
      have hru:BX r.dsts u=false:=by
        cases h:BX r.dsts u with
        | false=>rfl
        | true=>exact(h0 (.inr (.inr h))).elim
      have hdu:¬d=u:=fun h=>h0 (.inr (.inl h))
      obtain⟨k1,k2⟩:=g4 u hru
      obtain⟨k3,k4⟩:=h4 u hlu
      refine⟨by rw[k1];simp only[hput,if_neg hdu];exact k3,by rw[k2,Bt];simp only[AL.injEq,if_neg hdu];exact k4⟩
    · simp only[XL.dsts]at hu
      cases hru:BX r.dsts u with
      | true=>exact g5 u hru
      | false=>
        rw[(g4 u hru).1]
        simp only[hput]
        by_cases hdu:d=u
        · rw[if_pos hdu]
        · rw[if_neg hdu]
          rcases(En _ _ u).1 hu with h|h
          · exact h5 u h
          · rcases(Ch d _ u).1 h with h | h
            · exact(hdu h).elim
            · rw[hru]at h;cases h
end Go.Og
namespace Go.Og
variable {E:EB} {D:Al}
def Gd (g:Option (Nat × Bool)) (gt:Option Nat) (e:Bk) (ds:List Nat):Prop:=
 (g=none/\gt=none)\/∃t b,g=some (t,b)/\gt=some t/\look e t=some (.bool b)/\BX ds t=false
theorem Gd.wanted {g:Option (Nat × Bool)} {gt:Option Nat} {e:Bk} {ds:List Nat} (h:Gd g gt e ds) {dr:Bool} {ks:List Nat} (hs:gI gt ks=true):BW (Df dr ks e) g=some true:=by
 rcases h with ⟨rfl,rfl⟩|⟨t,b,rfl,rfl,hl,_⟩
 ·rfl
 ·rw[Lu hs hl];simp
theorem Gd.next {g:Option (Nat × Bool)} {gt:Option Nat} {e e':Bk} {ds ds':List Nat} (h:Gd g gt e ds) (hd:∀t,BX ds t=false->BX ds' t=false) (he:∀t,BX ds t=false->look e' t=look e t):Gd g gt e' ds':=by
 rcases h with ⟨rfl,rfl⟩|⟨t,b,rfl,rfl,hl,hm⟩
 ·exact .inl ⟨rfl,rfl⟩
 ·exact .inr ⟨t,b,rfl,rfl,by rw[he t hm];exact hl,hd t hm⟩
theorem gF {id nx:Nat} {o:Dx} {e:Bk} {q:Qs} {r r':Rg} {Z Z':H} {v:V} (h:FZ E D false id nx o e q r Z (.val v r' Z')):r'=r:=by
 cases h<;>first | rfl | (rename_i hw _ _ _ _ _ _ _ _ _ _;cases hw)
theorem Fm {ds:List Nat} {t:Nat}:BX ds t=false↔¬BX ds t=true:=by cases BX ds t<;>simp
theorem Dw {d:Nat} {l:List Nat} {t:Nat} (h:BX (d::l) t=false):d≠t/\BX l t=false:=by
 rw[Fm,Ch]at h
 exact⟨fun hh=>h (.inl hh),Fm.2 fun hh=>h (.inr hh)⟩
theorem K8 {l m:List Nat} {t:Nat} (h:BX (l++m) t=false):BX l t=false/\BX m t=false:=by
 rw[Fm,En]at h
 exact⟨Fm.2 fun hh=>h (.inl hh),Fm.2 fun hh=>h (.inr hh)⟩
theorem VN {d:Option Nat} {ty:Co} {ks:List Nat} {o:Dx} {r:XL} (h:(XL.op d ty ks o r).makes=false):o.cls ≠ .a/\r.makes=false:=by
 simp only[XL.makes]at h
 split at h
 ·cases h
 ·rename_i hc;exact⟨hc,h⟩
theorem UF {t:Nat} {b:Bool} {l:XL} {d:Nat} {ks:List Nat} {c x y:AO} {r:XL} (h:(XL.grp t b l d ks c x y r).makes=false):l.makes=false/\r.makes=false:=by
 simpa only [XL.makes,BP]using h
theorem Sy {d:Nat} {ty:Co} {o:Dx} (h:okD (some d) ty o=true):(∀n x y,o = .store n x y->False)/\(o.cls = .k->ty.known=true):=by
 constructor
 ·rintro n x y rfl;cases h
 ·intro hc
  cases o<;>(first | (cases hc;done) | (cases h;done) | exact h | (rename_i t x;cases t<;>cases hc))
theorem HC {dr:Bool} {n0:Nat}:∀(l:XL) (ds:Option (List Nat)) (gt:Option Nat) (g:Option (Nat × Bool)) (pw:Bool) (i:Nat) (s:St) (J:Bk->Qs->Rg->H->AG) (res:V × H),
  IA E D dr pw n0 l i s.e s.q s.r s.Z J=some res->l.okG ds gt=true->Gd g gt s.e l.dsts->(dr=true->l.makes=false) ->
  ∃s',OG E D dr n0 i ((l.flat g).zip l.lks) s s'/\J s'.e s'.q s'.r s'.Z=some res/\(pw=false->s'.r=s.r) /\
   (∀u,BX l.dsts u=false->look s'.e u=look s.e u)/\(pw=false->∀u,BX l.dsts u=false->look s'.q u=look s.q u)
 | .nil,ds,gt,g,pw,i,s,J,res,h,hok,hg,hmk=>⟨s,.nil i s,h,fun _=>rfl,fun _ _=>rfl,fun _ _ _=>rfl⟩
 | .op d ty ks o r,ds,gt,g,pw,i,s,J,res,h,hok,hg,hmk=>by
  rw[iN]at h
  simp only[XL.okG,AF]at hok
  obtain⟨⟨hkd,hks⟩,hr⟩:=hok
  have hr':∃ds',r.okG ds' gt=true:=by
   split at hr
   ·exact⟨_,hr⟩
   ·exact⟨_,hr⟩
  obtain⟨ds',hr'⟩:=hr'
  have hw:=hg.wanted (dr:=dr) hks
  have hdst:∀t,BX (XL.op d ty ks o r).dsts t=false->d≠some t/\BX r.dsts t=false:=by
   intro t ht
   cases d with
   | none=>exact⟨by simp,ht⟩
   | some d=>obtain⟨h1,h2⟩:=Dw ht;exact⟨by simpa using h1,h2⟩
  obtain⟨out,hs,hout⟩:=Y3 h
  cases out with
  | val v r' Z'=>
   obtain⟨hk,hlv⟩:=hout
   have hput:∀t,BX (XL.op d ty ks o r).dsts t=false->look (CS s.e d v) t=look s.e t:=fun t ht=>by
    rw[Fp,if_neg (hdst t ht).1]
   obtain⟨s',h1,h2,h3,h4,h5⟩:=HC r ds' gt g pw (i+1) ⟨CS s.e d v,Bn d s.q,r',Z'⟩ J res hk hr'
    (hg.next (fun t ht=>(hdst t ht).2) hput) (fun hd=>(VN (hmk hd)).2)
   refine⟨s',.val i ⟨d,o,g⟩ ks _ s s' pw v r' Z' hw hs ?_ (fun hd=>(VN (hmk hd)).1) h1,h2,fun hpw=>?_,fun u hu=>?_,fun hpw u hu=>?_⟩
   ·cases d with
    | none=>exact .inl rfl
    | some d=>
     right
     rcases hlv with ⟨n,x,y,rfl⟩|hlv|hlv|hlv
     ·exact((Sy hkd).1 _ _ _ rfl).elim
     ·exact .inr hlv
     ·right
      intro hc
      have:=(Sy hkd).2 hc
      rw[hlv]at this;cases this
     ·exact .inl hlv
   ·subst hpw;rw[h3 rfl];exact gF hs
   ·rw[h4 u (hdst u hu).2];exact hput u hu
   ·rw[h5 hpw u (hdst u hu).2]
    show look (Bn d s.q) u=_
    rw[Bt,if_neg (hdst u hu).1]
  | mark m off=>
   have hput:∀t,BX (XL.op d ty ks o r).dsts t=false->look (Bn d s.e) t=look s.e t:=fun t ht=>by
    rw[Bt,if_neg (hdst t ht).1]
   obtain⟨s',h1,h2,h3,h4,h5⟩:=HC r ds' gt g pw (i+1) ⟨Bn d s.e,Oo (Bn d s.q) d (m,off),s.r,s.Z⟩ J res hout hr'
    (hg.next (fun t ht=>(hdst t ht).2) hput) (fun hd=>(VN (hmk hd)).2)
   refine⟨s',.mark i ⟨d,o,g⟩ ks _ s s' pw _ _ m off hw hs h1,h2,h3,fun u hu=>?_,fun hpw u hu=>?_⟩
   ·rw[h4 u (hdst u hu).2];exact hput u hu
   ·rw[h5 hpw u (hdst u hu).2]
    show look (Oo (Bn d s.q) d (m,off)) u=_
    rw[JY,if_neg (hdst u hu).1,Bt,if_neg (hdst u hu).1]
 | .pal d ks el z r,ds,gt,g,pw,i,s,J,res,h,hok,hg,hmk=>by
  cases pw with
  | false=>rw[Xi]at h;cases h
  | true=>
   rw[aE]at h
   simp only[XL.okG,AF]at hok
   obtain⟨hks,hr⟩:=hok
   have hr':r.okG none gt=true:=by
    split at hr
    ·cases hr
    ·exact hr
   have hw:=hg.wanted (dr:=dr) hks
   have hput:∀t,BX (XL.pal d ks el z r).dsts t=false->look (BT [d] s.e) t=look s.e t:=fun t ht=>by
    have:=(Dw ht).1
    rw[B8,if_neg (fun hh=>this ((GI d t).1 hh))]
   obtain⟨s',h1,h2,h3,h4,h5⟩:=HC r none gt g true (i+1) ⟨BT [d] s.e,(d,(d,0))::Iu d (BT [d] s.q),(d,z)::BT [d] s.r,s.Z⟩ J res h hr'
    (hg.next (fun t ht=>(Dw ht).2) hput) hmk
   refine⟨s',.pal i ⟨some d,.alloc el z,g⟩ ks _ s s' d el z rfl rfl hw h1,h2,(fun hpw=>by cases hpw),fun u hu=>?_,(fun hpw=>by cases hpw)⟩
   rw[h4 u (Dw hu).2];exact hput u hu
 | .grp t b l d ks c x y r,ds,gt,g,pw,i,s,J,res,h,hok,hg,hmk=>by
  rw[aF]at h
  simp only[XL.okG,AF,CR]at hok
  obtain⟨⟨⟨⟨⟨⟨hks,hkt⟩,hlt⟩,hpk⟩,_⟩,hl⟩,hr⟩:=hok
  have hr':∃ds',r.okG ds' gt=true:=by
   split at hr
   ·exact⟨_,hr⟩
   ·exact⟨_,hr⟩
  obtain⟨ds',hr'⟩:=hr'
  have hdst:∀u,BX (XL.grp t b l d ks c x y r).dsts u=false->BX l.dsts u=false/\d≠u/\BX r.dsts u=false:=by
   intro u hu
   obtain⟨h1,h2⟩:=K8 hu
   obtain⟨h3,h4⟩:=Dw h2
   exact⟨h1,h3,h4⟩
  unfold Yy at hpk
  simp only[AF]at hpk
  obtain⟨hct,hother⟩:=hpk
  have hct:c = .tmp t:=by
   cases c with
   | con v=>cases hct
   | tmp u=>simp only[AU]at hct;rw[hct]
  subst hct
  obtain⟨v,hv,_,h⟩:=Ae h
  obtain⟨cb,rfl,h9⟩:=Em h
  replace h:=h9
  have hte:look s.e t=some (.bool cb):=by
   simp only[B4,Ft]at hv
   cases hq:look (Df dr [t] s.e) t with
   | none=>rw[hq]at hv;cases hv
   | some u=>rw[hq]at hv;simp only at hv;subst hv;exact SZ hq
  have fin:∀(s1:St) (vb:Bool),OG E D dr n0 i ((l.flat (some (t,b))).zip l.lks) s s1->s1.r=s.r->(∀u,BX l.dsts u=false->look s1.e u=look s.e u)->(∀u,BX l.dsts u=false->look s1.q u=look s.q u) ->
    BJ (.pick (.tmp t) x y) (Df dr ks s1.e)=some (.bool vb) ->
    IA E D dr pw n0 r (i+l.size+1) ((d,.bool vb)::BT (d::l.dsts) s.e) (BT (d::l.dsts) s.q) s.r s1.Z J=some res ->
    ∃s',OG E D dr n0 i (((XL.grp t b l d ks (.tmp t) x y r).flat g).zip (XL.grp t b l d ks (.tmp t) x y r).lks) s s'/\J s'.e s'.q s'.r s'.Z=some res/\(pw=false->s'.r=s.r) /\
     (∀u,BX (XL.grp t b l d ks (.tmp t) x y r).dsts u=false->look s'.e u=look s.e u)/\(pw=false->∀u,BX (XL.grp t b l d ks (.tmp t) x y r).dsts u=false->look s'.q u=look s.q u):=by
   intro s1 vb hrun hr1 he1 hq1 hp hrest
   have hput:∀u,d≠u->BX l.dsts u=false->look ((d,V.bool vb)::BT (d::l.dsts) s.e) u=look s.e u:=by
    intro u h1 h2
    simp only[look,AU,h1,if_false]
    rw[B8,if_neg (fun hh=>by rcases(Ch d _ u).1 hh with hh | hh;exact h1 hh;rw[h2]at hh;cases hh)]
   obtain⟨s',h1,h2,h3,h4,h5⟩:=HC r ds' gt g pw (i+l.size+1) ⟨(d,.bool vb)::BT (d::l.dsts) s.e,BT (d::l.dsts) s.q,s.r,s1.Z⟩ J res hrest hr'
    (hg.next (fun u hu=>(hdst u hu).2.2) (fun u hu=>hput u (hdst u hu).2.1 (hdst u hu).1)) (fun hd=>(UF (hmk hd)).2)
   have hg1:Gd g gt s1.e (XL.grp t b l d ks (.tmp t) x y r).dsts:=hg.next (fun _ hu=>hu) (fun u hu=>he1 u (hdst u hu).1)
   refine⟨s',?_,h2,h3,fun u hu=>?_,fun hpw u hu=>?_⟩
   ·simp only[XL.flat,XL.lks]
    rw[U2]
    refine hrun.append ?_
    rw[QU]
    refine .val _ ⟨some d,.pick (.tmp t) x y,g⟩ ks _ s1 s' true (.bool vb) s1.r s1.Z (hg1.wanted hks) (.p _ rfl fun _=>hp) (.inr (.inl rfl)) (fun _ h=>by cases h) ?_
    refine .shrink _ _ _ s' ((d,.bool vb)::BT (d::l.dsts) s.e) (BT (d::l.dsts) s.q) (fun u w hu=>?_) (fun u w hu=>?_) (by rw[hr1];exact h1)
    ·simp only[look,AU]at hu
     rw[Fp]
     by_cases hdu:d=u
     ·rw[if_pos hdu]at hu;rw[if_pos (by rw[hdu])];exact hu
     ·rw[if_neg hdu,B8]at hu
      rw[if_neg (by simpa using hdu)]
      split at hu
      ·cases hu
      ·rename_i hm
       rw[he1 u (Fm.2 fun hh=>hm ((Ch d _ u).2 (.inr hh)))]
       exact hu
    ·rw[B8]at hu
     split at hu
     ·cases hu
     ·rename_i hm
      show look (Bn (some d) s1.q) u=some w
      rw[Bt,if_neg (fun hh=>hm ((Ch d _ u).2 (.inl (by simpa using hh)))),hq1 u (Fm.2 fun hh=>hm ((Ch d _ u).2 (.inr hh)))]
      exact hu
   ·rw[h4 u (hdst u hu).2.2];exact hput u (hdst u hu).2.1 (hdst u hu).1
   ·rw[h5 hpw u (hdst u hu).2.2]
    show look (BT (d::l.dsts) s.q) u=_
    rw[B8,if_neg (fun hh=>by rcases(Ch d _ u).1 hh with hh | hh;exact(hdst u hu).2.1 hh;rw[(hdst u hu).1]at hh;cases hh)]
  have taken:cb=b->∀(z:AO),(∀e,B4 e (.tmp t) = .bool cb->∀vb,B4 e z = .bool vb->BJ (.pick (.tmp t) x y) e=some (.bool vb)) ->
    (IA E D dr false n0 l i s.e s.q s.r s.Z fun e' _ _ Z'=>B9 (Df dr ks e') z fun v=>Aa v fun v=>
     IA E D dr pw n0 r (i+l.size+1) ((d,.bool v)::BT (d::l.dsts) s.e) (BT (d::l.dsts) s.q) s.r Z' J)=some res ->
    ∃s',OG E D dr n0 i (((XL.grp t b l d ks (.tmp t) x y r).flat g).zip (XL.grp t b l d ks (.tmp t) x y r).lks) s s'/\J s'.e s'.q s'.r s'.Z=some res/\(pw=false->s'.r=s.r) /\
     (∀u,BX (XL.grp t b l d ks (.tmp t) x y r).dsts u=false->look s'.e u=look s.e u)/\(pw=false->∀u,BX (XL.grp t b l d ks (.tmp t) x y r).dsts u=false->look s'.q u=look s.q u):=by
   intro hcb z hz hh
   subst hcb
   obtain⟨s1,h1,h2,h3,h4,h5⟩:=HC l (some []) (some t) (some (t,cb)) false i s _ res hh hl (.inr ⟨t,cb,rfl,rfl,hte,hlt⟩) (fun hd=>(UF (hmk hd)).1)
   obtain⟨v,hv,_,h2⟩:=Ae h2
   obtain⟨vb,rfl,h9⟩:=Em h2
   replace h2:=h9
   refine fin s1 vb h1 (h3 rfl) h4 (h5 rfl) (hz _ ?_ vb hv) h2
   simp only[B4,Ft,JW hkt,h4 t hlt,hte]
  have left:(cb==b)=false->∀(z:AO),(match z with | .tmp u=>!BX l.dsts u | .con _=>true)=true->(∀e,B4 e (.tmp t) = .bool cb->∀vb,B4 e z = .bool vb->BJ (.pick (.tmp t) x y) e=some (.bool vb)) ->
    (B9 (Df dr ks s.e) z fun v=>Aa v fun v=>
     IA E D dr pw n0 r (i+l.size+1) ((d,.bool v)::BT (d::l.dsts) s.e) (BT (d::l.dsts) s.q) s.r s.Z J)=some res ->
    ∃s',OG E D dr n0 i (((XL.grp t b l d ks (.tmp t) x y r).flat g).zip (XL.grp t b l d ks (.tmp t) x y r).lks) s s'/\J s'.e s'.q s'.r s'.Z=some res/\(pw=false->s'.r=s.r) /\
     (∀u,BX (XL.grp t b l d ks (.tmp t) x y r).dsts u=false->look s'.e u=look s.e u)/\(pw=false->∀u,BX (XL.grp t b l d ks (.tmp t) x y r).dsts u=false->look s'.q u=look s.q u):=by
   intro hcb z hz0 hz h
   obtain⟨s1,h1,h2,h3,h4,_⟩:=Iw (E:=E) (D:=D) (dr:=dr) (n0:=n0) l [] t b i s hl (.inr ⟨cb,hte,hcb⟩) hlt (fun u hu=>by simp[BX]at hu)
   obtain⟨v,hv,_,h5⟩:=Ae h
   obtain⟨vb,rfl,h9⟩:=Em h5
   replace h5:=h9
   refine fin s1 vb h1 h2 (fun u hu=>(h4 u hu).1) (fun u hu=>(h4 u hu).2) (hz _ ?_ vb ?_) (by rw[h3];exact h5)
   ·simp only[B4,Ft,JW hkt,(h4 t hlt).1,hte]
   ·cases z with
    | con v=>exact hv
    | tmp u=>
     simp only[CR]at hz0
     simp only[B4,Ft]at hv ⊢
     cases hq:look (Df dr ks s.e) u with
     | none=>rw[hq]at hv;cases hv
     | some u2=>
      rw[hq]at hv
      have hq1:look (Df dr ks s1.e) u=some u2:=by
       cases dr with
       | true=>
        obtain⟨h6,h7⟩:=Fo _ _ _ _ hq
        show look (restr ks s1.e) u=_
        rw[I4 h7,(h4 u hz0).1];exact h6
       | false=>
        show look s1.e u=_
        rw[(h4 u hz0).1];exact hq
      rw[hq1];exact hv
  have hpt:∀e,B4 e (.tmp t) = .bool true->∀vb,B4 e x = .bool vb->BJ (.pick (.tmp t) x y) e=some (.bool vb):=by
   intro e h1 vb h2
   simp only[BJ,h1,h2,V.live,if_true]
  have hpf:∀e,B4 e (.tmp t) = .bool false->∀vb,B4 e y = .bool vb->BJ (.pick (.tmp t) x y) e=some (.bool vb):=by
   intro e h1 vb h2
   simp only[BJ,h1,h2,V.live,if_true]
  unfold Ac at h
  cases b with
  | true=>
   simp only at h hother
   cases cb with
   | true=>exact taken rfl x hpt h
   | false=>exact left rfl y hother hpf h
  | false=>
   simp only at h hother
   cases cb with
   | true=>exact left rfl x hother hpt h
   | false=>exact taken rfl y hpf h
end Go.Og
namespace Go.Og
variable {P:Program} {D:Al} {C:Cx} {R:Ren} {Z:H} {w w':World}
theorem Gu.put {e:Bk} {a:Act} (h:Gu R e a.tmps) {dst:Option Nat} (hd:Ff a.tmps.size dst=true) {v:V} {x:Value} (hv:dst=none\/Am R v=some x):Gu R (CS e dst v) (a.put dst x).tmps:=by
 cases dst with
 | none=>exact h
 | some d=>
  simp only[Ff,CC]at hd
  refine⟨fun k u hk=>?_⟩
  rw[Fp]at hk
  simp only[Act.put,Aw]
  by_cases hdk:d=k
  ·rw[if_pos (by rw[hdk])]at hk
   cases hk
   rw[if_pos hdk,if_pos hd]
   exact⟨x,rfl,hv.resolve_left (by simp)⟩
  ·rw[if_neg (by simpa using hdk)]at hk
   rw[if_neg hdk]
   exact h.at_ k u hk
theorem Gu.del {e:Bk} {a:Act} (h:Gu R e a.tmps) (dst:Option Nat) (x:Value):Gu R (Bn dst e) (a.put dst x).tmps:=by
 refine⟨fun k u hk=>?_⟩
 rw[Bt]at hk
 split at hk
 ·cases hk
 ·rename_i hne
  obtain⟨y,h1,h2⟩:=h.at_ k u hk
  refine⟨y,?_,h2⟩
  cases dst with
  | none=>exact h1
  | some d=>
   simp only[Act.put,Aw]
   rw[if_neg (by simpa using hne)];exact h1
theorem SK.del {B:Bs} {q:Qs} {a:Act} (h:SK B q a.tmps) (dst:Option Nat) (x:Value):SK B (Bn dst q) (a.put dst x).tmps:=by
 refine⟨fun k m off hk=>?_⟩
 rw[Bt]at hk
 split at hk
 ·cases hk
 ·rename_i hne
  obtain⟨i,h1,h2⟩:=h.at_ k m off hk
  refine⟨i,h1,?_⟩
  cases dst with
  | none=>exact h2
  | some d=>
   simp only[Act.put,Aw]
   rw[if_neg (by simpa using hne)];exact h2
theorem SK.mark {B:Bs} {q:Qs} {a:Act} (h:SK B q a.tmps) {dst:Option Nat} (hd:Ff a.tmps.size dst=true) {m off:Nat} {i:BI} (hB:B m=some i) :
  SK B (Oo (Bn dst q) dst (m,off)) (a.put dst (.pointer (some ⟨i.blk,i.shift+off,none⟩))).tmps:=by
 refine⟨fun k m' off' hk=>?_⟩
 rw[JY]at hk
 by_cases hdk:dst=some k
 ·rw[if_pos hdk]at hk
  cases hk
  subst hdk
  simp only[Ff,CC]at hd
  exact⟨i,hB,by simp[Act.put,Aw,hd]⟩
 ·rw[if_neg hdk]at hk
  exact(h.del dst _).at_ k m' off' hk
theorem Gu.sub {e e':Bk} {tmps:Array Value} (h:Gu R e tmps) (hs:∀t v,look e' t=some v->look e t=some v):Gu R e' tmps:=
 ⟨fun k v hk=>h.at_ k v (hs k v hk)⟩
theorem SK.sub {B:Bs} {q q':Qs} {tmps:Array Value} (h:SK B q tmps) (hs:∀t v,look q' t=some v->look q t=some v):SK B q' tmps:=
 ⟨fun k m off hk=>h.at_ k m off (hs k _ hk)⟩
theorem Gu.sel {e:Bk} {tmps:Array Value} (h:Gu R e tmps) (dr:Bool) (ks:List Nat):Gu R (Df dr ks e) tmps:=h.sub fun _ _ hk=>SZ hk
theorem SK.sel {B:Bs} {q:Qs} {tmps:Array Value} (h:SK B q tmps) (dr:Bool) (ks:List Nat):SK B (Ji dr ks q) tmps:=h.sub fun t v hk=>by
 cases dr with
 | true=>exact(GJ _ _ _ _ hk).1
 | false=>exact hk
theorem Yz {B:Bs} {r:Rg} (hm:SL C R B r Z w) {a:Act} (o:Oper) {d:Nat} {el:TypeId} {z:List V} (ho:Ad P C.G o.op = .alloc el z) (K:Act->World->Prop) (Q:Exit->Act->World->Prop)
  (hK:∀i w',SL C R (fun m=>if m=d then some i else B m) ((d,z)::BT [d] r) Z w'->K (a.put o.dst (.pointer (some ⟨i.blk,i.shift+0,none⟩))) w'):o.wp P a w K Q:=by
 obtain⟨hrel,hpriv⟩:=hm
 have hg:=hrel.globOk
 have ha:CN (Ad P C.G o.op) [] Z.next=some (.ptr Z.next 0,.cells z):=by rw[ho];rfl
 have he0:Bf R [] a.tmps:=⟨fun k v hk=>by simp[look]at hk⟩
 obtain⟨x,w',i,hrun,hn,hi,hx,hok⟩:=NI (a:=a) (P:=P) he0 hg o ha (hrel.fresh _ (AQ _)) w
 have hcp:Am (Hy R Z.next i) (.ptr Z.next 0)=some (.pointer (some ⟨i.blk,i.shift+0,none⟩)):=Ci (B0 _ _ _)
 rw[hcp]at hx;cases hx
 unfold Oper.wp;rw[hrun]
 have hle:Le R (Hy R Z.next i):=(EG R Z.next i).le hrel.fresh
 have hzc:∃zs,Au R z=some zs:=by
  obtain⟨dst,op,ty,pos,after,guard⟩:=o
  simp only at ho
  cases op<;>simp only[Ad]at ho<;>(try (first | (cases ho;done) | ((repeat' split at ho)<;>(cases ho;done))))
  ·rename_i el'
   split at ho
   ·cases ho
   ·rename_i z' _ hz
    simp only[Dx.alloc.injEq]at ho
    rw[<-ho.2]
    unfold It at hz
    split at hz
    ·split at hz
     ·exact⟨_,Vv R hz⟩
     ·cases hz
    ·cases hz
   ·cases ho
  ·rename_i fn _ _;cases fn<;>cases ho
  ·rename_i r;cases r<;>cases ho
  ·rename_i ok;cases ok
   ·cases ho
   ·simp only at ho;split at ho<;>cases ho
  ·rename_i c
   obtain⟨callee,cargs,argTypes⟩:=c
   simp only at ho
   split at ho
   ·unfold Js at ho;(repeat' split at ho)<;>cases ho
   ·cases ho
   ·cases ho
   ·cases ho
 obtain⟨zs,hzs⟩:=hzc
 have hokR:EP R i (.cells z) w':=by
  obtain⟨arr,el',lo,hi',h1,h2,h3,h4,h5⟩:=hok
  refine⟨arr,el',lo,hi',h1,fun k v hk=>?_,h3,h4,h5⟩
  obtain⟨y,hy,hone,harr⟩:=h2 k v hk
  obtain⟨y2,hy2,_⟩:=Da hzs hk
  have:=CV hle v y2 hy2
  rw[hy]at this;cases this
  exact⟨_,hy2,hone,harr⟩
 have hO:C.O i.blk:=by rw[hi];exact hrel.new _ hrel.size
 have hrelw:DO C R Z w':=hrel.frame (fun blk hb _=>hn.old blk hb) (by rw[hn.size];omega) hn.os hn.tape hn.output
 refine hK i w' ⟨hrelw,⟨fun m j hm=>?_,fun m m' j j' hm hm' hbl=>?_,fun m j hm k b j' hk hj' hbl=>?_⟩⟩
 ·by_cases hmd:m=d
  ·subst hmd
   rw[if_pos rfl]at hm;cases hm
   exact⟨hO,z,by simp[look],hokR⟩
  ·rw[if_neg hmd]at hm
   obtain⟨hO',l,hl,hok'⟩:=hpriv.at_ m j hm
   refine⟨hO',l,?_,hok'.mono (Le.refl _) (hn.old _ hok'.lt)⟩
   simp only[look,AU]
   rw[if_neg (Ne.symm hmd),B8,if_neg (fun h=>hmd ((GI d m).1 h).symm)]
   exact hl
 ·by_cases hmd:m=d
  ·by_cases hmd':m'=d
   ·rw[hmd,hmd']
   ·exfalso
    rw[if_pos hmd]at hm;rw[if_neg hmd']at hm';cases hm
    have:=hpriv.lt hm';omega
  ·by_cases hmd':m'=d
   ·exfalso
    rw[if_neg hmd]at hm;rw[if_pos hmd']at hm';cases hm'
    have:=hpriv.lt hm;omega
   ·rw[if_neg hmd]at hm;rw[if_neg hmd']at hm'
    exact hpriv.inj m m' j j' hm hm' hbl
 ·by_cases hmd:m=d
  ·rw[if_pos hmd]at hm;cases hm
   obtain⟨j2,hj2,_,ZN⟩:=hrel.own k b hk
   rw[hj']at hj2;cases hj2
   have:=ZN.lt;omega
  ·rw[if_neg hmd]at hm
   exact hpriv.apart m j hm k b j' hk hj' hbl
def Mt (C:Cx) (nR:Nat) (R0:Ren) (nt:Nat) (s:St) (a:Act) (w:World):Prop:=
 ∃R B,GQ nR R0 R/\nR<=s.Z.next/\SL C R B s.r s.Z w/\Gu R s.e a.tmps/\SK B s.q a.tmps/\nt<=a.tmps.size/\a.defers=[]
theorem SK.pal {B:Bs} {q:Qs} {a:Act} (h:SK B q a.tmps) {d:Nat} (hd:Ff a.tmps.size (some d)=true) (i:BI) :
  SK (fun m=>if m=d then some i else B m) ((d,(d,0))::Iu d (BT [d] q)) (a.put (some d) (.pointer (some ⟨i.blk,i.shift+0,none⟩))).tmps:=by
 refine⟨fun k m off hk=>?_⟩
 simp only[look,AU]at hk
 simp only[Ff,CC]at hd
 by_cases hdk:d=k
 ·rw[if_pos hdk]at hk
  cases hk
  exact⟨i,by simp,by simp[Act.put,Aw,hdk,hdk ▸ hd]⟩
 ·rw[if_neg hdk]at hk
  obtain⟨h1,h2⟩:=I3 _ _ _ _ hk
  rw[B8]at h2
  split at h2
  ·cases h2
  ·obtain⟨j,h3,h4⟩:=h.at_ k m off h2
   refine⟨j,by rw[if_neg h1];exact h3,?_⟩
   simp only[Act.put,Aw]
   rw[if_neg hdk];exact h4
theorem gN (hD:∀f,CB P C.E C.G f (D f)) {nR:Nat} {R0:Ren} {nt n0:Nat} {ops:Array Oper} {Q:Exit->Act->World->Prop} :
  ∀{i:Nat} {fl:List (BC × List Nat)} {s s':St},OG C.E D false n0 i fl s s'->∀(l:List Oper) (a:Act) (w:World),l.map (Az P C.G nt ops)=fl.map Prod.fst->Mt C nR R0 nt s a w ->
   (∀a' w',Mt C nR R0 nt s' a' w'->Q .normal a' w')->wpList P ops Q l a w:=by
 intro i fl s s' h
 have good:∀(o:Oper) (l:List Oper) (ao:BC) (fl:List BC),(o::l).map (Az P C.G nt ops)=ao::fl->(∃e,∃(b:Bool),BW e ao.guard=some b/\(b=true->ao.op ≠ .bad)) ->
   ao.dst=o.dst/\ao.op=Ad P C.G o.op/\Ff nt o.dst=true/\N4 ops o.guard=some ao.guard/\l.map (Az P C.G nt ops)=fl:=by
  intro o l ao fl hm ⟨e,b,hw,hb⟩
  simp only[CF,List.cons.injEq]at hm
  obtain⟨h1,h2⟩:=hm
  unfold Az at h1
  split at h1
  ·rename_i g hg hd
   subst h1
   exact⟨rfl,rfl,hd,hg,h2⟩
  ·exfalso
   subst h1
   simp only[BW,AL.injEq]at hw
   exact hb hw.symm rfl
 have nostep:∀{pw id nx e q r Z out},ET e->¬FZ C.E D pw id nx .bad e q r Z out:=by
  intro pw id nx e q r Z out hlive h
  cases h with
  | p v hc h=>
   have:=h hlive
   cases this
  | l v hc h=>cases hc
  | a v b hc h=>cases hc
  | k v Z1 Z2 hc h hs=>cases hc
  | mv x m off ho hm=>rcases ho with ho | ho<;>cases ho
  | fa d x m off ho hm=>cases ho
  | ld x m off l v ho hm hl h=>cases ho
  | ldn n x m off l ho hm hl h=>cases ho
  | st n x y m off l cs u hw ho hm hl hn hu hlu hcs h1 hlen h=>cases ho
 induction h with
 | nil i s=>
  intro l a w hl hI hQ
  cases l with
  | nil=>exact hQ a w hI
  | cons o l=>simp at hl
 | shrink i fl s s' e q he hq _ ih=>
  intro l a w hl hI hQ
  obtain⟨R,B,h1,h2,h3,h4,h5,h6,h7⟩:=hI
  exact ih l a w hl ⟨R,B,h1,h2,h3,h4.sub he,h5.sub hq,h6,h7⟩ hQ
 | skip i o ks fl s s' hw _ ih=>
  intro l a w hl hI hQ
  cases l with
  | nil=>simp at hl
  | cons oo l=>
   obtain⟨g1,g2,g3,g4,g5⟩:=good oo l o _ hl ⟨_,false,hw,fun h=>by cases h⟩
   obtain⟨R,B,h1,h2,h3,h4,h5,h6,h7⟩:=hI
   have hdst:=HA g3 h6
   unfold wpList
   rw[if_neg (by rw[C0 (h4.sel false ks).env g4 hw];simp)]
   refine ih l _ w g5 ⟨R,B,h1,h2,h3,?_,?_,by rw[H4];exact h6,by rw[D6];exact h7⟩ hQ
   ·rw[g1];exact h4.put hdst (.inr rfl)
   ·rw[g1];exact h5.del _ _
 | val i o ks fl s s' pw v r' Z' hw hs hlv _ _ ih=>
  intro l a w hl hI hQ
  cases l with
  | nil=>simp at hl
  | cons oo l=>
   obtain⟨R,B,h1,h2,h3,h4,h5,h6,h7⟩:=hI
   obtain⟨g1,g2,g3,g4,g5⟩:=good oo l o _ hl ⟨_,true,hw,fun _ hb=>nostep (h4.sel false ks).live (hb ▸ hs)⟩
   have hdst:=HA g3 h6
   unfold wpList
   rw[if_pos (C0 (h4.sel false ks).env g4 hw)]
   left
   rw[g2]at hs
   refine Kq hD h3 (h4.sel false ks) (h5.sel false ks) oo (h3.rel.fresh _ (AQ _)) (Hw _) (DQ _) hs _ Q (fun v2 r2 Z2 heq R' w' x hle hk hn hmem hv=>?_) (fun m off heq=>by cases heq)
   cases heq
   have hx:GQ s.Z.next R R':=fun k hk1=>hk k hk1 (by intro he;subst he;exact Mv _ hk1)
   refine ih l _ w' g5 ⟨R',B,h1.trans hx h2,BO h2 hn,hmem,?_,?_,by rw[H4];exact h6,by rw[D6];exact h7⟩ hQ
   ·rw[g1]at hlv ⊢
    refine(h4.mono hle).put hdst ?_
    rcases hv with ⟨rfl,hc⟩|hv
    ·rcases hlv with h|h|h
     ·exact .inl h
     ·cases h
     ·rw[g2]at h;exact(h hc).elim
    ·exact .inr hv
   ·rw[g1];exact h5.del _ _
 | mark i o ks fl s s' pw id nx m off hw hs _ ih=>
  intro l a w hl hI hQ
  cases l with
  | nil=>simp at hl
  | cons oo l=>
   obtain⟨R,B,h1,h2,h3,h4,h5,h6,h7⟩:=hI
   obtain⟨g1,g2,g3,g4,g5⟩:=good oo l o _ hl ⟨_,true,hw,fun _ hb=>nostep (h4.sel false ks).live (hb ▸ hs)⟩
   have hdst:=HA g3 h6
   unfold wpList
   rw[if_pos (C0 (h4.sel false ks).env g4 hw)]
   left
   rw[g2]at hs
   have hs2:FZ C.E D pw s.Z.next (s.Z.next+1) (Ad P C.G oo.op) (Df false ks s.e) (Ji false ks s.q) s.r s.Z (.mark m off):=by
    cases hs with
    | mv x m off ho hm=>exact .mv x m off ho hm
    | fa d x m off ho hm=>exact .fa d x m off ho hm
   refine Kq hD h3 (h4.sel false ks) (h5.sel false ks) oo (h3.rel.fresh _ (AQ _)) (Hw _) (DQ _) hs2 _ Q (fun v2 r2 Z2 heq=>by cases heq) (fun m2 off2 heq ii hB=>?_)
   cases heq
   refine ih l _ w g5 ⟨R,B,h1,h2,h3,?_,?_,by rw[H4];exact h6,by rw[D6];exact h7⟩ hQ
   ·rw[g1];exact h4.del _ _
   ·rw[g1];exact h5.mark hdst hB
 | pal i o ks fl s s' d el z hd ho hw _ ih=>
  intro l a w hl hI hQ
  cases l with
  | nil=>simp at hl
  | cons oo l=>
   obtain⟨g1,g2,g3,g4,g5⟩:=good oo l o _ hl ⟨_,true,hw,fun _ hb=>by rw[ho]at hb;cases hb⟩
   obtain⟨R,B,h1,h2,h3,h4,h5,h6,h7⟩:=hI
   have hdst:=HA g3 h6
   unfold wpList
   rw[if_pos (C0 (h4.sel false ks).env g4 hw)]
   left
   rw[g2]at ho
   rw[hd]at g1
   refine Yz h3 oo (d:=d) ho _ Q (fun ii w' hmem=>?_)
   rw[<-g1]at hdst ⊢
   refine ih l _ w' g5 ⟨R,_,h1,h2,hmem,?_,?_,by rw[H4];exact h6,by rw[D6];exact h7⟩ hQ
   ·exact h4.del (some d) _
   ·exact h5.pal hdst ii
end Go.Og
namespace Go.Og
variable {P:Program} {E:EB} {D:Al} {C:Cx} {R:Ren} {Z:H} {w w':World}
inductive Oc where
 | val (v:V)
 | mark (m off:Nat)
 | pal (d:Nat) (z:List V)
def Ik (s2 s1:St):Prop:=(∀t v,look s2.e t=some v->look s1.e t=some v)/\(∀t v,look s2.q t=some v->look s1.q t=some v)/\s2.r=s1.r/\s2.Z=s1.Z
theorem Ik.refl (s:St):Ik s s:=⟨fun _ _ h=>h,fun _ _ h=>h,rfl,rfl⟩
inductive At (E:EB) (D:Al) (s:St) (o:BC) (ks:List Nat):Oc->Bool->St->Prop where
 | skip (s2:St) (hw:BW (Df true ks s.e) o.guard=some false) (h:Ik s2 ⟨CS s.e o.dst DV,Bn o.dst s.q,s.r,s.Z⟩):At E D s o ks (.val DV) false s2
 | val (s2:St) (pw:Bool) (v:V) (r':Rg) (Z':H) (hw:BW (Df true ks s.e) o.guard=some true) (hs:FZ E D pw s.Z.next (s.Z.next+1) o.op (Df true ks s.e) (Ji true ks s.q) s.r s.Z (.val v r' Z'))
   (hl:o.dst=none\/v.live=true\/o.op.cls ≠ .k) (hna:o.op.cls ≠ .a) (h:Ik s2 ⟨CS s.e o.dst v,Bn o.dst s.q,r',Z'⟩):At E D s o ks (.val v) true s2
 | mark (s2:St) (pw:Bool) (id nx m off:Nat) (hw:BW (Df true ks s.e) o.guard=some true) (hs:FZ E D pw id nx o.op (Df true ks s.e) (Ji true ks s.q) s.r s.Z (.mark m off))
   (h:Ik s2 ⟨Bn o.dst s.e,Oo (Bn o.dst s.q) o.dst (m,off),s.r,s.Z⟩):At E D s o ks (.mark m off) true s2
 | pal (s2:St) (d:Nat) (el:TypeId) (z:List V) (hd:o.dst=some d) (ho:o.op = .alloc el z) (hw:BW (Df true ks s.e) o.guard=some true)
   (h:Ik s2 ⟨BT [d] s.e,(d,(d,0))::Iu d (BT [d] s.q),(d,z)::BT [d] s.r,s.Z⟩):At E D s o ks (.pal d z) true s2
theorem Ws {n0:Nat}:∀{i:Nat} {fl:List (BC × List Nat)} {s s':St},OG E D true n0 i fl s s' ->
  ∃(sts:Nat->St) (oc:Nat->Oc) (ex:Nat->Bool),Ik (sts 0) s/\s'=sts fl.length/\∀(k:Nat) (o:BC) (ks:List Nat),fl[k]? = some (o,ks)->At E D (sts k) o ks (oc k) (ex k) (sts (k+1)):=by
 intro i fl s s' h
 have cons:∀(s s1:St) (o:BC) (ks:List Nat) (l:List (BC × List Nat)) (c:Oc) (x:Bool),(∀s2,Ik s2 s1->At E D s o ks c x s2) ->
   (∃(sts:Nat->St) (oc:Nat->Oc) (ex:Nat->Bool),Ik (sts 0) s1/\s'=sts l.length/\∀(k:Nat) (o:BC) (ks:List Nat),l[k]? = some (o,ks)->At E D (sts k) o ks (oc k) (ex k) (sts (k+1))) ->
   ∃(sts:Nat->St) (oc:Nat->Oc) (ex:Nat->Bool),Ik (sts 0) s/\s'=sts ((o,ks)::l).length/\∀(k:Nat) (o':BC) (ks':List Nat),((o,ks)::l)[k]? = some (o',ks')->At E D (sts k) o' ks' (oc k) (ex k) (sts (k+1)):=by
  rintro s s1 o ks l c x hat ⟨sts,oc,ex,h1,h2,h3⟩
  refine⟨fun k=>Nat.casesOn k s sts,fun k=>Nat.casesOn k c oc,fun k=>Nat.casesOn k x ex,Ik.refl s,h2,fun k o' ks' hk=>?_⟩
  cases k with
  | zero=>
   simp only[Ok,AL.injEq,Prod.mk.injEq]at hk
   obtain⟨rfl,rfl⟩:=hk
   exact hat _ h1
  | succ k=>
   simp only[Bz]at hk
   exact h3 k o' ks' hk
 induction h with
 | nil i s=>exact⟨fun _=>s,fun _ => .val .dead,fun _=>false,Ik.refl s,rfl,fun k o ks hk=>by simp at hk⟩
 | skip i o ks l s s' hw _ ih=>exact cons s _ o ks l _ _ (fun s2 hs => .skip s2 hw hs) (ih (cons:=cons))
 | val i o ks l s s' pw v r' Z' hw hs hl hna _ ih=>exact cons s _ o ks l _ _ (fun s2 h2 => .val s2 pw v r' Z' hw hs hl (hna rfl) h2) (ih (cons:=cons))
 | mark i o ks l s s' pw id nx m off hw hs _ ih=>exact cons s _ o ks l _ _ (fun s2 h2 => .mark s2 pw id nx m off hw hs h2) (ih (cons:=cons))
 | pal i o ks l s s' d el z hd ho hw _ ih=>exact cons s _ o ks l _ _ (fun s2 h2 => .pal s2 d el z hd ho hw h2) (ih (cons:=cons))
 | shrink i l s s' e q he hq _ ih=>
  obtain⟨sts,oc,ex,h1,h2,h3⟩:=ih (cons:=cons)
  exact⟨sts,oc,ex,⟨fun t v hv=>he t v (h1.1 t v hv),fun t v hv=>hq t v (h1.2.1 t v hv),h1.2.2.1,h1.2.2.2⟩,h2,h3⟩
theorem PE {pw:Bool} {id nx:Nat} {o:Dx} {e:Bk} {q:Qs} {r r' rL:Rg} {Z':H} {v:V} (h:FZ E D pw id nx o e q r Z (.val v r' Z')) (hr:∀x m off,Eo q x=some (m,off)->look rL m=look r m) :
  ∃rL',FZ E D pw id nx o e q rL Z (.val v rL' Z')/\((r'=r/\rL'=rL)\/∃x m off c l,Eo q x=some (m,off)/\look r m=some l/\r'=IL r m c/\rL'=IL rL m c):=by
 cases h with
 | p _ hc h=>exact⟨rL,.p v hc h,.inl ⟨rfl,rfl⟩⟩
 | l _ hc h=>exact⟨rL,.l v hc h,.inl ⟨rfl,rfl⟩⟩
 | a _ b hc h=>exact⟨rL,.a v b hc h,.inl ⟨rfl,rfl⟩⟩
 | k _ Z1 _ hc h hs=>exact⟨rL,.k v Z1 Z' hc h hs,.inl ⟨rfl,rfl⟩⟩
 | ld x m off l _ ho hm hl h=>exact⟨rL,.ld x m off l v ho hm (by rw[hr x m off hm];exact hl) h,.inl ⟨rfl,rfl⟩⟩
 | ldn n x m off l ho hm hl h=>exact⟨rL,.ldn n x m off l ho hm (by rw[hr x m off hm];exact hl) h,.inl ⟨rfl,rfl⟩⟩
 | st n x y m off l cs u hw ho hm hl hn hu hlu hcs h1 hlen h=>exact⟨_,.st n x y m off l cs u hw ho hm (by rw[hr x m off hm];exact hl) hn hu hlu hcs h1 hlen h,.inr ⟨x,m,off,_,l,hm,hl,rfl,rfl⟩⟩
theorem NQ {pw:Bool} {id nx:Nat} {o:Dx} {e:Bk} {q:Qs} {r r':Rg} {Z':H} {v:V} (h:FZ E D pw id nx o e q r Z (.val v r' Z')) (hk:o.cls ≠ .k) (ha:o.cls ≠ .a):r'=r/\Z'=Z:=by
 cases h with
 | p _ hc h=>exact⟨rfl,rfl⟩
 | l _ hc h=>exact⟨rfl,rfl⟩
 | a _ b hc h=>exact(ha hc).elim
 | k _ Z1 _ hc h hs=>exact(hk hc).elim
 | ld x m off l _ ho hm hl h=>exact⟨rfl,rfl⟩
 | ldn n x m off l ho hm hl h=>exact⟨rfl,rfl⟩
 | st n x y m off l cs u hw ho hm hl hn hu hlu hcs h1 hlen h=>exact(hk (by rw[ho];rfl)).elim
theorem ZC {pw:Bool} {id nx id' nx':Nat} {o:Dx} {e:Bk} {q:Qs} {r rL:Rg} {Z ZL:H} {m off:Nat} (h:FZ E D pw id nx o e q r Z (.mark m off)):FZ E D pw id' nx' o e q rL ZL (.mark m off):=by
 cases h with
 | mv x _ _ ho hm=>exact .mv x m off ho hm
 | fa d x _ off ho hm=>exact .fa d x m off ho hm
theorem W5 {pw:Bool} {id nx:Nat} {o:Dx} {e:Bk} {q:Qs} {r:Rg} {m off:Nat} (h:FZ E D pw id nx o e q r Z (.mark m off)):∃x off',Eo q x=some (m,off'):=by
 cases h with
 | mv x _ _ ho hm=>exact⟨x,off,hm⟩
 | fa d x _ off ho hm=>exact⟨x,off,hm⟩
theorem H6:∀(l:XL) (g:Option (Nat × Bool)),l.makes=false->∀o∈l.flat g,∀d,o.op.cls = .a->o.dst=some d->BX l.pals d=true
 | .nil,g,h,o,ho,d,hc,hd=>by simp[XL.flat]at ho
 | .op dd ty ks op r,g,h,o,ho,d,hc,hd=>by
  obtain⟨h1,h2⟩:=VN h
  simp only[XL.flat,AS]at ho
  rcases ho with rfl|ho
  ·exact(h1 hc).elim
  ·exact H6 r g h2 o ho d hc hd
 | .pal dd ks el z r,g,h,o,ho,d,hc,hd=>by
  simp only[XL.flat,AS]at ho
  simp only[XL.pals]
  rw[Ch]
  rcases ho with rfl|ho
  ·left;simpa using hd
  ·right;exact H6 r g h o ho d hc hd
 | .grp t b l dd ks c x y r,g,h,o,ho,d,hc,hd=>by
  obtain⟨h1,h2⟩:=UF h
  simp only[XL.flat,fW,AS]at ho
  simp only[XL.pals]
  rw[En]
  rcases ho with ho|rfl|ho
  ·left;exact H6 l _ h1 o ho d hc hd
  ·cases hc
  ·right;exact H6 r g h2 o ho d hc hd
theorem KA {q:Qs}:∀{l:List Nat},Nc q l=true->∀d,BX l d=true->∀t off,look q t≠some (d,off)
 | [],_,d,hd=>by simp[BX]at hd
 | a::l,h,d,hd=>by
  simp only[Nc,AF]at h
  intro t off hl
  rcases(Ch a l d).1 hd with rfl|hd
  ·have hm:Hs a q=[]:=by simpa using h.1
   have:=IN (m:=a) (q:=q) (t:=t) (p:=(a,off)) (by rw[hm];rfl) hl
   exact this rfl
  ·exact KA h.2 d hd t off hl
end Go.Og
