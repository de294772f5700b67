/- What the last text leans on, part 2 of 7: merged out of smaller texts. No condition. -/
import Derived.Orders
import Derived.Test.YtgblfbajgpboiaaGreatDoorQ0
open Int renaming ofNat -> AA,ofNat_eq_natCast -> Db,tmod -> Lo,natCast_nonneg -> QL,toNat_of_nonneg -> ot,fdiv_eq_ediv_of_nonneg -> ABd
open Nat renaming le_refl -> AK,add -> AP,beq_eq -> AU,ble_eq -> Ac,ble -> Ag,beq -> Ak,lt_or_ge -> Av,zero_add -> BA,le_trans -> Bc,blt_eq -> Bu,blt -> B2,mod_eq_of_lt -> CY,lt_irrefl -> C7,zero_le -> DZ,le_succ -> EM,min -> Ex,lt_of_lt_of_le -> E3,lt_succ_self -> IK,sub_self -> JG,mul -> Ma,strongRecOn -> OP,testBit_or -> Tt,lt_succ_of_lt -> Tv,pow_le_pow_right -> fM,lt_trichotomy -> AJc
open Bool renaming and_eq_true -> AG,or_eq_false_iff -> Bd,or_eq_true -> Bk,true_and -> Co,not_eq_true' -> C8,false_or -> Dc,eq_false_iff -> Dw,not_true -> E9,eq_iff_iff -> Fg,false_and -> ABe
open List renaming getElem?_eq_getElem -> AM,length_cons -> AN,mem_cons_self -> Ab,replicate -> As,getElem?_map -> Aw,mem_cons -> Ax,getElem?_eq_none -> BF,mem_cons_of_mem -> BM,getD_eq_getElem?_getD -> BT,getElem?_cons_succ -> Bb,getElem?_drop -> Bm,map_cons -> B3,drop_drop -> CJ,append_assoc -> DN,range -> Da,all_eq_true -> Dk,mem_append -> EA,append_nil -> EC,drop_zero -> FI,nil_append -> Ff,cons_append -> GG,getElem?_take -> Gg,take_zero -> IM,countP_cons_of_pos -> IN,all_cons -> Jf,getElem?_cons_zero -> QP,countP_cons_of_neg -> QQ,eq_nil_iff_forall_not_mem -> X9,mem_range -> ABb
open Option renaming some -> AQ,map_eq_some_iff -> Aa
open Array renaming getElem?_setIfInBounds -> A2,getElem?_eq_none -> CH,getElem?_eq_getElem -> Dq,size_setIfInBounds -> D4,getD_eq_getD_getElem? -> EO,replicate -> HB,getElem?_toList -> WX,getElem?_replicate -> AOQ
open BitVec renaming ofInt -> BG
set_option linter.unusedSimpArgs false
namespace Go.Og
variable {P:Program} {G:Nat->Bool} {E:EB} {D:Ai} {C:Cx}
theorem NO {α:Type} (l m:List (Nat × α)) (id:Nat):look (l++m) id=match look l id with
  | some b=>some b
  | none=>look m id:=by
 induction l with
 | nil=>rfl
 | cons p l ih=>
  obtain⟨k,b⟩:=p
  by_cases h:k=id
  ·simp[look,h]
  ·simp only[GG,look,AU,h,if_false,ih]
theorem KT {n0 n id:Nat} {p:Nat->Bool}:(Ag n0 id&&B2 id (n0+n) && !p (id-n0))=true↔(n0<=id/\id<n0+n/\p (id-n0)=false):=by
 simp only[AG,Ac,Bu,C8,and_assoc]
theorem DY (n0 n:Nat) (p:Nat->Bool) (l:EB) (id:Nat) :
  look (CS n0 n p l) id=if n0<=id/\id<n0+n/\p (id-n0)=false then none else look l id:=by
 induction l with
 | nil=>simp[CS,look]
 | cons q l ih=>
  obtain⟨k,b⟩:=q
  unfold CS
  by_cases hk:n0<=k/\k<n0+n/\p (k-n0)=false
  ·rw[if_pos (KT.2 hk),ih]
   by_cases h:k=id
   ·subst h;rw[if_pos hk,if_pos hk]
   ·simp only[look,AU,h,if_false]
  ·rw[if_neg (fun hh=>hk (KT.1 hh))]
   by_cases h:k=id
   ·subst h;rw[if_neg hk];simp[look]
   ·simp only[look,AU,h,if_false,ih]
theorem Ou (n0 n:Nat) (p:Nat->Bool) (l:EB) (id:Nat) :
  look (Ei n0 n p l) id=if n0<=id/\id<n0+n/\p (id-n0)=false then look l id else none:=by
 induction l with
 | nil=>simp[Ei,look]
 | cons q l ih=>
  obtain⟨k,b⟩:=q
  unfold Ei
  by_cases hk:n0<=k/\k<n0+n/\p (k-n0)=false
  ·rw[if_pos (KT.2 hk)]
   by_cases h:k=id
   ·subst h;rw[if_pos hk];simp[look]
   ·simp only[look,AU,h,if_false,ih]
  ·rw[if_neg (fun hh=>hk (KT.1 hh)),ih]
   by_cases h:k=id
   ·subst h;rw[if_neg hk,if_neg hk]
   ·simp only[look,AU,h,if_false]
theorem Jy {n0 n:Nat} {p q:Nat->Bool} (h:∀k,k<n->p k=q k):∀l,CS n0 n p l=CS n0 n q l
 | []=>rfl
 | (id,b)::l=>by
  unfold CS
  rw[Jy h l]
  by_cases hk:n0<=id/\id<n0+n
  ·rw[h (id-n0) (by omega)]
  ·have:(Ag n0 id&&B2 id (n0+n))=false:=by
    cases hb:(Ag n0 id&&B2 id (n0+n))with
    | false=>rfl
    | true=>simp only[AG,Ac,Bu]at hb;exact(hk hb).elim
   rw[this];simp
theorem NP {n0 n:Nat} {p q:Nat->Bool} (h:∀k,k<n->p k=q k):∀l,Ei n0 n p l=Ei n0 n q l
 | []=>rfl
 | (id,b)::l=>by
  unfold Ei
  rw[NP h l]
  by_cases hk:n0<=id/\id<n0+n
  ·rw[h (id-n0) (by omega)]
  ·have:(Ag n0 id&&B2 id (n0+n))=false:=by
    cases hb:(Ag n0 id&&B2 id (n0+n))with
    | false=>rfl
    | true=>simp only[AG,Ac,Bu]at hb;exact(hk hb).elim
   rw[this];simp
mutual
theorem M3:∀(a b:V),V.beq a b=true->a=b
 | .dead,b,h=>by cases b<;>simp[V.beq]at h
 | .bool a,b,h=>by cases b<;>simp[V.beq]at h;subst h;rfl
 | .int k a,b,h=>by cases b<;>simp[V.beq]at h;obtain⟨rfl,rfl⟩:=h;rfl
 | .str a,b,h=>by cases b<;>simp[V.beq]at h;subst h;rfl
 | .nilp,b,h=>by cases b<;>simp[V.beq]at h;rfl
 | .ptr _ _,b,h=>by cases b<;>simp[V.beq]at h;obtain⟨rfl,rfl⟩:=h;rfl
 | .nils,b,h=>by cases b<;>simp[V.beq]at h;rfl
 | .sl _ _ _ _,b,h=>by cases b<;>simp[V.beq]at h;obtain⟨⟨⟨rfl,rfl⟩,rfl⟩,rfl⟩:=h;rfl
 | .sle _ _ _ _,b,h=>by cases b<;>simp[V.beq]at h;obtain⟨⟨⟨rfl,rfl⟩,rfl⟩,rfl⟩:=h;rfl
 | .nilm,b,h=>by cases b<;>simp[V.beq]at h;rfl
 | .mp _,b,h=>by cases b<;>simp[V.beq]at h;subst h;rfl
 | .fn f x y,b,h=>by
  cases b with
  | fn g u v=>
   simp only[V.beq,AG,AU]at h
   obtain⟨⟨rfl,h1⟩,h2⟩:=h
   rw[KZ x u h1,KZ y v h2]
  | _=>simp[V.beq]at h
 | .nilf,b,h=>by cases b<;>simp[V.beq]at h;rfl
 | .ifc t x,b,h=>by
  cases b with
  | ifc u y=>
   simp only[V.beq,AG,AU]at h
   obtain⟨rfl,h1⟩:=h
   rw[M3 x y h1]
  | _=>simp[V.beq]at h
 | .nili,b,h=>by cases b<;>simp[V.beq]at h;rfl
 | .agg l,b,h=>by
  cases b with
  | agg m=>simp only[V.beq]at h;rw[KZ l m h]
  | _=>simp[V.beq]at h
 | .tup l,b,h=>by
  cases b with
  | tup m=>simp only[V.beq]at h;rw[KZ l m h]
  | _=>simp[V.beq]at h
theorem KZ:∀(l m:List V),Kh l m=true->l=m
 | [],m,h=>by cases m<;>simp[Kh]at h;rfl
 | a::l,m,h=>by
  cases m with
  | nil=>simp[Kh]at h
  | cons b m=>
   simp only[Kh,AG]at h
   rw[M3 a b h.1,KZ l m h.2]
end
def Cx.sub (C:Cx) (R:Cz) (Us:H) (w:World):Cx:=
 { C with O:=fun blk=>w.heap.size<=blk\/∃id b j,look Us.bl id=some b/\R id=some j/\j.blk=blk,w0:=w }
theorem tU {R:Cz} {U Us:H} {w:World} (h:Dt C R U w) (hsub:∀id b,look Us.bl id=some b->look U.bl id=some b) {blk:Nat} (hO:(C.sub R Us w).O blk):C.O blk:=by
 rcases hO with hge|⟨id,b,j,hb,hj,rfl⟩
 ·exact h.new _ (Bc h.size hge)
 ·obtain⟨j',hj',hO',_⟩:=h.own id b (hsub id b hb)
  rw[hj]at hj';cases hj';exact hO'
theorem Dt.shrink {R:Cz} {U Us:H} {w:World} (h:Dt C R U w) (hn:Us.next=U.next) (hsub:∀id b,look Us.bl id=some b->look U.bl id=some b):Dt (C.sub R Us w) R Us w where
 fresh id hid:=h.fresh id (hn ▸ hid)
 own id b hb:=by
  obtain⟨j,hj,_,hok⟩:=h.own id b (hsub id b hb)
  exact⟨j,hj,.inr ⟨id,b,j,hb,hj,rfl⟩,hok⟩
 inj id id' b b' i i' hb hb' hi hi' hbl:=h.inj id id' b b' i i' (hsub _ _ hb) (hsub _ _ hb') hi hi' hbl
 ext id b hb:=by
  obtain⟨j,hj,hno,hok⟩:=h.ext id b hb
  exact⟨j,hj,fun hO=>hno (tU h hsub hO),hok⟩
 glob:=h.glob
 fr _ _:=rfl
 size:=AK _
 new _ hblk := .inl hblk
 os:=rfl
 tape:=rfl
 output:=rfl
theorem Dt.regrow {R R':Cz} {U Us U' U2:H} {w w':World} (h:Dt C R U w) (hsub:∀id b,look Us.bl id=some b->look U.bl id=some b)
  (hs:Dt (C.sub R Us w) R' U' w') (hx:G6 U.next R R') (h2:U2.next=U'.next)
  (hl:∀id b,look U2.bl id=some b->look U'.bl id=some b\/(look U.bl id=some b/\look Us.bl id=none)):Dt C R' U2 w':=by
 have hle:Le R R':=hx.le h.fresh
 have hOO:∀blk,(C.sub R Us w).O blk->C.O blk:=fun blk hO=>tU h hsub hO
 have hno:∀id b j,look U.bl id=some b->look Us.bl id=none->R id=some j->¬(C.sub R Us w).O j.blk:=by
  intro id b j hb hnone hj hO
  rcases hO with hge|⟨id2,b2,j2,hb2,hj2,hbl⟩
  ·obtain⟨j',hj',_,hok⟩:=h.own id b hb
   rw[hj]at hj';cases hj'
   have:=hok.lt
   omega
  ·have:=h.inj id2 id b2 b j2 j (hsub _ _ hb2) hb hj2 hj hbl
   subst this
   rw[hnone]at hb2;cases hb2
 have hR:∀id b,look U.bl id=some b->R' id=R id:=fun id b hb=>hx id (h.next_of_own hb)
 refine⟨fun id hid=>hs.fresh id (h2 ▸ hid),?_,?_,?_,?_,?_,?_,h.new,hs.os.trans h.os,hs.tape.trans h.tape,hs.output.trans h.output⟩
 ·intro id b hb
  rcases hl id b hb with h1|⟨h1,h1n⟩
  ·obtain⟨j,hj,hO,hok⟩:=hs.own id b h1
   exact⟨j,hj,hOO _ hO,hok⟩
  ·obtain⟨j,hj,hO,hok⟩:=h.own id b h1
   exact⟨j,by rw[hR id b h1];exact hj,hO,hok.mono hle (hs.fr _ (hno id b j h1 h1n hj))⟩
 ·intro id id' b b' i i' hb hb' hi hi' hbl
  rcases hl id b hb with h1|⟨h1,h1n⟩
  ·rcases hl id' b' hb' with h1'|⟨h1',h1n'⟩
   ·exact hs.inj id id' b b' i i' h1 h1' hi hi' hbl
   ·exfalso
    obtain⟨j,hj,hO,_⟩:=hs.own id b h1
    rw[hi]at hj;cases hj
    rw[hR id' b' h1']at hi'
    exact hno id' b' i' h1' h1n' hi' (hbl ▸ hO)
  ·rcases hl id' b' hb' with h1'|⟨h1',h1n'⟩
   ·exfalso
    obtain⟨j,hj,hO,_⟩:=hs.own id' b' h1'
    rw[hi']at hj;cases hj
    rw[hR id b h1]at hi
    exact hno id b i h1 h1n hi (hbl ▸ hO)
   ·rw[hR id b h1]at hi;rw[hR id' b' h1']at hi'
    exact h.inj id id' b b' i i' h1 h1' hi hi' hbl
 ·intro id b hb
  obtain⟨j,hj,hn,hok⟩:=h.ext id b hb
  exact⟨j,hle _ _ hj,hn,hok.mono hle (hs.fr _ fun hO=>hn (hOO _ hO))⟩
 ·intro g hg
  obtain⟨j,hj,hb⟩:=h.glob g hg
  exact⟨j,hle _ _ hj,hb⟩
 ·intro blk hn
  rw[<-h.fr blk hn]
  exact hs.fr blk fun hO=>hn (hOO _ hO)
 ·exact Bc h.size hs.size
theorem Dt.allocAt {R:Cz} {U U2:H} {w w':World} (h:Dt C R U w) {id:Nat} (hid:R id=none) (hlt:id<U.next) (hn:FF w w') (b:GM) (i:BI) (hi:i.blk=w.heap.size)
  (hb:FB (IP R id i) i b w') (h2:U2.next=U.next) (hl:∀k,look U2.bl k=if k=id then some b else look U.bl k):Dt C (IP R id i) U2 w':=by
 have hle:Le R (IP R id i):=fun k j hk=>by
  by_cases he:k=id
  ·subst he;rw[hid]at hk;cases hk
  ·rw[Bp he];exact hk
 have hold:=hn.old
 have hO:C.O w.heap.size:=h.new _ h.size
 refine⟨?_,?_,?_,?_,?_,?_,?_,h.new,hn.os.trans h.os,hn.tape.trans h.tape,hn.output.trans h.output⟩
 ·intro k hk
  rw[Bp (by omega)];exact h.fresh k (by omega)
 ·intro k c hc
  rw[hl]at hc
  by_cases he:k=id
  ·subst he
   rw[if_pos rfl]at hc;cases hc
   exact⟨i,CN _ _ _,hi ▸ hO,hb⟩
  ·rw[if_neg he]at hc
   obtain⟨j,hj,hOj,hok⟩:=h.own k c hc
   exact⟨j,by rw[Bp he];exact hj,hOj,hok.mono hle (hold _ hok.lt)⟩
 ·intro k k' c c' j j' hc hc' hj hj' hbl
  rw[hl]at hc hc'
  by_cases he:k=id
  ·by_cases he':k'=id
   ·rw[he,he']
   ·exfalso
    subst he
    rw[CN]at hj;cases hj
    rw[if_neg he']at hc'
    rw[Bp he']at hj'
    obtain⟨q,hq,_,hok⟩:=h.own k' c' hc'
    rw[hq]at hj';cases hj'
    have:=hok.lt
    omega
  ·by_cases he':k'=id
   ·exfalso
    subst he'
    rw[CN]at hj';cases hj'
    rw[if_neg he]at hc
    rw[Bp he]at hj
    obtain⟨q,hq,_,hok⟩:=h.own k c hc
    rw[hq]at hj;cases hj
    have:=hok.lt
    omega
   ·rw[if_neg he]at hc;rw[if_neg he']at hc'
    rw[Bp he]at hj;rw[Bp he']at hj'
    exact h.inj k k' c c' j j' hc hc' hj hj' hbl
 ·intro k c hc
  obtain⟨j,hj,hno,hok⟩:=h.ext k c hc
  refine⟨j,hle _ _ hj,hno,hok.mono hle (hold _ ?_)⟩
  rcases Av j.blk w.heap.size with hl|hl
  ·exact hl
  ·exact absurd (h.new _ (Bc h.size hl)) hno
 ·intro g hg
  obtain⟨j,hj,hb⟩:=h.glob g hg
  exact⟨j,hle _ _ hj,hb⟩
 ·intro blk hno
  rw[<-h.fr blk hno]
  refine hold _ ?_
  rcases Av blk w.heap.size with hl|hl
  ·exact hl
  ·exact absurd (h.new _ (Bc h.size hl)) hno
 ·rw[hn.size];have:=h.size;omega
theorem Dt.congr {R:Cz} {U U2:H} {w:World} (h:Dt C R U w) (hn:∀id,U2.next<=id->R id=none) (hl:∀k b,look U2.bl k=some b->look U.bl k=some b):Dt C R U2 w:=
 ⟨hn,fun k c hk=>h.own k c (hl k c hk),fun k k' c c' i i' hk hk'=>h.inj k k' c c' i i' (hl k c hk) (hl k' c' hk'),h.ext,h.glob,h.fr,h.size,h.new,h.os,h.tape,h.output⟩
theorem YX {R:Cz} {U Us:H} {w:World} (h:Dt C R U w) (hsub:∀id b,look Us.bl id=some b->look U.bl id=some b) {id:Nat} {l:List V} (hr:rd C.E Us id=some l):rd C.E U id=some l:=by
 unfold rd at hr ⊢
 cases hs:look Us.bl id with
 | some b=>rw[hs]at hr;rw[hsub id b hs];exact hr
 | none=>
  rw[hs]at hr
  cases he:look C.E id with
  | none=>rw[he]at hr;cases hr
  | some b=>
   rw[he]at hr
   cases ho:look U.bl id with
   | none=>exact hr
   | some c=>
    exfalso
    obtain⟨j,hj,hO,_⟩:=h.own id c ho
    obtain⟨j',hj',hno,_⟩:=h.ext id b he
    rw[hj]at hj';cases hj'
    exact hno hO
theorem UO {R:Cz} {U Us:H} {w:World} (h:Dt C R U w) (hsub:∀id b,look Us.bl id=some b->look U.bl id=some b) {id off n:Nat} {l:List V} (hr:Lq C.E Us id off n=some l):Lq C.E U id off n=some l:=by
 unfold Lq at hr ⊢
 cases hs:rd C.E Us id with
 | none=>rw[hs]at hr;cases hr
 | some m=>rw[hs]at hr;rw[YX h hsub hs];exact hr
theorem gH {R:Cz} {U Us:H} {w:World} (h:Dt C R U w) (hsub:∀id b,look Us.bl id=some b->look U.bl id=some b) {esz:Nat} {x:V} {q:Nat × List V} (hr:C1 C.E Us esz x=some q):C1 C.E U esz x=some q:=by
 unfold C1 at hr ⊢
 split at hr
 ·exact hr
 ·exact hr
 ·simp only[Aa]at hr ⊢
  obtain⟨m,hm,rfl⟩:=hr
  exact⟨m,UO h hsub hm,rfl⟩
 ·exact hr
 ·cases hr
theorem eW {R:Cz} {U Us:H} {w:World} (h:Dt C R U w) (hsub:∀id b,look Us.bl id=some b->look U.bl id=some b) {op:Eb} {e:B6} {v:V} (hr:Cf C.E op e Us=some v):Cf C.E op e U=some v:=by
 unfold Cf at hr ⊢
 split at hr
 ·split at hr
  ·split at hr
   ·rename_i hq;rw[YX h hsub hq];exact hr
   ·cases hr
  ·cases hr
 ·split at hr
  ·split at hr
   ·rename_i hq;rw[UO h hsub hq];exact hr
   ·cases hr
  ·cases hr
 ·split at hr
  ·cases hr
  ·rename_i hns
   rw[if_neg hns]
   split at hr
   ·rename_i hq;rw[gH h hsub hq];exact hr
   ·cases hr
 ·unfold L9 at hr ⊢
  split at hr
  ·split at hr
   ·rename_i hq;rw[hsub _ _ hq];exact hr
   ·cases hr
  ·cases hr
 ·unfold OF at hr ⊢
  split at hr
  ·split at hr
   ·rename_i hq;rw[hsub _ _ hq];exact hr
   ·cases hr
  ·cases hr
 ·cases hr
end Go.Og
namespace Go.Og
variable {P:Program} {G:Nat->Bool} {E:EB} {D:Ai} {C:Cx}
theorem HF:∀{n:Nat} {p:Nat->Bool},XA n p=true->∀k,k<n->p k=true
 | n+1,p,h,k,hk=>by
  simp only[XA,AG]at h
  by_cases he:k=n
  ·subst he;exact h.1
  ·exact HF h.2 k (by omega)
structure RO (ops:Array Oper) (l:List BO) (pl:List DP):Prop where
 len:pl.length=ops.size
 llen:l.length=ops.size
 edges:∀(i:Nat) (o:Oper),ops[i]? = some o->∀e∈o.after,Region.binds .any e=true->e.on<i
 anc:∀(i:Nat) (o:Oper) (p:DP),ops[i]? = some o->pl[i]? = some p->∀k,k<ops.size->p.anc.testBit k=true->∃e∈o.after,Region.binds .any e=true/\(e.on=k\/(Gw pl e.on).testBit k=true)
 dsts:∀(i k:Nat) (o o':Oper) (p p':DP),i≠k->ops[i]? = some o->ops[k]? = some o'->pl[i]? = some p->pl[k]? = some p'->∀(t:Nat),o.dst=some t ->
  o'.dst≠some t/\(Bn p'.looks t=true->p'.anc.testBit i=true\/p.anc.testBit k=true)
 kk:∀(i k:Nat) (ao ao':BO) (p':DP),i<k->l[i]? = some ao->l[k]? = some ao'->pl[k]? = some p'->ao.op.cls = .k->ao'.op.cls = .k->p'.anc.testBit i=true
theorem Qi {ops:Array Oper} {l:List BO} {pl:List DP} (hl:l.length=ops.size) (h:Ok ops l pl=true):RO ops l pl:=by
 unfold Ok at h
 simp only[AG,AU]at h
 obtain⟨hlen,h⟩:=h
 have hlt:∀{i:Nat} {o:Oper},ops[i]? = some o->i<ops.size:=fun {i o} ho=>by
  rcases Av i ops.size with h|h
  ·exact h
  ·rw[CH h]at ho;cases ho
 have hmain:=HF h
 have hl_lt:∀{i:Nat} {o:BO},l[i]? = some o->i<ops.size:=fun {i o} ho=>by
  rcases Av i l.length with h|h
  ·omega
  ·rw[BF h]at ho;cases ho
 have some3:∀i,i<ops.size->∃o ao p,ops[i]? = some o/\l[i]? = some ao/\pl[i]? = some p:=fun i hi=>
  ⟨_,_,_,Dq hi,AM (by omega),AM (by omega)⟩
 refine⟨hlen,hl,?_,?_,?_,?_⟩
 ·intro i o ho e he hb
  obtain⟨o1,ao,p,h1,h2,h3⟩:=some3 i (hlt ho)
  have hm:=hmain i (hlt ho)
  rw[h1,h2,h3]at hm
  rw[ho]at h1;cases h1
  simp only[AG]at hm
  have:=Dk.1 hm.1 e (by simpa using he)
  simp only[hb,E9,Dc,Bu]at this
  exact this
 ·intro i o p ho hp k hk hbit
  obtain⟨o1,ao,p1,h1,h2,h3⟩:=some3 i (hlt ho)
  have hm:=hmain i (hlt ho)
  rw[h1,h2,h3]at hm
  rw[ho]at h1;cases h1
  rw[hp]at h3;cases h3
  simp only[AG]at hm
  have hk2:=HF hm.2 k hk
  simp only[AG]at hk2
  have:=hk2.1
  rw[hbit]at this
  simp only[E9,Dc,List.any_eq_true,AG,Bk,AU]at this
  obtain⟨e,he,hb,hr⟩:=this
  exact⟨e,by simpa using he,hb,hr⟩
 ·intro i k o o' p p' hne ho ho' hp hp' t ht
  obtain⟨o1,ao,p1,h1,h2,h3⟩:=some3 i (hlt ho)
  obtain⟨o2,ao2,p2,h1',h2',h3'⟩:=some3 k (hlt ho')
  have hm:=hmain i (hlt ho)
  rw[h1,h2,h3]at hm
  rw[ho]at h1;cases h1
  rw[hp]at h3;cases h3
  rw[ho']at h1';cases h1'
  rw[hp']at h3';cases h3'
  simp only[AG]at hm
  have hk2:=HF hm.2 k (hlt ho')
  have hik:Ak i k=false:=Dw.2 (by rw[ne_eq,AU];exact hne)
  simp only[AG,hik,Dc]at hk2
  have:=hk2.2
  rw[ho',h2',hp']at this
  simp only[ht,AG]at this
  obtain⟨⟨h4,h5⟩,_⟩:=this
  constructor
  ·intro heq
   rw[heq]at h4
   simp at h4
  ·intro hmem
   rw[hmem]at h5
   simpa using h5
 ·intro i k ao ao' p' hik ha ha' hp' hc hc'
  obtain⟨o1,ao1,p1,h1,h2,h3⟩:=some3 i (hl_lt ha)
  obtain⟨o2,ao2,p2,h1',h2',h3'⟩:=some3 k (hl_lt ha')
  have hm:=hmain i (hl_lt ha)
  rw[h1,h2,h3]at hm
  rw[ha]at h2;cases h2
  rw[ha']at h2';cases h2'
  rw[hp']at h3';cases h3'
  simp only[AG]at hm
  have hk2:=HF hm.2 k (hl_lt ha')
  have hne:Ak i k=false:=Dw.2 (by rw[ne_eq,AU];omega)
  simp only[AG,hne,Dc]at hk2
  have:=hk2.2
  rw[h1',ha',hp']at this
  simp only[AG,hc,hc']at this
  have:=this.2
  have hb:B2 i k=true:=by simpa using hik
  rw[hb]at this
  simpa using this
theorem RO.ancLt {ops:Array Oper} {l:List BO} {pl:List DP} (h:RO ops l pl):∀(i:Nat) (p:DP),pl[i]? = some p->∀(k:Nat),k<ops.size->p.anc.testBit k=true->k<i:=by
 intro i
 induction i using OP with
 | _ i ih=>
  intro p hp k hk hb
  have hi:i<ops.size:=by
   rcases Av i pl.length with h1|h1
   ·have:=h.len;omega
   ·rw[BF h1]at hp;cases hp
  obtain⟨e,he,hbe,hr⟩:=h.anc i ops[i] p (Dq hi) hp k hk hb
  have hlt:=h.edges i ops[i] (Dq hi) e he hbe
  rcases hr with rfl|hr
  ·exact hlt
  ·have hel:e.on<pl.length:=by have:=h.len;omega
   have hp':pl[e.on]? = some pl[e.on]:=AM hel
   have:(pl[e.on]).anc.testBit k=true:=by
    simpa[Gw,BT,hp']using hr
   have:=ih e.on hlt _ hp' k hk this
   omega
structure Tr (E:EB) (D:Ai) (l:List BO) (pl:List DP) (n0 n:Nat) (e0:B6) (h0:EB) (i:Nat) (s:DS) where
 vals:Nat->V
 envs:Nat->B6
 Hh:Nat->EB
 nx:Nat->Nat
 ks:Nat->Nat
 M:Nat
 ssl:s.ss.length=M+1
 ssg:∀(m:Nat),m<=M->s.ss[M-m]? = some (Hh m)
 ksl:s.ks.length=M
 ksg:∀(r:Nat),r<M->s.ks[M-1-r]? = some (ks r)
 ke:s.e=envs i
 ez:envs 0=e0
 es:∀(k:Nat),k<i->∀(o:BO),l[k]? = some o->envs (k+1)=Cu (envs k) o.dst (vals k)
 nx0:nx 0=n0+n
 nxs:s.nx=nx M
 hz:∀id,¬(n0<=id/\id<n0+n)->look (Hh 0) id=look h0 id
 ops:∀(k:Nat),k<i->∀(o:BO) (p:DP),l[k]? = some o->pl[k]? = some p ->
  (Bq (restr p.looks (envs k)) o.guard=some false/\vals k=EP/\s.am.testBit k=false/\∀r,r<M->ks r≠k) \/
  (Bq (restr p.looks (envs k)) o.guard=some true /\
   ((o.op.cls = .p/\BV o.op (restr p.looks (envs k))=some (vals k)/\s.am.testBit k=false/\∀r,r<M->ks r≠k) \/
    (o.op.cls = .l/\(k,o.op,restr p.looks (envs k),vals k)∈s.ls/\s.am.testBit k=false/\∀r,r<M->ks r≠k) \/
    (o.op.cls = .a/\s.am.testBit k=true/\(∀r,r<M->ks r≠k)/\∃b,Cm o.op (restr p.looks (envs k)) (n0+k)=some (vals k,b) /\
     ∀m,m<=M->(∀r,r<m->(Gw pl (ks r)).testBit k=false)->look (Hh m) (n0+k)=some b) \/
    (o.op.cls = .k/\s.am.testBit k=false/\∃r,r<M/\ks r=k)))
 amlt:∀k,s.am.testBit k=true->k<i
 kst:∀r,r<M->ks r<i/\∃(o:BO) (p:DP) (U':H),l[ks r]? = some o/\pl[ks r]? = some p/\o.op.cls = .k/\Bq (restr p.looks (envs (ks r))) o.guard=some true /\
  Dx E D o.op (restr p.looks (envs (ks r))) ⟨nx r,CS n0 n (DQ p.anc s.am) (Hh r)⟩=some (vals (ks r),U') /\
  Hh (r+1)=Ei n0 n (DQ p.anc s.am) (Hh r)++U'.bl/\nx (r+1)=U'.next
 kinc:∀r r',r<r'->r'<M->ks r<ks r'
theorem Hb {a i k:Nat}:(a ||| 2 ^ i).testBit k=(a.testBit k || decide (i=k)):=by
 rw[Tt,Nat.testBit_two_pow]
theorem Tr.start (E : EB) (D : Ai) (l : List BO) (pl : List DP) (n0 n : Nat) (e0 : B6) (h0 : EB) : Nonempty (Tr E D l pl n0 n e0 h0 0 ⟨e0, n0 + n, [h0], [], 0, []⟩) :=
  ⟨{ vals := fun _ => .dead, envs := fun _ => e0, Hh := fun _ => h0, nx := fun _ => n0 + n, ks := fun _ => 0, M := 0,
     ssl := rfl, ssg := fun m hm => by have : m = 0 := by omega
                                       subst this; rfl
     ksl := rfl, ksg := fun r hr => by omega
     ke := rfl, ez := rfl, es := fun k hk => by omega
     nx0 := rfl, nxs := rfl, hz := fun _ _ => rfl
     ops := fun k hk => by omega
     amlt := fun k hk => by simp at hk
     kst := fun r hr => by omega
     kinc := fun r r' h h' => by omega }⟩
def QV {α:Type} (f:Nat->α) (i:Nat) (v:α) (k:Nat):α:=if k=i then v else f k
theorem Cd {α:Type} (f:Nat->α) (i:Nat) (v:α):QV f i v i=v:=if_pos rfl
theorem I6 {α:Type} (f:Nat->α) {i k:Nat} (v:α) (h:k≠i):QV f i v k=f k:=if_neg h
theorem Tr.quiet {l:List BO} {pl:List DP} {n0 n:Nat} {e0:B6} {h0:EB} {i:Nat} {s:DS} (T:Tr E D l pl n0 n e0 h0 i s) {o:BO} {p:DP} (ho:l[i]? = some o) (hp:pl[i]? = some p) (v:V) (ls:List (Nat × Eb × B6 × V))
    (hls:∀x,x∈s.ls->x∈ls)
    (hcase:(Bq (restr p.looks s.e) o.guard=some false/\v=EP)\/(Bq (restr p.looks s.e) o.guard=some true /\
      ((o.op.cls = .p/\BV o.op (restr p.looks s.e)=some v)\/(o.op.cls = .l/\(i,o.op,restr p.looks s.e,v)∈ls)))) :
    Nonempty (Tr E D l pl n0 n e0 h0 (i+1) { s with e:=Cu s.e o.dst v,ls:=ls }):=by
  obtain⟨vals,envs,Hh,nx,ks,M,ssl,ssg,ksl,ksg,ke,ez,es,nx0,nxs,hz,ops,amlt,kst,kinc⟩:=T
  have hne:∀r,r<M->ks r≠i:=fun r hr=>by have:=(kst r hr).1;omega
  have ham:s.am.testBit i=false:=by
    cases hb:s.am.testBit i with
    | false=>rfl
    | true=>have:=amlt i hb;omega
  have hval:∀k,k<i->QV vals i v k=vals k:=fun k hk=>I6 _ _ (by omega)
  have henv:∀k,k<i+1->QV envs (i+1) (Cu s.e o.dst v) k=envs k:=fun k hk=>I6 _ _ (by omega)
  refine⟨{ vals:=QV vals i v,envs:=QV envs (i+1) (Cu s.e o.dst v),Hh:=Hh,nx:=nx,ks:=ks,M:=M,
            ssl:=ssl,ssg:=ssg,ksl:=ksl,ksg:=ksg,ke:=(Cd _ _ _).symm,ez:=by rw[henv 0 (by omega)];exact ez,es:=?_,nx0:=nx0,nxs:=nxs,hz:=hz,ops:=?_,amlt:=fun k hk=>Tv (amlt k hk),kst:=?_,kinc:=kinc }⟩
  · intro k hk o' ho'
    by_cases he:k=i
    · subst he
      rw[ho]at ho';cases ho'
      rw[Cd,Cd,henv k (by omega),ke]
    · rw[henv k (by omega),hval k (by omega),henv (k+1) (by omega)]
      exact es k (by omega) o' ho'
  · intro k hk o' p' ho' hp'
    by_cases he:k=i
    · subst he
      rw[ho]at ho';cases ho'
      rw[hp]at hp';cases hp'
      rw[henv k (by omega),<-ke,Cd]
      rcases hcase with ⟨h1,h2⟩|⟨h1,h2⟩
      · exact .inl ⟨h1,h2,ham,hne⟩
      · refine .inr ⟨h1,?_⟩
        rcases h2 with ⟨h2,h3⟩|⟨h2,h3⟩
        · exact .inl ⟨h2,h3,ham,hne⟩
        · exact .inr (.inl ⟨h2,h3,ham,hne⟩)
    · rw[henv k (by omega),hval k (by omega)]
      rcases ops k (by omega) o' p' ho' hp' with h1|⟨h1,h2|⟨h2,h3,h4⟩|h2|h2⟩
      · exact .inl h1
      · exact .inr ⟨h1,.inl h2⟩
      · exact .inr ⟨h1,.inr (.inl ⟨h2,hls _ h3,h4⟩)⟩
      · exact .inr ⟨h1,.inr (.inr (.inl h2))⟩
      · exact .inr ⟨h1,.inr (.inr (.inr h2))⟩
  · intro r hr
    obtain⟨h1,o',p',U',h2,h3,h4,h5,h6,h7,h8⟩:=kst r hr
    refine⟨by omega,o',p',U',h2,h3,h4,?_,?_,h7,h8⟩
    · rw[henv _ (by omega)];exact h5
    · rw[henv _ (by omega),hval _ h1];exact h6
end Go.Og
namespace Go.Og
variable {P:Program} {G:Nat->Bool} {E:EB} {D:Ai} {C:Cx}
theorem Ik {pl:List DP} {i:Nat} {p:DP} (h:pl[i]? = some p):Gw pl i=p.anc:=by simp[Gw,BT,h]
theorem Tr.make {ops' : Array Oper} {l : List BO} {pl : List DP} (F : RO ops' l pl) {n0 n : Nat} (hn : n = ops'.size) {e0 : B6} {h0 : EB} {i : Nat} {s : DS} (T : Tr E D l pl n0 n e0 h0 i s) {o : BO} {p : DP}
    (ho : l[i]? = some o) (hp : pl[i]? = some p) (v : V) (b : GM) (hw : Bq (restr p.looks s.e) o.guard = some true) (hc : o.op.cls = .a) (ha : Cm o.op (restr p.looks s.e) (n0 + i) = some (v, b)) :
    Nonempty (Tr E D l pl n0 n e0 h0 (i + 1) { s with e := Cu s.e o.dst v, ss := s.ss.map ((n0 + i, b) :: ·), am := s.am ||| 2 ^ i }) := by
  obtain ⟨vals, envs, Hh, nx, ks, M, ssl, ssg, ksl, ksg, ke, ez, es, nx0, nxs, hz, ops, amlt, kst, kinc⟩ := T
  have hin : i < n := by
    rcases Av i l.length with h | h
    · have := F.llen; omega
    · rw [BF h] at ho; cases ho
  have hne : ∀ r, r < M → ks r ≠ i := fun r hr => by have := (kst r hr).1; omega
  have hval : ∀ k, k < i → QV vals i v k = vals k := fun k hk => I6 _ _ (by omega)
  have henv : ∀ k, k < i + 1 → QV envs (i + 1) (Cu s.e o.dst v) k = envs k := fun k hk => I6 _ _ (by omega)
  have hlk : ∀ m k, k ≠ i → look ((n0 + i, b) :: Hh m) (n0 + k) = look (Hh m) (n0 + k) := fun m k hk => by
    simp only [look, AU]
    rw [if_neg (by omega)]
  have ham : ∀ k, k ≠ i → (s.am ||| 2 ^ i).testBit k = s.am.testBit k := fun k hk => by
    rw [Hb]; simp [Ne.symm hk]
  refine ⟨{ vals := QV vals i v, envs := QV envs (i + 1) (Cu s.e o.dst v), Hh := fun m => (n0 + i, b) :: Hh m, nx := nx, ks := ks, M := M,
            ssl := by simp [ssl], ssg := fun m hm => by rw [Aw, ssg m hm]; rfl
            ksl := ksl, ksg := ksg, ke := (Cd _ _ _).symm, ez := by rw [henv 0 (by omega)]; exact ez, es := ?_, nx0 := nx0, nxs := nxs, hz := ?_, ops := ?_, amlt := ?_, kst := ?_, kinc := kinc }⟩
  · intro k hk o' ho'
    by_cases he : k = i
    · subst he
      rw [ho] at ho'; cases ho'
      rw [Cd, Cd, henv k (by omega), ke]
    · rw [henv k (by omega), hval k (by omega), henv (k + 1) (by omega)]
      exact es k (by omega) o' ho'
  · intro id hid
    simp only [look, AU]
    rw [if_neg (by omega)]
    exact hz id hid
  · intro k hk o' p' ho' hp'
    by_cases he : k = i
    · subst he
      rw [ho] at ho'; cases ho'
      rw [hp] at hp'; cases hp'
      rw [henv k (by omega), ← ke, Cd]
      refine .inr ⟨hw, .inr (.inr (.inl ⟨hc, by rw [Hb]; simp, hne, b, ha, fun m _ _ => by simp [look]⟩))⟩
    · rw [henv k (by omega), hval k (by omega)]
      simp only [ham k he]
      rcases ops k (by omega) o' p' ho' hp' with h1 | ⟨h1, h2 | h2 | ⟨h2, h3, h4, b', h5, h6⟩ | h2⟩
      · exact .inl h1
      · exact .inr ⟨h1, .inl h2⟩
      · exact .inr ⟨h1, .inr (.inl h2)⟩
      · exact .inr ⟨h1, .inr (.inr (.inl ⟨h2, h3, h4, b', h5, fun m hm hr => by rw [hlk m k he]; exact h6 m hm hr⟩))⟩
      · exact .inr ⟨h1, .inr (.inr (.inr h2))⟩
  · intro k hk
    rw [Hb] at hk
    simp only [Bk, decide_eq_true_eq] at hk
    rcases hk with hk | hk
    · have := amlt k hk; omega
    · omega
  · intro r hr
    obtain ⟨h1, o', p', U', h2, h3, h4, h5, h6, h7, h8⟩ := kst r hr
    have hanc : p'.anc.testBit i = false := by
      cases hb : p'.anc.testBit i with
      | false => rfl
      | true => have := F.ancLt _ p' h3 i (by omega) hb; omega
    have hcong : ∀ k, k < n → DQ p'.anc (s.am ||| 2 ^ i) k = DQ p'.anc s.am k := fun k _ => by
      unfold DQ
      by_cases he : k = i
      · subst he; rw [hanc]; simp
      · rw [ham k he]
    have hvi : DQ p'.anc (s.am ||| 2 ^ i) (n0 + i - n0) = false := by
      rw [show n0 + i - n0 = i by omega]; unfold DQ; rw [hanc]; rfl
    have hhide : CS n0 n (DQ p'.anc (s.am ||| 2 ^ i)) ((n0 + i, b) :: Hh r) = CS n0 n (DQ p'.anc s.am) (Hh r) := by
      rw [CS, if_pos (KT.2 ⟨by omega, by omega, hvi⟩)]
      exact Jy hcong _
    have hkeep : Ei n0 n (DQ p'.anc (s.am ||| 2 ^ i)) ((n0 + i, b) :: Hh r) = (n0 + i, b) :: Ei n0 n (DQ p'.anc s.am) (Hh r) := by
      rw [Ei, if_pos (KT.2 ⟨by omega, by omega, hvi⟩)]
      rw [NP hcong]
    refine ⟨by omega, o', p', U', h2, h3, h4, ?_, ?_, ?_, h8⟩
    · rw [henv _ (by omega)]; exact h5
    · rw [henv _ (by omega), hval _ h1, hhide]; exact h6
    · rw [hkeep, h7]; rfl
theorem Tr.writes {ops':Array Oper} {l:List BO} {pl:List DP} (F:RO ops' l pl) {n0 n:Nat} (hn:n=ops'.size) {e0:B6} {h0:EB} {i:Nat} {s:DS} (T:Tr E D l pl n0 n e0 h0 i s) {o:BO} {p:DP}
    (ho:l[i]? = some o) (hp:pl[i]? = some p) (v:V) (U':H) {h:EB} {ss':List (EB)} (hss:s.ss=h::ss') (hw:Bq (restr p.looks s.e) o.guard=some true) (hc:o.op.cls = .k)
    (hd:Dx E D o.op (restr p.looks s.e) ⟨s.nx,CS n0 n (DQ p.anc s.am) h⟩=some (v,U')) :
    Nonempty (Tr E D l pl n0 n e0 h0 (i+1) { s with e:=Cu s.e o.dst v,nx:=U'.next,ss:=(Ei n0 n (DQ p.anc s.am) h++U'.bl)::s.ss,ks:=i::s.ks }):=by
  obtain⟨vals,envs,Hh,nx,ks,M,ssl,ssg,ksl,ksg,ke,ez,es,nx0,nxs,hz,ops,amlt,kst,kinc⟩:=T
  have hin:i<n:=by
    rcases Av i l.length with h|h
    · have:=F.llen;omega
    · rw[BF h]at ho;cases ho
  have hne:∀r,r<M->ks r≠i:=fun r hr=>by have:=(kst r hr).1;omega
  have hhead:h=Hh M:=by
    have:=ssg M (AK _)
    rw[JG,hss]at this
    simpa using this
  have ham:s.am.testBit i=false:=by
    cases hb:s.am.testBit i with
    | false=>rfl
    | true=>have:=amlt i hb;omega
  have hval:∀k,k<i->QV vals i v k=vals k:=fun k hk=>I6 _ _ (by omega)
  have henv:∀k,k<i+1->QV envs (i+1) (Cu s.e o.dst v) k=envs k:=fun k hk=>I6 _ _ (by omega)
  have hH:∀m,m<=M->QV Hh (M+1) (Ei n0 n (DQ p.anc s.am) h++U'.bl) m=Hh m:=fun m hm=>I6 _ _ (by omega)
  have hnx:∀m,m<=M->QV nx (M+1) U'.next m=nx m:=fun m hm=>I6 _ _ (by omega)
  have hks:∀r,r<M->QV ks M i r=ks r:=fun r hr=>I6 _ _ (by omega)
  refine⟨{ vals:=QV vals i v,envs:=QV envs (i+1) (Cu s.e o.dst v),Hh:=QV Hh (M+1) (Ei n0 n (DQ p.anc s.am) h++U'.bl),nx:=QV nx (M+1) U'.next,ks:=QV ks M i,M:=M+1,
            ssl:=by simp[ssl],ssg:=?_,ksl:=by simp[ksl],ksg:=?_,ke:=(Cd _ _ _).symm,ez:=by rw[henv 0 (by omega)];exact ez,es:=?_,nx0:=by rw[hnx 0 (by omega)];exact nx0,
            nxs:=(Cd _ _ _).symm,hz:=fun id hid=>by rw[hH 0 (by omega)];exact hz id hid,ops:=?_,amlt:=fun k hk=>Tv (amlt k hk),kst:=?_,kinc:=?_ }⟩
  · intro m hm
    by_cases he:m=M+1
    · subst he;rw[JG,Cd];rfl
    · rw[hH m (by omega),show M+1-m=(M-m)+1 by omega,Bb]
      exact ssg m (by omega)
  · intro r hr
    by_cases he:r=M
    · subst he;rw[Cd,show r+1-1-r=0 by omega];rfl
    · rw[hks r (by omega),show M+1-1-r=(M-1-r)+1 by omega,Bb]
      exact ksg r (by omega)
  · intro k hk o' ho'
    by_cases he:k=i
    · subst he
      rw[ho]at ho';cases ho'
      rw[Cd,Cd,henv k (by omega),ke]
    · rw[henv k (by omega),hval k (by omega),henv (k+1) (by omega)]
      exact es k (by omega) o' ho'
  · intro k hk o' p' ho' hp'
    by_cases he:k=i
    · subst he
      rw[ho]at ho';cases ho'
      rw[hp]at hp';cases hp'
      rw[henv k (by omega),<-ke,Cd]
      exact .inr ⟨hw,.inr (.inr (.inr ⟨hc,ham,M,by omega,Cd _ _ _⟩))⟩
    · rw[henv k (by omega),hval k (by omega)]
      have hnk:(∀r,r<M->ks r≠k)->∀r,r<M+1->QV ks M i r≠k:=fun hh r hr=>by
        by_cases hrm:r=M
        · subst hrm;rw[Cd];omega
        · rw[hks r (by omega)];exact hh r (by omega)
      rcases ops k (by omega) o' p' ho' hp' with ⟨h1,h2,h3,h4⟩|⟨h1,⟨h2,h3,h4,h5⟩|⟨h2,h3,h4,h5⟩|⟨h2,h3,h4,b',h5,h6⟩|⟨h2,h3,r,h4,h5⟩⟩
      · exact .inl ⟨h1,h2,h3,hnk h4⟩
      · exact .inr ⟨h1,.inl ⟨h2,h3,h4,hnk h5⟩⟩
      · exact .inr ⟨h1,.inr (.inl ⟨h2,h3,h4,hnk h5⟩)⟩
      · refine .inr ⟨h1,.inr (.inr (.inl ⟨h2,h3,hnk h4,b',h5,fun m hm hr=>?_⟩))⟩
        by_cases hmm:m=M+1
        · subst hmm
          rw[Cd,NO,Ou,hhead]
          have hanc:p.anc.testBit k=false:=by
            have:=hr M (by omega)
            rw[Cd,Ik hp]at this
            exact this
          have hv:DQ p.anc s.am (n0+k-n0)=false:=by
            rw[show n0+k-n0=k by omega];unfold DQ;rw[hanc];rfl
          rw[if_pos ⟨by omega,by omega,hv⟩]
          have:=h6 M (AK _) (fun r hrM=>by have:=hr r (by omega);rw[hks r hrM]at this;exact this)
          rw[this]
        · rw[hH m (by omega)]
          exact h6 m (by omega) (fun r hrm=>by have:=hr r hrm;rw[hks r (by omega)]at this;exact this)
      · exact .inr ⟨h1,.inr (.inr (.inr ⟨h2,h3,r,by omega,by rw[hks r h4];exact h5⟩))⟩
  · intro r hr
    by_cases he:r=M
    · subst he
      rw[Cd]
      refine⟨by omega,o,p,U',ho,hp,hc,?_,?_,?_,?_⟩
      · rw[henv i (by omega),<-ke];exact hw
      · rw[henv i (by omega),<-ke,Cd,hnx r (by omega),hH r (by omega),<-hhead,<-nxs];exact hd
      · rw[Cd,hH r (by omega),hhead]
      · rw[Cd]
    · obtain⟨h1,o',p',U2,h2,h3,h4,h5,h6,h7,h8⟩:=kst r (by omega)
      rw[hks r (by omega)]
      refine⟨by omega,o',p',U2,h2,h3,h4,?_,?_,?_,?_⟩
      · rw[henv _ (by omega)];exact h5
      · rw[henv _ (by omega),hval _ h1,hnx r (by omega),hH r (by omega)];exact h6
      · rw[hH (r+1) (by omega),hH r (by omega)];exact h7
      · rw[hnx (r+1) (by omega)];exact h8
  · intro r r' hrr hr'
    by_cases he:r'=M
    · subst he
      rw[Cd,hks r (by omega)]
      exact(kst r (by omega)).1
    · rw[hks r' (by omega),hks r (by omega)]
      exact kinc r r' hrr (by omega)
theorem Qy {ops':Array Oper} {l:List BO} {pl:List DP} (F:RO ops' l pl) {n0 n:Nat} (hn:n=ops'.size) {e0:B6} {h0:EB} :
  ∀(rest:List BO) (prest:List DP) (i:Nat) (s s':DS),l.drop i=rest->pl.drop i=prest->Nonempty (Tr E D l pl n0 n e0 h0 i s)->CX E D n0 n i rest prest s=some s' ->
   Nonempty (Tr E D l pl n0 n e0 h0 (i+rest.length) s')
 | [],prest,i,s,s',hl,hp,hT,h=>by
  cases prest<;>(simp only[CX,AQ.injEq]at h;subst h;exact hT)
 | o::rest,[],i,s,s',hl,hp,hT,h=>by simp only[CX]at h;cases h
 | o::rest,p::prest,i,s,s',hl,hp,hT,h=>by
  have ho:l[i]? = some o:=by
   have:=congrArg (·[0]?) hl
   simpa[Bm]using this
  have hpp:pl[i]? = some p:=by
   have:=congrArg (·[0]?) hp
   simpa[Bm]using this
  have hl':l.drop (i+1)=rest:=by rw[<-CJ,hl];rfl
  have hp':pl.drop (i+1)=prest:=by rw[<-CJ,hp];rfl
  simp only[CX]at h
  cases hs:FO E D n0 n i o p s with
  | none=>rw[hs]at h;cases h
  | some s1=>
   rw[hs]at h
   obtain⟨T⟩:=hT
   have hT1:Nonempty (Tr E D l pl n0 n e0 h0 (i+1) s1):=by
    unfold FO at hs
    split at hs
    ·cases hs
    ·rename_i hw;cases hs
     exact T.quiet ho hpp EP s.ls (fun _ h=>h) (.inl ⟨hw,rfl⟩)
    ·rename_i hw
     split at hs
     ·rename_i hc
      split at hs
      ·cases hs
      ·rename_i v hv;cases hs
       exact T.quiet ho hpp v s.ls (fun _ h=>h) (.inr ⟨hw,.inl ⟨hc,hv⟩⟩)
     ·rename_i hc
      split at hs
      ·cases hs
      ·split at hs
       ·cases hs
       ·rename_i v hv;cases hs
        exact T.quiet ho hpp v _ (fun _ h=>BM _ h) (.inr ⟨hw,.inr ⟨hc,Ab⟩⟩)
     ·rename_i hc
      split at hs
      ·cases hs
      ·rename_i v b hv;cases hs
       exact T.make F hn ho hpp v b hw hc hv
     ·rename_i hc
      split at hs
      ·cases hs
      ·rename_i hh hss
       split at hs
       ·cases hs
       ·rename_i v U' hv;cases hs
        exact T.writes F hn ho hpp v U' hss hw hc hv
   have:=Qy F hn rest prest (i+1) s1 s' hl' hp' hT1 h
   rwa [show i+(o::rest).length=i+1+rest.length by simp;omega]
end Go.Og
namespace Go.Og
variable {P:Program} {G:Nat->Bool} {E:EB} {D:Ai} {C:Cx}
theorem Q4 {n0 n:Nat} {pl:List DP} {am j:Nat} {op:Eb} {em:B6} {v:V}:∀(ss:List (EB)) (ks more:List Nat),FE E n0 n pl am j op em v ss ks more=true->ss.length=ks.length+1 ->
  ∀(q:Nat) (h:EB),ss[q]? = some h->FA pl j (ks.drop q) ((ks.take q).reverse++more)=true->Cf E op em ⟨0,CS n0 n (DQ (Gw pl j) am) h⟩=some v
 | [],ks,more,_,hl,q,h,hq,_=>by simp at hq
 | h'::ss,ks,more,hc,hl,0,h,hq,hleg=>by
  simp only[QP,AQ.injEq]at hq
  subst hq
  simp only[FI,IM,List.reverse_nil,Ff]at hleg
  simp only[FE,hleg,E9,Dc,AG]at hc
  have:=hc.1
  unfold Gw
  split at this
  ·rename_i u hu
   rw[hu,M3 _ _ this]
  ·cases this
 | h'::ss,[],more,hc,hl,q+1,h,hq,hleg=>by
  simp at hl
  subst hl
  simp at hq
 | h'::ss,k::ks,more,hc,hl,q+1,h,hq,hleg=>by
  simp only[FE,AG]at hc
  refine Q4 ss ks (k::more) hc.2 (by simpa using hl) q h (by simpa using hq) ?_
  simp only[List.drop_succ_cons,List.take_succ_cons,List.reverse_cons,DN,List.singleton_append]at hleg
  exact hleg
theorem Dm {listed:Array Bool} {k n:Nat} (hs:listed.size=n) (hk:k<n):listed.getD k true=listed.getD k false:=by
 have h:k<listed.size:=by omega
 simp[Array.getD,h]
theorem Ia {listed:Array Bool} {i k:Nat} (hi:i<listed.size):(listed.setIfInBounds i true).getD k false=(decide (k=i) || listed.getD k false):=by
 simp only[EO,A2]
 by_cases h:i=k
 ·subst h;simp[hi]
 ·rw[if_neg h];simp[Ne.symm h]
theorem W4 {p q:Nat->Bool} (h:∀k,p k=true->q k=true) {i:Nat} (hq:q i=true) (hp:p i=false):∀(l:List Nat),i∈l->l.countP p<l.countP q
 | [],hm=>by cases hm
 | x::l,hm=>by
  have hmono:∀l:List Nat,l.countP p<=l.countP q:=fun l=>List.countP_mono_left fun x _ hx=>h x hx
  rcases Ax.1 hm with rfl|hm
  ·rw[IN hq,QQ (by simp[hp])]
   have:=hmono l;omega
  ·have ih:=W4 h hq hp l hm
   by_cases hx:p x=true
   ·rw[IN hx,IN (h x hx)];omega
   ·rw[QQ hx]
    by_cases hqx:q x=true
    ·rw[IN hqx];omega
    ·rw[QQ hqx];exact ih
set_option maxHeartbeats 1000000 in
theorem VH (hD:∀f,Ce P E G f (D f)) (hmix:P.follows .mixedOrders=true):Pw P E G (AT E D):=by
  intro C hE hG nt id ops e0 U0 e' U' hplan hW R0 a0 w00 Q hrel0 he0 hnt0 hd0 hQ
  subst hE hG
  generalize hl:ops.toList.map (BK P C.G nt ops)=l at hplan hW
  generalize hpl:GS ops=pl at hplan hW
  have hlen:l.length=ops.size:=by rw[<-hl];simp
  have F:=Qi hlen hplan
  unfold AT at hW
  have hn:l.length=ops.size:=hlen
  generalize hnn:l.length=n at hW
  have hnops:n=ops.size:=by omega
  cases hds:CX C.E D U0.next n 0 l pl ⟨e0,U0.next+n,[U0.bl],[],0,[]⟩with
  | none=>rw[hds]at hW;cases hW
  | some s=>
    rw[hds]at hW
    simp only at hW
    split at hW
    case isFalse=>cases hW
    rename_i hchk
    obtain⟨T⟩:=Qy F hnops l pl 0 _ s rfl rfl (Tr.start C.E D l pl U0.next n e0 U0.bl) hds
    rw[BA,hnn]at T
    obtain⟨vals,envs,Hh,nx,ks,M,ssl,ssg,ksl,ksg,ke,ez,es,nx0,nxs,hz,hops,amlt,kst,kinc⟩:=T
    have hans:e'=envs n/\U'=⟨nx M,CS U0.next n (fun k=>s.am.testBit k) (Hh M)⟩:=by
      have hh:=ssg M (AK _)
      rw[JG]at hh
      split at hW
      · rename_i h ss' hss
        rw[hss]at hh
        simp only[QP,AQ.injEq]at hh
        cases hW
        exact⟨ke,by rw[nxs,hh]⟩
      · cases hW
    obtain⟨rfl,rfl⟩:=hans
    clear hW hds
    have some3:∀i,i<n->∃o p,ops[i]? = some o/\l[i]? = some (BK P C.G nt ops o)/\pl[i]? = some p:=fun i hi=>by
      have h1:i<ops.size:=by omega
      refine⟨ops[i],pl[i]'(by have:=F.len;omega),Dq h1,?_,AM _⟩
      rw[<-hl,Aw,WX,Dq h1];rfl
    have hdlt:∀(i:Nat) (o:Oper) (t:Nat),i<n->ops[i]? = some o->o.dst=some t->t<nt:=by
      intro i o t hin ho ht
      obtain⟨o2,p,ho2,hlo,hp⟩:=some3 i hin
      rw[ho]at ho2;cases ho2
      cases hdo:GJ nt o.dst with
      | true=>rw[ht]at hdo;simpa[GJ]using hdo
      | false=>
        exfalso
        have hco:BK P C.G nt ops o=⟨o.dst,.bad,none⟩:=by
          unfold BK
          rw[hdo]
          split
          · rename_i h;cases h
          · rfl
        have:=hops i hin _ p hlo hp
        rw[hco]at this
        simp[Bq,Eb.cls,BV]at this
    have hload:∀j op em v,(j,op,em,v)∈s.ls->∀m,m<=M->(∀r,m<=r->r<M->(Gw pl j).testBit (ks r)=false)->(∀r,r<m->(Gw pl (ks r)).testBit j=false) ->
        Cf C.E op em ⟨0,CS U0.next n (DQ (Gw pl j) s.am) (Hh m)⟩=some v:=by
      intro j op em v hmem m hm h1 h2
      have hc:=Dk.1 hchk _ hmem
      refine Q4 s.ss s.ks [] hc (by omega) (M-m) (Hh m) (ssg m hm) ?_
      unfold FA
      simp only[EC,AG,Dk,C8,List.mem_reverse]
      constructor
      · intro x hx
        obtain⟨q,hq⟩:=List.mem_iff_getElem?.1 hx
        rw[Gg]at hq
        split at hq
        · rename_i hqm
          have:=ksg (M-1-q) (by omega)
          rw[show M-1-(M-1-q)=q by omega,hq]at this
          cases this
          exact h1 _ (by omega) (by omega)
        · cases hq
      · intro x hx
        obtain⟨q,hq⟩:=List.mem_iff_getElem?.1 hx
        rw[Bm]at hq
        have hql:M-m+q<s.ks.length:=by
          rcases Av (M-m+q) s.ks.length with h|h
          · exact h
          · rw[BF h]at hq;cases hq
        have:=ksg (M-1-(M-m+q)) (by omega)
        rw[show M-1-(M-1-(M-m+q))=M-m+q by omega,hq]at this
        cases this
        exact h2 _ (by omega)
    let Lf:Array Bool->Nat->Bool:=fun listed k=>listed.getD k false
    let vis:Array Bool->Nat->Bool:=fun listed k=>listed.getD k false&&s.am.testBit k
    let Inv:Array Bool->Act->World->Prop:=fun listed a w=>
      listed.size=n/\(∀i o,listed.getD i false=true->ops[i]? = some o->∀ed∈o.after,Region.binds .any ed=true->listed.getD ed.on false=true)/\a.defers=[] /\
      ∃R m,m<=M/\(∀r,r<M->(listed.getD (ks r) false=true↔r<m))/\G6 U0.next R0 R/\U0.next+n<=nx m/\Dt C R ⟨nx m,CS U0.next n (vis listed) (Hh m)⟩ w /\
        (∀k,k<n->listed.getD k false=false->R (U0.next+k)=none)/\nt<=a.tmps.size /\
        (∀i o t,listed.getD i false=true->ops[i]? = some o->o.dst=some t->t<a.tmps.size->vals i = .dead\/∃x,a.tmps[t]? = some x/\Ao R (vals i)=some x) /\
        (∀t v,look e0 t=some v->(∀i o,listed.getD i false=true->ops[i]? = some o->o.dst≠some t)->v = .dead\/∃x,a.tmps[t]? = some x/\Ao R v=some x)
    have hanc:∀(listed:Array Bool),(∀i o,listed.getD i false=true->ops[i]? = some o->∀ed∈o.after,Region.binds .any ed=true->listed.getD ed.on false=true) ->
        ∀(i:Nat) (o:Oper) (p:DP),ops[i]? = some o->pl[i]? = some p->(∀ed∈o.after,Region.binds .any ed=true->listed.getD ed.on false=true)->∀(k:Nat),k<n->p.anc.testBit k=true->listed.getD k false=true:=by
      intro listed hcl i
      induction i using OP with
      | _ i ih=>
        intro o p ho hp hed k hk hb
        obtain⟨ed,hem,hbe,hr⟩:=F.anc i o p ho hp k (by omega) hb
        have hlt:=F.edges i o ho ed hem hbe
        have hli:=hed ed hem hbe
        rcases hr with rfl|hr
        · exact hli
        · have hin:i<n:=by
            rcases Av i ops.size with h|h
            · omega
            · rw[CH h]at ho;cases ho
          obtain⟨o2,p2,h1,_,h3⟩:=some3 ed.on (by omega)
          exact ih ed.on hlt o2 p2 h1 h3 (fun ed2 hm2 hb2=>hcl ed.on o2 hli h1 ed2 hm2 hb2) k hk (by rw[<-Ik h3];exact hr)
    have hready_nil:∀listed:Array Bool,listed.size=n->Region.ready .any ops listed=[]->∀k,k<n->listed.getD k false=true:=by
      intro listed hsz hr k
      induction k using OP with
      | _ k ih=>
        intro hk
        cases hb:listed.getD k false with
        | true=>rfl
        | false=>
          exfalso
          obtain⟨o,p,h1,_,_⟩:=some3 k hk
          have:k∈Region.ready .any ops listed:=mem_ready.2 ⟨by rw[Dm hsz hk];exact hb,o,h1,fun ed hm hbd=>ih ed.on (F.edges k o h1 ed hm hbd) (by have:=F.edges k o h1 ed hm hbd;omega)⟩
          rw[hr]at this;cases this
    have henv:∀(listed:Array Bool) (a:Act) (R:Cz),
        (∀i o,listed.getD i false=true->ops[i]? = some o->∀ed∈o.after,Region.binds .any ed=true->listed.getD ed.on false=true) ->
        nt<=a.tmps.size ->
        (∀i o t,listed.getD i false=true->ops[i]? = some o->o.dst=some t->t<a.tmps.size->vals i = .dead\/∃x,a.tmps[t]? = some x/\Ao R (vals i)=some x) ->
        (∀t v,look e0 t=some v->(∀i o,listed.getD i false=true->ops[i]? = some o->o.dst≠some t)->v = .dead\/∃x,a.tmps[t]? = some x/\Ao R v=some x) ->
        ∀(j:Nat) (o:Oper) (p:DP),j<=n->(j=n->∀k,k<n->listed.getD k false=true) ->
          (j<n->ops[j]? = some o/\pl[j]? = some p/\listed.getD j false=false/\(∀ed∈o.after,Region.binds .any ed=true->listed.getD ed.on false=true)) ->
          ∀(t:Nat) (v:V),look (envs j) t=some v->(j<n->Bn p.looks t=true)->v = .dead\/∃x,a.tmps[t]? = some x/\Ao R v=some x:=by
      intro listed a R hcl hsz hw hu j o p hj hall hrd
      have hshape:∀j,j<=n->∀t v,look (envs j) t=some v ->
          (∃k o',k<j/\ops[k]? = some o'/\o'.dst=some t/\v=vals k)\/(look e0 t=some v/\∀k o',k<j->ops[k]? = some o'->o'.dst≠some t):=by
        intro j
        induction j with
        | zero=>intro _;rw[ez];exact fun t v hv => .inr ⟨hv,fun k o' hk=>by omega⟩
        | succ j ih=>
          intro hj
          have h2:=ih (by omega)
          obtain⟨oj,pj,ho1,hl1,_⟩:=some3 j (by omega)
          have hes:=es j (by omega) _ hl1
          have hdst:(BK P C.G nt ops oj).dst=oj.dst:=by unfold BK;split<;>rfl
          rw[hdst]at hes
          rw[hes]
          intro t v hv
          cases hd:oj.dst with
          | none=>
            rw[hd]at hv
            simp only[Cu]at hv
            rcases h2 t v hv with ⟨k,o',hk,hk2,hk3,hk4⟩|⟨hk,hk2⟩
            · exact .inl ⟨k,o',by omega,hk2,hk3,hk4⟩
            · refine .inr ⟨hk,fun k o' hkj hko=>?_⟩
              by_cases he:k=j
              · subst he;rw[ho1]at hko;cases hko;rw[hd];simp
              · exact hk2 k o' (by omega) hko
          | some d=>
            rw[hd]at hv
            simp only[Cu,look]at hv
            by_cases hdt:d=t
            · subst hdt
              rw[if_pos (by simp)]at hv
              cases hv
              exact .inl ⟨j,oj,by omega,ho1,hd,rfl⟩
            · rw[if_neg (by simpa using hdt)]at hv
              rcases h2 t v hv with ⟨k,o',hk,hk2,hk3,hk4⟩|⟨hk,hk2⟩
              · exact .inl ⟨k,o',by omega,hk2,hk3,hk4⟩
              · refine .inr ⟨hk,fun k o' hkj hko=>?_⟩
                by_cases he:k=j
                · subst he;rw[ho1]at hko;cases hko;rw[hd];simpa using hdt
                · exact hk2 k o' (by omega) hko
      have hsh:=hshape j hj
      intro t v hv hlook
      rcases hsh t v hv with ⟨k,ok,hk,hk2,hk3,rfl⟩|⟨hk,hk2⟩
      ·
        refine hw k ok t ?_ hk2 hk3 (E3 (hdlt k ok t (by omega) hk2 hk3) hsz)
        by_cases hjn:j<n
        · obtain⟨ho,hp,_,hed⟩:=hrd hjn
          obtain⟨o3,p3,h1,_,h3⟩:=some3 k (by omega)
          rw[hk2]at h1;cases h1
          have hd:=(F.dsts k j ok o p3 p (by omega) hk2 ho h3 hp t hk3).2 (hlook hjn)
          rcases hd with hd|hd
          · exact hanc listed hcl j o p ho hp hed k (by omega) hd
          · have:=F.ancLt k p3 h3 j (by omega) hd;omega
        · exact hall (by omega) k (by omega)
      ·
        refine hu t v hk (fun i oi hli hoi hdst=>?_)
        have hin:i<n:=by
          rcases Av i ops.size with h|h
          · omega
          · rw[CH h]at hoi;cases hoi
        by_cases hij:i<j
        · exact hk2 i oi hij hoi hdst
        · have hjn:j<n:=by omega
          obtain⟨ho,hp,hnl,_⟩:=hrd hjn
          by_cases hie:i=j
          · subst hie;rw[hnl]at hli;cases hli
          · obtain⟨o3,p3,h1,_,h3⟩:=some3 i hin
            rw[hoi]at h1;cases h1
            have hd:=(F.dsts i j oi o p3 p hie hoi ho h3 hp t hdst).2 (hlook hjn)
            rcases hd with hd|hd
            · have:=F.ancLt j p hp i (by omega) hd;omega
            · have:=hanc listed hcl i oi p3 hoi h3 (fun ed hm hb=>hcl i oi hli hoi ed hm hb) j hjn hd
              rw[hnl]at this;cases this
    have hput:∀(a:Act) (d:Option Nat) (x:Value) (t:Nat),d≠some t->(a.put d x).tmps[t]? = a.tmps[t]? := by
      intro a d x t hne
      cases d with
      | none=>rfl
      | some d=>
        simp only[Act.put,A2]
        rw[if_neg (fun h=>hne (by rw[h]))]
    have hputsz:∀(a:Act) (d:Option Nat) (x:Value),(a.put d x).tmps.size=a.tmps.size:=by
      intro a d x;cases d<;>simp[Act.put]
    have hfin:∀listed a w,Inv listed a w->(∀k,k<n->listed.getD k false=true)->Q .normal a w:=by
      intro listed a w hI hall
      obtain⟨hsz,hcl,hd,R,m,hm,hpre,hx,hnxm,hrel,hres,htsz,hwc,huc⟩:=hI
      have hmM:m=M:=by
        rcases Av m M with h|h
        · have:=(hpre m h).1 (hall _ (by have:=(kst m h).1;omega));omega
        · omega
      subst hmM
      refine hQ R a w hx (by show U0.next<=nx m;omega) ?_ ?_ htsz hd
      · refine hrel.congr (fun id hid=>hrel.fresh id hid) (fun k b hk=>?_)
        rw[DY]at hk ⊢
        by_cases hc:U0.next<=k/\k<U0.next+n/\s.am.testBit (k-U0.next)=false
        · rw[if_pos hc]at hk;cases hk
        · rw[if_neg hc]at hk
          rw[if_neg (fun h=>hc ⟨h.1,h.2.1,by have:=h.2.2;simp only[vis,hall (k-U0.next) (by omega),Co]at this;exact this⟩)]
          exact hk
      · refine⟨fun t v hv=>?_⟩
        exact henv listed a R hcl htsz hwc huc n default default (AK _) (fun _=>hall) (fun h=>by omega) t v hv (fun h=>by omega)
    have hstep:∀listed a w,Inv listed a w->∀i,i∈Region.ready .any ops listed->∀K:Act->World->Prop,(∀a' w',Inv (listed.setIfInBounds i true) a' w'->K a' w')->wpOp P ops Q i K a w:=by
      intro listed a w hI i hi K hK
      obtain⟨hsz,hcl,hd,R,m,hm,hpre,hx,hnxm,hrel,hres,htsz,hwc,huc⟩:=hI
      obtain⟨hli,o,ho,hed⟩:=mem_ready.1 hi
      have hin:i<n:=by
        rcases Av i ops.size with h|h
        · omega
        · rw[CH h]at ho;cases ho
      have hnl:listed.getD i false=false:=by rw[<-Dm hsz hin];exact hli
      obtain⟨o2,p,ho2,hlo,hp⟩:=some3 i hin
      rw[ho]at ho2;cases ho2
      have hsz':i<listed.size:=by omega
      have hLs:∀k,(listed.setIfInBounds i true).getD k false=(decide (k=i) || listed.getD k false):=fun k=>Ia hsz'
      have hancl:∀k,k<n->p.anc.testBit k=true->listed.getD k false=true:=hanc listed hcl i o p ho hp hed
      have hgl:=hrel.globOk
      have hle0:∀{R'},G6 (nx m) R R'->Le R R':=fun h=>h.le hrel.fresh
      have hem:B7 R (restr p.looks (envs i)) a.tmps:=by
        refine⟨fun t v hv=>?_⟩
        obtain⟨ht,hmem⟩:=GX _ _ _ _ hv
        exact henv listed a R hcl htsz hwc huc i o p (by omega) (fun h=>by omega) (fun _=>⟨ho,hp,hnl,hed⟩) t v ht (fun _=>hmem)
      have mk:∀(R':Cz) (m':Nat) (w':World) (x:Value),m'<=M->(∀r,r<M->((listed.setIfInBounds i true).getD (ks r) false=true↔r<m'))->G6 U0.next R0 R'->U0.next+n<=nx m' ->
          Dt C R' ⟨nx m',CS U0.next n (vis (listed.setIfInBounds i true)) (Hh m')⟩ w'->(∀k,k<n->(listed.setIfInBounds i true).getD k false=false->R' (U0.next+k)=none)->Le R R' ->
          (vals i = .dead\/Ao R' (vals i)=some x)->K (a.put o.dst x) w':=by
        intro R' m' w' x h1 h2 h3 h4 h5 h6 h7 h8
        refine hK _ _ ⟨by rw[D4];exact hsz,?_,by rw[E0];exact hd,R',m',h1,h2,h3,h4,h5,h6,by rw[hputsz];exact htsz,?_,?_⟩
        · intro i' o' hi' ho' ed hm' hb'
          rw[hLs]at hi' ⊢
          simp only[Bk,decide_eq_true_eq]at hi' ⊢
          rcases hi' with rfl|hi'
          · rw[ho]at ho';cases ho'
            exact .inr (hed ed hm' hb')
          · exact .inr (hcl i' o' hi' ho' ed hm' hb')
        · intro i' o' t hi' ho' hdt htl
          rw[hputsz]at htl
          rw[hLs]at hi'
          simp only[Bk,decide_eq_true_eq]at hi'
          by_cases he:i'=i
          · subst he
            rw[ho]at ho';cases ho'
            rcases h8 with h8|h8
            · exact .inl h8
            · refine .inr ⟨x,?_,h8⟩
              rw[hdt]
              simp[Act.put,A2,htl]
          · have hi'':=hi'.resolve_left he
            have hi'n:i'<n:=by
              rcases Av i' ops.size with h|h
              · omega
              · rw[CH h]at ho';cases ho'
            obtain⟨o3,p3,h1',_,h3'⟩:=some3 i' hi'n
            rw[ho']at h1';cases h1'
            rw[hput a o.dst x t ((F.dsts i' i o' o p3 p he ho' ho h3' hp t hdt).1)]
            rcases hwc i' o' t hi'' ho' hdt htl with h|⟨y,hy,hc⟩
            · exact .inl h
            · exact .inr ⟨y,hy,Cr h7 _ _ hc⟩
        · intro t v hv hno
          have hot:o.dst≠some t:=hno i o (by rw[hLs];simp) ho
          rw[hput a o.dst x t hot]
          rcases huc t v hv (fun i' o' hi' ho'=>hno i' o' (by rw[hLs,hi'];simp) ho')with h|⟨y,hy,hc⟩
          · exact .inl h
          · exact .inr ⟨y,hy,Cr h7 _ _ hc⟩
      have hsame:s.am.testBit i=false->Dt C R ⟨nx m,CS U0.next n (vis (listed.setIfInBounds i true)) (Hh m)⟩ w:=by
        intro ham
        rw[Jy (q:=vis listed) (fun k hk=>by
          simp only[vis]
          rw[hLs]
          by_cases he:k=i
          · subst he;simp[ham]
          · simp[he])]
        exact hrel
      have hpre1:(∀r,r<M->ks r≠i)->∀r,r<M->((listed.setIfInBounds i true).getD (ks r) false=true↔r<m):=by
        intro hne r hr
        rw[hLs]
        simp only[hne r hr,decide_false,Dc]
        exact hpre r hr
      have hres1:∀k,k<n->(listed.setIfInBounds i true).getD k false=false->R (U0.next+k)=none:=by
        intro k hk hkl
        rw[hLs]at hkl
        simp only[Bd]at hkl
        exact hres k hk hkl.2
      have hkbefore:∀r,r<m->(Gw pl (ks r)).testBit i=false:=by
        intro r hr
        cases hb:(Gw pl (ks r)).testBit i with
        | false=>rfl
        | true=>
          exfalso
          obtain⟨hkn,_⟩:=kst r (by omega)
          obtain⟨o3,p3,h1',_,h3'⟩:=some3 (ks r) hkn
          have hlr:=(hpre r (by omega)).2 hr
          have:=hanc listed hcl (ks r) o3 p3 h1' h3' (fun ed hm hb=>hcl (ks r) o3 hlr h1' ed hm hb) i hin (by rw[<-Ik h3'];exact hb)
          rw[hnl]at this;cases this
      unfold wpOp
      rw[ho]
      simp only
      have hco:BK P C.G nt ops o=⟨o.dst,.bad,none⟩\/∃g,PG ops o.guard=some g/\BK P C.G nt ops o=⟨o.dst,Ad P C.G o.op,g⟩:=by
        unfold BK
        split
        · rename_i g hg _;exact .inr ⟨g,hg,rfl⟩
        · exact .inl rfl
      rcases hco with hco|⟨g,hcg,hco⟩
      · exfalso
        have:=hops i hin _ p hlo hp
        rw[hco]at this
        simp[Bq,Eb.cls,BV]at this
      · have hF:=hops i hin _ p hlo hp
        rw[hco]at hF
        simp only at hF
        rcases hF with ⟨hw,hv,ham,hne⟩|⟨hw,⟨hc,hv,ham,hne⟩|⟨hc,hmem,ham,hne⟩|⟨hc,ham,hne,b,hv,hb⟩|⟨hc,ham,r,hr,hkr⟩⟩
        · rw[if_neg (by rw[DW hem hcg hw];simp)]
          exact mk R m w undef hm (hpre1 hne) hx hnxm (hsame ham) hres1 (Le.refl _) (.inr (by rw[hv];rfl))
        · rw[if_pos (DW hem hcg hw)]
          left
          obtain⟨x,hxv,hrun⟩:=MP (a:=a) (P:=P) hem hgl o hv w
          unfold Oper.wp
          rw[hrun]
          exact mk R m w x hm (hpre1 hne) hx hnxm (hsame ham) hres1 (Le.refl _) (.inr hxv)
        · rw[if_pos (DW hem hcg hw)]
          left
          have hl1:=hload i _ _ _ hmem m hm (fun r hr1 hr2=>by
            cases hbt:(Gw pl i).testBit (ks r)with
            | false=>rfl
            | true=>
              exfalso
              have:=hancl (ks r) (kst r hr2).1 (by rw[<-Ik hp];exact hbt)
              have:=(hpre r hr2).1 this
              omega) hkbefore
          have hl2:=eW hrel (Us:=⟨0,CS U0.next n (DQ (Gw pl i) s.am) (Hh m)⟩) (fun id b hid=>by
            simp only at hid ⊢
            rw[DY]at hid ⊢
            by_cases hcnd:U0.next<=id/\id<U0.next+n/\DQ (Gw pl i) s.am (id-U0.next)=false
            · rw[if_pos hcnd]at hid;cases hid
            · rw[if_neg hcnd]at hid
              rw[if_neg (fun hh=>hcnd ⟨hh.1,hh.2.1,by
                have h3:=hh.2.2
                unfold DQ
                cases hbt:(Gw pl i).testBit (id-U0.next)with
                | false=>rfl
                | true=>
                  have:=hancl (id-U0.next) (by omega) (by rw[<-Ik hp];exact hbt)
                  simp only[vis,this,Co]at h3
                  rw[h3];rfl⟩)]
              exact hid) hl1
          obtain⟨x,hxv,hrun⟩:=MQ (P:=P) hrel hem o hl2
          unfold Oper.wp
          rw[hrun]
          exact mk R m w x hm (hpre1 hne) hx hnxm (hsame ham) hres1 (Le.refl _) (.inr hxv)
        · rw[if_pos (DW hem hcg hw)]
          left
          have hRi:R (U0.next+i)=none:=hres i hin hnl
          obtain⟨x,w',inf,hrun,hnew,hblk,hxv,hok⟩:=OI (a:=a) (P:=P) hem hgl o hv hRi w
          unfold Oper.wp
          rw[hrun]
          have hle:Le R (IP R (U0.next+i) inf):=fun k j hk=>by
            by_cases he:k=U0.next+i
            · subst he;rw[hRi]at hk;cases hk
            · rw[Bp he];exact hk
          refine mk (IP R (U0.next+i) inf) m w' x hm (hpre1 hne) (hx.trans (fun id hid=>Bp (by omega)) (AK U0.next)) hnxm ?_ ?_ hle (.inr hxv)
          · refine hrel.allocAt hRi (by show U0.next+i<nx m;omega) hnew b inf hblk hok rfl (fun k=>?_)
            simp only
            rw[DY,DY]
            by_cases he:k=U0.next+i
            · subst he
              rw[if_pos rfl,if_neg (by
                intro h
                have h3:=h.2.2
                rw[show U0.next+i-U0.next=i by omega]at h3
                simp only[vis]at h3
                rw[hLs,ham]at h3
                simp at h3)]
              exact hb m hm hkbefore
            · rw[if_neg he]
              by_cases hrg:U0.next<=k/\k<U0.next+n
              · have:vis (listed.setIfInBounds i true) (k-U0.next)=vis listed (k-U0.next):=by
                  simp only[vis]
                  rw[hLs]
                  have:k-U0.next≠i:=by omega
                  simp[this]
                rw[this]
              · rw[if_neg (fun h=>hrg ⟨h.1,h.2.1⟩),if_neg (fun h=>hrg ⟨h.1,h.2.1⟩)]
          · intro k hk hkl
            rw[hLs]at hkl
            simp only[Bd,decide_eq_false_iff_not]at hkl
            rw[Bp (by omega)]
            exact hres k hk hkl.2
        · rw[if_pos (DW hem hcg hw)]
          left
          have hrm:r=m:=by
            have h1:¬r<m:=fun h=>by
              have:=(hpre r hr).2 h
              rw[hkr,hnl]at this;cases this
            rcases Av m r with h2|h2
            · exfalso
              obtain⟨hkn,o4,p4,U4,hl4,hp4,hc4,_⟩:=kst m (by omega)
              have hlt:=kinc m r h2 hr
              rw[hkr]at hlt
              have:=F.kk (ks m) i o4 _ p hlt hl4 hlo hp hc4 (by rw[hco];exact hc)
              have:=hancl (ks m) hkn this
              have:=(hpre m (by omega)).1 this
              omega
            · omega
          subst hrm
          obtain⟨_,o4,p4,U4,hl4,hp4,hc4,hw4,hden,hHn,hnxn⟩:=kst r hr
          rw[hkr]at hl4 hp4 hw4 hden
          rw[hlo]at hl4;cases hl4
          rw[hp]at hp4;cases hp4
          rw[hco]at hden
          simp only at hden
          have hsub:∀id b,look (CS U0.next n (DQ p.anc s.am) (Hh r)) id=some b->look (CS U0.next n (vis listed) (Hh r)) id=some b:=by
            intro id b hid
            rw[DY]at hid ⊢
            by_cases hcnd:U0.next<=id/\id<U0.next+n/\DQ p.anc s.am (id-U0.next)=false
            · rw[if_pos hcnd]at hid;cases hid
            · rw[if_neg hcnd]at hid
              rw[if_neg (fun hh=>hcnd ⟨hh.1,hh.2.1,by
                have h3:=hh.2.2
                unfold DQ
                cases hbt:p.anc.testBit (id-U0.next)with
                | false=>rfl
                | true=>
                  have:=hancl (id-U0.next) (by omega) hbt
                  simp only[vis,this,Co]at h3
                  rw[h3];rfl⟩)]
              exact hid
          have hsmall:=hrel.shrink (Us:=⟨nx r,CS U0.next n (DQ p.anc s.am) (Hh r)⟩) rfl hsub
          refine OG hD (C:=C.sub R ⟨nx r,CS U0.next n (DQ p.anc s.am) (Hh r)⟩ w) rfl rfl hsmall hem o hden K Q (fun R' w' x hx' hn' hrel' hv'=>?_)
          have hnle:nx r<=U4.next:=hn'
          refine mk R' (r+1) w' x (by omega) ?_ (hx.trans hx' (show U0.next<=nx r by omega)) (by rw[hnxn];omega) ?_ ?_ (hle0 hx') hv'
          · intro r' hr'
            rw[hLs]
            simp only[Bk,decide_eq_true_eq]
            constructor
            · rintro(h | h)
              · rcases AJc r' r with h2 | h2 | h2
                · omega
                · omega
                · have:=kinc r r' h2 hr';omega
              · have:=(hpre r' hr').1 h;omega
            · intro h
              by_cases he:r'=r
              · subst he;exact .inl hkr
              · exact .inr ((hpre r' hr').2 (by omega))
          · refine hrel.regrow (Us:=⟨nx r,CS U0.next n (DQ p.anc s.am) (Hh r)⟩) hsub hrel' hx' hnxn (fun id b hid=>?_)
            simp only at hid ⊢
            rw[DY]at hid
            split at hid
            · cases hid
            · rename_i hvis
              rw[hHn,NO,Ou]at hid
              by_cases hcnd:U0.next<=id/\id<U0.next+n/\DQ p.anc s.am (id-U0.next)=false
              · rw[if_pos hcnd]at hid
                cases hlk:look (Hh r) id with
                | none=>rw[hlk]at hid;exact .inl hid
                | some b'=>
                  rw[hlk]at hid
                  cases hid
                  right
                  rw[DY,DY,if_pos hcnd]
                  refine⟨?_,rfl⟩
                  rw[if_neg (fun hh=>hvis ⟨hh.1,hh.2.1,by
                    have h3:=hh.2.2
                    simp only[vis]at h3 ⊢
                    rw[hLs]
                    by_cases he:id-U0.next=i
                    · rw[he,ham];simp
                    · simp only[he,decide_false,Dc];exact h3⟩)]
                  exact hlk
              · rw[if_neg hcnd]at hid
                exact .inl hid
          · intro k hk hkl
            rw[hx' (U0.next+k) (by show U0.next+k<nx r;omega)]
            exact hres1 k hk hkl
    have hany:∀fuel listed a w,Inv listed a w->(Da n).countP (fun k=>!listed.getD k false)<=fuel->wpAny P .any ops Q fuel listed a w:=by
      intro fuel
      induction fuel with
      | zero=>
        intro listed a w hI hcnt
        have hall:∀k,k<n->listed.getD k false=true:=by
          intro k hk
          have h0:(Da n).countP (fun k=>!listed.getD k false)=0:=by omega
          have:=List.countP_eq_zero.1 h0 k (ABb.2 hk)
          simpa using this
        refine⟨?_,hfin listed a w hI hall⟩
        apply X9.2
        intro j hj
        obtain⟨h1,o,h2,_⟩:=mem_ready.1 hj
        have hjn:j<n:=by
          rcases Av j ops.size with h|h
          · omega
          · rw[CH h]at h2;cases h2
        rw[Dm hI.1 hjn,hall j hjn]at h1
        cases h1
      | succ fuel ih=>
        intro listed a w hI hcnt
        refine⟨fun hr=>hfin listed a w hI (hready_nil listed hI.1 hr),fun i hi=>?_⟩
        have hin:i<n:=by
          obtain⟨_,o,h2,_⟩:=mem_ready.1 hi
          rcases Av i ops.size with h|h
          · omega
          · rw[CH h]at h2;cases h2
        have hnl:listed.getD i false=false:=by rw[<-Dm hI.1 hin];exact(mem_ready.1 hi).1
        refine hstep listed a w hI i hi _ (fun a' w' hI'=>ih _ a' w' hI' ?_)
        have hsz':i<listed.size:=by rw[hI.1];exact hin
        have:=W4 (p:=fun k=>!(listed.setIfInBounds i true).getD k false) (q:=fun k=>!listed.getD k false) (fun k hk=>by
          simp only[C8]at hk ⊢
          rw[Ia hsz']at hk
          simp only[Bd]at hk
          exact hk.2) (i:=i) (by simp only[hnl];rfl) (by simp only[Ia hsz'];simp) (Da n) (ABb.2 hin)
        omega
    refine wp_region_any hmix ?_
    rw[<-hnops]
    have hrepl:∀k,(HB n false).getD k false=false:=fun k=>by
      simp only[EO,AOQ]
      split<;>rfl
    refine hany n _ a0 _ ⟨by simp,?_,hd0,R0,0,DZ _,?_,G6.refl _ _,by rw[nx0];exact AK _,?_,?_,hnt0,?_,?_⟩ ?_
    · intro i o hi;rw[hrepl]at hi;cases hi
    · intro r hr;rw[hrepl];simp
    · refine(hrel0.drawn (w00.drawn+1)).congr (fun id hid=>hrel0.fresh id (by have h1:nx 0<=id:=hid;rw[nx0]at h1;omega)) (fun k b hk=>?_)
      simp only at hk
      rw[DY]at hk
      split at hk
      · cases hk
      · rename_i hc
        have hnr:¬(U0.next<=k/\k<U0.next+n):=fun h=>hc ⟨h.1,h.2,by simp only[vis,hrepl,ABe]⟩
        rw[hz k hnr]at hk
        exact hk
    · intro k hk _;exact hrel0.fresh _ (by omega)
    · intro i o t hi;rw[hrepl]at hi;cases hi
    · intro t v hv _;exact he0.at_ t v hv
    · refine Bc (List.countP_le_length) (by simp)
end Go.Og
namespace Go.Og
abbrev AF:=Option (V × H)
noncomputable section
def BU {α:Type} (l:List (Nat × α)) (id:Nat):Option α:=
 List.rec none (fun p _ r=>Bool.rec r (some p.2) (Ak p.1 id)) l
def VG {α:Type} (l:List (Nat × α)) (id:Nat):List (Nat × α):=
 List.rec [] (fun p l r=>Bool.rec (p::r) l (Ak p.1 id)) l
def qR (l:List V):Nat->Option V:=
 List.rec (fun _=>none) (fun a _ ih n=>Nat.rec (some a) (fun m _=>ih m) n) l
def O6 (l:EB) (id:Nat):(EB->AF)->AF:=
 List.rec (fun k=>k []) (fun p _ ih k=>ih fun l'=>Bool.rec (k (p::l')) (k l') (Ak p.1 id)) l
def AI (c:Bool) (a b:AF):AF:=match c with
 | true=>a
 | false=>b
def GK (c:Bool) (a:AF):AF:=match c with
 | true=>a
 | false=>none
def gK (x:Option V) (J:V->AF):AF:=match x with
 | some v=>J v
 | none=>none
def CM (x:AF) (J:V->H->AF):AF:=match x with
 | some (v,U)=>J v U
 | none=>none
def Af (f:Bool->H->AF) (g:(Bool->H->AF)->AF):AF:=g f
def Ms:IntKind->Nat
 | .i8=>127 | .i16=>32767 | .i32=>2147483647 | .i64=>9223372036854775807
 | .u8=>255 | .u16=>65535 | .u32=>4294967295 | .u64=>18446744073709551615
def ADr:IntKind->Nat
 | .i8=>128 | .i16=>32768 | .i32=>2147483648 | .i64=>9223372036854775808
 | .u8=>0 | .u16=>0 | .u32=>0 | .u64=>0
def xh (k:IntKind) (n:Int):Bool:=match n with
 | .ofNat m=>Ag m (Ms k)
 | .negSucc m=>B2 m (ADr k)
def BE (k:IntKind) (n:Int):Int:=match xh k n with
 | true=>n
 | false=>k.wrap n
def AKN (a b:Int):Int:=if b<a then b else a
def Nz (a b:Int):Int:=if b > a then b else a
def Ci (a b:Int):Bool:=match a,b with
 | .ofNat m,.ofNat n=>B2 m n
 | .negSucc m,.negSucc n=>B2 n m
 | .negSucc _,.ofNat _=>true
 | .ofNat _,.negSucc _=>false
def I3 (a b:Int):Bool:=match a,b with
 | .ofNat m,.ofNat n=>Ag m n
 | .negSucc m,.negSucc n=>Ag n m
 | .negSucc _,.ofNat _=>true
 | .ofNat _,.negSucc _=>false
def Ba (k:IntKind) (a b:Int):Int:=BE k (Int.add a b)
def Dp (k:IntKind) (a b:Int):Int:=BE k (Int.sub a b)
def Iy (k:IntKind) (a b:Int):Int:=BE k (Int.mul a b)
def ADE (k:IntKind) (a b:Int):Int:=BE k (Int.tdiv a b)
def SM (k:IntKind) (a:Int) (n:Nat):Int:=BE k (Int.mul a (AA (Nat.pow 2 (Ex n k.bits))))
def Kc (k:IntKind) (a:Int) (n:Nat):Int:=match a with
 | .ofNat m => .ofNat (Nat.div m (Nat.pow 2 (Ex n k.bits)))
 | .negSucc m=>Int.fdiv (.negSucc m) (2 ^ (Ex n k.bits))
def Of (k:IntKind) (a b:Int) (f:Nat->Nat->Nat) (g:Int):Int:=match a,b with
 | .ofNat m,.ofNat n=>match Ag m (Ms k)&&Ag n (Ms k)with
  | true => .ofNat (f m n)
  | false=>g
 | _,_=>g
def JE (k:IntKind) (a b:Int):Int:=Of k a b Nat.land (k.wrap (BG k.bits a &&& BG k.bits b).toNat)
def Ny (k:IntKind) (a b:Int):Int:=Of k a b Nat.lor (k.wrap (BG k.bits a ||| BG k.bits b).toNat)
def ACL (k:IntKind) (a b:Int):Int:=Of k a b Nat.xor (k.wrap (BG k.bits a ^^^ BG k.bits b).toNat)
def JD (k:IntKind) (a b:Int):Int:=k.wrap (BG k.bits a &&& ~~~BG k.bits b).toNat
def iH (k:IntKind) (a:Int):Int:=BE k (Int.sub 0 a)
def AKL (k:IntKind) (a:Int):Int:=k.wrap (BG k.bits (if k.signed then -1 else k.max) ^^^ BG k.bits a).toNat
def T4 (b:Int) (J:Nat->AF):AF:=match b with
 | .ofNat n=>J n
 | .negSucc _=>none
def tp (b:Int) (a:AF):AF:=match b with
 | .ofNat 0=>none
 | _=>a
def xg (op:BinOp) (k k':IntKind) (a b:Int) (J:V->AF):AF:=
 match op with
 | .shl=>T4 b fun n=>J (.int k (SM k a n))
 | .shr=>T4 b fun n=>J (.int k (Kc k a n))
 | op=>if k=k' then
   match op with
   | .add=>J (.int k (Ba k a b))
   | .sub=>J (.int k (Dp k a b))
   | .mul=>J (.int k (Iy k a b))
   | .quo=>tp b (J (.int k (ADE k a b)))
   | .rem=>tp b (J (.int k (Lo a b)))
   | .and=>J (.int k (JE k a b))
   | .or=>J (.int k (Ny k a b))
   | .xor=>J (.int k (ACL k a b))
   | .andNot=>J (.int k (JD k a b))
   | .eql=>J (.bool (Bt a b))
   | .neq=>J (.bool (not (Bt a b)))
   | .lss=>J (.bool (Ci a b))
   | .leq=>J (.bool (I3 a b))
   | .gtr=>J (.bool (Ci b a))
   | .geq=>J (.bool (I3 b a))
   | _=>none
  else none
def GC (a b:BS) (J:BS->AF):AF:=match Ag (AP a.len b.len) 1000000000000 with
 | true=>J (a.cat b)
 | false=>none
def ltS (a b:BS):Bool:=Op.bytesLess a.toList b.toList
def ACz (op:BinOp) (a b:BS) (J:V->AF):AF:=
 match op with
 | .add=>GC a b fun s=>J (.str s)
 | .eql=>J (.bool (a.beq b))
 | .neq=>J (.bool (not (a.beq b)))
 | .lss=>J (.bool (ltS a b))
 | .leq=>J (.bool (ltS a b || a.beq b))
 | .gtr=>J (.bool (not (ltS a b || a.beq b)))
 | .geq=>J (.bool (not (ltS a b)))
 | _=>none
def xw (t:Fp) (x y:V) (J:Bool->AF):AF:=match Jz t x y with
 | some b=>J b
 | none=>none
def eqX (op:BinOp) (t:Fp) (x y:V) (J:V->AF):AF:=match op with
 | .eql=>xw t x y fun b=>J (.bool b)
 | .neq=>xw t x y fun b=>J (.bool (not b))
 | _=>none
def yL (op:BinOp) (t:Fp) (x y:V) (J:V->AF):AF:=
 match t with
 | .none=>match x,y with
  | .int k a,.int k' b=>xg op k k' a b J
  | .str a,.str b=>ACz op a b J
  | _,_=>none
 | t=>eqX op t x y J
def unX (op:UnOp) (x:V) (J:V->AF):AF:=
 match op,x with
 | .neg,.int k n=>J (.int k (iH k n))
 | .xor,.int k n=>J (.int k (AKL k n))
 | .not,.bool b=>J (.bool (not b))
 | _,_=>none
inductive CZ where
 | any | int (k:IntKind) | bool | str | ptr | one
 | agg (l:List CZ)
 | tup (l:List CZ)
 deriving Inhabited
def Ch (k:IntKind) (v:V) (J:Int->AF):AF:=match v with
 | .int k' n=>if k=k' then J n else none
 | _=>none
def Ct (v:V) (J:Bool->AF):AF:=match v with
 | .bool b=>J b
 | _=>none
def G7 (v:V) (J:BS->AF):AF:=match v with
 | .str s=>J s
 | _=>none
def B4 (v:V) (J:Nat->Nat->AF):AF:=match v with
 | .ptr b o=>J b o
 | _=>none
def CW (v:V) (J:List V->AF):AF:=match v with
 | .agg l=>J l
 | _=>none
def L0 (v:V) (J:List V->AF):AF:=match v with
 | .tup l=>J l
 | _=>none
def Ae (l:List V) (J:V->List V->AF):AF:=match l with
 | v::l=>J v l
 | []=>none
def BJ (l:List V) (a:AF):AF:=match l with
 | []=>a
 | _::_=>none
def CB (v:V) (a:AF):AF:=match v.one with
 | true=>a
 | false=>none
mutual
def rt:CZ->V->(V->AF)->AF
 | .any,v,J=>J v
 | .int k,v,J=>Ch k v fun n=>J (.int k n)
 | .bool,v,J=>Ct v fun b=>J (.bool b)
 | .str,v,J=>G7 v fun s=>J (.str s)
 | .ptr,v,J=>B4 v fun b o=>J (.ptr b o)
 | .one,v,J=>CB v (J v)
 | .agg ts,v,J=>CW v fun l=>tW ts l fun l'=>J (.agg l')
 | .tup ts,v,J=>L0 v fun l=>tW ts l fun l'=>J (.tup l')
def tW:List CZ->List V->(List V->AF)->AF
 | [],l,J=>BJ l (J [])
 | t::ts,l,J=>Ae l fun v l'=>rt t v fun v'=>tW ts l' fun l''=>J (v'::l'')
end
abbrev Qs:=List (Nat × (Nat × Nat))
abbrev Rg:=List (Nat × List V)
def CU (e:B6) (x:AO) (J:V->AF):AF:=match x with
 | .con v=>match v.live with
  | true=>J v
  | false=>none
 | .tmp t=>match look e t with
  | some v=>J v
  | none=>none
def MF (e:B6):List AO->(List V->AF)->AF
 | [],J=>J []
 | x::l,J=>CU e x fun v=>MF e l fun vs=>J (v::vs)
def MG (e:B6) (x:Option AO) (J:Option V->AF):AF:=match x with
 | none=>J none
 | some x=>CU e x fun v=>J (some v)
def Om (e:B6):List (Nat × Nat × AO)->(List (Nat × Nat × V)->AF)->AF
 | [],J=>J []
 | (o,s,x)::l,J=>CU e x fun v=>Om e l fun r=>J ((o,s,v)::r)
def Fl (q:Qs):AO->Option (Nat × Nat)
 | .tmp t=>look q t
 | .con _=>none
def Sh (o:Option V) (d:Nat) (J:Nat->AF):AF:=match o with
 | none=>J d
 | some v=>match v with
  | .int _ n=>T4 n J
  | _=>none
def C3 (s:BS) (lo hi:Option V) (J:BS->AF):AF:=
 Sh hi s.len fun h=>Sh lo 0 fun l=>GK (Ag l h&&Ag h s.len) (J (s.sub l h))
def Cv (s:BS) (i:Int) (J:Int->AF):AF:=
 T4 i fun n=>GK (B2 n s.len) (J (AA (s.get n)))
def A0 (v:V) (J:Nat->AF):AF:=match v with
 | .nils=>J 0
 | .sl _ _ n _=>J n
 | .sle _ _ _ _=>J 0
 | _=>none
def AW (esz:Nat) (v:V) (i:Int) (J:Nat->Nat->AF):AF:=match v with
 | .sl b off len _=>T4 i fun n=>GK (B2 n len) (J b (AP off (Ma n esz)))
 | _=>none
def JY (l:List V) (n:Nat) (J:V->AF):AF:=match qR l n with
 | some v=>J v
 | none=>none
def EI (l:List V) (off n:Nat) (J:List V->AF):AF:=match Ag (AP off n) l.length with
 | true=>J ((l.drop off).take n)
 | false=>none
def gh (E:EB) (U:H) (b:Nat) (J:List V->AF):AF:=match BU U.bl b with
 | some (.cells l)=>J l
 | some _=>none
 | none=>match BU E b with
  | some (.cells l)=>J l
  | _=>none
def EG (E:EB) (U:H) (b off:Nat) (J:V->AF):AF:=gh E U b fun l=>JY l off J
def Bv (E:EB) (U:H) (b off n:Nat) (J:List V->AF):AF:=gh E U b fun l=>EI l off n J
def Br (U:H) (b:GM):H:=⟨U.next+1,(U.next,b)::U.bl⟩
def GP (U:H) (b:Nat) (c:GM):H:=⟨U.next,(b,c)::VG U.bl b⟩
def DX (n b off:Nat) (v:V) (U:H) (J:H->AF):AF:=match BU U.bl b with
 | some (.cells l)=>GK (Ak v.cells.length n&&Ag (AP off n) l.length&&An v.cells) (J (GP U b (.cells (FC l off v.cells))))
 | _=>none
def srcK (E:EB) (U:H) (esz:Nat) (v:V) (J:Nat->List V->AF):AF:=match v with
 | .nils=>J 0 []
 | .sle _ _ _ _=>J 0 []
 | .sl b off len _=>gh E U b fun l=>EI l off (len*esz) fun l'=>J len l'
 | .str s=>match Ak esz 1 with
  | true=>J s.len (dS s.toList)
  | false=>none
 | _=>none
def DV (E:EB) (esz bytes:Nat) (s x:V) (U:H) (J:V->H->AF):AF:=
 srcK E U esz x fun n new=>
  match s with
  | .sl b 0 len (.op e)=>match n with
   | 0=>J s U
   | n=>match BU U.bl b with
    | some (.cells l)=>GK (Ak l.length (len*esz)&&Ak e esz&&Bw (len+n) bytes&&An new)
      (O6 U.bl b fun bl'=>J (.sl U.next 0 (len+n) (.op esz)) ⟨U.next+1,(U.next,.cells (l++new))::bl'⟩)
    | _=>none
  | s=>CM (C6 E esz bytes s x U) J
def Jk (E:EB) (U:H) (v:V) (J:BS->AF):AF:=match v with
 | .str _=>none
 | v=>srcK E U 1 v fun _ l=>match FV l with
  | some s=>J (BS.ofList s)
  | none=>none
def D9 (l:List (Nat × Nat × V)) (z:List V) (J:List V->AF):AF:=match Ez l z with
 | some l'=>J l'
 | none=>none
def ue (E:EB) (esz:Nat) (d s:V) (U:H):Option (V × H):=
 match d,C1 E U esz s with
  | .nils,some (_,_)=>some (.int .i64 0,U)
  | .sle _ _ _ _,some (_,_)=>some (.int .i64 0,U)
  | .sl b off len _,some (n,src)=>
   let m:=Ex n len
   if m=0 then some (.int .i64 0,U)else
   match look U.bl b with
   | some (.cells l)=>if Ag (off+m*esz) l.length&&An (src.take (m*esz))then some (.int .i64 m,U.set b (.cells (FC l off (src.take (m*esz)))))else none
   | _=>none
  | _,_=>none
theorem jU (E:EB) (esz:Nat) (d s:AO) (e:B6) (U:H):Ep E (.copy esz d s) e U=ue E esz (CP e d) (CP e s) U:=rfl
def BL (e:B6) (t:Nat) (J:V->AF):AF:=match look e t with
 | some v=>GK v.live (J v)
 | none=>none
def M1 (D:Ai) (fv:V) (vs:List V) (U:H) (J:V->H->AF):AF:=match fv with
 | .fn g first cap=>CM (D g (first++vs++cap) U) J
 | _=>none
def C9 (E:EB) (D:Ai) (id nx:Nat) (o:Eb) (e:B6) (U:H) (J:V->H->AF):AF:=
 match o with
 | .mov x=>CU e x fun v=>J v U
 | .bin op t x y=>CU e x fun a=>CU e y fun b=>yL op t a b fun v=>J v U
 | .un op x=>CU e x fun a=>unX op a fun v=>J v U
 | .conv (.toInt k) x=>CU e x fun v=>match v with
  | .int _ n=>J (.int k (BE k n)) U
  | _=>none
 | .conv .same x=>CU e x fun v=>G7 v fun s=>J (.str s) U
 | .conv .toStr x=>CU e x fun v=>Jk E U v fun u=>J (.str u) U
 | .conv (.toBytes _) x=>CU e x fun v=>G7 v fun s=>GK (Ag s.len 1000000000000) (J (.sl id 0 s.len (.op 1)) ⟨nx,(id,.cells (dS s.toList))::U.bl⟩)
 | .nilck x=>CU e x fun v=>B4 v fun b o=>J (.ptr b o) U
 | .faddr off x=>CU e x fun v=>B4 v fun b o=>J (.ptr b (AP o off)) U
 | .field off none x=>CU e x fun v=>CW v fun l=>JY l off fun u=>J u U
 | .field off (some n) x=>CU e x fun v=>CW v fun l=>EI l off n fun l'=>J (.agg l') U
 | .extract i x=>CU e x fun v=>L0 v fun l=>JY l i fun u=>J u U
 | .iaddrS esz x i=>CU e x fun v=>CU e i fun j=>match j with
  | .int _ n=>AW esz v n fun b o=>J (.ptr b o) U
  | _=>none
 | .iaddrA len esz x i=>CU e x fun v=>CU e i fun j=>match j with
  | .int _ n=>B4 v fun b o=>T4 n fun m=>GK (B2 m len) (J (.ptr b (AP o (Ma m esz))) U)
  | _=>none
 | .idxStr x i=>CU e x fun v=>CU e i fun j=>G7 v fun s=>match j with
  | .int _ n=>Cv s n fun u=>J (.int .u8 u) U
  | _=>none
 | .len true x=>CU e x fun v=>G7 v fun s=>J (.int .i64 (AA s.len)) U
 | .len false x=>CU e x fun v=>A0 v fun n=>J (.int .i64 (AA n)) U
 | .lenC n=>J (.int .i64 (AA n)) U
 | .sliceStr x lo hi=>CU e x fun v=>MG e lo fun l=>MG e hi fun h=>G7 v fun s=>C3 s l h fun u=>J (.str u) U
 | .sliceSl esz x lo hi mx=>CU e x fun v=>MG e lo fun l=>MG e hi fun h=>MG e mx fun m=>gK (Cs esz v l h m) fun u=>J u U
 | .sliceArr n esz x lo hi mx=>CU e x fun v=>MG e lo fun l=>MG e hi fun h=>MG e mx fun m=>gK (IW n esz v l h m) fun u=>J u U
 | .mkifc t x=>CU e x fun v=>J (.ifc t v) U
 | .mkfn f a c=>MF e a fun xs=>MF e c fun ys=>J (.fn f xs ys) U
 | .build z ps=>Om e ps fun l=>D9 l z fun l'=>J (.agg l') U
 | .cap x=>CU e x fun v=>match v with
  | .nils=>J (.int .i64 0) U
  | .sl _ _ _ (.ex c)=>J (.int .i64 (AA c)) U
  | _=>none
 | .min x l=>CU e x fun v=>MF e l fun vs=>gK (Ug v vs) fun u=>match u with
  | .int k n=>J (.int k n) U
  | _=>none
 | .max x l=>CU e x fun v=>MF e l fun vs=>gK (Uh v vs) fun u=>match u with
  | .int k n=>J (.int k n) U
  | _=>none
 | .load none x=>CU e x fun v=>B4 v fun b o=>EG E U b o fun u=>J u U
 | .load (some n) x=>CU e x fun v=>B4 v fun b o=>Bv E U b o n fun u=>J (.agg u) U
 | .alloc _ z=>J (.ptr id 0) ⟨nx,(id,.cells z)::U.bl⟩
 | .box _ x=>CU e x fun v=>GK (An v.cells) (J (.ptr id 0) ⟨nx,(id,.cells v.cells)::U.bl⟩)
 | .buildSlice _ n z ps=>Om e ps fun l=>D9 l z fun l'=>GK (An l') (J (.sl id 0 n (.ex n)) ⟨nx,(id,.cells l')::U.bl⟩)
 | .mkslice _ _ bytes z len cap=>CU e len fun a=>CU e cap fun b=>match a,b with
  | .int .i64 n,.int .i64 c=>T4 n fun n=>T4 c fun c=>GK (Ag n c&&Ag (c*bytes) 281474976710656&&Ag c 1000000000000)
    (J (.sl id 0 n (.ex c)) ⟨nx,(id,.cells (As c z).flatten)::U.bl⟩)
  | _,_=>none
 | .store n x v=>CU e x fun p=>CU e v fun u=>B4 p fun b o=>DX n b o u U fun U'=>J .dead U'
 | .append _ esz bytes s x=>CU e s fun a=>CU e x fun b=>DV E esz bytes a b U J
 | .copy esz d s=>CU e d fun a=>CU e s fun b=>CM (ue E esz a b U) J
 | .call f args=>MF e args fun vs=>CM (D f vs U) J
 | .callv f args=>CU e f fun fv=>MF e args fun vs=>M1 D fv vs U J
 | .mkmap=>J (.mp id) ⟨nx,(id,.map [])::U.bl⟩
 | .lookup t z m x=>CU e m fun p=>CU e x fun k=>gK (L9 t z p k U) fun v=>J v U
 | .mapset t m k v=>CU e m fun p=>CU e k fun a=>CU e v fun b=>CM (SZ t p a b U) J
 | .alloc0 el=>J (.ptr id 0) ⟨nx,(id,.unit el)::U.bl⟩
 | .box0 el x=>CU e x fun v=>match v with
  | .agg []=>J (.ptr id 0) ⟨nx,(id,.unit el)::U.bl⟩
  | _=>none
 | .load0 x=>CU e x fun v=>B4 v fun _ _=>J (.agg []) U
 | .store0 x v=>CU e x fun p=>CU e v fun u=>match p,u with
  | .ptr _ _,.agg []=>J .dead U
  | _,_=>none
 | .faddr0 t x=>CU e x fun v=>gK (OF t v U) fun u=>J u U
 | .idxArr n esz none x i=>CU e x fun v=>CU e i fun j=>CW v fun l=>match j with
  | .int _ k=>T4 k fun m=>GK (B2 m n) (JY l (Ma m esz) fun u=>J u U)
  | _=>none
 | .idxArr n esz (some s) x i=>CU e x fun v=>CU e i fun j=>CW v fun l=>match j with
  | .int _ k=>T4 k fun m=>GK (B2 m n) (EI l (Ma m esz) s fun l'=>J (.agg l') U)
  | _=>none
 | _=>none
def W5 (ty:CZ) (v:V) (J:List V->AF):AF:=match ty with
 | .agg _=>CW v fun l=>GK (An l) (J l)
 | _=>CB v (J [v])
def oZ (E:EB) (D:Ai) (pw:Bool) (id nx:Nat) (o:Eb) (ty:CZ) (e:B6) (q:Qs) (r:Rg) (U:H) (J:V->Rg->H->AF) (Jm:Nat->Nat->AF):AF:=
 match o with
 | .mov x=>match Fl q x with
  | some (m,off)=>Jm m off
  | none=>C9 E D id nx o e U fun v U'=>rt ty v fun v'=>J v' r U'
 | .nilck x=>match Fl q x with
  | some (m,off)=>Jm m off
  | none=>C9 E D id nx o e U fun v U'=>rt ty v fun v'=>J v' r U'
 | .faddr d x=>match Fl q x with
  | some (m,off)=>Jm m (off+d)
  | none=>C9 E D id nx o e U fun v U'=>rt ty v fun v'=>J v' r U'
 | .load none x=>match Fl q x with
  | some (m,off)=>match look r m with
   | some l=>JY l off fun v=>rt ty v fun v'=>J v' r U
   | none=>none
  | none=>C9 E D id nx o e U fun v U'=>rt ty v fun v'=>J v' r U'
 | .load (some n) x=>match Fl q x with
  | some (m,off)=>match look r m with
   | some l=>EI l off n fun l'=>rt ty (.agg l') fun v'=>J v' r U
   | none=>none
  | none=>C9 E D id nx o e U fun v U'=>rt ty v fun v'=>J v' r U'
 | .store n x v=>match Fl q x with
  | some (m,off)=>match pw,look r m with
   | true,some l=>match Fl q v with
    | none=>CU e v fun u=>W5 ty u fun cs=>GK (Ak cs.length n&&Ag (off+n) l.length) (J .dead (Ke r m (FC l off cs)) U)
    | some _=>none
   | _,_=>none
  | none=>C9 E D id nx o e U fun v U'=>J v r U'
 | o=>C9 E D id nx o e U fun v U'=>rt ty v fun v'=>J v' r U'
inductive XL where
 | nil
 | op (dst:Option Nat) (ty:CZ) (looks:List Nat) (o:Eb) (rest:XL)
 | pal (dst:Nat) (looks:List Nat) (el:TypeId) (z:List V) (rest:XL)
 | grp (t:Nat) (b:Bool) (l:XL) (dst:Nat) (looks:List Nat) (c x y:AO) (rest:XL)
 deriving Inhabited
def XL.size:XL->Nat
 | .nil=>0
 | .op _ _ _ _ r=>r.size+1
 | .pal _ _ _ _ r=>r.size+1
 | .grp _ _ l _ _ _ _ _ r=>l.size+(r.size+1)
def XL.flat (g:Option (Nat × Bool)):XL->List BO
 | .nil=>[]
 | .op d _ _ o r=>⟨d,o,g⟩::r.flat g
 | .pal d _ el z r=>⟨some d,.alloc el z,g⟩::r.flat g
 | .grp t b l d _ c x y r=>l.flat (some (t,b))++⟨some d,.pick c x y,g⟩::r.flat g
def XL.lks:XL->List (List Nat)
 | .nil=>[]
 | .op _ _ k _ r=>k::r.lks
 | .pal _ k _ _ r=>k::r.lks
 | .grp _ _ l _ k _ _ _ r=>l.lks++k::r.lks
def XL.dsts:XL->List Nat
 | .nil=>[]
 | .op d _ _ _ r=>(match d with | some d=>d::r.dsts | none=>r.dsts)
 | .pal d _ _ _ r=>d::r.dsts
 | .grp _ _ l d _ _ _ _ r=>l.dsts++d::r.dsts
def Bg {α:Type} (ds:List Nat):List (Nat × α)->List (Nat × α)
 | []=>[]
 | (k,v)::l=>match Bn ds k with
  | true=>Bg ds l
  | false=>(k,v)::Bg ds l
def CE {α:Type} (d:Option Nat) (l:List (Nat × α)):List (Nat × α):=match d with
 | none=>l
 | some d=>Bg [d] l
def IE (m:Nat):Qs->List Nat
 | []=>[]
 | (t,p)::l=>match Ak p.1 m with
  | true=>t::IE m l
  | false=>IE m l
def Jj (m:Nat) (q:Qs):Qs:=Bg (IE m q) q
def LK:List Nat->Qs->Qs
 | [],_=>[]
 | t::l,q=>match look q t with
  | some p=>(t,p)::LK l q
  | none=>LK l q
def ED (dr:Bool) (ks:List Nat) (e:B6):B6:=match dr with
 | true=>restr ks e
 | false=>e
def Kd (dr:Bool) (ks:List Nat) (q:Qs):Qs:=match dr with
 | true=>LK ks q
 | false=>q
def QS (q:Qs) (d:Option Nat) (p:Nat × Nat):Qs:=match d with
 | some d=>(d,p)::q
 | none=>q
def If (E:EB) (D:Ai) (dr pw:Bool) (_n0:Nat) (l:XL):Nat->B6->Qs->Rg->H->(B6->Qs->Rg->H->AF)->AF:=
 XL.rec (motive:=fun _=>Bool->Nat->B6->Qs->Rg->H->(B6->Qs->Rg->H->AF)->AF)
  (fun _ _ e q r U J=>J e q r U)
  (fun d ty ks o _ ih pw i e q r U J=>
   oZ E D pw U.next (U.next+1) o ty (ED dr ks e) (Kd dr ks q) r U
    (fun v r' U'=>ih pw (i+1) (Cu e d v) (CE d q) r' U' J)
    (fun m off=>ih pw (i+1) (CE d e) (QS (CE d q) d (m,off)) r U J))
  (fun d _ _ z _ ih pw i e q r U J=>match pw with
   | true=>ih true (i+1) (Bg [d] e) ((d,(d,0))::Jj d (Bg [d] q)) ((d,z)::Bg [d] r) U J
   | false=>none)
  (fun t b l d ks _ x y _ ihl ih pw i e q r U J=>
   CU (ED dr [t] e) (.tmp t) fun c=>Ct c fun cb=>
    Af (fun v U'=>ih pw (i+l.size+1) ((d,.bool v)::Bg (d::l.dsts) e) (Bg (d::l.dsts) q) r U' J) fun k=>
     match b with
     | true=>AI cb
       (ihl false i e q r U fun e' _ _ U'=>CU (ED dr ks e') x fun v=>Ct v fun v=>k v U')
       (CU (ED dr ks e) y fun v=>Ct v fun v=>k v U)
     | false=>AI cb
       (CU (ED dr ks e) x fun v=>Ct v fun v=>k v U)
       (ihl false i e q r U fun e' _ _ U'=>CU (ED dr ks e') y fun v=>Ct v fun v=>k v U'))
  l pw
section
variable {E:EB} {D:Ai} {dr:Bool} {n0 i:Nat} {e:B6} {q:Qs} {r:Rg} {U:H} {J:B6->Qs->Rg->H->AF}
theorem rU {pw:Bool} (d:Option Nat) (ty:CZ) (ks:List Nat) (o:Eb) (rest:XL):If E D dr pw n0 (.op d ty ks o rest) i e q r U J=oZ E D pw U.next (U.next+1) o ty (ED dr ks e) (Kd dr ks q) r U
      (fun v r' U'=>If E D dr pw n0 rest (i+1) (Cu e d v) (CE d q) r' U' J)
      (fun m off=>If E D dr pw n0 rest (i+1) (CE d e) (QS (CE d q) d (m,off)) r U J):=rfl
theorem jP (d:Nat) (ks:List Nat) (el:TypeId) (z:List V) (rest:XL):If E D dr true n0 (.pal d ks el z rest) i e q r U J=If E D dr true n0 rest (i+1) (Bg [d] e) ((d,(d,0))::Jj d (Bg [d] q)) ((d,z)::Bg [d] r) U J:=rfl
theorem dz (d:Nat) (ks:List Nat) (el:TypeId) (z:List V) (rest:XL):If E D dr false n0 (.pal d ks el z rest) i e q r U J=none:=rfl
theorem jQ {pw:Bool} (t:Nat) (b:Bool) (l:XL) (d:Nat) (ks:List Nat) (c x y:AO) (rest:XL):If E D dr pw n0 (.grp t b l d ks c x y rest) i e q r U J =
      CU (ED dr [t] e) (.tmp t) fun c=>Ct c fun cb=>
        Af (fun v U'=>If E D dr pw n0 rest (i+l.size+1) ((d,.bool v)::Bg (d::l.dsts) e) (Bg (d::l.dsts) q) r U' J) fun k=>
          match b with
          | true=>AI cb
              (If E D dr false n0 l i e q r U fun e' _ _ U'=>CU (ED dr ks e') x fun v=>Ct v fun v=>k v U')
              (CU (ED dr ks e) y fun v=>Ct v fun v=>k v U)
          | false=>AI cb
              (CU (ED dr ks e) x fun v=>Ct v fun v=>k v U)
              (If E D dr false n0 l i e q r U fun e' _ _ U'=>CU (ED dr ks e') y fun v=>Ct v fun v=>k v U'):=rfl
end
structure St where
 e:B6
 q:Qs
 r:Rg
 U:H
inductive XC where
 | skip
 | ops (l:XL)
 | draw (l:XL) (ancs:List Nat)
 | gdraw (ops:List BO) (plan:List DP) (ts:List (Nat × CZ))
 | seq (a b:XC)
 | cond (c:AO) (a b:XC)
 | block (id:Nat) (c:XC)
 | loop (ts:List (Nat × CZ)) (ms:List Nat) (rs:List (Nat × List CZ)) (c:XC)
 | exit (id:Nat)
 | ret
 | keep (ts:List (Nat × CZ)) (ms:List Nat) (rs:List (Nat × List CZ)) (c:XC)
 | bad
 deriving Inhabited
def Un (e:B6):List (Nat × CZ)->(B6->AF)->AF
 | [],J=>J []
 | (t,ty)::l,J=>BL e t fun v=>rt ty v fun v'=>Un e l fun e'=>J ((t,v')::e')
def O1 (ms rs:List Nat) (q:Qs):Qs:=match ms with
 | []=>[]
 | t::l=>match look q t with
  | some p=>(match Bn rs p.1 with
   | true=>(t,p)::O1 l rs q
   | false=>O1 l rs q)
  | none=>O1 l rs q
def Yv (e:B6):List (Nat × CZ)->(B6->AF)->AF
 | [],J=>J []
 | (t,ty)::l,J=>CU e (.tmp t) fun v=>rt ty v fun v'=>Yv e l fun e'=>J ((t,v')::e')
def Yu (r:Rg):List (Nat × List CZ)->(Rg->AF)->AF
 | [],J=>J []
 | (m,tys)::l,J=>match look r m with
  | some cs=>tW tys cs fun cs'=>Yu r l fun r'=>J ((m,cs')::r')
  | none=>none
def BN (f:(St->AF)->St->AF) (N:Nat):St->AF:=Nat.rec (fun _=>none) (fun _ ih=>f ih) N
def XL.makes:XL->Bool
 | .nil=>false
 | .op _ _ _ o r=>(match o.cls with | .a=>true | _=>r.makes)
 | .pal _ _ _ _ r=>r.makes
 | .grp _ _ l _ _ _ _ _ r=>l.makes || r.makes
def XL.pals:XL->List Nat
 | .nil=>[]
 | .op _ _ _ _ r=>r.pals
 | .pal d _ _ _ r=>d::r.pals
 | .grp _ _ l _ _ _ _ _ r=>l.pals++r.pals
def On (q:Qs):List Nat->Bool
 | []=>true
 | d::l=>(IE d q).isEmpty&&On q l
def JL (ts:List (Nat × CZ)) (ms:List Nat) (rs:List (Nat × List CZ)) (s:St) (J:St->AF):AF:=
 Yv s.e ts fun e'=>Yu s.r rs fun r'=>J ⟨e',O1 ms (rs.map Prod.fst) s.q,r',s.U⟩
def Bf (id:Nat) (kn:St->AF) (kx:Nat->St->AF):Nat->St->AF:=fun j s'=>match Ak j id with
 | true=>kn s'
 | false=>kx j s'
def jM (q:Qs) (ds:List Nat) (a:AF):AF:=match On q ds with
 | true=>a
 | false=>none
def Cc (x:Option (B6 × H)) (J:B6->H->AF):AF:=match x with
 | some (e,U)=>J e U
 | none=>none
def Ay (E:EB) (D:Ai) (W:AH) (N:Nat) (c:XC):St->(St->AF)->(Nat->St->AF)->(St->AF)->AF:=
 XC.rec (motive:=fun _=>St->(St->AF)->(Nat->St->AF)->(St->AF)->AF)
  (fun s kn _ _=>kn s)
  (fun l s kn _ _=>If E D false true 0 l 0 s.e s.q s.r s.U fun e q r U=>kn ⟨e,q,r,U⟩)
  (fun l _ s kn _ _=>jM s.q l.pals (If E D true true 0 l 0 s.e s.q s.r s.U fun e q r U=>kn ⟨e,q,r,U⟩))
  (fun ops pl ts s kn _ _=>Cc (W ops pl s.e s.U) fun e' U'=>Un e' ts fun e''=>kn ⟨e'',[],[],U'⟩)
  (fun _ _ iha ihb s kn kx kr=>iha s (fun s'=>ihb s' kn kx kr) kx kr)
  (fun c _ _ iha ihb s kn kx kr=>CU s.e c fun v=>Ct v fun cb=>AI cb (iha s kn kx kr) (ihb s kn kx kr))
  (fun id _ ih s kn kx kr=>ih s kn (Bf id kn kx) kr)
  (fun ts ms rs _ ih s _ kx kr=>JL ts ms rs s fun s0=>BN (fun rec s'=>ih s' (fun s''=>JL ts ms rs s'' rec) kx kr) N s0)
  (fun id s _ kx _=>kx id s)
  (fun s _ _ kr=>kr s)
  (fun ts ms rs _ ih s kn kx kr=>JL ts ms rs s fun s0=>ih s0 kn kx kr)
  (fun _ _ _ _=>none)
  c
section
variable {E:EB} {D:Ai} {W:AH} {N:Nat} {s:St} {kn:St->AF} {kx:Nat->St->AF} {kr:St->AF}
theorem jS (l:XL):Ay E D W N (.ops l) s kn kx kr=If E D false true 0 l 0 s.e s.q s.r s.U fun e q r U=>kn ⟨e,q,r,U⟩:=rfl
theorem eF (l:XL) (ancs:List Nat):Ay E D W N (.draw l ancs) s kn kx kr=jM s.q l.pals (If E D true true 0 l 0 s.e s.q s.r s.U fun e q r U=>kn ⟨e,q,r,U⟩):=rfl
theorem W0 (ops:List BO) (pl:List DP) (ts:List (Nat × CZ)):Ay E D W N (.gdraw ops pl ts) s kn kx kr=Cc (W ops pl s.e s.U) fun e' U'=>Un e' ts fun e''=>kn ⟨e'',[],[],U'⟩:=rfl
theorem jR (a b:XC):Ay E D W N (.seq a b) s kn kx kr=Ay E D W N a s (fun s'=>Ay E D W N b s' kn kx kr) kx kr:=rfl
theorem eK (c:AO) (a b:XC):Ay E D W N (.cond c a b) s kn kx kr=CU s.e c fun v=>Ct v fun cb=>AI cb (Ay E D W N a s kn kx kr) (Ay E D W N b s kn kx kr):=rfl
theorem W1 (id:Nat) (c:XC):Ay E D W N (.block id c) s kn kx kr=Ay E D W N c s kn (Bf id kn kx) kr:=rfl
theorem eC (ts:List (Nat × CZ)) (ms:List Nat) (rs:List (Nat × List CZ)) (c:XC):Ay E D W N (.loop ts ms rs c) s kn kx kr=JL ts ms rs s fun s0=>BN (fun rec s'=>Ay E D W N c s' (fun s''=>JL ts ms rs s'' rec) kx kr) N s0:=rfl
theorem eE (ts:List (Nat × CZ)) (ms:List Nat) (rs:List (Nat × List CZ)) (c:XC):Ay E D W N (.keep ts ms rs c) s kn kx kr=JL ts ms rs s fun s0=>Ay E D W N c s0 kn kx kr:=rfl
end
structure Dv where
 ntmps:Nat
 params:List CZ
 results:List AR
 body:XC
 deriving Inhabited
def DR (E:EB) (s:St):List AR->(List V->AF)->AF
 | [],J=>J []
 | .tmp t::l,J=>CU s.e (.tmp t) fun v=>DR E s l fun r=>J (v::r)
 | .cell t n::l,J=>match look s.q t with
  | some (m,off)=>match look s.r m with
   | some cs=>match n with
    | none=>JY cs off fun v=>DR E s l fun r=>J (v::r)
    | some n=>EI cs off n fun l'=>DR E s l fun r=>J (.agg l'::r)
   | none=>none
  | none=>CU s.e (.tmp t) fun p=>B4 p fun b o=>match n with
   | none=>EG E s.U b o fun v=>DR E s l fun r=>J (v::r)
   | some n=>Bv E s.U b o n fun v=>DR E s l fun r=>J (.agg v::r)
def B9 (E:EB) (D:Ai) (W:AH) (N:Nat) (f:Dv) (args:List V) (U:H):AF:=
 tW f.params args fun args'=>Ay E D W N f.body ⟨N3 0 args',[],[],U⟩ (fun s=>DR E s f.results fun l=>some (Dh l,s.U)) (fun _ _=>none) (fun s=>DR E s f.results fun l=>some (Dh l,s.U))
def XC.strip:XC->AC
 | .skip => .skip
 | .ops l => .region (l.flat none)
 | .draw l ancs => .draw (l.flat none) (List.zipWith DP.mk ancs l.lks)
 | .gdraw l pl _ => .draw l pl
 | .seq a b => .seq a.strip b.strip
 | .cond c a b => .cond c a.strip b.strip
 | .block id c => .block id c.strip
 | .loop _ _ _ c => .loop c.strip
 | .exit id => .exit id
 | .ret => .ret
 | .keep _ _ _ c=>c.strip
 | .bad => .bad
def Dv.strip (f:Dv):fL:=⟨f.ntmps,f.results,[],f.body.strip⟩
def CZ.known:CZ->Bool
 | .any=>false
 | _=>true
def okD (d:Option Nat) (ty:CZ) (o:Eb):Bool:=match d,o with
 | none,_=>true
 | some _,.store _ _ _=>false
 | some _,o=>(match o.cls with
  | .k=>ty.known
  | _=>true)
def pZ (gt:Option Nat) (ks:List Nat):Bool:=match gt with
 | none=>true
 | some t=>Bn ks t
def hZ (t:Nat) (b:Bool) (ds:List Nat) (c x y:AO):Bool:=
 (match c with
  | .tmp u=>Ak u t
  | .con _=>false) &&
 (match (match b with | true=>y | false=>x)with
  | .tmp u=>!Bn ds u
  | .con _=>true)
def XL.okG:XL->Option (List Nat)->Option Nat->Bool
 | .nil,_,_=>true
 | .op d ty ks o r,ds,gt=>okD d ty o&&pZ gt ks&&(match ds,d with
  | some l,some d=>r.okG (some (d::l)) gt
  | _,_=>r.okG ds gt)
 | .pal _ ks _ _ r,ds,gt=>pZ gt ks&&(match ds with
  | some _=>false
  | none=>r.okG none gt)
 | .grp t b l d ks c x y r,ds,gt=>pZ gt ks&&Bn ks t && !Bn l.dsts t&&hZ t b l.dsts c x y&&(match ds with
  | some ds'=>Bn ds' t
  | none=>true)&&l.okG (some []) (some t)&&(match ds with
  | some ds'=>r.okG (some (d::l.dsts++ds')) gt
  | none=>r.okG none gt)
def jL (l:List BO) (ancs:List Nat):Bool:=
 XA l.length fun k=>match l[k]? with
  | some ok=>(match ok.op.cls with
   | .k=>XA l.length fun j=>match l[j]? with
    | some oj=>(match oj.op.cls with
     | .l=>(ancs.getD j 0).testBit k || (ancs.getD k 0).testBit j
     | .a=>!B2 j k || (ancs.getD k 0).testBit j
     | _=>true)
    | none=>false
   | _=>true)
  | none=>false
def UU:List BO->Bool
 | []=>true
 | o::l=>(match o.op with
  | .bad=>false
  | _=>true)&&UU l
def XC.ok:XC->Bool
 | .skip=>true
 | .ops l=>l.okG none none
 | .draw l ancs=>l.okG none none&&jL (l.flat none) ancs&&Ak ancs.length l.lks.length && !l.makes&&UU (l.flat none)
 | .gdraw _ _ _=>true
 | .seq a b=>a.ok&&b.ok
 | .cond _ a b=>a.ok&&b.ok
 | .block _ c=>c.ok
 | .loop _ _ _ c=>c.ok
 | .exit _=>true
 | .ret=>true
 | .keep _ _ _ c=>c.ok
 | .bad=>true
end
def AO.t (i:Nat):AO := .tmp i
def AO.i (n:Nat):AO := .con (.int .i64 (AA n))
def CZ.i:CZ := .int .i64
def XL.m (d s:Nat) (k:XL):XL := .op (some d) .any [s] (.mov (.tmp s)) k
def XL.p (d:Nat) (ks:List Nat) (o:Eb) (k:XL):XL := .op (some d) .any ks o k
def AO.ts:List AO->List Nat
 | []=>[]
 | .tmp i::l=>i::AO.ts l
 | .con _::l=>AO.ts l
def XL.f (d k s:Nat) (r:XL):XL := .op (some d) .any [s] (.faddr k (.tmp s)) r
def XL.n (d s:Nat) (r:XL):XL := .op (some d) .any [s] (.nilck (.tmp s)) r
def XL.u (d s:Nat) (r:XL):XL := .op (some d) .any [s] (.len false (.tmp s)) r
def XL.s (d e x i:Nat) (r:XL):XL := .op (some d) .any [x,i] (.iaddrS e (.tmp x) (.tmp i)) r
def XL.b (d:Nat) (o:BinOp) (t:Fp) (x y:AO) (r:XL):XL := .op (some d) .any (AO.ts [x,y]) (.bin o t x y) r
def XL.q (d n:Nat) (r:XL):XL := .op (some d) .any [] (.mov (.con (.int .i64 (AA n)))) r
def XL.c (d:Nat) (v:V) (r:XL):XL := .op (some d) .any [] (.mov (.con v)) r
def XL.l (d:Nat) (t:CZ) (s:Nat) (r:XL):XL := .op (some d) t [s] (.load none (.tmp s)) r
def XL.k (d:Nat) (t:CZ) (f:FuncId) (l:List AO) (r:XL):XL := .op (some d) t (AO.ts l) (.call f l) r
def XL.w (n x v:Nat) (r:XL):XL := .op none .any [x,v] (.store n (.tmp x) (.tmp v)) r
def Eb.ts:Eb->List Nat
 | .mov x | .box _ x | .load _ x | .nilck x | .un _ x | .conv _ x | .mkifc _ x | .faddr _ x | .field _ _ x | .extract _ x | .len _ x | .cap x=>AO.ts [x]
 | .bin _ _ x y | .iaddrS _ x y | .iaddrA _ _ x y | .idxStr x y | .idxArr _ _ _ x y | .append _ _ _ x y | .mkslice _ _ _ _ x y=>AO.ts [x,y]
 | .call _ l=>AO.ts l
 | .callv f l=>AO.ts (f::l)
 | _=>[]
def XL.P (d:Nat) (o:Eb) (r:XL):XL := .op (some d) .any o.ts o r
def XL.O (d:Nat) (t:CZ) (o:Eb) (r:XL):XL := .op (some d) t o.ts o r
def XL.gA (t:Nat) (b:Bool) (l:XL) (d c x:Nat) (r:XL):XL := .grp t b l d [c,x] (.tmp c) (.tmp x) (.con (.bool false)) r
def XL.gO (t:Nat) (b:Bool) (l:XL) (d c x:Nat) (r:XL):XL := .grp t b l d [c,x] (.tmp c) (.con (.bool true)) (.tmp x) r
def XC.z (a:XL) (b:XC):XC := .seq (.ops a) b
def Ix (l:List V) (U:H) (J:H->AF):AF:=GK (An l) (J (Br U (.cells l)))
def Dy (k:IntKind) (l:List V) (J:Int->List V->AF):AF:=Ae l fun v m=>Ch k v fun n=>J n m
def Lr (l:List V) (J:Bool->List V->AF):AF:=Ae l fun v m=>Ct v fun b=>J b m
def T0 (l:List V) (J:BS->List V->AF):AF:=Ae l fun v m=>G7 v fun s=>J s m
end Go.Og
namespace Go.Og
theorem Au {α:Type} (p:Nat × α) (l:List (Nat × α)) (id:Nat):BU (p::l) id=if p.1=id then some p.2 else BU l id:=by
 show (Bool.rec (motive:=fun _=>Option α) (BU l id) (some p.2) (Ak p.1 id))=_
 by_cases h:p.1=id
 ·have hb:Ak p.1 id=true:=by rw[AU];exact h
  rw[if_pos h,hb]
 ·rw[if_neg h]
  have:Ak p.1 id=false:=Dw.2 (by rw[ne_eq,AU];exact h)
  rw[this]
theorem A5 {α:Type} (l:List (Nat × α)) (id:Nat):BU l id=look l id:=by
 induction l with
 | nil=>rfl
 | cons p l ih=>
  obtain⟨k,b⟩:=p
  rw[Au,ih]
  simp only[look,AU]
theorem Wz {α:Type} (p:Nat × α) (l:List (Nat × α)) (id:Nat):VG (p::l) id=if p.1=id then l else p::VG l id:=by
 show (Bool.rec (motive:=fun _=>List (Nat × α)) (p::VG l id) l (Ak p.1 id))=_
 by_cases h:p.1=id
 ·have hb:Ak p.1 id=true:=by rw[AU];exact h
  rw[if_pos h,hb]
 ·rw[if_neg h]
  have:Ak p.1 id=false:=Dw.2 (by rw[ne_eq,AU];exact h)
  rw[this]
theorem Wn {α:Type} (l:List (Nat × α)) (id k:Nat) (h:id≠k):look (VG l id) k=look l k:=by
 induction l with
 | nil=>rfl
 | cons p l ih=>
  obtain⟨m,b⟩:=p
  rw[Wz]
  by_cases hm:m=id
  ·rw[if_pos hm];simp only[look,AU];rw[if_neg (by omega)]
  ·rw[if_neg hm];simp only[look,AU,ih]
theorem L6 (l:List V) (n:Nat):qR l n=l[n]? := by
 induction l generalizing n with
 | nil=>rfl
 | cons a l ih=>
  cases n with
  | zero=>rfl
  | succ n=>exact ih n
theorem Mv (l:EB) (id:Nat) (J:EB->AF):O6 l id J=J (drop l id):=by
 induction l generalizing J with
 | nil=>rfl
 | cons p l ih=>
  obtain⟨k,b⟩:=p
  show O6 l id (fun l'=>Bool.rec (motive:=fun _=>AF) (J ((k,b)::l')) (J l') (Ak k id))=_
  rw[ih]
  simp only[drop]
  cases hb:Ak k id<;>simp[hb]
theorem Ds {c:Bool} {a:AF} {r:V × H} (h:GK c a=some r):c=true/\a=some r:=by
 cases c with
 | true=>exact⟨rfl,h⟩
 | false=>cases h
theorem Cy (a b:AF):AI true a b=a:=rfl
theorem Bz (a b:AF):AI false a b=b:=rfl
theorem KU {x:Option V} {J:V->AF} {r:V × H} (h:gK x J=some r):∃v,x=some v/\J v=some r:=by
 cases x with
 | none=>cases h
 | some v=>exact⟨v,rfl,h⟩
theorem Hq {x:AF} {J:V->H->AF} {r:V × H} (h:CM x J=some r):∃v U,x=some (v,U)/\J v U=some r:=by
 cases x with
 | none=>cases h
 | some p=>exact⟨p.1,p.2,rfl,h⟩
theorem SE {k:IntKind} {n:Int} (h:xh k n=true):k.wrap n=n:=by
 unfold IntKind.wrap
 cases n with
 | ofNat m=>
  simp only[xh,Ac]at h
  cases k<;>simp only[Ms]at h<;>simp only[IntKind.signed,IntKind.bits,Db]<;>simp<;>omega
 | negSucc m=>
  simp only[xh,Bu]at h
  cases k<;>simp only[ADr]at h<;>(first | omega | skip)<;>simp only[IntKind.signed,IntKind.bits,Int.negSucc_eq]<;>simp<;>omega
theorem DO (k:IntKind) (n:Int):BE k n=k.wrap n:=by
 unfold BE
 cases h:xh k n with
 | true=>exact(SE h).symm
 | false=>rfl
theorem iL (a b:Int):Ci a b=decide (a<b):=by
 cases a<;>cases b<;>simp only[Ci]<;>(rw[Fg];simp[Bu])<;>omega
theorem iR (a b:Int):I3 a b=decide (a<=b):=by
 cases a<;>cases b<;>simp only[I3]<;>(rw[Fg];simp[Ac])<;>omega
theorem OJ (k:IntKind) (a b:Int):Ba k a b=k.wrap (a+b):=DO k _
theorem pT (k:IntKind) (a b:Int):Dp k a b=k.wrap (a-b):=DO k _
theorem qX (k:IntKind) (a b:Int):Iy k a b=k.wrap (a*b):=DO k _
theorem po (k:IntKind) (a b:Int):ADE k a b=k.wrap (a.tdiv b):=DO k _
theorem qU (k:IntKind) (a:Int):iH k a=k.wrap (0-a):=DO k _
theorem pW (k:IntKind) (a:Int) (n:Nat):SM k a n=k.wrap (a*2 ^ (Ex n k.bits)):=by
 unfold SM
 rw[DO]
 have h:(AA (Nat.pow 2 (Ex n k.bits)))=(2:Int) ^ (Ex n k.bits):=by
  show ((2 ^ (Ex n k.bits):Nat):Int)=_
  rw[Int.natCast_pow];rfl
 rw[h];rfl
theorem N8 (k:IntKind) (a:Int) (n:Nat):Kc k a n=a.fdiv (2 ^ (Ex n k.bits)):=by
 cases a with
 | ofNat m=>
  have h:(2:Int) ^ (Ex n k.bits)=((2 ^ (Ex n k.bits):Nat):Int):=by rw[Int.natCast_pow];rfl
  rw[h]
  show ((m / 2 ^ (Ex n k.bits):Nat):Int)=Int.fdiv ((m:Nat):Int) _
  rw[ABd _ (QL _),Int.natCast_ediv]
 | negSucc m=>rfl
theorem Oq (k:IntKind):∃p,Ms k+1=2 ^ p/\p<=k.bits:=by
 cases k
 ·exact⟨7,rfl,by decide⟩
 ·exact⟨15,rfl,by decide⟩
 ·exact⟨31,rfl,by decide⟩
 ·exact⟨63,rfl,by decide⟩
 ·exact⟨8,rfl,by decide⟩
 ·exact⟨16,rfl,by decide⟩
 ·exact⟨32,rfl,by decide⟩
 ·exact⟨64,rfl,by decide⟩
theorem Ii {k:IntKind} {m:Nat} (h:m<=Ms k):(BG k.bits (AA m)).toNat=m:=by
 obtain⟨p,hp,hb⟩:=Oq k
 have h1:m<2 ^ k.bits:=E3 (by omega) (fM (by decide) hb)
 have:BG k.bits (AA m)=BitVec.ofNat k.bits m:=by
  show BG k.bits ((m:Nat):Int)=_
  rw[BitVec.ofInt_natCast]
 rw[this,BitVec.toNat_ofNat,CY h1]
theorem Oe {k:IntKind} {a b:Int} {f:Nat->Nat->Nat} {g:Int} (h:∀m n,a = .ofNat m->b = .ofNat n->m<=Ms k->n<=Ms k->g = .ofNat (f m n)):Of k a b f g=g:=by
 unfold Of
 split
 ·rename_i m n
  cases hc:(Ag m (Ms k)&&Ag n (Ms k))with
  | true=>
   simp only[AG,Ac]at hc
   exact(h m n rfl rfl hc.1 hc.2).symm
  | false=>rfl
 ·rfl
theorem OT {k:IntKind} {m:Nat} (h:m<=Ms k):k.wrap (m:Int) = .ofNat m:=SE (n := .ofNat m) (by simpa[xh]using h)
theorem Y8 (k:IntKind) (a b:Int):JE k a b=k.wrap (BG k.bits a &&& BG k.bits b).toNat:=by
 refine Oe fun m n ha hb hm hn=>?_
 subst ha hb
 rw[BitVec.toNat_and,Ii hm,Ii hn]
 exact OT (Bc Nat.and_le_left hm)
theorem xJ (k:IntKind) (a b:Int):Ny k a b=k.wrap (BG k.bits a ||| BG k.bits b).toNat:=by
 refine Oe fun m n ha hb hm hn=>?_
 subst ha hb
 obtain⟨p,hp,_⟩:=Oq k
 rw[BitVec.toNat_or,Ii hm,Ii hn]
 refine OT ?_
 have:=Nat.or_lt_two_pow (x:=m) (y:=n) (n:=p) (by omega) (by omega)
 omega
theorem oz (k:IntKind) (a b:Int):ACL k a b=k.wrap (BG k.bits a ^^^ BG k.bits b).toNat:=by
 refine Oe fun m n ha hb hm hn=>?_
 subst ha hb
 obtain⟨p,hp,_⟩:=Oq k
 rw[BitVec.toNat_xor,Ii hm,Ii hn]
 refine OT ?_
 have:=Nat.xor_lt_two_pow (x:=m) (y:=n) (n:=p) (by omega) (by omega)
 omega
theorem FL {b:Int} {J:Nat->AF} {r:V × H} (h:T4 b J=some r):0<=b/\J b.toNat=some r:=by
 cases b with
 | ofNat n=>exact⟨QL n,h⟩
 | negSucc n=>cases h
theorem iF {b:Int} {a:AF} {r:V × H} (h:tp b a=some r):b≠0/\a=some r:=by
 unfold tp at h
 split at h
 ·cases h
 ·rename_i hb;exact⟨fun h0=>hb (by rw[h0];rfl),h⟩
theorem dT {op:BinOp} {t:Fp} {k k':IntKind} {a b:Int} {J:V->AF} {r:V × H} (h:xg op k k' a b J=some r):∃v,G5 op t (.int k a) (.int k' b)=some v/\J v=some r:=by
  cases op
  case shl=>
    obtain⟨h1,h2⟩:=FL h
    refine⟨_,?_,h2⟩
    simp only[G5,Oh]
    rw[if_neg (by omega),pW];rfl
  case shr=>
    obtain⟨h1,h2⟩:=FL h
    refine⟨_,?_,h2⟩
    simp only[G5,Oh]
    rw[if_neg (by omega),N8];rfl
  all_goals
    simp only[xg]at h
    split at h
    · rename_i hk
      simp only[G5]
      rw[if_pos hk]
      first
        | (refine⟨_,?_,h⟩;simp only[Y7,Sf,OJ,pT,qX,Y8,xJ,oz,JD,Se,iL,iR];rfl)
        | (obtain⟨h1,h2⟩:=iF h
           refine⟨_,?_,h2⟩
           simp only[Y7]
           rw[if_neg h1]
           first | rfl | (rw[po];rfl))
    · cases h
theorem eP {a b:BS} {J:BS->AF} {r:V × H} (h:GC a b J=some r):Ag (AP a.len b.len) 1000000000000=true/\J (a.cat b)=some r:=by
 unfold GC at h
 split at h
 ·rename_i hc;exact⟨hc,h⟩
 ·cases h
theorem cn {op:BinOp} {t:Fp} {a b:BS} {J:V->AF} {r:V × H} (h:ACz op a b J=some r):∃v,G5 op t (.str a) (.str b)=some v/\J v=some r:=by
 cases op
 case add=>
  have h':GC a b (fun s=>J (.str s))=some r:=h
  obtain⟨h1,h2⟩:=eP h'
  exact⟨_,by simp only[G5,UF,h1],h2⟩
 all_goals first
  | exact⟨_,rfl,h⟩
  | cases h
theorem VB {t:Fp} {x y:V} {J:Bool->AF} {r:V × H} (h:xw t x y J=some r):∃b,Jz t x y=some b/\J b=some r:=by
 unfold xw at h
 split at h
 ·exact⟨_,‹_›,h⟩
 ·cases h
theorem NS {t:Fp} {x y:V} {b:Bool} (h:Jz t x y=some b):(∀k n k' m,x = .int k n->y = .int k' m->False)/\(∀l m,x = .str l->y = .str m->False):=by
 constructor
 ·rintro k n k' m rfl rfl;cases t<;>(first|cases h|(rename_i b;cases b<;>cases h))
 ·rintro l m rfl rfl;cases t<;>(first|cases h|(rename_i b;cases b<;>cases h))
theorem eQ {op:BinOp} {t:Fp} {x y:V} {J:V->AF} {r:V × H} (h:yL op t x y J=some r):∃v,G5 op t x y=some v/\J v=some r:=by
 have eqs:∀(t:Fp),eqX op t x y J=some r->∃v,G5 op t x y=some v/\J v=some r:=by
  intro t h
  unfold eqX at h
  split at h
  ·obtain⟨b,h1,h2⟩:=VB h
   obtain⟨h3,h4⟩:=NS h1
   refine⟨_,?_,h2⟩
   unfold G5
   split
   ·exact(h3 _ _ _ _ rfl rfl).elim
   ·exact(h4 _ _ rfl rfl).elim
   ·simp only[h1];rfl
  ·obtain⟨b,h1,h2⟩:=VB h
   obtain⟨h3,h4⟩:=NS h1
   refine⟨_,?_,h2⟩
   unfold G5
   split
   ·exact(h3 _ _ _ _ rfl rfl).elim
   ·exact(h4 _ _ rfl rfl).elim
   ·simp only[h1];rfl
  ·cases h
 cases t with
 | none=>
  simp only[yL]at h
  split at h
  ·exact dT h
  ·exact cn h
  ·cases h
 | bool=>exact eqs _ h
 | ptr=>exact eqs _ h
 | slice=>exact eqs _ h
 | map=>exact eqs _ h
 | func=>exact eqs _ h
 | iface b=>exact eqs _ h
 | flat l=>exact eqs _ h
theorem fu {op:UnOp} {x:V} {J:V->AF} {r:V × H} (h:unX op x J=some r):∃v,unV op x=some v/\J v=some r:=by
 unfold unX at h
 split at h
 ·exact⟨_,by simp only[unV,qU],h⟩
 ·exact⟨_,rfl,h⟩
 ·exact⟨_,rfl,h⟩
 ·cases h
theorem Oi {k:IntKind} {v:V} {J:Int->AF} {r:V × H} (h:Ch k v J=some r):∃n,v = .int k n/\J n=some r:=by
 unfold Ch at h
 split at h
 ·split at h
  ·rename_i hk;subst hk;exact⟨_,rfl,h⟩
  ·cases h
 ·cases h
theorem Fi {v:V} {J:Bool->AF} {r:V × H} (h:Ct v J=some r):∃b,v = .bool b/\J b=some r:=by
 unfold Ct at h
 split at h
 ·exact⟨_,rfl,h⟩
 ·cases h
theorem FY {v:V} {J:BS->AF} {r:V × H} (h:G7 v J=some r):∃s,v = .str s/\J s=some r:=by
 unfold G7 at h
 split at h
 ·exact⟨_,rfl,h⟩
 ·cases h
theorem EE {v:V} {J:Nat->Nat->AF} {r:V × H} (h:B4 v J=some r):∃b o,v = .ptr b o/\J b o=some r:=by
 unfold B4 at h
 split at h
 ·exact⟨_,_,rfl,h⟩
 ·cases h
theorem FZ {v:V} {J:List V->AF} {r:V × H} (h:CW v J=some r):∃l,v = .agg l/\J l=some r:=by
 unfold CW at h
 split at h
 ·exact⟨_,rfl,h⟩
 ·cases h
theorem LH {v:V} {J:List V->AF} {r:V × H} (h:L0 v J=some r):∃l,v = .tup l/\J l=some r:=by
 unfold L0 at h
 split at h
 ·exact⟨_,rfl,h⟩
 ·cases h
theorem UM {l:List V} {J:V->List V->AF} {r:V × H} (h:Ae l J=some r):∃v m,l=v::m/\J v m=some r:=by
 unfold Ae at h
 split at h
 ·exact⟨_,_,rfl,h⟩
 ·cases h
theorem Wg {l:List V} {a:AF} {r:V × H} (h:BJ l a=some r):l=[]/\a=some r:=by
 unfold BJ at h
 split at h
 ·exact⟨rfl,h⟩
 ·cases h
theorem LI {v:V} {a:AF} {r:V × H} (h:CB v a=some r):v.one=true/\a=some r:=by
 unfold CB at h
 split at h
 ·exact⟨‹_›,h⟩
 ·cases h
mutual
theorem HC:∀(ty:CZ) (v:V) (J:V->AF) (r:V × H),rt ty v J=some r->J v=some r
 | .any,v,J,r,h=>by simpa only [rt]using h
 | .int k,v,J,r,h=>by simp only[rt]at h;obtain⟨n,rfl,h2⟩:=Oi h;exact h2
 | .bool,v,J,r,h=>by simp only[rt]at h;obtain⟨n,rfl,h2⟩:=Fi h;exact h2
 | .str,v,J,r,h=>by simp only[rt]at h;obtain⟨n,rfl,h2⟩:=FY h;exact h2
 | .ptr,v,J,r,h=>by simp only[rt]at h;obtain⟨b,o,rfl,h2⟩:=EE h;exact h2
 | .one,v,J,r,h=>by simp only[rt]at h;exact(LI h).2
 | .agg ts,v,J,r,h=>by simp only[rt]at h;obtain⟨l,rfl,h2⟩:=FZ h;exact Jp ts l _ r h2
 | .tup ts,v,J,r,h=>by simp only[rt]at h;obtain⟨l,rfl,h2⟩:=LH h;exact Jp ts l _ r h2
theorem Jp:∀(ts:List CZ) (l:List V) (J:List V->AF) (r:V × H),tW ts l J=some r->J l=some r
 | [],l,J,r,h=>by simp only[tW]at h;obtain⟨rfl,h2⟩:=Wg h;exact h2
 | t::ts,l,J,r,h=>by
  simp only[tW]at h
  obtain⟨v,m,rfl,h⟩:=UM h
  have:=HC t v _ r h
  exact Jp ts m _ r this
end
def FG (e:B6):Prop:=∀t v,look e t=some v->v.live=true
theorem Ah {e:B6} {x:AO} {J:V->AF} {r:V × H} (h:CU e x J=some r):∃v,CP e x=v/\(FG e->v.live=true)/\J v=some r:=by
 unfold CU at h
 split at h
 ·rename_i v
  split at h
  ·exact⟨v,rfl,fun _=>‹_›,h⟩
  ·cases h
 ·rename_i t
  cases hl:look e t with
  | none=>rw[hl]at h;cases h
  | some v=>
   rw[hl]at h
   exact⟨v,by simp only[CP,Ga,hl],fun he=>he t v hl,h⟩
theorem Fb {e:B6}:∀(l:List AO) (J:List V->AF) (r:V × H),MF e l J=some r->(FG e->(Fo e l).all V.live=true)/\J (Fo e l)=some r
 | [],J,r,h=>⟨fun _=>rfl,h⟩
 | x::l,J,r,h=>by
  simp only[MF]at h
  obtain⟨v,hv,hl,h⟩:=Ah h
  obtain⟨h1,h2⟩:=Fb l _ r h
  subst hv
  exact⟨fun he=>by simp only[Fo,B3,Jf,hl he,Co];exact h1 he,h2⟩
theorem Ey {e:B6} {x:Option AO} {J:Option V->AF} {r:V × H} (h:MG e x J=some r):J (Df e x)=some r:=by
 cases x with
 | none=>exact h
 | some x=>
  obtain⟨v,hv,_,h⟩:=Ah h
  subst hv;exact h
theorem Jr {e:B6}:∀(l:List (Nat × Nat × AO)) (J:List (Nat × Nat × V)->AF) (r:V × H),Om e l J=some r->J (Js e l)=some r
 | [],J,r,h=>h
 | (o,s,x)::l,J,r,h=>by
  simp only[Om]at h
  obtain⟨v,hv,_,h⟩:=Ah h
  have:=Jr l _ r h
  subst hv;exact this
theorem GU {l:List V} {n:Nat} {J:V->AF} {r:V × H} (h:JY l n J=some r):∃v,l[n]? = some v/\J v=some r:=by
 unfold JY at h
 rw[L6]at h
 split at h
 ·exact⟨_,‹_›,h⟩
 ·cases h
theorem GN {l:List V} {off n:Nat} {J:List V->AF} {r:V × H} (h:EI l off n J=some r):Ag (off+n) l.length=true/\J ((l.drop off).take n)=some r:=by
 unfold EI at h
 split at h
 ·exact⟨‹_›,h⟩
 ·cases h
theorem Jq {E:EB} {U:H} {b:Nat} {J:List V->AF} {r:V × H} (h:gh E U b J=some r):∃l,rd E U b=some l/\J l=some r:=by
 unfold gh at h
 rw[A5]at h
 unfold rd
 split at h
 ·rename_i hb;rw[hb];exact⟨_,rfl,h⟩
 ·cases h
 ·rename_i hb
  rw[A5]at h
  rw[hb]
  split at h
  ·rename_i he;rw[he];exact⟨_,rfl,h⟩
  ·cases h
theorem NV {o:Option V} {d:Nat} {J:Nat->AF} {r:V × H} (h:Sh o d J=some r):∃n,G0 o d=some n/\J n=some r:=by
 unfold Sh at h
 split at h
 ·exact⟨d,rfl,h⟩
 ·split at h
  ·obtain⟨h1,h2⟩:=FL h
   exact⟨_,by simp only[G0,if_pos h1],h2⟩
  ·cases h
theorem Wf {v:V} {J:Nat->AF} {r:V × H} (h:A0 v J=some r):∃n:Nat,J n=some r/\∀e x,CP e x=v->BV (.len false x) e=some (.int .i64 n):=by
 unfold A0 at h
 split at h
 ·exact⟨0,h,fun e x hx=>by simp only[BV,hx];rfl⟩
 ·exact⟨_,h,fun e x hx=>by simp only[BV,hx]⟩
 ·exact⟨0,h,fun e x hx=>by simp only[BV,hx];rfl⟩
 ·cases h
theorem Qd {E:EB} {U:H} {esz:Nat} {v:V} {J:Nat->List V->AF} {r:V × H} (h:srcK E U esz v J=some r):∃n l,C1 E U esz v=some (n,l)/\J n l=some r:=by
 unfold srcK at h
 split at h
 ·exact⟨_,_,rfl,h⟩
 ·exact⟨_,_,rfl,h⟩
 ·obtain⟨l,h1,h2⟩:=Jq h
  obtain⟨h3,h4⟩:=GN h2
  exact⟨_,_,by simp only[C1,Lq,h1,h3,if_true];rfl,h4⟩
 ·split at h
  ·rename_i he
   rw[AU]at he
   exact⟨_,_,by simp only[C1,if_pos he],h⟩
  ·cases h
 ·cases h
structure J7 (U2 U1:H):Prop where
 next:U2.next=U1.next
 sub:∀k b,look U2.bl k=some b->look U1.bl k=some b
theorem J7.refl (U:H):J7 U U:=⟨rfl,fun _ _ h=>h⟩
theorem Qr (U:H) (b:Nat) (c:GM) (k:Nat):look (GP U b c).bl k=if b=k then some c else look U.bl k:=by
 simp only[GP,look,AU]
 by_cases h:b=k
 ·rw[if_pos h,if_pos h]
 ·rw[if_neg h,if_neg h,Wn _ _ _ h]
theorem gQ {U:H} {b:Nat} {c d:GM} (h:look U.bl b=some d):J7 (GP U b c) (U.set b c):=by
 refine⟨rfl,fun k u hk=>?_⟩
 rw[Qr]at hk
 simp only[H.set,HW]
 by_cases he:b=k
 ·subst he;rw[if_pos rfl]at hk;rw[if_pos rfl,h];exact hk
 ·rw[if_neg he]at hk;rw[if_neg he];exact hk
theorem gF {n b off:Nat} {v:V} {U:H} {J:H->AF} {r:V × H} (h:DX n b off v U J=some r) :
  ∃U1 U2,J U2=some r/\J7 U2 U1/\∀(E:EB) (e:B6) (x y:AO),CP e x = .ptr b off->CP e y=v->Ep E (.store n x y) e U=some (.dead,U1):=by
 unfold DX at h
 rw[A5]at h
 split at h
 ·rename_i l hb
  obtain⟨hc,h⟩:=Ds h
  refine⟨_,_,h,gQ hb,fun E e x y hx hy=>?_⟩
  have hc':(Ak v.cells.length n&&Ag (off+n) l.length&&An v.cells)=true:=hc
  simp only[Ep,hx,hy,hb]
  rw[if_pos hc']
 ·cases h
theorem Q7 {E:EB} {esz bytes:Nat} {s x:V} {U:H} {J:V->H->AF} {r:V × H} (h:DV E esz bytes s x U J=some r) :
  ∃v U1,C6 E esz bytes s x U=some (v,U1)/\J v U1=some r:=by
 unfold DV at h
 obtain⟨n,new,h1,h⟩:=Qd h
 split at h
 ·rename_i b len e
  split at h
  ·exact⟨_,_,by simp only[C6,h1];rfl,h⟩
  ·rename_i hn
   split at h
   ·rename_i l hb
    rw[A5]at hb
    obtain⟨hc,h⟩:=Ds h
    rw[Mv]at h
    refine⟨_,_,?_,h⟩
    simp only[C6,h1]
    rw[if_neg (by omega),hb]
    simp only
    rw[if_pos hc]
    rfl
   ·cases h
 ·obtain⟨v,U1,h2,h3⟩:=Hq h
  exact⟨v,U1,h2,h3⟩
theorem O7 {l:List (Nat × Nat × V)} {z:List V} {J:List V->AF} {r:V × H} (h:D9 l z J=some r):∃l',Ez l z=some l'/\J l'=some r:=by
 unfold D9 at h
 split at h
 ·exact⟨_,‹_›,h⟩
 ·cases h
theorem YI {E:EB} {D:Ai} {id nx:Nat} {o:Eb} {e:B6} {U:H} {J:V->H->AF} {r:V × H} (h:C9 E D id nx o e U J=some r) :
  (o.cls = .p/\∃v,(FG e->BV o e=some v)/\J v U=some r)\/(o.cls = .l/\∃v,(FG e->Cf E o e U=some v)/\J v U=some r) \/
  (o.cls = .a/\∃v b,(FG e->Cm o e id=some (v,b))/\J v ⟨nx,(id,b)::U.bl⟩=some r) \/
  (o.cls = .k/\∃v U1 U2,(FG e->Dx E D o e U=some (v,U1))/\J7 U2 U1/\J v U2=some r):=by
 have P:∀{v},o.cls = .p->(FG e->BV o e=some v)->J v U=some r->(o.cls = .p/\∃v,(FG e->BV o e=some v)/\J v U=some r)\/(o.cls = .l/\∃v,(FG e->Cf E o e U=some v)/\J v U=some r) \/
  (o.cls = .a/\∃v b,(FG e->Cm o e id=some (v,b))/\J v ⟨nx,(id,b)::U.bl⟩=some r) \/
  (o.cls = .k/\∃v U1 U2,(FG e->Dx E D o e U=some (v,U1))/\J7 U2 U1/\J v U2=some r):=fun h1 h2 h3 => .inl ⟨h1,_,h2,h3⟩
 have L:∀{v},o.cls = .l->(FG e->Cf E o e U=some v)->J v U=some r->(o.cls = .p/\∃v,(FG e->BV o e=some v)/\J v U=some r)\/(o.cls = .l/\∃v,(FG e->Cf E o e U=some v)/\J v U=some r) \/
  (o.cls = .a/\∃v b,(FG e->Cm o e id=some (v,b))/\J v ⟨nx,(id,b)::U.bl⟩=some r) \/
  (o.cls = .k/\∃v U1 U2,(FG e->Dx E D o e U=some (v,U1))/\J7 U2 U1/\J v U2=some r):=fun h1 h2 h3 => .inr (.inl ⟨h1,_,h2,h3⟩)
 have A:∀{v b},o.cls = .a->(FG e->Cm o e id=some (v,b))->J v ⟨nx,(id,b)::U.bl⟩=some r->(o.cls = .p/\∃v,(FG e->BV o e=some v)/\J v U=some r)\/(o.cls = .l/\∃v,(FG e->Cf E o e U=some v)/\J v U=some r) \/
  (o.cls = .a/\∃v b,(FG e->Cm o e id=some (v,b))/\J v ⟨nx,(id,b)::U.bl⟩=some r) \/
  (o.cls = .k/\∃v U1 U2,(FG e->Dx E D o e U=some (v,U1))/\J7 U2 U1/\J v U2=some r):=fun h1 h2 h3 => .inr (.inr (.inl ⟨h1,_,_,h2,h3⟩))
 have K:∀{v U1 U2},o.cls = .k->(FG e->Dx E D o e U=some (v,U1))->J7 U2 U1->J v U2=some r->(o.cls = .p/\∃v,(FG e->BV o e=some v)/\J v U=some r)\/(o.cls = .l/\∃v,(FG e->Cf E o e U=some v)/\J v U=some r) \/
  (o.cls = .a/\∃v b,(FG e->Cm o e id=some (v,b))/\J v ⟨nx,(id,b)::U.bl⟩=some r) \/
  (o.cls = .k/\∃v U1 U2,(FG e->Dx E D o e U=some (v,U1))/\J7 U2 U1/\J v U2=some r):=fun h1 h2 h3 h4 => .inr (.inr (.inr ⟨h1,_,_,_,h2,h3,h4⟩))
 cases o with
 | mov x=>
  simp only[C9]at h
  obtain⟨v,hv,hl,h⟩:=Ah h
  exact P rfl (fun he=>by simp only[BV,hv,hl he,if_true]) h
 | bin op t x y=>
  simp only[C9]at h
  obtain⟨v,hv,hl,h⟩:=Ah h
  obtain⟨u,hu,_,h⟩:=Ah h
  obtain⟨w,hw,h⟩:=eQ h
  exact P rfl (fun he=>by simp only[BV,hv,hu,hw]) h
 | un op x=>
  simp only[C9]at h
  obtain⟨v,hv,hl,h⟩:=Ah h
  obtain⟨w,hw,h⟩:=fu h
  exact P rfl (fun he=>by simp only[BV,hv,hw]) h
 | conv t x=>
  cases t with
  | toInt k=>
   simp only[C9]at h
   obtain⟨v,hv,hl,h⟩:=Ah h
   split at h
   ·rw[DO]at h;exact P rfl (fun he=>by simp only[BV,hv]) h
   ·cases h
  | same=>
   simp only[C9]at h
   obtain⟨v,hv,hl,h⟩:=Ah h
   obtain⟨s,rfl,h9⟩:=FY h
   replace h:=h9
   exact P rfl (fun he=>by simp only[BV,hv]) h
  | toBytes el=>
   simp only[C9]at h
   obtain⟨v,hv,hl,h⟩:=Ah h
   obtain⟨s,rfl,h9⟩:=FY h
   replace h:=h9
   obtain⟨hc,h⟩:=Ds h
   exact A rfl (fun he=>by simp only[Cm,hv,hc,if_true]) h
  | toStr=>
   simp only[C9]at h
   obtain⟨v,hv,hl,h⟩:=Ah h
   unfold Jk at h
   split at h
   ·cases h
   ·rename_i hns
    obtain⟨n,l,h1,h2⟩:=Qd h
    split at h2
    ·rename_i s hs
     have hnot:(CP e x).isStr=false:=by
      rw[hv]
      cases v<;>first | rfl | (exact(hns _ rfl).elim)
     refine L rfl (fun he=>?_) h2
     simp only[Cf,hnot]
     rw[hv,h1]
     simp[hs]
    ·cases h2
  | bad=>simp only[C9]at h;cases h
 | nilck x=>
  simp only[C9]at h
  obtain⟨v,hv,hl,h⟩:=Ah h
  obtain⟨b,o,rfl,h9⟩:=EE h
  replace h:=h9
  exact P rfl (fun he=>by simp only[BV,hv]) h
 | faddr off x=>
  simp only[C9]at h
  obtain⟨v,hv,hl,h⟩:=Ah h
  obtain⟨b,o,rfl,h9⟩:=EE h
  replace h:=h9
  exact P rfl (fun he=>by simp only[BV,hv];rfl) h
 | field off n x=>
  cases n with
  | none=>
   simp only[C9]at h
   obtain⟨v,hv,hl,h⟩:=Ah h
   obtain⟨l,rfl,h9⟩:=FZ h
   replace h:=h9
   obtain⟨u,hu,h⟩:=GU h
   exact P rfl (fun he=>by simp only[BV,hv,hu]) h
  | some n=>
   simp only[C9]at h
   obtain⟨v,hv,hl,h⟩:=Ah h
   obtain⟨l,rfl,h9⟩:=FZ h
   replace h:=h9
   obtain⟨hu,h⟩:=GN h
   exact P rfl (fun he=>by simp only[BV,hv,hu,if_true]) h
 | extract i x=>
  simp only[C9]at h
  obtain⟨v,hv,hl,h⟩:=Ah h
  obtain⟨l,rfl,h9⟩:=LH h
  replace h:=h9
  obtain⟨u,hu,h⟩:=GU h
  exact P rfl (fun he=>by simp only[BV,hv,hu]) h
 | iaddrS esz x i=>
  simp only[C9]at h
  obtain⟨v,hv,hl,h⟩:=Ah h
  obtain⟨u,hu,_,h⟩:=Ah h
  split at h
  ·unfold AW at h
   split at h
   ·obtain⟨h1,h⟩:=FL h
    obtain⟨h2,h⟩:=Ds h
    simp only[Bu]at h2
    exact P rfl (fun he=>by simp only[BV,hv,hu];rw[if_pos ⟨h1,by omega⟩];rfl) h
   ·cases h
  ·cases h
 | iaddrA len esz x i=>
  simp only[C9]at h
  obtain⟨v,hv,hl,h⟩:=Ah h
  obtain⟨u,hu,_,h⟩:=Ah h
  split at h
  ·obtain⟨b,o,rfl,h9⟩:=EE h
   replace h:=h9
   obtain⟨h1,h⟩:=FL h
   obtain⟨h2,h⟩:=Ds h
   simp only[Bu]at h2
   exact P rfl (fun he=>by simp only[BV,hv,hu];rw[if_pos ⟨h1,by omega⟩];rfl) h
  ·cases h
 | idxStr x i=>
  simp only[C9]at h
  obtain⟨v,hv,hl,h⟩:=Ah h
  obtain⟨u,hu,_,h⟩:=Ah h
  obtain⟨s,rfl,h9⟩:=FY h
  replace h:=h9
  split at h
  ·obtain⟨h1,h⟩:=FL h
   obtain⟨h2,h⟩:=Ds h
   exact P rfl (fun he=>by simp only[BV,hv,hu];rw[if_pos h1,if_pos h2];rfl) h
  ·cases h
 | len b x=>
  cases b with
  | true=>
   simp only[C9]at h
   obtain⟨v,hv,hl,h⟩:=Ah h
   obtain⟨s,rfl,h9⟩:=FY h
   replace h:=h9
   exact P rfl (fun he=>by simp only[BV,hv];rfl) h
  | false=>
   simp only[C9]at h
   obtain⟨v,hv,hl,h⟩:=Ah h
   obtain⟨n,h1,h2⟩:=Wf h
   exact P rfl (fun _=>h2 e x hv) h1
 | lenC n=>simp only[C9]at h;exact P rfl (fun he=>by simp only[BV];rfl) h
 | sliceStr x lo hi=>
  simp only[C9]at h
  obtain⟨v,hv,hl,h⟩:=Ah h
  have h:=Ey h
  have h:=Ey h
  obtain⟨s,rfl,h9⟩:=FY h
  replace h:=h9
  unfold C3 at h
  obtain⟨a,ha,h⟩:=NV h
  obtain⟨b,hb,h⟩:=NV h
  obtain⟨hc,h⟩:=Ds h
  exact P rfl (fun he=>by simp only[BV,hv,IV,ha,hb,hc,if_true]) h
 | sliceSl esz x lo hi mx=>
  simp only[C9]at h
  obtain⟨v,hv,hl,h⟩:=Ah h
  have h:=Ey h
  have h:=Ey h
  have h:=Ey h
  obtain⟨u,hu,h⟩:=KU h
  exact P rfl (fun he=>by simp only[BV,hv,hu]) h
 | sliceArr n esz x lo hi mx=>
  simp only[C9]at h
  obtain⟨v,hv,hl,h⟩:=Ah h
  have h:=Ey h
  have h:=Ey h
  have h:=Ey h
  obtain⟨u,hu,h⟩:=KU h
  exact P rfl (fun he=>by simp only[BV,hv,hu]) h
 | mkifc t x=>
  simp only[C9]at h
  obtain⟨v,hv,hl,h⟩:=Ah h
  exact P rfl (fun he=>by simp only[BV,hv,hl he,if_true]) h
 | mkfn f a c=>
  simp only[C9]at h
  obtain⟨h1,h⟩:=Fb _ _ _ h
  obtain⟨h2,h⟩:=Fb _ _ _ h
  exact P rfl (fun he=>by simp only[BV,h1 he,h2 he,Bool.and_self,if_true]) h
 | build z ps=>
  simp only[C9]at h
  have h:=Jr _ _ _ h
  obtain⟨l',hf,h⟩:=O7 h
  exact P rfl (fun he=>by simp only[BV,hf]) h
 | cap x=>
  simp only[C9]at h
  obtain⟨v,hv,hl,h⟩:=Ah h
  split at h
  ·exact P rfl (fun he=>by simp only[BV,hv]) h
  ·exact P rfl (fun he=>by simp only[BV,hv];rfl) h
  ·cases h
 | min x l=>
  simp only[C9]at h
  obtain⟨v,hv,hl,h⟩:=Ah h
  obtain⟨_,h⟩:=Fb _ _ _ h
  obtain⟨u,hu,h⟩:=KU h
  split at h
  ·exact P rfl (fun he=>by simp only[BV,hv,hu]) h
  ·cases h
 | max x l=>
  simp only[C9]at h
  obtain⟨v,hv,hl,h⟩:=Ah h
  obtain⟨_,h⟩:=Fb _ _ _ h
  obtain⟨u,hu,h⟩:=KU h
  split at h
  ·exact P rfl (fun he=>by simp only[BV,hv,hu]) h
  ·cases h
 | load n x=>
  cases n with
  | none=>
   simp only[C9]at h
   obtain⟨v,hv,hl,h⟩:=Ah h
   obtain⟨b,o,rfl,h9⟩:=EE h
   replace h:=h9
   obtain⟨l,hr,h⟩:=Jq h
   obtain⟨u,hu,h⟩:=GU h
   exact L rfl (fun he=>by simp only[Cf,hv,hr,hu]) h
  | some n=>
   simp only[C9]at h
   obtain⟨v,hv,hl,h⟩:=Ah h
   obtain⟨b,o,rfl,h9⟩:=EE h
   replace h:=h9
   obtain⟨l,hr,h⟩:=Jq h
   obtain⟨hu,h⟩:=GN h
   exact L rfl (fun he=>by simp only[Cf,hv,Lq,hr,hu,if_true]) h
 | alloc el z=>simp only[C9]at h;exact A rfl (fun he=>by simp only[Cm]) h
 | box el x=>
  simp only[C9]at h
  obtain⟨v,hv,hl,h⟩:=Ah h
  obtain⟨hc,h⟩:=Ds h
  exact A rfl (fun he=>by simp only[Cm,hv,hl he,hc,Bool.and_self,if_true]) h
 | buildSlice el n z ps=>
  simp only[C9]at h
  have h:=Jr _ _ _ h
  obtain⟨l',hf,h⟩:=O7 h
  obtain⟨hc,h⟩:=Ds h
  exact A rfl (fun he=>by simp only[Cm,hf,hc,if_true]) h
 | mkslice el esz bytes z len cap=>
  simp only[C9]at h
  obtain⟨v,hv,_,h⟩:=Ah h
  obtain⟨u,hu,_,h⟩:=Ah h
  split at h
  ·obtain⟨h1,h⟩:=FL h
   obtain⟨h2,h⟩:=FL h
   obtain⟨hc,h⟩:=Ds h
   simp only[AG,Ac]at hc
   obtain⟨⟨c1,c2⟩,c3⟩:=hc
   refine A rfl (fun he=>?_) h
   simp only[Cm,hv,hu]
   have hcb:∀c:Int,0<=c->c*bytes=((c.toNat*bytes:Nat):Int):=fun c h2=>by rw[Int.natCast_mul,ot h2]
   rw[if_pos ⟨h1,by omega,by rw[hcb _ h2];omega,by omega⟩]
  ·cases h
 | store n x v=>
  simp only[C9]at h
  obtain⟨p,hp,_,h⟩:=Ah h
  obtain⟨u,hu,_,h⟩:=Ah h
  obtain⟨b,o,rfl,h9⟩:=EE h
  replace h:=h9
  obtain⟨U1,U2,h1,h2,h3⟩:=gF h
  exact K rfl (fun he=>by simp only[Dx,oh,Eb.cls];exact h3 E e x v hp hu) h2 h1
 | append el esz bytes s x=>
  simp only[C9]at h
  obtain⟨p,hp,_,h⟩:=Ah h
  obtain⟨u,hu,_,h⟩:=Ah h
  obtain⟨v,U1,h1,h2⟩:=Q7 h
  exact K rfl (fun he=>by simp only[Dx,oh,Eb.cls,Ep,hp,hu];exact h1) (J7.refl _) h2
 | copy esz d s=>
  simp only[C9]at h
  obtain⟨p,hp,_,h⟩:=Ah h
  obtain⟨u,hu,_,h⟩:=Ah h
  obtain⟨v,U1,h1,h2⟩:=Hq h
  exact K rfl (fun he=>by simp only[Dx,oh,Eb.cls];rw[jU,hp,hu];exact h1) (J7.refl _) h2
 | call f args=>
  simp only[C9]at h
  obtain⟨h1,h⟩:=Fb _ _ _ h
  obtain⟨v,U1,h2,h3⟩:=Hq h
  exact K rfl (fun he=>by simp only[Dx,h1 he,if_true];exact h2) (J7.refl _) h3
 | callv f args=>
  simp only[C9]at h
  obtain⟨p,hp,_,h⟩:=Ah h
  obtain⟨h1,h⟩:=Fb _ _ _ h
  unfold M1 at h
  split at h
  ·obtain⟨v,U1,h2,h3⟩:=Hq h
   exact K rfl (fun he=>by simp only[Dx,hp,h1 he,if_true];exact h2) (J7.refl _) h3
  ·cases h
 | mkmap=>simp only[C9]at h;exact A rfl (fun he=>by simp only[Cm]) h
 | lookup t z m x=>
  simp only[C9]at h
  obtain⟨p,hp,_,h⟩:=Ah h
  obtain⟨u,hu,_,h⟩:=Ah h
  obtain⟨v,hv,h⟩:=KU h
  exact L rfl (fun he=>by simp only[Cf,hp,hu];exact hv) h
 | mapset t m k v=>
  simp only[C9]at h
  obtain⟨p,hp,_,h⟩:=Ah h
  obtain⟨u,hu,_,h⟩:=Ah h
  obtain⟨x,hx,_,h⟩:=Ah h
  obtain⟨y,U1,h1,h2⟩:=Hq h
  exact K rfl (fun he=>by simp only[Dx,oh,Eb.cls,Ep,hp,hu,hx];exact h1) (J7.refl _) h2
 | alloc0 el=>simp only[C9]at h;exact A rfl (fun he=>by simp only[Cm]) h
 | box0 el x=>
  simp only[C9]at h
  obtain⟨v,hv,hl,h⟩:=Ah h
  split at h
  ·exact A rfl (fun he=>by simp only[Cm,hv]) h
  ·cases h
 | load0 x=>
  simp only[C9]at h
  obtain⟨v,hv,hl,h⟩:=Ah h
  obtain⟨b,o,rfl,h9⟩:=EE h
  replace h:=h9
  exact P rfl (fun he=>by simp only[BV,hv]) h
 | store0 x v=>
  simp only[C9]at h
  obtain⟨p,hp,_,h⟩:=Ah h
  obtain⟨u,hu,_,h⟩:=Ah h
  split at h
  ·exact K rfl (fun he=>by simp only[Dx,oh,Eb.cls,Ep,hp,hu]) (J7.refl _) h
  ·cases h
 | faddr0 t x=>
  simp only[C9]at h
  obtain⟨p,hp,_,h⟩:=Ah h
  obtain⟨v,hv,h⟩:=KU h
  exact L rfl (fun he=>by simp only[Cf,hp];exact hv) h
 | idxArr n esz s x i=>
  cases s with
  | none=>
   simp only[C9]at h
   obtain⟨p,hp,_,h⟩:=Ah h
   obtain⟨u,hu,_,h⟩:=Ah h
   obtain⟨l,rfl,h9⟩:=FZ h
   replace h:=h9
   split at h
   ·obtain⟨h1,h⟩:=FL h
    obtain⟨hc,h⟩:=Ds h
    obtain⟨v,hv,h⟩:=GU h
    simp only[Bu]at hc
    exact P rfl (fun he=>by simp only[BV,hp,hu,LV];rw[if_pos ⟨h1,by omega⟩];exact hv) h
   ·cases h
  | some s=>
   simp only[C9]at h
   obtain⟨p,hp,_,h⟩:=Ah h
   obtain⟨u,hu,_,h⟩:=Ah h
   obtain⟨l,rfl,h9⟩:=FZ h
   replace h:=h9
   split at h
   ·obtain⟨h1,h⟩:=FL h
    obtain⟨hc,h⟩:=Ds h
    obtain⟨hv,h⟩:=GN h
    simp only[Bu]at hc
    exact P rfl (fun he=>by simp only[BV,hp,hu,LV];rw[if_pos ⟨h1,by omega⟩];simp only[Nat.mul_eq]at hv ⊢;rw[if_pos hv]) h
   ·cases h
 | pick c a b=>simp only[C9]at h;cases h
 | bad=>simp only[C9]at h;cases h
inductive Out where
 | val (v:V) (r:Rg) (U:H)
 | mark (m off:Nat)
inductive GD (E:EB) (D:Ai) (pw:Bool) (id nx:Nat) (o:Eb) (e:B6) (q:Qs) (r:Rg) (U:H):Out->Prop where
 | p (v:V) (hc:o.cls = .p) (h:FG e->BV o e=some v):GD E D pw id nx o e q r U (.val v r U)
 | l (v:V) (hc:o.cls = .l) (h:FG e->Cf E o e U=some v):GD E D pw id nx o e q r U (.val v r U)
 | a (v:V) (b:GM) (hc:o.cls = .a) (h:FG e->Cm o e id=some (v,b)):GD E D pw id nx o e q r U (.val v r ⟨nx,(id,b)::U.bl⟩)
 | k (v:V) (U1 U2:H) (hc:o.cls = .k) (h:FG e->Dx E D o e U=some (v,U1)) (hs:J7 U2 U1):GD E D pw id nx o e q r U (.val v r U2)
 | mv (x:AO) (m off:Nat) (ho:o = .mov x\/o = .nilck x) (hm:Fl q x=some (m,off)):GD E D pw id nx o e q r U (.mark m off)
 | fa (d:Nat) (x:AO) (m off:Nat) (ho:o = .faddr d x) (hm:Fl q x=some (m,off)):GD E D pw id nx o e q r U (.mark m (off+d))
 | ld (x:AO) (m off:Nat) (l:List V) (v:V) (ho:o = .load none x) (hm:Fl q x=some (m,off)) (hl:look r m=some l) (h:l[off]? = some v):GD E D pw id nx o e q r U (.val v r U)
 | ldn (n:Nat) (x:AO) (m off:Nat) (l:List V) (ho:o = .load (some n) x) (hm:Fl q x=some (m,off)) (hl:look r m=some l) (h:off+n<=l.length):GD E D pw id nx o e q r U (.val (.agg ((l.drop off).take n)) r U)
 | st (n:Nat) (x y:AO) (m off:Nat) (l cs:List V) (u:V) (hw:pw=true) (ho:o = .store n x y) (hm:Fl q x=some (m,off)) (hl:look r m=some l) (hn:Fl q y=none) (hu:CP e y=u) (hlu:FG e->u.live=true)
   (hcs:cs=u.cells) (h1:An cs=true) (hlen:cs.length=n) (h:off+n<=l.length):GD E D pw id nx o e q r U (.val .dead (Ke r m (FC l off cs)) U)
theorem dH {v:V} (h:v.one=true):v.cells=[v]:=by cases v<;>first | rfl | cases h
theorem VM {ty:CZ} {v:V} {J:List V->AF} {r:V × H} (h:W5 ty v J=some r):An v.cells=true/\J v.cells=some r:=by
 unfold W5 at h
 split at h
 ·obtain⟨l,rfl,h2⟩:=FZ h
  obtain⟨hc,h2⟩:=Ds h2
  exact⟨hc,h2⟩
 ·obtain⟨h1,h2⟩:=LI h
  rw[dH h1]
  exact⟨by simp[An,h1],h2⟩
theorem pf {ty:CZ} {v:V} {J:V->AF} {r:V × H} (h:rt ty v J=some r) (hk:ty.known=true):v.live=true:=by
 cases ty with
 | any=>cases hk
 | int k=>simp only[rt]at h;obtain⟨n,rfl,_⟩:=Oi h;rfl
 | bool=>simp only[rt]at h;obtain⟨n,rfl,_⟩:=Fi h;rfl
 | str=>simp only[rt]at h;obtain⟨n,rfl,_⟩:=FY h;rfl
 | ptr=>simp only[rt]at h;obtain⟨b,o,rfl,_⟩:=EE h;rfl
 | one=>simp only[rt]at h;have:=(LI h).1;cases v<;>first | rfl | cases this
 | agg ts=>simp only[rt]at h;obtain⟨l,rfl,_⟩:=FZ h;rfl
 | tup ts=>simp only[rt]at h;obtain⟨l,rfl,_⟩:=LH h;rfl
theorem iC {E:EB} {D:Ai} {pw:Bool} {id nx:Nat} {o:Eb} {ty:CZ} {e:B6} {q:Qs} {r:Rg} {U:H} {J:V->Rg->H->AF} {Jm:Nat->Nat->AF} {res:V × H}
  (h:oZ E D pw id nx o ty e q r U J Jm=some res) :
  ∃out,GD E D pw id nx o e q r U out/\(match out with
   | .val v r' U'=>J v r' U'=some res/\((∃n x y,o = .store n x y)\/o.cls ≠ .k\/ty.known=false\/v.live=true)
   | .mark m off=>Jm m off=some res):=by
 have gen:(C9 E D id nx o e U fun v U'=>rt ty v fun v'=>J v' r U')=some res->∃out,GD E D pw id nx o e q r U out/\(match out with
   | .val v r' U'=>J v r' U'=some res/\((∃n x y,o = .store n x y)\/o.cls ≠ .k\/ty.known=false\/v.live=true)
   | .mark m off=>Jm m off=some res):=by
  intro h
  rcases YI h with ⟨hc,v,h1,h2⟩|⟨hc,v,h1,h2⟩|⟨hc,v,b,h1,h2⟩|⟨hc,v,U1,U2,h1,h2,h3⟩
  ·exact⟨_,.p v hc h1,HC _ _ _ _ h2,.inr (.inl (by rw[hc];intro h;cases h))⟩
  ·exact⟨_,.l v hc h1,HC _ _ _ _ h2,.inr (.inl (by rw[hc];intro h;cases h))⟩
  ·exact⟨_,.a v b hc h1,HC _ _ _ _ h2,.inr (.inl (by rw[hc];intro h;cases h))⟩
  ·refine⟨_,.k v U1 U2 hc h1 h2,HC _ _ _ _ h3,?_⟩
   cases hk:ty.known with
   | false=>exact .inr (.inr (.inl rfl))
   | true=>exact .inr (.inr (.inr (pf h3 hk)))
 have np:∀{c:Cls},c = .p\/c = .l->c ≠ .k:=by rintro c (rfl | rfl)<;>(intro h;cases h)
 cases o with
 | mov x=>
  simp only[oZ]at h
  split at h
  ·rename_i m off hm;exact⟨_,.mv x m off (.inl rfl) hm,h⟩
  ·exact gen h
 | nilck x=>
  simp only[oZ]at h
  split at h
  ·rename_i m off hm;exact⟨_,.mv x m off (.inr rfl) hm,h⟩
  ·exact gen h
 | faddr d x=>
  simp only[oZ]at h
  split at h
  ·rename_i m off hm;exact⟨_,.fa d x m off rfl hm,h⟩
  ·exact gen h
 | load n x=>
  cases n with
  | none=>
   simp only[oZ]at h
   split at h
   ·rename_i m off hm
    split at h
    ·rename_i l hl
     obtain⟨v,hv,h⟩:=GU h
     exact⟨_,.ld x m off l v rfl hm hl hv,HC _ _ _ _ h,.inr (.inl (by intro h;cases h))⟩
    ·cases h
   ·exact gen h
  | some n=>
   simp only[oZ]at h
   split at h
   ·rename_i m off hm
    split at h
    ·rename_i l hl
     obtain⟨hv,h⟩:=GN h
     exact⟨_,.ldn n x m off l rfl hm hl (by simpa using hv),HC _ _ _ _ h,.inr (.inl (by intro h;cases h))⟩
    ·cases h
   ·exact gen h
 | store n x v=>
  simp only[oZ]at h
  split at h
  ·rename_i m off hm
   split at h
   ·rename_i l hl
    split at h
    ·rename_i hn
     obtain⟨u,hu,hlu,h⟩:=Ah h
     obtain⟨h1,h⟩:=VM h
     obtain⟨hc,h⟩:=Ds h
     simp only[AG,AU,Ac]at hc
     exact⟨_,.st n x v m off l u.cells u rfl rfl hm hl hn hu hlu rfl h1 hc.1 hc.2,h,.inl ⟨n,x,v,rfl⟩⟩
    ·cases h
   ·cases h
  ·have h:(C9 E D id nx (.store n x v) e U fun v U'=>J v r U')=some res:=h
   rcases YI h with ⟨hc,v,h1,h2⟩|⟨hc,v,h1,h2⟩|⟨hc,v,b,h1,h2⟩|⟨hc,v,U1,U2,h1,h2,h3⟩
   ·cases hc
   ·cases hc
   ·cases hc
   ·exact⟨_,.k v U1 U2 hc h1 h2,h3,.inl ⟨_,_,_,rfl⟩⟩
 | _=>exact gen (by simpa only [oZ]using h)
variable {P:Program} {D:Ai} {C:Cx} {R:Cz} {U:H} {w w':World}
abbrev Bs:=Nat->Option BI
structure Vp (C:Cx) (R:Cz) (B:Bs) (r:Rg) (U:H) (w:World):Prop where
 at_:∀m i,B m=some i->C.O i.blk/\∃l,look r m=some l/\FB R i (.cells l) w
 inj:∀m m' i i',B m=some i->B m'=some i'->i.blk=i'.blk->m=m'
 apart:∀m i,B m=some i->∀id b j,look U.bl id=some b->R id=some j->j.blk≠i.blk
structure HH (R:Cz) (e:B6) (tmps:Array Value):Prop where
 at_:∀(k:Nat) (v:V),look e k=some v->∃x,tmps[k]? = some x/\Ao R v=some x
structure TM (B:Bs) (q:Qs) (tmps:Array Value):Prop where
 at_:∀(k m off:Nat),look q k=some (m,off)->∃i,B m=some i/\tmps[k]? = some (.pointer (some ⟨i.blk,i.shift+off,none⟩))
theorem MA {v:V} {x:Value} (h:Ao R v=some x):v.live=true:=by
 cases v<;>first | rfl | (simp[Ao]at h)
theorem HH.env {e:B6} {tmps:Array Value} (h:HH R e tmps):B7 R e tmps:=⟨fun k v hk => .inr (h.at_ k v hk)⟩
theorem HH.live {e:B6} {tmps:Array Value} (h:HH R e tmps):FG e:=fun t v ht=>by
 obtain⟨x,_,hx⟩:=h.at_ t v ht
 exact MA hx
theorem HH.mono {R':Cz} {e:B6} {tmps:Array Value} (h:HH R e tmps) (hle:Le R R'):HH R' e tmps:=
 ⟨fun k v hk=>by obtain⟨x,h1,h2⟩:=h.at_ k v hk;exact⟨x,h1,Cr hle v x h2⟩⟩
theorem Dt.frame (h:Dt C R U w) (hold:∀blk,blk<w.heap.size->((∃id b j,look U.bl id=some b/\R id=some j/\j.blk=blk)\/¬C.O blk)->w'.heap[blk]? = w.heap[blk]?)
  (hsz:w.heap.size<=w'.heap.size) (hos:w'.os=w.os) (htape:w'.tape=w.tape) (hout:w'.output=w.output):Dt C R U w':=by
 refine⟨h.fresh,?_,h.inj,?_,h.glob,?_,Bc h.size hsz,h.new,hos.trans h.os,htape.trans h.tape,hout.trans h.output⟩
 ·intro id b hb
  obtain⟨i,hi,hO,hok⟩:=h.own id b hb
  exact⟨i,hi,hO,hok.mono (Le.refl _) (hold _ hok.lt (.inl ⟨id,b,i,hb,hi,rfl⟩))⟩
 ·intro id b hb
  obtain⟨i,hi,hn,hok⟩:=h.ext id b hb
  refine⟨i,hi,hn,hok.mono (Le.refl _) (hold _ ?_ (.inr hn))⟩
  rcases Av i.blk w.heap.size with hl|hl
  ·exact hl
  ·exact absurd (h.new _ (Bc h.size hl)) hn
 ·intro blk hn
  rw[<-h.fr blk hn]
  rcases Av blk w.heap.size with hl|hl
  ·exact hold _ hl (.inr hn)
  ·exact absurd (h.new _ (Bc h.size hl)) hn
theorem Vp.mono {R':Cz} {B:Bs} {r:Rg} {U':H} (h:Vp C R B r U w) (hle:Le R R') (hold:∀m i,B m=some i->w'.heap[i.blk]? = w.heap[i.blk]?)
  (hap:∀m i,B m=some i->∀id b j,look U'.bl id=some b->R' id=some j->j.blk≠i.blk):Vp C R' B r U' w' where
 at_ m i hm:=by
  obtain⟨hO,l,hl,hok⟩:=h.at_ m i hm
  exact⟨hO,l,hl,hok.mono hle (hold m i hm)⟩
 inj:=h.inj
 apart:=hap
theorem Vp.lt {B:Bs} {r:Rg} (h:Vp C R B r U w) {m:Nat} {i:BI} (hm:B m=some i):i.blk<w.heap.size:=by
 obtain⟨_,l,_,hok⟩:=h.at_ m i hm
 exact hok.lt
theorem Vp.one (h:Dt C R U w) {B:Bs} {r:Rg} (hp:Vp C R B r U w) {m:Nat} {i:BI} (hm:B m=some i) {l:List V} (hl:look r m=some l) :
  Dt { C with O:=fun blk=>blk=i.blk\/w.heap.size<=blk,w0:=w } (IP R U.next i) ⟨U.next+1,[(U.next,.cells l)]⟩ w:=by
 have hle:Le R (IP R U.next i):=(E6 R U.next i).le h.fresh
 obtain⟨hO,l',hl',hok⟩:=hp.at_ m i hm
 rw[hl]at hl';cases hl'
 have hsub:∀blk,(blk=i.blk\/w.heap.size<=blk)->C.O blk:=by
  rintro blk (rfl|hg)
  ·exact hO
  ·exact h.new _ (Bc h.size hg)
 have hlook:∀id b,look [(U.next,GM.cells l)] id=some b->id=U.next/\b = .cells l:=by
  intro id b hb
  simp only[look,AU]at hb
  split at hb
  ·rename_i he;cases hb;exact⟨he.symm,rfl⟩
  ·cases hb
 refine⟨?_,?_,?_,?_,?_,fun _ _=>rfl,AK _,fun _ hb => .inr hb,rfl,rfl,rfl⟩
 ·intro id hid
  have hid':U.next+1<=id:=hid
  rw[Bp (by omega)];exact h.fresh id (by omega)
 ·intro id b hb
  obtain⟨rfl,rfl⟩:=hlook id b hb
  exact⟨i,CN _ _ _,.inl rfl,hok.mono hle rfl⟩
 ·intro id id' b b' j j' hb hb' _ _ _
  rw[(hlook id b hb).1,(hlook id' b' hb').1]
 ·intro id b hb
  obtain⟨j,hj,hn,hk⟩:=h.ext id b hb
  exact⟨j,hle _ _ hj,fun ho=>hn (hsub _ ho),hk.mono hle rfl⟩
 ·intro g hg
  obtain⟨j,hj,hb⟩:=h.glob g hg
  exact⟨j,hle _ _ hj,hb⟩
theorem B7.cons {e:B6} {tmps:Array Value} (h:B7 R e tmps) {t:Nat} {v:V} {x:Value} (ht:tmps[t]? = some x) (hv:Ao R v=some x):B7 R ((t,v)::e) tmps:=by
 refine⟨fun k u hk=>?_⟩
 simp only[look,AU]at hk
 split at hk
 ·rename_i he;subst he;cases hk;exact .inr ⟨x,ht,hv⟩
 ·exact h.at_ k u hk
theorem Hg {α:Type} {l:List (Nat × α)} {m:Nat} {a c:α} (h:look l m=some a) (k:Nat):look (Ke l m c) k=if m=k then some c else look l k:=by
 rw[HW]
 by_cases he:m=k
 ·subst he;rw[if_pos rfl,if_pos rfl,h];rfl
 ·rw[if_neg he,if_neg he]
structure TO (C:Cx) (R:Cz) (B:Bs) (r:Rg) (U:H) (w:World):Prop where
 rel:Dt C R U w
 priv:Vp C R B r U w
theorem Lw (hD:∀f,Ce P C.E C.G f (D f)) {B:Bs} {r:Rg} (hm:TO C R B r U w) {a:Act} {e:B6} {q:Qs} (he:HH R e a.tmps) (hq:TM B q a.tmps)
    (o:Oper) {pw:Bool} {id nx:Nat} (hid:R id=none) (hlt:id<nx) (hnx:U.next<=nx) {out:Out} (h:GD C.E D pw id nx (Ad P C.G o.op) e q r U out) (K:Act->World->Prop) (Q:Exit->Act->World->Prop)
    (hV:∀v r' U',out = .val v r' U'->∀R' w' x,Le R R'->(∀k,k<U.next->k≠id->R' k=R k)->U.next<=U'.next->TO C R' B r' U' w'->((v = .dead/\(Ad P C.G o.op).cls = .k)\/Ao R' v=some x)->K (a.put o.dst x) w')
    (hM:∀m off,out = .mark m off->∀i,B m=some i->K (a.put o.dst (.pointer (some ⟨i.blk,i.shift+off,none⟩))) w):o.wp P a w K Q:=by
  obtain⟨hrel,hpriv⟩:=hm
  have hg:=hrel.globOk
  have hmark:∀x m off,Fl q x=some (m,off)->∃t i,x = .tmp t/\B m=some i/\a.tmps[t]? = some (.pointer (some ⟨i.blk,i.shift+off,none⟩)):=by
    intro x m off hx
    cases x with
    | con v=>cases hx
    | tmp t=>
      obtain⟨i,h1,h2⟩:=hq.at_ t m off hx
      exact⟨t,i,rfl,h1,h2⟩
  have hle2:∀i,Le R (IP R U.next i):=fun i=>(E6 R U.next i).le hrel.fresh
  have hg2:∀i,Dz C.G (IP R U.next i):=fun i g hgg=>by
    obtain⟨j,hj,hb⟩:=hg g hgg
    exact⟨j,hle2 i _ _ hj,hb⟩
  have hcp:∀i off,Ao (IP R U.next i) (.ptr U.next off)=some (.pointer (some ⟨i.blk,i.shift+off,none⟩)):=fun i off=>DH (CN _ _ _)
  cases h with
  | p v hc h=>
    replace h:=h he.live
    obtain⟨x,hx,hrun⟩:=MP (a:=a) (P:=P) he.env hg o h w
    unfold Oper.wp;rw[hrun]
    exact hV v r U rfl R w x (Le.refl _) (fun _ _ _=>rfl) (AK _) ⟨hrel,hpriv⟩ (.inr hx)
  | l v hc h=>
    replace h:=h he.live
    obtain⟨x,hx,hrun⟩:=MQ (a:=a) (P:=P) hrel he.env o h
    unfold Oper.wp;rw[hrun]
    exact hV v r U rfl R w x (Le.refl _) (fun _ _ _=>rfl) (AK _) ⟨hrel,hpriv⟩ (.inr hx)
  | a v b hc h=>
    replace h:=h he.live
    obtain⟨x,w',i,hrun,hn,hi,hx,hok⟩:=OI (a:=a) (P:=P) he.env hg o h hid w
    unfold Oper.wp;rw[hrun]
    have hle:Le R (IP R id i):=fun k j hk=>by
      by_cases hke:k=id
      · subst hke;rw[hid]at hk;cases hk
      · rw[Bp hke];exact hk
    have hrel1:Dt C R ⟨nx,U.bl⟩ w:=hrel.congr (fun k hk=>hrel.fresh k (Bc hnx hk)) (fun _ _ hb=>hb)
    have hrel2:Dt C (IP R id i) ⟨nx,(id,b)::U.bl⟩ w':=by
      refine hrel1.allocAt hid hlt hn b i hi hok rfl (fun k=>?_)
      simp only[look,AU]
      by_cases hk:k=id
      · subst hk;simp
      · rw[if_neg (Ne.symm hk),if_neg hk]
    refine hV v r _ rfl (IP R id i) w' x hle (fun k _ hk=>Bp hk) hnx ⟨hrel2,hpriv.mono hle (fun m j hj=>hn.old _ (hpriv.lt hj)) (fun m j hj k c j' hk hj'=>?_)⟩ (.inr hx)
    simp only[look,AU]at hk
    split at hk
    · rename_i he';subst he'
      rw[CN]at hj';cases hj'
      have:=hpriv.lt hj
      omega
    · rename_i he'
      rw[Bp (Ne.symm he')]at hj'
      exact hpriv.apart m j hj k c j' hk hj'
  | k v U1 U2 hc h hs=>
    replace h:=h he.live
    have hsh:Dt (C.sub R U w) R U w:=hrel.shrink (Us:=U) rfl (fun _ _ hb=>hb)
    refine OG (C:=C.sub R U w) hD rfl rfl hsh he.env o h K Q (fun R' w' x hx hn hrel' hv=>?_)
    have hle:Le R R':=hx.le hrel.fresh
    have hno:∀m i,B m=some i->¬(C.sub R U w).O i.blk:=by
      rintro m i hm (hg|⟨k,b,j,hb,hj,hbl⟩)
      · have:=hpriv.lt hm;omega
      · exact hpriv.apart m i hm k b j hb hj hbl
    have hrel2:Dt C R' U1 w':=hrel.regrow (Us:=U) (fun _ _ hb=>hb) hrel' hx rfl (fun k b hk => .inl hk)
    have hrel3:Dt C R' U2 w':=hrel2.congr (fun k hk=>hrel2.fresh k (by rw[<-hs.next];exact hk)) hs.sub
    have hv:(v = .dead/\(Ad P C.G o.op).cls = .k)\/Ao R' v=some x:=hv.imp (fun h=>⟨h,hc⟩) (fun h=>h)
    refine hV v r U2 rfl R' w' x hle (fun k hk _=>hx k hk) (by rw[hs.next];exact hn) ⟨hrel3,hpriv.mono hle (fun m i hm=>hrel'.fr _ (hno m i hm)) (fun m i hm k b j hk hj hbl=>?_)⟩ hv
    obtain⟨j',hj',hO,_⟩:=hrel'.own k b (hs.sub k b hk)
    rw[hj]at hj';cases hj'
    exact hno m i hm (hbl ▸ hO)
  | mv x m off ho hmx=>
    obtain⟨t,i,rfl,hB,ht⟩:=hmark x m off hmx
    have he2:B7 (IP R U.next i) [(t,.ptr U.next off)] a.tmps:=B7.cons ⟨fun k v hk=>by simp[look]at hk⟩ ht (hcp i off)
    have hap:BV (Ad P C.G o.op) [(t,.ptr U.next off)]=some (.ptr U.next off):=by
      have hop:CP [(t,V.ptr U.next off)] (.tmp t) = .ptr U.next off:=by simp[CP,Ga,look]
      rcases ho with ho|ho<;>rw[ho]<;>simp only[BV,hop,V.live,if_true]
    obtain⟨x,hx,hrun⟩:=MP (a:=a) (P:=P) he2 (hg2 i) o hap w
    rw[hcp i off]at hx;cases hx
    unfold Oper.wp;rw[hrun]
    exact hM m off rfl i hB
  | fa d x m off ho hmx=>
    obtain⟨t,i,rfl,hB,ht⟩:=hmark x m off hmx
    have he2:B7 (IP R U.next i) [(t,.ptr U.next off)] a.tmps:=B7.cons ⟨fun k v hk=>by simp[look]at hk⟩ ht (hcp i off)
    have hap:BV (Ad P C.G o.op) [(t,.ptr U.next off)]=some (.ptr U.next (off+d)):=by
      have hop:CP [(t,V.ptr U.next off)] (.tmp t) = .ptr U.next off:=by simp[CP,Ga,look]
      rw[ho];simp only[BV,hop]
    obtain⟨x,hx,hrun⟩:=MP (a:=a) (P:=P) he2 (hg2 i) o hap w
    rw[hcp i (off+d)]at hx;cases hx
    unfold Oper.wp;rw[hrun]
    exact hM m (off+d) rfl i hB
  | ld x m off l v ho hmx hl h=>
    obtain⟨t,i,rfl,hB,ht⟩:=hmark x m off hmx
    have hr2:=hpriv.one hrel hB hl
    have he2:B7 (IP R U.next i) [(t,.ptr U.next off)] a.tmps:=B7.cons ⟨fun k v hk=>by simp[look]at hk⟩ ht (hcp i off)
    have hap:Cf C.E (Ad P C.G o.op) [(t,.ptr U.next off)] ⟨U.next+1,[(U.next,.cells l)]⟩=some v:=by
      have hop:CP [(t,V.ptr U.next off)] (.tmp t) = .ptr U.next off:=by simp[CP,Ga,look]
      rw[ho];simp[Cf,hop,rd,look,h]
    obtain⟨x,hx,hrun⟩:=MQ (a:=a) (P:=P) hr2 he2 o hap
    unfold Oper.wp;rw[hrun]
    obtain⟨_,l',hl',hok⟩:=hpriv.at_ m i hB
    rw[hl]at hl';cases hl'
    obtain⟨arr,el,lo,hi,_,hh,_⟩:=hok
    obtain⟨y,hy,_⟩:=hh off v h
    have hyx:=Cr (hle2 i) v y hy
    rw[hx]at hyx;cases hyx
    exact hV v r U rfl R w x (Le.refl _) (fun _ _ _=>rfl) (AK _) ⟨hrel,hpriv⟩ (.inr hy)
  | ldn n x m off l ho hmx hl h=>
    obtain⟨t,i,rfl,hB,ht⟩:=hmark x m off hmx
    have hr2:=hpriv.one hrel hB hl
    have he2:B7 (IP R U.next i) [(t,.ptr U.next off)] a.tmps:=B7.cons ⟨fun k v hk=>by simp[look]at hk⟩ ht (hcp i off)
    have hap:Cf C.E (Ad P C.G o.op) [(t,.ptr U.next off)] ⟨U.next+1,[(U.next,.cells l)]⟩=some (.agg ((l.drop off).take n)):=by
      have hop:CP [(t,V.ptr U.next off)] (.tmp t) = .ptr U.next off:=by simp[CP,Ga,look]
      rw[ho];simp[Cf,hop,Lq,rd,look,h]
    obtain⟨x,hx,hrun⟩:=MQ (a:=a) (P:=P) hr2 he2 o hap
    unfold Oper.wp;rw[hrun]
    obtain⟨_,l',hl',hok⟩:=hpriv.at_ m i hB
    rw[hl]at hl';cases hl'
    obtain⟨arr,el,lo,hi,_,hh,_⟩:=hok
    obtain⟨xs,hxs,_⟩:=hh.cells h
    have hy:Ao R (.agg ((l.drop off).take n))=some (.agg xs.toArray):=Dn hxs
    have hyx:=Cr (hle2 i) _ _ hy
    rw[hx]at hyx;cases hyx
    exact hV _ r U rfl R w _ (Le.refl _) (fun _ _ _=>rfl) (AK _) ⟨hrel,hpriv⟩ (.inr hy)
  | st n x y m off l cs u hw ho hmx hl hn hu hlu hcs h1 hlen h=>
    replace hlu:=hlu he.live
    obtain⟨t,i,rfl,hB,ht⟩:=hmark x m off hmx
    have hr2:=hpriv.one hrel hB hl
    have he2:B7 (IP R U.next i) ((t,.ptr U.next off)::e) a.tmps:=B7.cons (he.env.mono (hle2 i)) ht (hcp i off)
    have hop:CP ((t,V.ptr U.next off)::e) (.tmp t) = .ptr U.next off:=by simp[CP,Ga,look]
    have hoy:CP ((t,V.ptr U.next off)::e) y=u:=by
      rw[<-hu]
      cases y with
      | con v=>rfl
      | tmp s=>
        have hne:¬t=s:=fun hts=>by subst hts;simp only[Fl]at hn hmx;rw[hn]at hmx;cases hmx
        simp only[CP,Ga,look,AU,hne,if_false]
    have hap:Dx C.E D (Ad P C.G o.op) ((t,.ptr U.next off)::e) ⟨U.next+1,[(U.next,.cells l)]⟩=some (.dead,(⟨U.next+1,[(U.next,.cells l)]⟩:H).set U.next (.cells (FC l off cs))):=by
      rw[ho]
      simp only[Dx,oh,Eb.cls,Ep,hop,hoy]
      simp only[look,AU,if_true]
      rw[if_pos]
      · rw[hcs]
      · simp only[AG,AU,Ac]
        exact⟨⟨by rw[<-hcs];exact hlen,h⟩,by rw[<-hcs];exact h1⟩
    refine OG (C:={ C with O:=fun blk=>blk=i.blk\/w.heap.size<=blk,w0:=w }) hD rfl rfl hr2 he2 o hap K Q (fun R' w' x hx hn' hrel' hv=>?_)
    have hR'n:R' U.next=some i:=by rw[hx U.next (IK _)];exact CN _ _ _
    obtain⟨j,hj,_,hok⟩:=hrel'.own U.next (.cells (FC l off cs)) (by simp[H.set,Ke,look])
    rw[hR'n]at hj;cases hj
    have hRR':Le R R':=(hle2 i).trans (hx.le (fun k hk=>by
      have hk':U.next+1<=k:=hk
      rw[Bp (by omega)];exact hrel.fresh k (by omega)))
    obtain⟨hOi,l',hl',hokl⟩:=hpriv.at_ m i hB
    rw[hl]at hl';cases hl'
    have hcell:∀u':V,(∃k:Nat,(FC l off cs)[k]? = some u')->∃y,Ao R u'=some y:=by
      rintro u' ⟨k,hk⟩
      rw[Lz]at hk
      split at hk
      · split at hk
        · have huc:∃z,Ao R u=some z:=by
            obtain⟨oy,rfl⟩:∃oy,y=Al C.G oy:=by
              obtain⟨dst,op,ty,pos,after,guard⟩:=o
              simp only at ho
              cases op<;>simp only[Ad]at ho<;>(try (first | (cases ho;done) | ((repeat' split at ho)<;>(cases ho;done))))
              · split at ho
                · cases ho
                · simp only[Eb.store.injEq]at ho;exact⟨_,ho.2.2.symm⟩
                · cases ho
              · rename_i fn _ _;cases fn<;>cases ho
              · rename_i r;cases r<;>cases ho
              · rename_i ok;cases ok
                · cases ho
                · simp only at ho;split at ho<;>cases ho
              · rename_i c
                obtain⟨callee,cargs,argTypes⟩:=c
                simp only at ho
                split at ho
                · unfold Kn at ho;(repeat' split at ho)<;>cases ho
                · cases ho
                · cases ho
                · cases ho
            exact⟨_,ev (a:=a) he.env hg hu hlu⟩
          obtain⟨z,hz⟩:=huc
          have hcc:=Ho hz
          rw[<-hcs]at hcc
          obtain⟨y',hy',_⟩:=EU hcc hk
          exact⟨y',hy'⟩
        · cases hk
      · obtain⟨arr,el,lo,hi,_,hh,_⟩:=hokl
        obtain⟨y',hy',_⟩:=hh k u' hk
        exact⟨y',hy'⟩
    have hokR:FB R i (.cells (FC l off cs)) w':=by
      obtain⟨arr,el,lo,hi,h1',h2',h3',h4',h5'⟩:=hok
      refine⟨arr,el,lo,hi,h1',fun k v hk=>?_,h3',h4',h5'⟩
      obtain⟨y',hy',hone,harr⟩:=h2' k v hk
      obtain⟨y2,hy2⟩:=hcell v ⟨k,hk⟩
      have:=Cr hRR' v y2 hy2
      rw[hy']at this;cases this
      exact⟨_,hy2,hone,harr⟩
    have hfr:∀blk,blk<w.heap.size->blk≠i.blk->w'.heap[blk]? = w.heap[blk]? := fun blk hb hne=>hrel'.fr blk (by rintro(h | h);exact hne h;omega)
    have hrelw:Dt C R U w':=hrel.frame (fun blk hb hor=>by
      refine hfr blk hb ?_
      rcases hor with ⟨k,b,j,hk,hj,rfl⟩|hno
      · exact hpriv.apart m i hB k b j hk hj
      · intro he';exact hno (he' ▸ hOi)) hrel'.size hrel'.os hrel'.tape hrel'.output
    refine hV .dead _ U rfl R w' x (Le.refl _) (fun _ _ _=>rfl) (AK _) ⟨hrelw,⟨fun m' i' hm'=>?_,hpriv.inj,hpriv.apart⟩⟩ (.inl ⟨rfl,by rw[ho];rfl⟩)
    obtain⟨hO',l2,hl2,hok2⟩:=hpriv.at_ m' i' hm'
    refine⟨hO',?_⟩
    by_cases hmm:m=m'
    · subst hmm
      rw[hB]at hm';cases hm'
      exact⟨_,by rw[Hg hl,if_pos rfl],hokR⟩
    · refine⟨l2,by rw[Hg hl,if_neg hmm];exact hl2,hok2.mono (Le.refl _) (hfr _ hok2.lt (fun hbl=>hmm (hpriv.inj m m' i i' hB hm' hbl.symm)))⟩
end Go.Og
namespace Go.Og
variable {P:Program} {E:EB} {D:Ai} {C:Cx} {R:Cz} {U:H} {w w':World}
inductive P2 (E:EB) (D:Ai) (dr:Bool) (n0:Nat):Nat->List (BO × List Nat)->St->St->Prop where
 | nil (i:Nat) (s:St):P2 E D dr n0 i [] s s
 | skip (i:Nat) (o:BO) (ks:List Nat) (l:List (BO × List Nat)) (s s':St) (hw:Bq (ED dr ks s.e) o.guard=some false)
   (h:P2 E D dr n0 (i+1) l ⟨Cu s.e o.dst EP,CE o.dst s.q,s.r,s.U⟩ s'):P2 E D dr n0 i ((o,ks)::l) s s'
 | val (i:Nat) (o:BO) (ks:List Nat) (l:List (BO × List Nat)) (s s':St) (pw:Bool) (v:V) (r':Rg) (U':H) (hw:Bq (ED dr ks s.e) o.guard=some true)
   (hs:GD E D pw s.U.next (s.U.next+1) o.op (ED dr ks s.e) (Kd dr ks s.q) s.r s.U (.val v r' U'))
   (hl:o.dst=none\/v.live=true\/o.op.cls ≠ .k) (hna:dr=true->o.op.cls ≠ .a)
   (h:P2 E D dr n0 (i+1) l ⟨Cu s.e o.dst v,CE o.dst s.q,r',U'⟩ s'):P2 E D dr n0 i ((o,ks)::l) s s'
 | mark (i:Nat) (o:BO) (ks:List Nat) (l:List (BO × List Nat)) (s s':St) (pw:Bool) (id nx m off:Nat) (hw:Bq (ED dr ks s.e) o.guard=some true)
   (hs:GD E D pw id nx o.op (ED dr ks s.e) (Kd dr ks s.q) s.r s.U (.mark m off))
   (h:P2 E D dr n0 (i+1) l ⟨CE o.dst s.e,QS (CE o.dst s.q) o.dst (m,off),s.r,s.U⟩ s'):P2 E D dr n0 i ((o,ks)::l) s s'
 | pal (i:Nat) (o:BO) (ks:List Nat) (l:List (BO × List Nat)) (s s':St) (d:Nat) (el:TypeId) (z:List V) (hd:o.dst=some d) (ho:o.op = .alloc el z) (hw:Bq (ED dr ks s.e) o.guard=some true)
   (h:P2 E D dr n0 (i+1) l ⟨Bg [d] s.e,(d,(d,0))::Jj d (Bg [d] s.q),(d,z)::Bg [d] s.r,s.U⟩ s'):P2 E D dr n0 i ((o,ks)::l) s s'
 | shrink (i:Nat) (l:List (BO × List Nat)) (s s':St) (e:B6) (q:Qs) (he:∀t v,look e t=some v->look s.e t=some v) (hq:∀t v,look q t=some v->look s.q t=some v)
   (h:P2 E D dr n0 i l ⟨e,q,s.r,s.U⟩ s'):P2 E D dr n0 i l s s'
theorem P2.append {dr:Bool} {n0:Nat}:∀{i:Nat} {l m:List (BO × List Nat)} {s s1 s2:St},P2 E D dr n0 i l s s1->P2 E D dr n0 (i+l.length) m s1 s2->P2 E D dr n0 i (l++m) s s2:=by
 intro i l m s s1 s2 h
 induction h with
 | nil i s=>intro h2;simpa using h2
 | skip i o ks l s s' hw _ ih=>intro h2;exact .skip i o ks _ s s2 hw (ih (by rwa [AN,show i+(l.length+1)=i+1+l.length by omega]at h2))
 | val i o ks l s s' pw v r' U' hw hs hl hna _ ih=>intro h2;exact .val i o ks _ s s2 pw v r' U' hw hs hl hna (ih (by rwa [AN,show i+(l.length+1)=i+1+l.length by omega]at h2))
 | mark i o ks l s s' pw id nx m off hw hs _ ih=>intro h2;exact .mark i o ks _ s s2 pw id nx m off hw hs (ih (by rwa [AN,show i+(l.length+1)=i+1+l.length by omega]at h2))
 | pal i o ks l s s' d el z hd ho hw _ ih=>intro h2;exact .pal i o ks _ s s2 d el z hd ho hw (ih (by rwa [AN,show i+(l.length+1)=i+1+l.length by omega]at h2))
 | shrink i l s s' e q he hq _ ih=>intro h2;exact .shrink i _ s s2 e q he hq (ih h2)
theorem CT {α:Type} (ds:List Nat) (l:List (Nat × α)) (t:Nat):look (Bg ds l) t=if Bn ds t=true then none else look l t:=by
 induction l with
 | nil=>simp[Bg,look]
 | cons p l ih=>
  obtain⟨k,v⟩:=p
  simp only[Bg]
  split
  ·rename_i hk
   rw[ih]
   by_cases ht:Bn ds t=true
   ·rw[if_pos ht,if_pos ht]
   ·rw[if_neg ht,if_neg ht]
    have hkt:¬k=t:=fun h=>ht (h ▸ hk)
    simp only[look,AU,hkt,if_false]
  ·rename_i hk
   simp only[look,AU]
   by_cases hkt:k=t
   ·subst hkt;rw[if_pos rfl,if_neg (by rw[hk];simp),if_pos rfl]
   ·rw[if_neg hkt,if_neg hkt,ih]
theorem Gn (d t:Nat):Bn [d] t=true↔d=t:=by simp[Bn]
theorem DF (d:Nat) (l:List Nat) (t:Nat):Bn (d::l) t=true↔d=t\/Bn l t=true:=by simp[Bn]
theorem Fk (l m:List Nat) (t:Nat):Bn (l++m) t=true↔Bn l t=true\/Bn m t=true:=by
 induction l with
 | nil=>simp[Bn]
 | cons a l ih=>simp only[GG,Bn,Bk,ih,or_assoc]
theorem CI {α:Type} (d:Option Nat) (l:List (Nat × α)) (t:Nat):look (CE d l) t=if d=some t then none else look l t:=by
 cases d with
 | none=>simp[CE]
 | some d=>
  simp only[CE,CT,AQ.injEq]
  by_cases h:d=t
  ·rw[if_pos ((Gn d t).2 h),if_pos h]
  ·rw[if_neg (fun hh=>h ((Gn d t).1 hh)),if_neg h]
theorem GY (e:B6) (d:Option Nat) (v:V) (t:Nat):look (Cu e d v) t=if d=some t then some v else look e t:=by
 cases d with
 | none=>simp[Cu]
 | some d=>
  simp only[Cu,look,AU,AQ.injEq]
theorem KR (q:Qs) (d:Option Nat) (p:Nat × Nat) (t:Nat):look (QS q d p) t=if d=some t then some p else look q t:=by
 cases d with
 | none=>simp[QS]
 | some d=>
  simp only[QS,look,AU,AQ.injEq]
theorem Jv {ks:List Nat} {e:B6} {t:Nat} (h:Bn ks t=true):look (restr ks e) t=look e t:=by
 induction ks with
 | nil=>simp[Bn]at h
 | cons a ks ih=>
  simp only[Bn,Bk,AU]at h
  simp only[restr]
  cases ha:look e a with
  | none=>
   simp only
   by_cases hat:a=t
   ·subst hat
    rw[ha]
    cases hl:look (restr ks e) a with
    | none=>rfl
    | some v=>rw[(GX ks e a v hl).1]at ha;cases ha
   ·exact ih (h.resolve_left hat)
  | some u=>
   simp only[look,AU]
   by_cases hat:a=t
   ·subst hat;rw[if_pos rfl,ha]
   ·rw[if_neg hat];exact ih (h.resolve_left hat)
theorem Gp (ls:List Nat) (q:Qs) (t:Nat) (p:Nat × Nat) (h:look (LK ls q) t=some p):look q t=some p/\Bn ls t=true:=by
 induction ls with
 | nil=>simp[LK,look]at h
 | cons a ls ih=>
  simp only[LK]at h
  simp only[Bn,Bk,AU]
  cases ha:look q a with
  | none=>rw[ha]at h;exact(ih h).imp id .inr
  | some u=>
   rw[ha]at h
   simp only[look,AU]at h
   by_cases hat:a=t
   ·subst hat
    rw[if_pos rfl]at h
    cases h
    exact⟨ha,.inl rfl⟩
   ·rw[if_neg hat]at h
    exact(ih h).imp id .inr
theorem KP {dr:Bool} {ks:List Nat} {e:B6} {t:Nat} (h:Bn ks t=true):look (ED dr ks e) t=look e t:=by
 cases dr with
 | true=>exact Jv h
 | false=>rfl
theorem UK {dr:Bool} {ks:List Nat} {e:B6} {t:Nat} {v:V} (h:look (ED dr ks e) t=some v):look e t=some v:=by
 cases dr with
 | true=>exact(GX _ _ _ _ h).1
 | false=>exact h
theorem Iz {m:Nat}:∀{q:Qs} {t:Nat} {p:Nat × Nat},Bn (IE m q) t=false->look q t=some p->p.1≠m
 | [],t,p,_,h=>by simp[look]at h
 | (k,b)::q,t,p,hm,h=>by
  simp only[IE]at hm
  simp only[look,AU]at h
  split at hm
  ·rename_i hb
   have hkt:¬k=t:=by
    intro he;subst he
    simp[Bn]at hm
   rw[if_neg hkt]at h
   have hm2:Bn (IE m q) t=false:=by
    cases h2:Bn (IE m q) t with
    | false=>rfl
    | true=>rw[(DF k _ t).2 (.inr h2)]at hm;cases hm
   exact Iz hm2 h
  ·rename_i hb
   by_cases hk:k=t
   ·rw[if_pos hk]at h;cases h
    intro he;rw[<-AU,hb]at he;cases he
   ·rw[if_neg hk]at h;exact Iz hm h
theorem Ju (m:Nat) (q:Qs) (t:Nat) (p:Nat × Nat) (h:look (Jj m q) t=some p):p.1≠m/\look q t=some p:=by
 unfold Jj at h
 rw[CT]at h
 split at h
 ·cases h
 ·rename_i hm
  have hm2:Bn (IE m q) t=false:=by simpa using hm
  exact⟨Iz hm2 h,h⟩
theorem Mg {dr:Bool} {ks:List Nat} {e:B6} {t:Nat} {b c:Bool} (hm:Bn ks t=true) (h:look e t=some (.bool c)):Bq (ED dr ks e) (some (t,b))=some (c==b):=by
 simp only[Bq,Ga,KP hm,h]
theorem Ls {dr:Bool} {ks:List Nat} {e:B6} {t:Nat} {b:Bool} (hm:Bn ks t=true) (h:look e t=some EP):Bq (ED dr ks e) (some (t,b))=some false:=by
 simp only[Bq,Ga,KP hm,h,EP]
theorem Gu:∀(l:XL) (g:Option (Nat × Bool)),(l.flat g).length=l.size/\l.lks.length=l.size
 | .nil,g=>⟨rfl,rfl⟩
 | .op _ _ _ _ r,g=>by obtain⟨h1,h2⟩:=Gu r g;simp[XL.flat,XL.lks,XL.size,h1,h2]
 | .pal _ _ _ _ r,g=>by obtain⟨h1,h2⟩:=Gu r g;simp[XL.flat,XL.lks,XL.size,h1,h2]
 | .grp t b l _ _ _ _ _ r,g=>by
  obtain⟨h1,h2⟩:=Gu r g
  obtain⟨h3,h4⟩:=Gu l (some (t,b))
  simp[XL.flat,XL.lks,XL.size,h1,h2,h3,h4]
theorem YA (l:XL) (g:Option (Nat × Bool)) (x:BO) (k:List Nat) (m:List BO) (n:List (List Nat)) :
  (l.flat g++x::m).zip (l.lks++k::n)=(l.flat g).zip l.lks++(x,k)::m.zip n:=by
 obtain⟨h1,h2⟩:=Gu l g
 rw[List.zip_append (by omega)]
 rfl
theorem SC (l:XL) (g:Option (Nat × Bool)):((l.flat g).zip l.lks).length=l.size:=by
 obtain⟨h1,h2⟩:=Gu l g
 simp[h1,h2]
theorem Jo {dr:Bool} {n0:Nat}:∀(l:XL) (ds:List Nat) (t:Nat) (b:Bool) (i:Nat) (s:St),l.okG (some ds) (some t)=true ->
    (look s.e t=some EP\/∃c,look s.e t=some (.bool c)/\(c==b)=false)->Bn l.dsts t=false->(∀u,Bn ds u=true->look s.e u=some EP) ->
    ∃s',P2 E D dr n0 i ((l.flat (some (t,b))).zip l.lks) s s'/\s'.r=s.r/\s'.U=s.U/\(∀u,Bn l.dsts u=false->look s'.e u=look s.e u/\look s'.q u=look s.q u) /\
      (∀u,Bn l.dsts u=true->look s'.e u=some EP)
  | .nil,ds,t,b,i,s,hok,ht,hd,hds=>⟨s,.nil i s,rfl,rfl,fun _ _=>⟨rfl,rfl⟩,fun u hu=>by simp[XL.dsts,Bn]at hu⟩
  | .pal _ _ _ _ r,ds,t,b,i,s,hok,ht,hd,hds=>by simp[XL.okG]at hok
  | .op d ty ks o r,ds,t,b,i,s,hok,ht,hd,hds=>by
    simp only[XL.okG,AG]at hok
    obtain⟨⟨_,hks⟩,hr⟩:=hok
    have hks:Bn ks t=true:=hks
    have hw:Bq (ED dr ks s.e) (some (t,b))=some false:=by
      rcases ht with ht|⟨c,ht,hc⟩
      · exact Ls hks ht
      · rw[Mg hks ht,hc]
    cases d with
    | none=>
      have hr:r.okG (some ds) (some t)=true:=hr
      obtain⟨s',h1,h2,h3,h4,h5⟩:=Jo (dr:=dr) (n0:=n0) r ds t b (i+1) s hr ht hd hds
      exact⟨s',.skip i ⟨none,o,some (t,b)⟩ ks _ s s' hw h1,h2,h3,h4,h5⟩
    | some d=>
      have hr:r.okG (some (d::ds)) (some t)=true:=hr
      simp only[XL.dsts]at hd
      have hdt:d≠t/\Bn r.dsts t=false:=by
        simp only[Bn,Bd]at hd
        exact⟨(by intro h;rw[<-AU,hd.1]at h;cases h),hd.2⟩
      have hput:∀u,look (Cu s.e (some d) EP) u=if d=u then some EP else look s.e u:=fun u=>by rw[GY];simp
      obtain⟨s',h1,h2,h3,h4,h5⟩:=Jo (dr:=dr) (n0:=n0) r (d::ds) t b (i+1) ⟨Cu s.e (some d) EP,CE (some d) s.q,s.r,s.U⟩ hr
        (by simp only[hput,if_neg hdt.1];exact ht) hdt.2 (fun u hu=>by
          simp only[hput]
          rcases(DF d ds u).1 hu with h|h
          · rw[if_pos h]
          · by_cases hdu:d=u
            · rw[if_pos hdu]
            · rw[if_neg hdu];exact hds u h)
      refine⟨s',.skip i ⟨some d,o,some (t,b)⟩ ks _ s s' hw h1,h2,h3,fun u hu=>?_,fun u hu=>?_⟩
      · simp only[XL.dsts,Bn,Bd]at hu
        have hdu:¬d=u:=by intro h;rw[<-AU,hu.1]at h;cases h
        obtain⟨h6,h7⟩:=h4 u hu.2
        refine⟨by rw[h6];simp only[hput,if_neg hdu],by rw[h7,CI];simp[hdu]⟩
      · simp only[XL.dsts]at hu
        cases hru:Bn r.dsts u with
        | true=>exact h5 u hru
        | false=>
          rcases(DF d r.dsts u).1 hu with h|h
          · rw[(h4 u hru).1];simp only[hput,if_pos h]
          · rw[hru]at h;cases h
  | .grp t2 b2 l d ks c x y r,ds,t,b,i,s,hok,ht,hd,hds=>by
    simp only[XL.okG,AG,C8]at hok
    obtain⟨⟨⟨⟨⟨⟨hks,_⟩,hlt⟩,_⟩,hdt2⟩,hl⟩,hr⟩:=hok
    have hks:Bn ks t=true:=hks
    simp only[XL.dsts]at hd
    have hdl:Bn l.dsts t=false/\d≠t/\Bn r.dsts t=false:=by
      have h0:¬(Bn (l.dsts++d::r.dsts) t=true):=by rw[hd];simp
      rw[Fk,DF]at h0
      refine⟨?_,fun h=>h0 (.inr (.inl h)),?_⟩
      · cases h:Bn l.dsts t with
        | false=>rfl
        | true=>exact(h0 (.inl h)).elim
      · cases h:Bn r.dsts t with
        | false=>rfl
        | true=>exact(h0 (.inr (.inr h))).elim
    obtain⟨s1,h1,h2,h3,h4,h5⟩:=Jo (dr:=dr) (n0:=n0) l [] t2 b2 i s hl (.inl (hds t2 hdt2)) hlt (fun u hu=>by simp[Bn]at hu)
    have ht1:look s1.e t=some EP\/∃c,look s1.e t=some (.bool c)/\(c==b)=false:=by rw[(h4 t hdl.1).1];exact ht
    have hw:Bq (ED dr ks s1.e) (some (t,b))=some false:=by
      rcases ht1 with ht|⟨c,ht,hc⟩
      · exact Ls hks ht
      · rw[Mg hks ht,hc]
    have hput:∀u,look (Cu s1.e (some d) EP) u=if d=u then some EP else look s1.e u:=fun u=>by rw[GY];simp
    obtain⟨s',g1,g2,g3,g4,g5⟩:=Jo (dr:=dr) (n0:=n0) r (d::l.dsts++ds) t b (i+l.size+1) ⟨Cu s1.e (some d) EP,CE (some d) s1.q,s1.r,s1.U⟩ hr
      (by simp only[hput,if_neg hdl.2.1];exact ht1) hdl.2.2 (fun u hu=>by
        simp only[hput]
        by_cases hdu:d=u
        · rw[if_pos hdu]
        · rw[if_neg hdu]
          rw[GG]at hu
          rcases(DF d _ u).1 hu with h|h
          · exact(hdu h).elim
          · cases hlu:Bn l.dsts u with
            | true=>exact h5 u hlu
            | false=>
              rcases(Fk _ _ u).1 h with h|h
              · rw[hlu]at h;cases h
              · rw[(h4 u hlu).1];exact hds u h)
    refine⟨s',?_,by rw[g2];exact h2,by rw[g3];exact h3,fun u hu=>?_,fun u hu=>?_⟩
    · simp only[XL.flat,XL.lks]
      rw[YA]
      refine h1.append ?_
      rw[SC]
      exact .skip _ ⟨some d,.pick c x y,some (t,b)⟩ ks _ s1 s' hw g1
    · simp only[XL.dsts]at hu
      have h0:¬(Bn (l.dsts++d::r.dsts) u=true):=by rw[hu];simp
      rw[Fk,DF]at h0
      have hlu:Bn l.dsts u=false:=by
        cases h:Bn l.dsts u with
        | false=>rfl
        | true=>exact(h0 (.inl h)).elim
      have hru:Bn r.dsts u=false:=by
        cases h:Bn r.dsts u with
        | false=>rfl
        | true=>exact(h0 (.inr (.inr h))).elim
      have hdu:¬d=u:=fun h=>h0 (.inr (.inl h))
      obtain⟨k1,k2⟩:=g4 u hru
      obtain⟨k3,k4⟩:=h4 u hlu
      refine⟨by rw[k1];simp only[hput,if_neg hdu];exact k3,by rw[k2,CI];simp only[AQ.injEq,if_neg hdu];exact k4⟩
    · simp only[XL.dsts]at hu
      cases hru:Bn r.dsts u with
      | true=>exact g5 u hru
      | false=>
        rw[(g4 u hru).1]
        simp only[hput]
        by_cases hdu:d=u
        · rw[if_pos hdu]
        · rw[if_neg hdu]
          rcases(Fk _ _ u).1 hu with h|h
          · exact h5 u h
          · rcases(DF d _ u).1 h with h | h
            · exact(hdu h).elim
            · rw[hru]at h;cases h
end Go.Og
namespace Go.Og
variable {E:EB} {D:Ai}
def Gd (g:Option (Nat × Bool)) (gt:Option Nat) (e:B6) (ds:List Nat):Prop:=
 (g=none/\gt=none)\/∃t b,g=some (t,b)/\gt=some t/\look e t=some (.bool b)/\Bn ds t=false
theorem Gd.wanted {g:Option (Nat × Bool)} {gt:Option Nat} {e:B6} {ds:List Nat} (h:Gd g gt e ds) {dr:Bool} {ks:List Nat} (hs:pZ gt ks=true):Bq (ED dr ks e) g=some true:=by
 rcases h with ⟨rfl,rfl⟩|⟨t,b,rfl,rfl,hl,_⟩
 ·rfl
 ·rw[Mg hs hl];simp
theorem Gd.next {g:Option (Nat × Bool)} {gt:Option Nat} {e e':B6} {ds ds':List Nat} (h:Gd g gt e ds) (hd:∀t,Bn ds t=false->Bn ds' t=false) (he:∀t,Bn ds t=false->look e' t=look e t):Gd g gt e' ds':=by
 rcases h with ⟨rfl,rfl⟩|⟨t,b,rfl,rfl,hl,hm⟩
 ·exact .inl ⟨rfl,rfl⟩
 ·exact .inr ⟨t,b,rfl,rfl,by rw[he t hm];exact hl,hd t hm⟩
theorem pU {id nx:Nat} {o:Eb} {e:B6} {q:Qs} {r r':Rg} {U U':H} {v:V} (h:GD E D false id nx o e q r U (.val v r' U')):r'=r:=by
 cases h<;>first | rfl | (rename_i hw _ _ _ _ _ _ _ _ _ _;cases hw)
theorem GW {ds:List Nat} {t:Nat}:Bn ds t=false↔¬Bn ds t=true:=by cases Bn ds t<;>simp
theorem Eh {d:Nat} {l:List Nat} {t:Nat} (h:Bn (d::l) t=false):d≠t/\Bn l t=false:=by
 rw[GW,DF]at h
 exact⟨fun hh=>h (.inl hh),GW.2 fun hh=>h (.inr hh)⟩
theorem L8 {l m:List Nat} {t:Nat} (h:Bn (l++m) t=false):Bn l t=false/\Bn m t=false:=by
 rw[GW,Fk]at h
 exact⟨GW.2 fun hh=>h (.inl hh),GW.2 fun hh=>h (.inr hh)⟩
theorem Yj {d:Option Nat} {ty:CZ} {ks:List Nat} {o:Eb} {r:XL} (h:(XL.op d ty ks o r).makes=false):o.cls ≠ .a/\r.makes=false:=by
 simp only[XL.makes]at h
 split at h
 ·cases h
 ·rename_i hc;exact⟨hc,h⟩
theorem Wm {t:Nat} {b:Bool} {l:XL} {d:Nat} {ks:List Nat} {c x y:AO} {r:XL} (h:(XL.grp t b l d ks c x y r).makes=false):l.makes=false/\r.makes=false:=by
 simpa only [XL.makes,Bd]using h
theorem UT {d:Nat} {ty:CZ} {o:Eb} (h:okD (some d) ty o=true):(∀n x y,o = .store n x y->False)/\(o.cls = .k->ty.known=true):=by
 constructor
 ·rintro n x y rfl;cases h
 ·intro hc
  cases o<;>(first | (cases hc;done) | (cases h;done) | exact h | (rename_i t x;cases t<;>cases hc))
theorem Hm {dr:Bool} {n0:Nat}:∀(l:XL) (ds:Option (List Nat)) (gt:Option Nat) (g:Option (Nat × Bool)) (pw:Bool) (i:Nat) (s:St) (J:B6->Qs->Rg->H->AF) (res:V × H),
  If E D dr pw n0 l i s.e s.q s.r s.U J=some res->l.okG ds gt=true->Gd g gt s.e l.dsts->(dr=true->l.makes=false) ->
  ∃s',P2 E D dr n0 i ((l.flat g).zip l.lks) s s'/\J s'.e s'.q s'.r s'.U=some res/\(pw=false->s'.r=s.r) /\
   (∀u,Bn l.dsts u=false->look s'.e u=look s.e u)/\(pw=false->∀u,Bn l.dsts u=false->look s'.q u=look s.q u)
 | .nil,ds,gt,g,pw,i,s,J,res,h,hok,hg,hmk=>⟨s,.nil i s,h,fun _=>rfl,fun _ _=>rfl,fun _ _ _=>rfl⟩
 | .op d ty ks o r,ds,gt,g,pw,i,s,J,res,h,hok,hg,hmk=>by
  rw[rU]at h
  simp only[XL.okG,AG]at hok
  obtain⟨⟨hkd,hks⟩,hr⟩:=hok
  have hr':∃ds',r.okG ds' gt=true:=by
   split at hr
   ·exact⟨_,hr⟩
   ·exact⟨_,hr⟩
  obtain⟨ds',hr'⟩:=hr'
  have hw:=hg.wanted (dr:=dr) hks
  have hdst:∀t,Bn (XL.op d ty ks o r).dsts t=false->d≠some t/\Bn r.dsts t=false:=by
   intro t ht
   cases d with
   | none=>exact⟨by simp,ht⟩
   | some d=>obtain⟨h1,h2⟩:=Eh ht;exact⟨by simpa using h1,h2⟩
  obtain⟨out,hs,hout⟩:=iC h
  cases out with
  | val v r' U'=>
   obtain⟨hk,hlv⟩:=hout
   have hput:∀t,Bn (XL.op d ty ks o r).dsts t=false->look (Cu s.e d v) t=look s.e t:=fun t ht=>by
    rw[GY,if_neg (hdst t ht).1]
   obtain⟨s',h1,h2,h3,h4,h5⟩:=Hm r ds' gt g pw (i+1) ⟨Cu s.e d v,CE d s.q,r',U'⟩ J res hk hr'
    (hg.next (fun t ht=>(hdst t ht).2) hput) (fun hd=>(Yj (hmk hd)).2)
   refine⟨s',.val i ⟨d,o,g⟩ ks _ s s' pw v r' U' hw hs ?_ (fun hd=>(Yj (hmk hd)).1) h1,h2,fun hpw=>?_,fun u hu=>?_,fun hpw u hu=>?_⟩
   ·cases d with
    | none=>exact .inl rfl
    | some d=>
     right
     rcases hlv with ⟨n,x,y,rfl⟩|hlv|hlv|hlv
     ·exact((UT hkd).1 _ _ _ rfl).elim
     ·exact .inr hlv
     ·right
      intro hc
      have:=(UT hkd).2 hc
      rw[hlv]at this;cases this
     ·exact .inl hlv
   ·subst hpw;rw[h3 rfl];exact pU hs
   ·rw[h4 u (hdst u hu).2];exact hput u hu
   ·rw[h5 hpw u (hdst u hu).2]
    show look (CE d s.q) u=_
    rw[CI,if_neg (hdst u hu).1]
  | mark m off=>
   have hput:∀t,Bn (XL.op d ty ks o r).dsts t=false->look (CE d s.e) t=look s.e t:=fun t ht=>by
    rw[CI,if_neg (hdst t ht).1]
   obtain⟨s',h1,h2,h3,h4,h5⟩:=Hm r ds' gt g pw (i+1) ⟨CE d s.e,QS (CE d s.q) d (m,off),s.r,s.U⟩ J res hout hr'
    (hg.next (fun t ht=>(hdst t ht).2) hput) (fun hd=>(Yj (hmk hd)).2)
   refine⟨s',.mark i ⟨d,o,g⟩ ks _ s s' pw _ _ m off hw hs h1,h2,h3,fun u hu=>?_,fun hpw u hu=>?_⟩
   ·rw[h4 u (hdst u hu).2];exact hput u hu
   ·rw[h5 hpw u (hdst u hu).2]
    show look (QS (CE d s.q) d (m,off)) u=_
    rw[KR,if_neg (hdst u hu).1,CI,if_neg (hdst u hu).1]
 | .pal d ks el z r,ds,gt,g,pw,i,s,J,res,h,hok,hg,hmk=>by
  cases pw with
  | false=>rw[dz]at h;cases h
  | true=>
   rw[jP]at h
   simp only[XL.okG,AG]at hok
   obtain⟨hks,hr⟩:=hok
   have hr':r.okG none gt=true:=by
    split at hr
    ·cases hr
    ·exact hr
   have hw:=hg.wanted (dr:=dr) hks
   have hput:∀t,Bn (XL.pal d ks el z r).dsts t=false->look (Bg [d] s.e) t=look s.e t:=fun t ht=>by
    have:=(Eh ht).1
    rw[CT,if_neg (fun hh=>this ((Gn d t).1 hh))]
   obtain⟨s',h1,h2,h3,h4,h5⟩:=Hm r none gt g true (i+1) ⟨Bg [d] s.e,(d,(d,0))::Jj d (Bg [d] s.q),(d,z)::Bg [d] s.r,s.U⟩ J res h hr'
    (hg.next (fun t ht=>(Eh ht).2) hput) hmk
   refine⟨s',.pal i ⟨some d,.alloc el z,g⟩ ks _ s s' d el z rfl rfl hw h1,h2,(fun hpw=>by cases hpw),fun u hu=>?_,(fun hpw=>by cases hpw)⟩
   rw[h4 u (Eh hu).2];exact hput u hu
 | .grp t b l d ks c x y r,ds,gt,g,pw,i,s,J,res,h,hok,hg,hmk=>by
  rw[jQ]at h
  simp only[XL.okG,AG,C8]at hok
  obtain⟨⟨⟨⟨⟨⟨hks,hkt⟩,hlt⟩,hpk⟩,_⟩,hl⟩,hr⟩:=hok
  have hr':∃ds',r.okG ds' gt=true:=by
   split at hr
   ·exact⟨_,hr⟩
   ·exact⟨_,hr⟩
  obtain⟨ds',hr'⟩:=hr'
  have hdst:∀u,Bn (XL.grp t b l d ks c x y r).dsts u=false->Bn l.dsts u=false/\d≠u/\Bn r.dsts u=false:=by
   intro u hu
   obtain⟨h1,h2⟩:=L8 hu
   obtain⟨h3,h4⟩:=Eh h2
   exact⟨h1,h3,h4⟩
  unfold hZ at hpk
  simp only[AG]at hpk
  obtain⟨hct,hother⟩:=hpk
  have hct:c = .tmp t:=by
   cases c with
   | con v=>cases hct
   | tmp u=>simp only[AU]at hct;rw[hct]
  subst hct
  obtain⟨v,hv,_,h⟩:=Ah h
  obtain⟨cb,rfl,h9⟩:=Fi h
  replace h:=h9
  have hte:look s.e t=some (.bool cb):=by
   simp only[CP,Ga]at hv
   cases hq:look (ED dr [t] s.e) t with
   | none=>rw[hq]at hv;cases hv
   | some u=>rw[hq]at hv;simp only at hv;subst hv;exact UK hq
  have fin:∀(s1:St) (vb:Bool),P2 E D dr n0 i ((l.flat (some (t,b))).zip l.lks) s s1->s1.r=s.r->(∀u,Bn l.dsts u=false->look s1.e u=look s.e u)->(∀u,Bn l.dsts u=false->look s1.q u=look s.q u) ->
    BV (.pick (.tmp t) x y) (ED dr ks s1.e)=some (.bool vb) ->
    If E D dr pw n0 r (i+l.size+1) ((d,.bool vb)::Bg (d::l.dsts) s.e) (Bg (d::l.dsts) s.q) s.r s1.U J=some res ->
    ∃s',P2 E D dr n0 i (((XL.grp t b l d ks (.tmp t) x y r).flat g).zip (XL.grp t b l d ks (.tmp t) x y r).lks) s s'/\J s'.e s'.q s'.r s'.U=some res/\(pw=false->s'.r=s.r) /\
     (∀u,Bn (XL.grp t b l d ks (.tmp t) x y r).dsts u=false->look s'.e u=look s.e u)/\(pw=false->∀u,Bn (XL.grp t b l d ks (.tmp t) x y r).dsts u=false->look s'.q u=look s.q u):=by
   intro s1 vb hrun hr1 he1 hq1 hp hrest
   have hput:∀u,d≠u->Bn l.dsts u=false->look ((d,V.bool vb)::Bg (d::l.dsts) s.e) u=look s.e u:=by
    intro u h1 h2
    simp only[look,AU,h1,if_false]
    rw[CT,if_neg (fun hh=>by rcases(DF d _ u).1 hh with hh | hh;exact h1 hh;rw[h2]at hh;cases hh)]
   obtain⟨s',h1,h2,h3,h4,h5⟩:=Hm r ds' gt g pw (i+l.size+1) ⟨(d,.bool vb)::Bg (d::l.dsts) s.e,Bg (d::l.dsts) s.q,s.r,s1.U⟩ J res hrest hr'
    (hg.next (fun u hu=>(hdst u hu).2.2) (fun u hu=>hput u (hdst u hu).2.1 (hdst u hu).1)) (fun hd=>(Wm (hmk hd)).2)
   have hg1:Gd g gt s1.e (XL.grp t b l d ks (.tmp t) x y r).dsts:=hg.next (fun _ hu=>hu) (fun u hu=>he1 u (hdst u hu).1)
   refine⟨s',?_,h2,h3,fun u hu=>?_,fun hpw u hu=>?_⟩
   ·simp only[XL.flat,XL.lks]
    rw[YA]
    refine hrun.append ?_
    rw[SC]
    refine .val _ ⟨some d,.pick (.tmp t) x y,g⟩ ks _ s1 s' true (.bool vb) s1.r s1.U (hg1.wanted hks) (.p _ rfl fun _=>hp) (.inr (.inl rfl)) (fun _ h=>by cases h) ?_
    refine .shrink _ _ _ s' ((d,.bool vb)::Bg (d::l.dsts) s.e) (Bg (d::l.dsts) s.q) (fun u w hu=>?_) (fun u w hu=>?_) (by rw[hr1];exact h1)
    ·simp only[look,AU]at hu
     rw[GY]
     by_cases hdu:d=u
     ·rw[if_pos hdu]at hu;rw[if_pos (by rw[hdu])];exact hu
     ·rw[if_neg hdu,CT]at hu
      rw[if_neg (by simpa using hdu)]
      split at hu
      ·cases hu
      ·rename_i hm
       rw[he1 u (GW.2 fun hh=>hm ((DF d _ u).2 (.inr hh)))]
       exact hu
    ·rw[CT]at hu
     split at hu
     ·cases hu
     ·rename_i hm
      show look (CE (some d) s1.q) u=some w
      rw[CI,if_neg (fun hh=>hm ((DF d _ u).2 (.inl (by simpa using hh)))),hq1 u (GW.2 fun hh=>hm ((DF d _ u).2 (.inr hh)))]
      exact hu
   ·rw[h4 u (hdst u hu).2.2];exact hput u (hdst u hu).2.1 (hdst u hu).1
   ·rw[h5 hpw u (hdst u hu).2.2]
    show look (Bg (d::l.dsts) s.q) u=_
    rw[CT,if_neg (fun hh=>by rcases(DF d _ u).1 hh with hh | hh;exact(hdst u hu).2.1 hh;rw[(hdst u hu).1]at hh;cases hh)]
  have taken:cb=b->∀(z:AO),(∀e,CP e (.tmp t) = .bool cb->∀vb,CP e z = .bool vb->BV (.pick (.tmp t) x y) e=some (.bool vb)) ->
    (If E D dr false n0 l i s.e s.q s.r s.U fun e' _ _ U'=>CU (ED dr ks e') z fun v=>Ct v fun v=>
     If E D dr pw n0 r (i+l.size+1) ((d,.bool v)::Bg (d::l.dsts) s.e) (Bg (d::l.dsts) s.q) s.r U' J)=some res ->
    ∃s',P2 E D dr n0 i (((XL.grp t b l d ks (.tmp t) x y r).flat g).zip (XL.grp t b l d ks (.tmp t) x y r).lks) s s'/\J s'.e s'.q s'.r s'.U=some res/\(pw=false->s'.r=s.r) /\
     (∀u,Bn (XL.grp t b l d ks (.tmp t) x y r).dsts u=false->look s'.e u=look s.e u)/\(pw=false->∀u,Bn (XL.grp t b l d ks (.tmp t) x y r).dsts u=false->look s'.q u=look s.q u):=by
   intro hcb z hz hh
   subst hcb
   obtain⟨s1,h1,h2,h3,h4,h5⟩:=Hm l (some []) (some t) (some (t,cb)) false i s _ res hh hl (.inr ⟨t,cb,rfl,rfl,hte,hlt⟩) (fun hd=>(Wm (hmk hd)).1)
   obtain⟨v,hv,_,h2⟩:=Ah h2
   obtain⟨vb,rfl,h9⟩:=Fi h2
   replace h2:=h9
   refine fin s1 vb h1 (h3 rfl) h4 (h5 rfl) (hz _ ?_ vb hv) h2
   simp only[CP,Ga,KP hkt,h4 t hlt,hte]
  have left:(cb==b)=false->∀(z:AO),(match z with | .tmp u=>!Bn l.dsts u | .con _=>true)=true->(∀e,CP e (.tmp t) = .bool cb->∀vb,CP e z = .bool vb->BV (.pick (.tmp t) x y) e=some (.bool vb)) ->
    (CU (ED dr ks s.e) z fun v=>Ct v fun v=>
     If E D dr pw n0 r (i+l.size+1) ((d,.bool v)::Bg (d::l.dsts) s.e) (Bg (d::l.dsts) s.q) s.r s.U J)=some res ->
    ∃s',P2 E D dr n0 i (((XL.grp t b l d ks (.tmp t) x y r).flat g).zip (XL.grp t b l d ks (.tmp t) x y r).lks) s s'/\J s'.e s'.q s'.r s'.U=some res/\(pw=false->s'.r=s.r) /\
     (∀u,Bn (XL.grp t b l d ks (.tmp t) x y r).dsts u=false->look s'.e u=look s.e u)/\(pw=false->∀u,Bn (XL.grp t b l d ks (.tmp t) x y r).dsts u=false->look s'.q u=look s.q u):=by
   intro hcb z hz0 hz h
   obtain⟨s1,h1,h2,h3,h4,_⟩:=Jo (E:=E) (D:=D) (dr:=dr) (n0:=n0) l [] t b i s hl (.inr ⟨cb,hte,hcb⟩) hlt (fun u hu=>by simp[Bn]at hu)
   obtain⟨v,hv,_,h5⟩:=Ah h
   obtain⟨vb,rfl,h9⟩:=Fi h5
   replace h5:=h9
   refine fin s1 vb h1 h2 (fun u hu=>(h4 u hu).1) (fun u hu=>(h4 u hu).2) (hz _ ?_ vb ?_) (by rw[h3];exact h5)
   ·simp only[CP,Ga,KP hkt,(h4 t hlt).1,hte]
   ·cases z with
    | con v=>exact hv
    | tmp u=>
     simp only[C8]at hz0
     simp only[CP,Ga]at hv ⊢
     cases hq:look (ED dr ks s.e) u with
     | none=>rw[hq]at hv;cases hv
     | some u2=>
      rw[hq]at hv
      have hq1:look (ED dr ks s1.e) u=some u2:=by
       cases dr with
       | true=>
        obtain⟨h6,h7⟩:=GX _ _ _ _ hq
        show look (restr ks s1.e) u=_
        rw[Jv h7,(h4 u hz0).1];exact h6
       | false=>
        show look s1.e u=_
        rw[(h4 u hz0).1];exact hq
      rw[hq1];exact hv
  have hpt:∀e,CP e (.tmp t) = .bool true->∀vb,CP e x = .bool vb->BV (.pick (.tmp t) x y) e=some (.bool vb):=by
   intro e h1 vb h2
   simp only[BV,h1,h2,V.live,if_true]
  have hpf:∀e,CP e (.tmp t) = .bool false->∀vb,CP e y = .bool vb->BV (.pick (.tmp t) x y) e=some (.bool vb):=by
   intro e h1 vb h2
   simp only[BV,h1,h2,V.live,if_true]
  unfold Af at h
  cases b with
  | true=>
   simp only at h hother
   cases cb with
   | true=>exact taken rfl x hpt h
   | false=>exact left rfl y hother hpf h
  | false=>
   simp only at h hother
   cases cb with
   | true=>exact left rfl x hother hpt h
   | false=>exact taken rfl y hpf h
end Go.Og
namespace Go.Og
variable {P:Program} {D:Ai} {C:Cx} {R:Cz} {U:H} {w w':World}
theorem HH.put {e:B6} {a:Act} (h:HH R e a.tmps) {dst:Option Nat} (hd:GJ a.tmps.size dst=true) {v:V} {x:Value} (hv:dst=none\/Ao R v=some x):HH R (Cu e dst v) (a.put dst x).tmps:=by
 cases dst with
 | none=>exact h
 | some d=>
  simp only[GJ,Bu]at hd
  refine⟨fun k u hk=>?_⟩
  rw[GY]at hk
  simp only[Act.put,A2]
  by_cases hdk:d=k
  ·rw[if_pos (by rw[hdk])]at hk
   cases hk
   rw[if_pos hdk,if_pos hd]
   exact⟨x,rfl,hv.resolve_left (by simp)⟩
  ·rw[if_neg (by simpa using hdk)]at hk
   rw[if_neg hdk]
   exact h.at_ k u hk
theorem HH.del {e:B6} {a:Act} (h:HH R e a.tmps) (dst:Option Nat) (x:Value):HH R (CE dst e) (a.put dst x).tmps:=by
 refine⟨fun k u hk=>?_⟩
 rw[CI]at hk
 split at hk
 ·cases hk
 ·rename_i hne
  obtain⟨y,h1,h2⟩:=h.at_ k u hk
  refine⟨y,?_,h2⟩
  cases dst with
  | none=>exact h1
  | some d=>
   simp only[Act.put,A2]
   rw[if_neg (by simpa using hne)];exact h1
theorem TM.del {B:Bs} {q:Qs} {a:Act} (h:TM B q a.tmps) (dst:Option Nat) (x:Value):TM B (CE dst q) (a.put dst x).tmps:=by
 refine⟨fun k m off hk=>?_⟩
 rw[CI]at hk
 split at hk
 ·cases hk
 ·rename_i hne
  obtain⟨i,h1,h2⟩:=h.at_ k m off hk
  refine⟨i,h1,?_⟩
  cases dst with
  | none=>exact h2
  | some d=>
   simp only[Act.put,A2]
   rw[if_neg (by simpa using hne)];exact h2
theorem TM.mark {B:Bs} {q:Qs} {a:Act} (h:TM B q a.tmps) {dst:Option Nat} (hd:GJ a.tmps.size dst=true) {m off:Nat} {i:BI} (hB:B m=some i) :
  TM B (QS (CE dst q) dst (m,off)) (a.put dst (.pointer (some ⟨i.blk,i.shift+off,none⟩))).tmps:=by
 refine⟨fun k m' off' hk=>?_⟩
 rw[KR]at hk
 by_cases hdk:dst=some k
 ·rw[if_pos hdk]at hk
  cases hk
  subst hdk
  simp only[GJ,Bu]at hd
  exact⟨i,hB,by simp[Act.put,A2,hd]⟩
 ·rw[if_neg hdk]at hk
  exact(h.del dst _).at_ k m' off' hk
theorem HH.sub {e e':B6} {tmps:Array Value} (h:HH R e tmps) (hs:∀t v,look e' t=some v->look e t=some v):HH R e' tmps:=
 ⟨fun k v hk=>h.at_ k v (hs k v hk)⟩
theorem TM.sub {B:Bs} {q q':Qs} {tmps:Array Value} (h:TM B q tmps) (hs:∀t v,look q' t=some v->look q t=some v):TM B q' tmps:=
 ⟨fun k m off hk=>h.at_ k m off (hs k _ hk)⟩
theorem HH.sel {e:B6} {tmps:Array Value} (h:HH R e tmps) (dr:Bool) (ks:List Nat):HH R (ED dr ks e) tmps:=h.sub fun _ _ hk=>UK hk
theorem TM.sel {B:Bs} {q:Qs} {tmps:Array Value} (h:TM B q tmps) (dr:Bool) (ks:List Nat):TM B (Kd dr ks q) tmps:=h.sub fun t v hk=>by
 cases dr with
 | true=>exact(Gp _ _ _ _ hk).1
 | false=>exact hk
theorem iB {B:Bs} {r:Rg} (hm:TO C R B r U w) {a:Act} (o:Oper) {d:Nat} {el:TypeId} {z:List V} (ho:Ad P C.G o.op = .alloc el z) (K:Act->World->Prop) (Q:Exit->Act->World->Prop)
  (hK:∀i w',TO C R (fun m=>if m=d then some i else B m) ((d,z)::Bg [d] r) U w'->K (a.put o.dst (.pointer (some ⟨i.blk,i.shift+0,none⟩))) w'):o.wp P a w K Q:=by
 obtain⟨hrel,hpriv⟩:=hm
 have hg:=hrel.globOk
 have ha:Cm (Ad P C.G o.op) [] U.next=some (.ptr U.next 0,.cells z):=by rw[ho];rfl
 have he0:B7 R [] a.tmps:=⟨fun k v hk=>by simp[look]at hk⟩
 obtain⟨x,w',i,hrun,hn,hi,hx,hok⟩:=OI (a:=a) (P:=P) he0 hg o ha (hrel.fresh _ (AK _)) w
 have hcp:Ao (IP R U.next i) (.ptr U.next 0)=some (.pointer (some ⟨i.blk,i.shift+0,none⟩)):=DH (CN _ _ _)
 rw[hcp]at hx;cases hx
 unfold Oper.wp;rw[hrun]
 have hle:Le R (IP R U.next i):=(E6 R U.next i).le hrel.fresh
 have hzc:∃zs,A1 R z=some zs:=by
  obtain⟨dst,op,ty,pos,after,guard⟩:=o
  simp only at ho
  cases op<;>simp only[Ad]at ho<;>(try (first | (cases ho;done) | ((repeat' split at ho)<;>(cases ho;done))))
  ·rename_i el'
   split at ho
   ·cases ho
   ·rename_i z' _ hz
    simp only[Eb.alloc.injEq]at ho
    rw[<-ho.2]
    unfold Jg at hz
    split at hz
    ·split at hz
     ·exact⟨_,ZA R hz⟩
     ·cases hz
    ·cases hz
   ·cases ho
  ·rename_i fn _ _;cases fn<;>cases ho
  ·rename_i r;cases r<;>cases ho
  ·rename_i ok;cases ok
   ·cases ho
   ·simp only at ho;split at ho<;>cases ho
  ·rename_i c
   obtain⟨callee,cargs,argTypes⟩:=c
   simp only at ho
   split at ho
   ·unfold Kn at ho;(repeat' split at ho)<;>cases ho
   ·cases ho
   ·cases ho
   ·cases ho
 obtain⟨zs,hzs⟩:=hzc
 have hokR:FB R i (.cells z) w':=by
  obtain⟨arr,el',lo,hi',h1,h2,h3,h4,h5⟩:=hok
  refine⟨arr,el',lo,hi',h1,fun k v hk=>?_,h3,h4,h5⟩
  obtain⟨y,hy,hone,harr⟩:=h2 k v hk
  obtain⟨y2,hy2,_⟩:=EU hzs hk
  have:=Cr hle v y2 hy2
  rw[hy]at this;cases this
  exact⟨_,hy2,hone,harr⟩
 have hO:C.O i.blk:=by rw[hi];exact hrel.new _ hrel.size
 have hrelw:Dt C R U w':=hrel.frame (fun blk hb _=>hn.old blk hb) (by rw[hn.size];omega) hn.os hn.tape hn.output
 refine hK i w' ⟨hrelw,⟨fun m j hm=>?_,fun m m' j j' hm hm' hbl=>?_,fun m j hm k b j' hk hj' hbl=>?_⟩⟩
 ·by_cases hmd:m=d
  ·subst hmd
   rw[if_pos rfl]at hm;cases hm
   exact⟨hO,z,by simp[look],hokR⟩
  ·rw[if_neg hmd]at hm
   obtain⟨hO',l,hl,hok'⟩:=hpriv.at_ m j hm
   refine⟨hO',l,?_,hok'.mono (Le.refl _) (hn.old _ hok'.lt)⟩
   simp only[look,AU]
   rw[if_neg (Ne.symm hmd),CT,if_neg (fun h=>hmd ((Gn d m).1 h).symm)]
   exact hl
 ·by_cases hmd:m=d
  ·by_cases hmd':m'=d
   ·rw[hmd,hmd']
   ·exfalso
    rw[if_pos hmd]at hm;rw[if_neg hmd']at hm';cases hm
    have:=hpriv.lt hm';omega
  ·by_cases hmd':m'=d
   ·exfalso
    rw[if_neg hmd]at hm;rw[if_pos hmd']at hm';cases hm'
    have:=hpriv.lt hm;omega
   ·rw[if_neg hmd]at hm;rw[if_neg hmd']at hm'
    exact hpriv.inj m m' j j' hm hm' hbl
 ·by_cases hmd:m=d
  ·rw[if_pos hmd]at hm;cases hm
   obtain⟨j2,hj2,_,hok2⟩:=hrel.own k b hk
   rw[hj']at hj2;cases hj2
   have:=hok2.lt;omega
  ·rw[if_neg hmd]at hm
   exact hpriv.apart m j hm k b j' hk hj' hbl
def N6 (C:Cx) (nR:Nat) (R0:Cz) (nt:Nat) (s:St) (a:Act) (w:World):Prop:=
 ∃R B,G6 nR R0 R/\nR<=s.U.next/\TO C R B s.r s.U w/\HH R s.e a.tmps/\TM B s.q a.tmps/\nt<=a.tmps.size/\a.defers=[]
theorem TM.pal {B:Bs} {q:Qs} {a:Act} (h:TM B q a.tmps) {d:Nat} (hd:GJ a.tmps.size (some d)=true) (i:BI) :
  TM (fun m=>if m=d then some i else B m) ((d,(d,0))::Jj d (Bg [d] q)) (a.put (some d) (.pointer (some ⟨i.blk,i.shift+0,none⟩))).tmps:=by
 refine⟨fun k m off hk=>?_⟩
 simp only[look,AU]at hk
 simp only[GJ,Bu]at hd
 by_cases hdk:d=k
 ·rw[if_pos hdk]at hk
  cases hk
  exact⟨i,by simp,by simp[Act.put,A2,hdk,hdk ▸ hd]⟩
 ·rw[if_neg hdk]at hk
  obtain⟨h1,h2⟩:=Ju _ _ _ _ hk
  rw[CT]at h2
  split at h2
  ·cases h2
  ·obtain⟨j,h3,h4⟩:=h.at_ k m off h2
   refine⟨j,by rw[if_neg h1];exact h3,?_⟩
   simp only[Act.put,A2]
   rw[if_neg hdk];exact h4
theorem pb (hD:∀f,Ce P C.E C.G f (D f)) {nR:Nat} {R0:Cz} {nt n0:Nat} {ops:Array Oper} {Q:Exit->Act->World->Prop} :
  ∀{i:Nat} {fl:List (BO × List Nat)} {s s':St},P2 C.E D false n0 i fl s s'->∀(l:List Oper) (a:Act) (w:World),l.map (BK P C.G nt ops)=fl.map Prod.fst->N6 C nR R0 nt s a w ->
   (∀a' w',N6 C nR R0 nt s' a' w'->Q .normal a' w')->wpList P ops Q l a w:=by
 intro i fl s s' h
 have good:∀(o:Oper) (l:List Oper) (ao:BO) (fl:List BO),(o::l).map (BK P C.G nt ops)=ao::fl->(∃e,∃(b:Bool),Bq e ao.guard=some b/\(b=true->ao.op ≠ .bad)) ->
   ao.dst=o.dst/\ao.op=Ad P C.G o.op/\GJ nt o.dst=true/\PG ops o.guard=some ao.guard/\l.map (BK P C.G nt ops)=fl:=by
  intro o l ao fl hm ⟨e,b,hw,hb⟩
  simp only[B3,List.cons.injEq]at hm
  obtain⟨h1,h2⟩:=hm
  unfold BK at h1
  split at h1
  ·rename_i g hg hd
   subst h1
   exact⟨rfl,rfl,hd,hg,h2⟩
  ·exfalso
   subst h1
   simp only[Bq,AQ.injEq]at hw
   exact hb hw.symm rfl
 have nostep:∀{pw id nx e q r U out},FG e->¬GD C.E D pw id nx .bad e q r U out:=by
  intro pw id nx e q r U out hlive h
  cases h with
  | p v hc h=>
   have:=h hlive
   cases this
  | l v hc h=>cases hc
  | a v b hc h=>cases hc
  | k v U1 U2 hc h hs=>cases hc
  | mv x m off ho hm=>rcases ho with ho | ho<;>cases ho
  | fa d x m off ho hm=>cases ho
  | ld x m off l v ho hm hl h=>cases ho
  | ldn n x m off l ho hm hl h=>cases ho
  | st n x y m off l cs u hw ho hm hl hn hu hlu hcs h1 hlen h=>cases ho
 induction h with
 | nil i s=>
  intro l a w hl hI hQ
  cases l with
  | nil=>exact hQ a w hI
  | cons o l=>simp at hl
 | shrink i fl s s' e q he hq _ ih=>
  intro l a w hl hI hQ
  obtain⟨R,B,h1,h2,h3,h4,h5,h6,h7⟩:=hI
  exact ih l a w hl ⟨R,B,h1,h2,h3,h4.sub he,h5.sub hq,h6,h7⟩ hQ
 | skip i o ks fl s s' hw _ ih=>
  intro l a w hl hI hQ
  cases l with
  | nil=>simp at hl
  | cons oo l=>
   obtain⟨g1,g2,g3,g4,g5⟩:=good oo l o _ hl ⟨_,false,hw,fun h=>by cases h⟩
   obtain⟨R,B,h1,h2,h3,h4,h5,h6,h7⟩:=hI
   have hdst:=Hj g3 h6
   unfold wpList
   rw[if_neg (by rw[DW (h4.sel false ks).env g4 hw];simp)]
   refine ih l _ w g5 ⟨R,B,h1,h2,h3,?_,?_,by rw[IY];exact h6,by rw[E0];exact h7⟩ hQ
   ·rw[g1];exact h4.put hdst (.inr rfl)
   ·rw[g1];exact h5.del _ _
 | val i o ks fl s s' pw v r' U' hw hs hlv _ _ ih=>
  intro l a w hl hI hQ
  cases l with
  | nil=>simp at hl
  | cons oo l=>
   obtain⟨R,B,h1,h2,h3,h4,h5,h6,h7⟩:=hI
   obtain⟨g1,g2,g3,g4,g5⟩:=good oo l o _ hl ⟨_,true,hw,fun _ hb=>nostep (h4.sel false ks).live (hb ▸ hs)⟩
   have hdst:=Hj g3 h6
   unfold wpList
   rw[if_pos (DW (h4.sel false ks).env g4 hw)]
   left
   rw[g2]at hs
   refine Lw hD h3 (h4.sel false ks) (h5.sel false ks) oo (h3.rel.fresh _ (AK _)) (IK _) (EM _) hs _ Q (fun v2 r2 U2 heq R' w' x hle hk hn hmem hv=>?_) (fun m off heq=>by cases heq)
   cases heq
   have hx:G6 s.U.next R R':=fun k hk1=>hk k hk1 (by intro he;subst he;exact C7 _ hk1)
   refine ih l _ w' g5 ⟨R',B,h1.trans hx h2,Bc h2 hn,hmem,?_,?_,by rw[IY];exact h6,by rw[E0];exact h7⟩ hQ
   ·rw[g1]at hlv ⊢
    refine(h4.mono hle).put hdst ?_
    rcases hv with ⟨rfl,hc⟩|hv
    ·rcases hlv with h|h|h
     ·exact .inl h
     ·cases h
     ·rw[g2]at h;exact(h hc).elim
    ·exact .inr hv
   ·rw[g1];exact h5.del _ _
 | mark i o ks fl s s' pw id nx m off hw hs _ ih=>
  intro l a w hl hI hQ
  cases l with
  | nil=>simp at hl
  | cons oo l=>
   obtain⟨R,B,h1,h2,h3,h4,h5,h6,h7⟩:=hI
   obtain⟨g1,g2,g3,g4,g5⟩:=good oo l o _ hl ⟨_,true,hw,fun _ hb=>nostep (h4.sel false ks).live (hb ▸ hs)⟩
   have hdst:=Hj g3 h6
   unfold wpList
   rw[if_pos (DW (h4.sel false ks).env g4 hw)]
   left
   rw[g2]at hs
   have hs2:GD C.E D pw s.U.next (s.U.next+1) (Ad P C.G oo.op) (ED false ks s.e) (Kd false ks s.q) s.r s.U (.mark m off):=by
    cases hs with
    | mv x m off ho hm=>exact .mv x m off ho hm
    | fa d x m off ho hm=>exact .fa d x m off ho hm
   refine Lw hD h3 (h4.sel false ks) (h5.sel false ks) oo (h3.rel.fresh _ (AK _)) (IK _) (EM _) hs2 _ Q (fun v2 r2 U2 heq=>by cases heq) (fun m2 off2 heq ii hB=>?_)
   cases heq
   refine ih l _ w g5 ⟨R,B,h1,h2,h3,?_,?_,by rw[IY];exact h6,by rw[E0];exact h7⟩ hQ
   ·rw[g1];exact h4.del _ _
   ·rw[g1];exact h5.mark hdst hB
 | pal i o ks fl s s' d el z hd ho hw _ ih=>
  intro l a w hl hI hQ
  cases l with
  | nil=>simp at hl
  | cons oo l=>
   obtain⟨g1,g2,g3,g4,g5⟩:=good oo l o _ hl ⟨_,true,hw,fun _ hb=>by rw[ho]at hb;cases hb⟩
   obtain⟨R,B,h1,h2,h3,h4,h5,h6,h7⟩:=hI
   have hdst:=Hj g3 h6
   unfold wpList
   rw[if_pos (DW (h4.sel false ks).env g4 hw)]
   left
   rw[g2]at ho
   rw[hd]at g1
   refine iB h3 oo (d:=d) ho _ Q (fun ii w' hmem=>?_)
   rw[<-g1]at hdst ⊢
   refine ih l _ w' g5 ⟨R,_,h1,h2,hmem,?_,?_,by rw[IY];exact h6,by rw[E0];exact h7⟩ hQ
   ·exact h4.del (some d) _
   ·exact h5.pal hdst ii
end Go.Og
namespace Go.Og
variable {P:Program} {E:EB} {D:Ai} {C:Cx} {R:Cz} {U:H} {w w':World}
inductive Oc where
 | val (v:V)
 | mark (m off:Nat)
 | pal (d:Nat) (z:List V)
def JN (s2 s1:St):Prop:=(∀t v,look s2.e t=some v->look s1.e t=some v)/\(∀t v,look s2.q t=some v->look s1.q t=some v)/\s2.r=s1.r/\s2.U=s1.U
theorem JN.refl (s:St):JN s s:=⟨fun _ _ h=>h,fun _ _ h=>h,rfl,rfl⟩
inductive At (E:EB) (D:Ai) (s:St) (o:BO) (ks:List Nat):Oc->Bool->St->Prop where
 | skip (s2:St) (hw:Bq (ED true ks s.e) o.guard=some false) (h:JN s2 ⟨Cu s.e o.dst EP,CE o.dst s.q,s.r,s.U⟩):At E D s o ks (.val EP) false s2
 | val (s2:St) (pw:Bool) (v:V) (r':Rg) (U':H) (hw:Bq (ED true ks s.e) o.guard=some true) (hs:GD E D pw s.U.next (s.U.next+1) o.op (ED true ks s.e) (Kd true ks s.q) s.r s.U (.val v r' U'))
   (hl:o.dst=none\/v.live=true\/o.op.cls ≠ .k) (hna:o.op.cls ≠ .a) (h:JN s2 ⟨Cu s.e o.dst v,CE o.dst s.q,r',U'⟩):At E D s o ks (.val v) true s2
 | mark (s2:St) (pw:Bool) (id nx m off:Nat) (hw:Bq (ED true ks s.e) o.guard=some true) (hs:GD E D pw id nx o.op (ED true ks s.e) (Kd true ks s.q) s.r s.U (.mark m off))
   (h:JN s2 ⟨CE o.dst s.e,QS (CE o.dst s.q) o.dst (m,off),s.r,s.U⟩):At E D s o ks (.mark m off) true s2
 | pal (s2:St) (d:Nat) (el:TypeId) (z:List V) (hd:o.dst=some d) (ho:o.op = .alloc el z) (hw:Bq (ED true ks s.e) o.guard=some true)
   (h:JN s2 ⟨Bg [d] s.e,(d,(d,0))::Jj d (Bg [d] s.q),(d,z)::Bg [d] s.r,s.U⟩):At E D s o ks (.pal d z) true s2
theorem cz {n0:Nat}:∀{i:Nat} {fl:List (BO × List Nat)} {s s':St},P2 E D true n0 i fl s s' ->
  ∃(sts:Nat->St) (oc:Nat->Oc) (ex:Nat->Bool),JN (sts 0) s/\s'=sts fl.length/\∀(k:Nat) (o:BO) (ks:List Nat),fl[k]? = some (o,ks)->At E D (sts k) o ks (oc k) (ex k) (sts (k+1)):=by
 intro i fl s s' h
 have cons:∀(s s1:St) (o:BO) (ks:List Nat) (l:List (BO × List Nat)) (c:Oc) (x:Bool),(∀s2,JN s2 s1->At E D s o ks c x s2) ->
   (∃(sts:Nat->St) (oc:Nat->Oc) (ex:Nat->Bool),JN (sts 0) s1/\s'=sts l.length/\∀(k:Nat) (o:BO) (ks:List Nat),l[k]? = some (o,ks)->At E D (sts k) o ks (oc k) (ex k) (sts (k+1))) ->
   ∃(sts:Nat->St) (oc:Nat->Oc) (ex:Nat->Bool),JN (sts 0) s/\s'=sts ((o,ks)::l).length/\∀(k:Nat) (o':BO) (ks':List Nat),((o,ks)::l)[k]? = some (o',ks')->At E D (sts k) o' ks' (oc k) (ex k) (sts (k+1)):=by
  rintro s s1 o ks l c x hat ⟨sts,oc,ex,h1,h2,h3⟩
  refine⟨fun k=>Nat.casesOn k s sts,fun k=>Nat.casesOn k c oc,fun k=>Nat.casesOn k x ex,JN.refl s,h2,fun k o' ks' hk=>?_⟩
  cases k with
  | zero=>
   simp only[QP,AQ.injEq,Prod.mk.injEq]at hk
   obtain⟨rfl,rfl⟩:=hk
   exact hat _ h1
  | succ k=>
   simp only[Bb]at hk
   exact h3 k o' ks' hk
 induction h with
 | nil i s=>exact⟨fun _=>s,fun _ => .val .dead,fun _=>false,JN.refl s,rfl,fun k o ks hk=>by simp at hk⟩
 | skip i o ks l s s' hw _ ih=>exact cons s _ o ks l _ _ (fun s2 hs => .skip s2 hw hs) (ih (cons:=cons))
 | val i o ks l s s' pw v r' U' hw hs hl hna _ ih=>exact cons s _ o ks l _ _ (fun s2 h2 => .val s2 pw v r' U' hw hs hl (hna rfl) h2) (ih (cons:=cons))
 | mark i o ks l s s' pw id nx m off hw hs _ ih=>exact cons s _ o ks l _ _ (fun s2 h2 => .mark s2 pw id nx m off hw hs h2) (ih (cons:=cons))
 | pal i o ks l s s' d el z hd ho hw _ ih=>exact cons s _ o ks l _ _ (fun s2 h2 => .pal s2 d el z hd ho hw h2) (ih (cons:=cons))
 | shrink i l s s' e q he hq _ ih=>
  obtain⟨sts,oc,ex,h1,h2,h3⟩:=ih (cons:=cons)
  exact⟨sts,oc,ex,⟨fun t v hv=>he t v (h1.1 t v hv),fun t v hv=>hq t v (h1.2.1 t v hv),h1.2.2.1,h1.2.2.2⟩,h2,h3⟩
theorem Qc {pw:Bool} {id nx:Nat} {o:Eb} {e:B6} {q:Qs} {r r' rL:Rg} {U':H} {v:V} (h:GD E D pw id nx o e q r U (.val v r' U')) (hr:∀x m off,Fl q x=some (m,off)->look rL m=look r m) :
  ∃rL',GD E D pw id nx o e q rL U (.val v rL' U')/\((r'=r/\rL'=rL)\/∃x m off c l,Fl q x=some (m,off)/\look r m=some l/\r'=Ke r m c/\rL'=Ke rL m c):=by
 cases h with
 | p _ hc h=>exact⟨rL,.p v hc h,.inl ⟨rfl,rfl⟩⟩
 | l _ hc h=>exact⟨rL,.l v hc h,.inl ⟨rfl,rfl⟩⟩
 | a _ b hc h=>exact⟨rL,.a v b hc h,.inl ⟨rfl,rfl⟩⟩
 | k _ U1 _ hc h hs=>exact⟨rL,.k v U1 U' hc h hs,.inl ⟨rfl,rfl⟩⟩
 | ld x m off l _ ho hm hl h=>exact⟨rL,.ld x m off l v ho hm (by rw[hr x m off hm];exact hl) h,.inl ⟨rfl,rfl⟩⟩
 | ldn n x m off l ho hm hl h=>exact⟨rL,.ldn n x m off l ho hm (by rw[hr x m off hm];exact hl) h,.inl ⟨rfl,rfl⟩⟩
 | st n x y m off l cs u hw ho hm hl hn hu hlu hcs h1 hlen h=>exact⟨_,.st n x y m off l cs u hw ho hm (by rw[hr x m off hm];exact hl) hn hu hlu hcs h1 hlen h,.inr ⟨x,m,off,_,l,hm,hl,rfl,rfl⟩⟩
theorem OZ {pw:Bool} {id nx:Nat} {o:Eb} {e:B6} {q:Qs} {r r':Rg} {U':H} {v:V} (h:GD E D pw id nx o e q r U (.val v r' U')) (hk:o.cls ≠ .k) (ha:o.cls ≠ .a):r'=r/\U'=U:=by
 cases h with
 | p _ hc h=>exact⟨rfl,rfl⟩
 | l _ hc h=>exact⟨rfl,rfl⟩
 | a _ b hc h=>exact(ha hc).elim
 | k _ U1 _ hc h hs=>exact(hk hc).elim
 | ld x m off l _ ho hm hl h=>exact⟨rfl,rfl⟩
 | ldn n x m off l ho hm hl h=>exact⟨rfl,rfl⟩
 | st n x y m off l cs u hw ho hm hl hn hu hlu hcs h1 hlen h=>exact(hk (by rw[ho];rfl)).elim
theorem iK {pw:Bool} {id nx id' nx':Nat} {o:Eb} {e:B6} {q:Qs} {r rL:Rg} {U UL:H} {m off:Nat} (h:GD E D pw id nx o e q r U (.mark m off)):GD E D pw id' nx' o e q rL UL (.mark m off):=by
 cases h with
 | mv x _ _ ho hm=>exact .mv x m off ho hm
 | fa d x _ off ho hm=>exact .fa d x m off ho hm
theorem dK {pw:Bool} {id nx:Nat} {o:Eb} {e:B6} {q:Qs} {r:Rg} {m off:Nat} (h:GD E D pw id nx o e q r U (.mark m off)):∃x off',Fl q x=some (m,off'):=by
 cases h with
 | mv x _ _ ho hm=>exact⟨x,off,hm⟩
 | fa d x _ off ho hm=>exact⟨x,off,hm⟩
theorem Ie:∀(l:XL) (g:Option (Nat × Bool)),l.makes=false->∀o∈l.flat g,∀d,o.op.cls = .a->o.dst=some d->Bn l.pals d=true
 | .nil,g,h,o,ho,d,hc,hd=>by simp[XL.flat]at ho
 | .op dd ty ks op r,g,h,o,ho,d,hc,hd=>by
  obtain⟨h1,h2⟩:=Yj h
  simp only[XL.flat,Ax]at ho
  rcases ho with rfl|ho
  ·exact(h1 hc).elim
  ·exact Ie r g h2 o ho d hc hd
 | .pal dd ks el z r,g,h,o,ho,d,hc,hd=>by
  simp only[XL.flat,Ax]at ho
  simp only[XL.pals]
  rw[DF]
  rcases ho with rfl|ho
  ·left;simpa using hd
  ·right;exact Ie r g h o ho d hc hd
 | .grp t b l dd ks c x y r,g,h,o,ho,d,hc,hd=>by
  obtain⟨h1,h2⟩:=Wm h
  simp only[XL.flat,EA,Ax]at ho
  simp only[XL.pals]
  rw[Fk]
  rcases ho with ho|rfl|ho
  ·left;exact Ie l _ h1 o ho d hc hd
  ·cases hc
  ·right;exact Ie r g h2 o ho d hc hd
theorem LN {q:Qs}:∀{l:List Nat},On q l=true->∀d,Bn l d=true->∀t off,look q t≠some (d,off)
 | [],_,d,hd=>by simp[Bn]at hd
 | a::l,h,d,hd=>by
  simp only[On,AG]at h
  intro t off hl
  rcases(DF a l d).1 hd with rfl|hd
  ·have hm:IE a q=[]:=by simpa using h.1
   have:=Iz (m:=a) (q:=q) (t:=t) (p:=(a,off)) (by rw[hm];rfl) hl
   exact this rfl
  ·exact LN h.2 d hd t off hl
end Go.Og
