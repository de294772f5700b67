/- What the last text leans on, part 2 of 7: merged out of smaller texts. No condition. -/
import Derived.Orders
import Derived.Test.YtoengnbdallegaaGreatDoorQ0
open Int renaming ofNat -> AA,tmod -> E3,natCast_nonneg -> Po,natCast_pow -> iD,fdiv_eq_ediv_of_nonneg -> wu
open Nat renaming le_refl -> AL,beq_eq -> AS,beq -> AW,ble -> Ag,add -> Ap,lt_or_ge -> A6,ble_eq -> BF,le_trans -> BP,zero_add -> BZ,mod_eq_of_lt -> Bp,blt_eq -> Cj,blt -> DA,lt_irrefl -> DM,min -> Ds,le_succ -> EI,lt_of_lt_of_le -> Ga,zero_le -> HE,sub_self -> HF,lt_succ_self -> IT,strongRecOn -> OH,testBit_or -> Sw,lt_succ_of_lt -> Sx,mul -> Xz,pow_le_pow_right -> ZB,lt_trichotomy -> AEi
open Bool renaming and_eq_true -> AJ,or_eq_false_iff -> BJ,or_eq_true -> BN,not_true -> Bt,not_eq_true' -> Cr,false_or -> DN,true_and -> Eu,eq_iff_iff -> G5,eq_false_iff -> HJ,false_and -> wx
open Option renaming some -> AM,map_eq_some_iff -> Ar
open List renaming replicate -> AY,mem_cons -> Ae,getElem?_eq_getElem -> Af,mem_cons_self -> Av,length_cons -> Ay,all_cons -> Bj,getElem?_eq_none -> Bl,getD_eq_getElem?_getD -> B7,getElem?_map -> B9,getElem?_cons_succ -> CA,append_nil -> CF,map_cons -> CP,drop_zero -> Ca,getElem?_drop -> Cc,nil_append -> Ch,mem_cons_of_mem -> Cu,range -> Cz,all_eq_true -> D3,cons_append -> Ef,append_assoc -> FE,drop_drop -> IV,countP_cons_of_pos -> IW,getElem?_take -> JN,mem_append -> Ja,getElem?_cons_zero -> Pu,countP_cons_of_neg -> Pv,mem_range -> Sz,eq_nil_iff_forall_not_mem -> V3,take_zero -> wk
open Array renaming getElem?_setIfInBounds -> A1,getElem?_eq_none -> B5,getElem?_eq_getElem -> CH,getElem?_toList -> C7,size_setIfInBounds -> Dk,getD_eq_getD_getElem? -> D5,replicate -> G6,getElem?_replicate -> AIx
open BitVec renaming ofInt -> BA
set_option linter.unusedSimpArgs false
namespace Go.Og
variable {P:Program} {G:Nat->Bool} {E:EB} {D:Ak} {C:Cx}
theorem NX {α:Type} (l m:List (Nat × α)) (id:Nat):look (l++m) id=match look l id with
  | some b=>some b
  | none=>look m id:=by
 induction l with
 | nil=>rfl
 | cons p l ih=>
  obtain⟨k,b⟩:=p
  by_cases h:k=id
  ·simp[look,h]
  ·simp only[Ef,look,AS,h,if_false,ih]
theorem KW {n0 n id:Nat} {p:Nat->Bool}:(Ag n0 id&&DA id (n0+n) && !p (id-n0))=true↔(n0<=id/\id<n0+n/\p (id-n0)=false):=by
 simp only[AJ,BF,Cj,Cr,and_assoc]
theorem Dx (n0 n:Nat) (p:Nat->Bool) (l:EB) (id:Nat) :
  look (Cv n0 n p l) id=if n0<=id/\id<n0+n/\p (id-n0)=false then none else look l id:=by
 induction l with
 | nil=>simp[Cv,look]
 | cons q l ih=>
  obtain⟨k,b⟩:=q
  unfold Cv
  by_cases hk:n0<=k/\k<n0+n/\p (k-n0)=false
  ·rw[if_pos (KW.2 hk),ih]
   by_cases h:k=id
   ·subst h;rw[if_pos hk,if_pos hk]
   ·simp only[look,AS,h,if_false]
  ·rw[if_neg (fun hh=>hk (KW.1 hh))]
   by_cases h:k=id
   ·subst h;rw[if_neg hk];simp[look]
   ·simp only[look,AS,h,if_false,ih]
theorem Od (n0 n:Nat) (p:Nat->Bool) (l:EB) (id:Nat) :
  look (Ev n0 n p l) id=if n0<=id/\id<n0+n/\p (id-n0)=false then look l id else none:=by
 induction l with
 | nil=>simp[Ev,look]
 | cons q l ih=>
  obtain⟨k,b⟩:=q
  unfold Ev
  by_cases hk:n0<=k/\k<n0+n/\p (k-n0)=false
  ·rw[if_pos (KW.2 hk)]
   by_cases h:k=id
   ·subst h;rw[if_pos hk];simp[look]
   ·simp only[look,AS,h,if_false,ih]
  ·rw[if_neg (fun hh=>hk (KW.1 hh)),ih]
   by_cases h:k=id
   ·subst h;rw[if_neg hk,if_neg hk]
   ·simp only[look,AS,h,if_false]
theorem Jr {n0 n:Nat} {p q:Nat->Bool} (h:∀k,k<n->p k=q k):∀l,Cv n0 n p l=Cv n0 n q l
 | []=>rfl
 | (id,b)::l=>by
  unfold Cv
  rw[Jr h l]
  by_cases hk:n0<=id/\id<n0+n
  ·rw[h (id-n0) (by omega)]
  ·have:(Ag n0 id&&DA id (n0+n))=false:=by
    cases hb:(Ag n0 id&&DA id (n0+n))with
    | false=>rfl
    | true=>simp only[AJ,BF,Cj]at hb;exact(hk hb).elim
   rw[this];simp
theorem NY {n0 n:Nat} {p q:Nat->Bool} (h:∀k,k<n->p k=q k):∀l,Ev n0 n p l=Ev n0 n q l
 | []=>rfl
 | (id,b)::l=>by
  unfold Ev
  rw[NY h l]
  by_cases hk:n0<=id/\id<n0+n
  ·rw[h (id-n0) (by omega)]
  ·have:(Ag n0 id&&DA id (n0+n))=false:=by
    cases hb:(Ag n0 id&&DA id (n0+n))with
    | false=>rfl
    | true=>simp only[AJ,BF,Cj]at hb;exact(hk hb).elim
   rw[this];simp
mutual
theorem Mz:∀(a b:V),V.beq a b=true->a=b
 | .dead,b,h=>by cases b<;>simp[V.beq]at h
 | .bool a,b,h=>by cases b<;>simp[V.beq]at h;subst h;rfl
 | .int k a,b,h=>by cases b<;>simp[V.beq]at h;obtain⟨rfl,rfl⟩:=h;rfl
 | .str a,b,h=>by cases b<;>simp[V.beq]at h;subst h;rfl
 | .nilp,b,h=>by cases b<;>simp[V.beq]at h;rfl
 | .ptr _ _,b,h=>by cases b<;>simp[V.beq]at h;obtain⟨rfl,rfl⟩:=h;rfl
 | .nils,b,h=>by cases b<;>simp[V.beq]at h;rfl
 | .sl _ _ _ _,b,h=>by cases b<;>simp[V.beq]at h;obtain⟨⟨⟨rfl,rfl⟩,rfl⟩,rfl⟩:=h;rfl
 | .sle _ _ _ _,b,h=>by cases b<;>simp[V.beq]at h;obtain⟨⟨⟨rfl,rfl⟩,rfl⟩,rfl⟩:=h;rfl
 | .nilm,b,h=>by cases b<;>simp[V.beq]at h;rfl
 | .mp _,b,h=>by cases b<;>simp[V.beq]at h;subst h;rfl
 | .fn f x y,b,h=>by
  cases b with
  | fn g u v=>
   simp only[V.beq,AJ,AS]at h
   obtain⟨⟨rfl,h1⟩,h2⟩:=h
   rw[Kc x u h1,Kc y v h2]
  | _=>simp[V.beq]at h
 | .nilf,b,h=>by cases b<;>simp[V.beq]at h;rfl
 | .ifc t x,b,h=>by
  cases b with
  | ifc u y=>
   simp only[V.beq,AJ,AS]at h
   obtain⟨rfl,h1⟩:=h
   rw[Mz x y h1]
  | _=>simp[V.beq]at h
 | .nili,b,h=>by cases b<;>simp[V.beq]at h;rfl
 | .agg l,b,h=>by
  cases b with
  | agg m=>simp only[V.beq]at h;rw[Kc l m h]
  | _=>simp[V.beq]at h
 | .tup l,b,h=>by
  cases b with
  | tup m=>simp only[V.beq]at h;rw[Kc l m h]
  | _=>simp[V.beq]at h
theorem Kc:∀(l m:List V),JY l m=true->l=m
 | [],m,h=>by cases m<;>simp[JY]at h;rfl
 | a::l,m,h=>by
  cases m with
  | nil=>simp[JY]at h
  | cons b m=>
   simp only[JY,AJ]at h
   rw[Mz a b h.1,Kc l m h.2]
end
def Cx.sub (C:Cx) (R:Ren) (Zs:H) (w:World):Cx:=
 { C with O:=fun blk=>w.heap.size<=blk\/∃id b j,look Zs.bl id=some b/\R id=some j/\j.blk=blk,w0:=w }
theorem ly {R:Ren} {Z Zs:H} {w:World} (h:De C R Z w) (hsub:∀id b,look Zs.bl id=some b->look Z.bl id=some b) {blk:Nat} (hO:(C.sub R Zs w).O blk):C.O blk:=by
 rcases hO with hge|⟨id,b,j,hb,hj,rfl⟩
 ·exact h.new _ (BP h.size hge)
 ·obtain⟨j',hj',hO',_⟩:=h.own id b (hsub id b hb)
  rw[hj]at hj';cases hj';exact hO'
theorem De.shrink {R:Ren} {Z Zs:H} {w:World} (h:De C R Z w) (hn:Zs.next=Z.next) (hsub:∀id b,look Zs.bl id=some b->look Z.bl id=some b):De (C.sub R Zs w) R Zs w where
 fresh id hid:=h.fresh id (hn ▸ hid)
 own id b hb:=by
  obtain⟨j,hj,_,hok⟩:=h.own id b (hsub id b hb)
  exact⟨j,hj,.inr ⟨id,b,j,hb,hj,rfl⟩,hok⟩
 inj id id' b b' i i' hb hb' hi hi' hbl:=h.inj id id' b b' i i' (hsub _ _ hb) (hsub _ _ hb') hi hi' hbl
 ext id b hb:=by
  obtain⟨j,hj,hno,hok⟩:=h.ext id b hb
  exact⟨j,hj,fun hO=>hno (ly h hsub hO),hok⟩
 glob:=h.glob
 fr _ _:=rfl
 size:=AL _
 new _ hblk := .inl hblk
 os:=rfl
 tape:=rfl
 output:=rfl
theorem De.regrow {R R':Ren} {Z Zs Z' Z2:H} {w w':World} (h:De C R Z w) (hsub:∀id b,look Zs.bl id=some b->look Z.bl id=some b)
  (hs:De (C.sub R Zs w) R' Z' w') (hx:Gp Z.next R R') (h2:Z2.next=Z'.next)
  (hl:∀id b,look Z2.bl id=some b->look Z'.bl id=some b\/(look Z.bl id=some b/\look Zs.bl id=none)):De C R' Z2 w':=by
 have hle:Le R R':=hx.le h.fresh
 have hOO:∀blk,(C.sub R Zs w).O blk->C.O blk:=fun blk hO=>ly h hsub hO
 have hno:∀id b j,look Z.bl id=some b->look Zs.bl id=none->R id=some j->¬(C.sub R Zs w).O j.blk:=by
  intro id b j hb hnone hj hO
  rcases hO with hge|⟨id2,b2,j2,hb2,hj2,hbl⟩
  ·obtain⟨j',hj',_,hok⟩:=h.own id b hb
   rw[hj]at hj';cases hj'
   have:=hok.lt
   omega
  ·have:=h.inj id2 id b2 b j2 j (hsub _ _ hb2) hb hj2 hj hbl
   subst this
   rw[hnone]at hb2;cases hb2
 have hR:∀id b,look Z.bl id=some b->R' id=R id:=fun id b hb=>hx id (h.next_of_own hb)
 refine⟨fun id hid=>hs.fresh id (h2 ▸ hid),?_,?_,?_,?_,?_,?_,h.new,hs.os.trans h.os,hs.tape.trans h.tape,hs.output.trans h.output⟩
 ·intro id b hb
  rcases hl id b hb with h1|⟨h1,h1n⟩
  ·obtain⟨j,hj,hO,hok⟩:=hs.own id b h1
   exact⟨j,hj,hOO _ hO,hok⟩
  ·obtain⟨j,hj,hO,hok⟩:=h.own id b h1
   exact⟨j,by rw[hR id b h1];exact hj,hO,hok.mono hle (hs.fr _ (hno id b j h1 h1n hj))⟩
 ·intro id id' b b' i i' hb hb' hi hi' hbl
  rcases hl id b hb with h1|⟨h1,h1n⟩
  ·rcases hl id' b' hb' with h1'|⟨h1',h1n'⟩
   ·exact hs.inj id id' b b' i i' h1 h1' hi hi' hbl
   ·exfalso
    obtain⟨j,hj,hO,_⟩:=hs.own id b h1
    rw[hi]at hj;cases hj
    rw[hR id' b' h1']at hi'
    exact hno id' b' i' h1' h1n' hi' (hbl ▸ hO)
  ·rcases hl id' b' hb' with h1'|⟨h1',h1n'⟩
   ·exfalso
    obtain⟨j,hj,hO,_⟩:=hs.own id' b' h1'
    rw[hi']at hj;cases hj
    rw[hR id b h1]at hi
    exact hno id b i h1 h1n hi (hbl ▸ hO)
   ·rw[hR id b h1]at hi;rw[hR id' b' h1']at hi'
    exact h.inj id id' b b' i i' h1 h1' hi hi' hbl
 ·intro id b hb
  obtain⟨j,hj,hn,hok⟩:=h.ext id b hb
  exact⟨j,hle _ _ hj,hn,hok.mono hle (hs.fr _ fun hO=>hn (hOO _ hO))⟩
 ·intro g hg
  obtain⟨j,hj,hb⟩:=h.glob g hg
  exact⟨j,hle _ _ hj,hb⟩
 ·intro blk hn
  rw[<-h.fr blk hn]
  exact hs.fr blk fun hO=>hn (hOO _ hO)
 ·exact BP h.size hs.size
theorem De.allocAt {R:Ren} {Z Z2:H} {w w':World} (h:De C R Z w) {id:Nat} (hid:R id=none) (hlt:id<Z.next) (hn:Ex w w') (b:FX) (i:BI) (hi:i.blk=w.heap.size)
  (hb:Ew (IY R id i) i b w') (h2:Z2.next=Z.next) (hl:∀k,look Z2.bl k=if k=id then some b else look Z.bl k):De C (IY R id i) Z2 w':=by
 have hle:Le R (IY R id i):=fun k j hk=>by
  by_cases he:k=id
  ·subst he;rw[hid]at hk;cases hk
  ·rw[Bn he];exact hk
 have hold:=hn.old
 have hO:C.O w.heap.size:=h.new _ h.size
 refine⟨?_,?_,?_,?_,?_,?_,?_,h.new,hn.os.trans h.os,hn.tape.trans h.tape,hn.output.trans h.output⟩
 ·intro k hk
  rw[Bn (by omega)];exact h.fresh k (by omega)
 ·intro k c hc
  rw[hl]at hc
  by_cases he:k=id
  ·subst he
   rw[if_pos rfl]at hc;cases hc
   exact⟨i,CC _ _ _,hi ▸ hO,hb⟩
  ·rw[if_neg he]at hc
   obtain⟨j,hj,hOj,hok⟩:=h.own k c hc
   exact⟨j,by rw[Bn he];exact hj,hOj,hok.mono hle (hold _ hok.lt)⟩
 ·intro k k' c c' j j' hc hc' hj hj' hbl
  rw[hl]at hc hc'
  by_cases he:k=id
  ·by_cases he':k'=id
   ·rw[he,he']
   ·exfalso
    subst he
    rw[CC]at hj;cases hj
    rw[if_neg he']at hc'
    rw[Bn he']at hj'
    obtain⟨q,hq,_,hok⟩:=h.own k' c' hc'
    rw[hq]at hj';cases hj'
    have:=hok.lt
    omega
  ·by_cases he':k'=id
   ·exfalso
    subst he'
    rw[CC]at hj';cases hj'
    rw[if_neg he]at hc
    rw[Bn he]at hj
    obtain⟨q,hq,_,hok⟩:=h.own k c hc
    rw[hq]at hj;cases hj
    have:=hok.lt
    omega
   ·rw[if_neg he]at hc;rw[if_neg he']at hc'
    rw[Bn he]at hj;rw[Bn he']at hj'
    exact h.inj k k' c c' j j' hc hc' hj hj' hbl
 ·intro k c hc
  obtain⟨j,hj,hno,hok⟩:=h.ext k c hc
  refine⟨j,hle _ _ hj,hno,hok.mono hle (hold _ ?_)⟩
  rcases A6 j.blk w.heap.size with hl|hl
  ·exact hl
  ·exact absurd (h.new _ (BP h.size hl)) hno
 ·intro g hg
  obtain⟨j,hj,hb⟩:=h.glob g hg
  exact⟨j,hle _ _ hj,hb⟩
 ·intro blk hno
  rw[<-h.fr blk hno]
  refine hold _ ?_
  rcases A6 blk w.heap.size with hl|hl
  ·exact hl
  ·exact absurd (h.new _ (BP h.size hl)) hno
 ·rw[hn.size];have:=h.size;omega
theorem De.congr {R:Ren} {Z Z2:H} {w:World} (h:De C R Z w) (hn:∀id,Z2.next<=id->R id=none) (hl:∀k b,look Z2.bl k=some b->look Z.bl k=some b):De C R Z2 w:=
 ⟨hn,fun k c hk=>h.own k c (hl k c hk),fun k k' c c' i i' hk hk'=>h.inj k k' c c' i i' (hl k c hk) (hl k' c' hk'),h.ext,h.glob,h.fr,h.size,h.new,h.os,h.tape,h.output⟩
theorem WJ {R:Ren} {Z Zs:H} {w:World} (h:De C R Z w) (hsub:∀id b,look Zs.bl id=some b->look Z.bl id=some b) {id:Nat} {l:List V} (hr:rd C.E Zs id=some l):rd C.E Z id=some l:=by
 unfold rd at hr ⊢
 cases hs:look Zs.bl id with
 | some b=>rw[hs]at hr;rw[hsub id b hs];exact hr
 | none=>
  rw[hs]at hr
  cases he:look C.E id with
  | none=>rw[he]at hr;cases hr
  | some b=>
   rw[he]at hr
   cases ho:look Z.bl id with
   | none=>exact hr
   | some c=>
    exfalso
    obtain⟨j,hj,hO,_⟩:=h.own id c ho
    obtain⟨j',hj',hno,_⟩:=h.ext id b he
    rw[hj]at hj';cases hj'
    exact hno hO
theorem TD {R:Ren} {Z Zs:H} {w:World} (h:De C R Z w) (hsub:∀id b,look Zs.bl id=some b->look Z.bl id=some b) {id off n:Nat} {l:List V} (hr:Kh C.E Zs id off n=some l):Kh C.E Z id off n=some l:=by
 unfold Kh at hr ⊢
 cases hs:rd C.E Zs id with
 | none=>rw[hs]at hr;cases hr
 | some m=>rw[hs]at hr;rw[WJ h hsub hs];exact hr
theorem ZT {R:Ren} {Z Zs:H} {w:World} (h:De C R Z w) (hsub:∀id b,look Zs.bl id=some b->look Z.bl id=some b) {esz:Nat} {x:V} {q:Nat × List V} (hr:CQ C.E Zs esz x=some q):CQ C.E Z esz x=some q:=by
 unfold CQ at hr ⊢
 split at hr
 ·exact hr
 ·exact hr
 ·simp only[Ar]at hr ⊢
  obtain⟨m,hm,rfl⟩:=hr
  exact⟨m,TD h hsub hm,rfl⟩
 ·exact hr
 ·cases hr
theorem Yr {R:Ren} {Z Zs:H} {w:World} (h:De C R Z w) (hsub:∀id b,look Zs.bl id=some b->look Z.bl id=some b) {op:EH} {e:Bz} {v:V} (hr:CX C.E op e Zs=some v):CX C.E op e Z=some v:=by
 unfold CX at hr ⊢
 split at hr
 ·split at hr
  ·split at hr
   ·rename_i hq;rw[WJ h hsub hq];exact hr
   ·cases hr
  ·cases hr
 ·split at hr
  ·split at hr
   ·rename_i hq;rw[TD h hsub hq];exact hr
   ·cases hr
  ·cases hr
 ·split at hr
  ·cases hr
  ·rename_i hns
   rw[if_neg hns]
   split at hr
   ·rename_i hq;rw[ZT h hsub hq];exact hr
   ·cases hr
 ·unfold L8 at hr ⊢
  split at hr
  ·split at hr
   ·rename_i hq;rw[hsub _ _ hq];exact hr
   ·cases hr
  ·cases hr
 ·unfold OD at hr ⊢
  split at hr
  ·split at hr
   ·rename_i hq;rw[hsub _ _ hq];exact hr
   ·cases hr
  ·cases hr
 ·cases hr
end Go.Og
namespace Go.Og
variable {P:Program} {G:Nat->Bool} {E:EB} {D:Ak} {C:Cx}
theorem HB:∀{n:Nat} {p:Nat->Bool},VI n p=true->∀k,k<n->p k=true
 | n+1,p,h,k,hk=>by
  simp only[VI,AJ]at h
  by_cases he:k=n
  ·subst he;exact h.1
  ·exact HB h.2 k (by omega)
structure Qw (ops:Array Oper) (l:List BM) (pl:List DP):Prop where
 len:pl.length=ops.size
 llen:l.length=ops.size
 edges:∀(i:Nat) (o:Oper),ops[i]? = some o->∀e∈o.after,Region.binds .any e=true->e.on<i
 anc:∀(i:Nat) (o:Oper) (p:DP),ops[i]? = some o->pl[i]? = some p->∀k,k<ops.size->p.anc.testBit k=true->∃e∈o.after,Region.binds .any e=true/\(e.on=k\/(Gk pl e.on).testBit k=true)
 dsts:∀(i k:Nat) (o o':Oper) (p p':DP),i≠k->ops[i]? = some o->ops[k]? = some o'->pl[i]? = some p->pl[k]? = some p'->∀(t:Nat),o.dst=some t ->
  o'.dst≠some t/\(Bg p'.looks t=true->p'.anc.testBit i=true\/p.anc.testBit k=true)
 kk:∀(i k:Nat) (ao ao':BM) (p':DP),i<k->l[i]? = some ao->l[k]? = some ao'->pl[k]? = some p'->ao.op.cls = .k->ao'.op.cls = .k->p'.anc.testBit i=true
theorem QD {ops:Array Oper} {l:List BM} {pl:List DP} (hl:l.length=ops.size) (h:OY ops l pl=true):Qw ops l pl:=by
 unfold OY at h
 simp only[AJ,AS]at h
 obtain⟨hlen,h⟩:=h
 have hlt:∀{i:Nat} {o:Oper},ops[i]? = some o->i<ops.size:=fun {i o} ho=>by
  rcases A6 i ops.size with h|h
  ·exact h
  ·rw[B5 h]at ho;cases ho
 have hmain:=HB h
 have hl_lt:∀{i:Nat} {o:BM},l[i]? = some o->i<ops.size:=fun {i o} ho=>by
  rcases A6 i l.length with h|h
  ·omega
  ·rw[Bl h]at ho;cases ho
 have some3:∀i,i<ops.size->∃o ao p,ops[i]? = some o/\l[i]? = some ao/\pl[i]? = some p:=fun i hi=>
  ⟨_,_,_,CH hi,Af (by omega),Af (by omega)⟩
 refine⟨hlen,hl,?_,?_,?_,?_⟩
 ·intro i o ho e he hb
  obtain⟨o1,ao,p,h1,h2,h3⟩:=some3 i (hlt ho)
  have hm:=hmain i (hlt ho)
  rw[h1,h2,h3]at hm
  rw[ho]at h1;cases h1
  simp only[AJ]at hm
  have:=D3.1 hm.1 e (by simpa using he)
  simp only[hb,Bt,DN,Cj]at this
  exact this
 ·intro i o p ho hp k hk hbit
  obtain⟨o1,ao,p1,h1,h2,h3⟩:=some3 i (hlt ho)
  have hm:=hmain i (hlt ho)
  rw[h1,h2,h3]at hm
  rw[ho]at h1;cases h1
  rw[hp]at h3;cases h3
  simp only[AJ]at hm
  have hk2:=HB hm.2 k hk
  simp only[AJ]at hk2
  have:=hk2.1
  rw[hbit]at this
  simp only[Bt,DN,List.any_eq_true,AJ,BN,AS]at this
  obtain⟨e,he,hb,hr⟩:=this
  exact⟨e,by simpa using he,hb,hr⟩
 ·intro i k o o' p p' hne ho ho' hp hp' t ht
  obtain⟨o1,ao,p1,h1,h2,h3⟩:=some3 i (hlt ho)
  obtain⟨o2,ao2,p2,h1',h2',h3'⟩:=some3 k (hlt ho')
  have hm:=hmain i (hlt ho)
  rw[h1,h2,h3]at hm
  rw[ho]at h1;cases h1
  rw[hp]at h3;cases h3
  rw[ho']at h1';cases h1'
  rw[hp']at h3';cases h3'
  simp only[AJ]at hm
  have hk2:=HB hm.2 k (hlt ho')
  have hik:AW i k=false:=HJ.2 (by rw[ne_eq,AS];exact hne)
  simp only[AJ,hik,DN]at hk2
  have:=hk2.2
  rw[ho',h2',hp']at this
  simp only[ht,AJ]at this
  obtain⟨⟨h4,h5⟩,_⟩:=this
  constructor
  ·intro heq
   rw[heq]at h4
   simp at h4
  ·intro hmem
   rw[hmem]at h5
   simpa using h5
 ·intro i k ao ao' p' hik ha ha' hp' hc hc'
  obtain⟨o1,ao1,p1,h1,h2,h3⟩:=some3 i (hl_lt ha)
  obtain⟨o2,ao2,p2,h1',h2',h3'⟩:=some3 k (hl_lt ha')
  have hm:=hmain i (hl_lt ha)
  rw[h1,h2,h3]at hm
  rw[ha]at h2;cases h2
  rw[ha']at h2';cases h2'
  rw[hp']at h3';cases h3'
  simp only[AJ]at hm
  have hk2:=HB hm.2 k (hl_lt ha')
  have hne:AW i k=false:=HJ.2 (by rw[ne_eq,AS];omega)
  simp only[AJ,hne,DN]at hk2
  have:=hk2.2
  rw[h1',ha',hp']at this
  simp only[AJ,hc,hc']at this
  have:=this.2
  have hb:DA i k=true:=by simpa using hik
  rw[hb]at this
  simpa using this
theorem Qw.ancLt {ops:Array Oper} {l:List BM} {pl:List DP} (h:Qw ops l pl):∀(i:Nat) (p:DP),pl[i]? = some p->∀(k:Nat),k<ops.size->p.anc.testBit k=true->k<i:=by
 intro i
 induction i using OH with
 | _ i ih=>
  intro p hp k hk hb
  have hi:i<ops.size:=by
   rcases A6 i pl.length with h1|h1
   ·have:=h.len;omega
   ·rw[Bl h1]at hp;cases hp
  obtain⟨e,he,hbe,hr⟩:=h.anc i ops[i] p (CH hi) hp k hk hb
  have hlt:=h.edges i ops[i] (CH hi) e he hbe
  rcases hr with rfl|hr
  ·exact hlt
  ·have hel:e.on<pl.length:=by have:=h.len;omega
   have hp':pl[e.on]? = some pl[e.on]:=Af hel
   have:(pl[e.on]).anc.testBit k=true:=by
    simpa[Gk,B7,hp']using hr
   have:=ih e.on hlt _ hp' k hk this
   omega
structure Tr (E:EB) (D:Ak) (l:List BM) (pl:List DP) (n0 n:Nat) (e0:Bz) (h0:EB) (i:Nat) (s:DS) where
 vals:Nat->V
 envs:Nat->Bz
 Hh:Nat->EB
 nx:Nat->Nat
 ks:Nat->Nat
 M:Nat
 ssl:s.ss.length=M+1
 ssg:∀(m:Nat),m<=M->s.ss[M-m]? = some (Hh m)
 ksl:s.ks.length=M
 ksg:∀(r:Nat),r<M->s.ks[M-1-r]? = some (ks r)
 ke:s.e=envs i
 ez:envs 0=e0
 es:∀(k:Nat),k<i->∀(o:BM),l[k]? = some o->envs (k+1)=Cb (envs k) o.dst (vals k)
 nx0:nx 0=n0+n
 nxs:s.nx=nx M
 hz:∀id,¬(n0<=id/\id<n0+n)->look (Hh 0) id=look h0 id
 ops:∀(k:Nat),k<i->∀(o:BM) (p:DP),l[k]? = some o->pl[k]? = some p ->
  (Bf (restr p.looks (envs k)) o.guard=some false/\vals k=Dh/\s.am.testBit k=false/\∀r,r<M->ks r≠k) \/
  (Bf (restr p.looks (envs k)) o.guard=some true /\
   ((o.op.cls = .p/\BT o.op (restr p.looks (envs k))=some (vals k)/\s.am.testBit k=false/\∀r,r<M->ks r≠k) \/
    (o.op.cls = .l/\(k,o.op,restr p.looks (envs k),vals k)∈s.ls/\s.am.testBit k=false/\∀r,r<M->ks r≠k) \/
    (o.op.cls = .a/\s.am.testBit k=true/\(∀r,r<M->ks r≠k)/\∃b,CW o.op (restr p.looks (envs k)) (n0+k)=some (vals k,b) /\
     ∀m,m<=M->(∀r,r<m->(Gk pl (ks r)).testBit k=false)->look (Hh m) (n0+k)=some b) \/
    (o.op.cls = .k/\s.am.testBit k=false/\∃r,r<M/\ks r=k)))
 amlt:∀k,s.am.testBit k=true->k<i
 kst:∀r,r<M->ks r<i/\∃(o:BM) (p:DP) (Z':H),l[ks r]? = some o/\pl[ks r]? = some p/\o.op.cls = .k/\Bf (restr p.looks (envs (ks r))) o.guard=some true /\
  Dp E D o.op (restr p.looks (envs (ks r))) ⟨nx r,Cv n0 n (Dc p.anc s.am) (Hh r)⟩=some (vals (ks r),Z') /\
  Hh (r+1)=Ev n0 n (Dc p.anc s.am) (Hh r)++Z'.bl/\nx (r+1)=Z'.next
 kinc:∀r r',r<r'->r'<M->ks r<ks r'
theorem HU {a i k:Nat}:(a ||| 2 ^ i).testBit k=(a.testBit k || decide (i=k)):=by
 rw[Sw,Nat.testBit_two_pow]
theorem Tr.start (E : EB) (D : Ak) (l : List BM) (pl : List DP) (n0 n : Nat) (e0 : Bz) (h0 : EB) : Nonempty (Tr E D l pl n0 n e0 h0 0 ⟨e0, n0 + n, [h0], [], 0, []⟩) :=
  ⟨{ vals := fun _ => .dead, envs := fun _ => e0, Hh := fun _ => h0, nx := fun _ => n0 + n, ks := fun _ => 0, M := 0,
     ssl := rfl, ssg := fun m hm => by have : m = 0 := by omega
                                       subst this; rfl
     ksl := rfl, ksg := fun r hr => by omega
     ke := rfl, ez := rfl, es := fun k hk => by omega
     nx0 := rfl, nxs := rfl, hz := fun _ _ => rfl
     ops := fun k hk => by omega
     amlt := fun k hk => by simp at hk
     kst := fun r hr => by omega
     kinc := fun r r' h h' => by omega }⟩
def P1 {α:Type} (f:Nat->α) (i:Nat) (v:α) (k:Nat):α:=if k=i then v else f k
theorem CS {α:Type} (f:Nat->α) (i:Nat) (v:α):P1 f i v i=v:=if_pos rfl
theorem I5 {α:Type} (f:Nat->α) {i k:Nat} (v:α) (h:k≠i):P1 f i v k=f k:=if_neg h
theorem Tr.quiet {l:List BM} {pl:List DP} {n0 n:Nat} {e0:Bz} {h0:EB} {i:Nat} {s:DS} (T:Tr E D l pl n0 n e0 h0 i s) {o:BM} {p:DP} (ho:l[i]? = some o) (hp:pl[i]? = some p) (v:V) (ls:List (Nat × EH × Bz × V))
    (hls:∀x,x∈s.ls->x∈ls)
    (hcase:(Bf (restr p.looks s.e) o.guard=some false/\v=Dh)\/(Bf (restr p.looks s.e) o.guard=some true /\
      ((o.op.cls = .p/\BT o.op (restr p.looks s.e)=some v)\/(o.op.cls = .l/\(i,o.op,restr p.looks s.e,v)∈ls)))) :
    Nonempty (Tr E D l pl n0 n e0 h0 (i+1) { s with e:=Cb s.e o.dst v,ls:=ls }):=by
  obtain⟨vals,envs,Hh,nx,ks,M,ssl,ssg,ksl,ksg,ke,ez,es,nx0,nxs,hz,ops,amlt,kst,kinc⟩:=T
  have hne:∀r,r<M->ks r≠i:=fun r hr=>by have:=(kst r hr).1;omega
  have ham:s.am.testBit i=false:=by
    cases hb:s.am.testBit i with
    | false=>rfl
    | true=>have:=amlt i hb;omega
  have hval:∀k,k<i->P1 vals i v k=vals k:=fun k hk=>I5 _ _ (by omega)
  have henv:∀k,k<i+1->P1 envs (i+1) (Cb s.e o.dst v) k=envs k:=fun k hk=>I5 _ _ (by omega)
  refine⟨{ vals:=P1 vals i v,envs:=P1 envs (i+1) (Cb s.e o.dst v),Hh:=Hh,nx:=nx,ks:=ks,M:=M,
            ssl:=ssl,ssg:=ssg,ksl:=ksl,ksg:=ksg,ke:=(CS _ _ _).symm,ez:=by rw[henv 0 (by omega)];exact ez,es:=?_,nx0:=nx0,nxs:=nxs,hz:=hz,ops:=?_,amlt:=fun k hk=>Sx (amlt k hk),kst:=?_,kinc:=kinc }⟩
  · intro k hk o' ho'
    by_cases he:k=i
    · subst he
      rw[ho]at ho';cases ho'
      rw[CS,CS,henv k (by omega),ke]
    · rw[henv k (by omega),hval k (by omega),henv (k+1) (by omega)]
      exact es k (by omega) o' ho'
  · intro k hk o' p' ho' hp'
    by_cases he:k=i
    · subst he
      rw[ho]at ho';cases ho'
      rw[hp]at hp';cases hp'
      rw[henv k (by omega),<-ke,CS]
      rcases hcase with ⟨h1,h2⟩|⟨h1,h2⟩
      · exact .inl ⟨h1,h2,ham,hne⟩
      · refine .inr ⟨h1,?_⟩
        rcases h2 with ⟨h2,h3⟩|⟨h2,h3⟩
        · exact .inl ⟨h2,h3,ham,hne⟩
        · exact .inr (.inl ⟨h2,h3,ham,hne⟩)
    · rw[henv k (by omega),hval k (by omega)]
      rcases ops k (by omega) o' p' ho' hp' with h1|⟨h1,h2|⟨h2,h3,h4⟩|h2|h2⟩
      · exact .inl h1
      · exact .inr ⟨h1,.inl h2⟩
      · exact .inr ⟨h1,.inr (.inl ⟨h2,hls _ h3,h4⟩)⟩
      · exact .inr ⟨h1,.inr (.inr (.inl h2))⟩
      · exact .inr ⟨h1,.inr (.inr (.inr h2))⟩
  · intro r hr
    obtain⟨h1,o',p',Z',h2,h3,h4,h5,h6,h7,h8⟩:=kst r hr
    refine⟨by omega,o',p',Z',h2,h3,h4,?_,?_,h7,h8⟩
    · rw[henv _ (by omega)];exact h5
    · rw[henv _ (by omega),hval _ h1];exact h6
end Go.Og
namespace Go.Og
variable {P:Program} {G:Nat->Bool} {E:EB} {D:Ak} {C:Cx}
theorem Iu {pl:List DP} {i:Nat} {p:DP} (h:pl[i]? = some p):Gk pl i=p.anc:=by simp[Gk,B7,h]
theorem Tr.make {ops' : Array Oper} {l : List BM} {pl : List DP} (F : Qw ops' l pl) {n0 n : Nat} (hn : n = ops'.size) {e0 : Bz} {h0 : EB} {i : Nat} {s : DS} (T : Tr E D l pl n0 n e0 h0 i s) {o : BM} {p : DP}
    (ho : l[i]? = some o) (hp : pl[i]? = some p) (v : V) (b : FX) (hw : Bf (restr p.looks s.e) o.guard = some true) (hc : o.op.cls = .a) (ha : CW o.op (restr p.looks s.e) (n0 + i) = some (v, b)) :
    Nonempty (Tr E D l pl n0 n e0 h0 (i + 1) { s with e := Cb s.e o.dst v, ss := s.ss.map ((n0 + i, b) :: ·), am := s.am ||| 2 ^ i }) := by
  obtain ⟨vals, envs, Hh, nx, ks, M, ssl, ssg, ksl, ksg, ke, ez, es, nx0, nxs, hz, ops, amlt, kst, kinc⟩ := T
  have hin : i < n := by
    rcases A6 i l.length with h | h
    · have := F.llen; omega
    · rw [Bl h] at ho; cases ho
  have hne : ∀ r, r < M → ks r ≠ i := fun r hr => by have := (kst r hr).1; omega
  have hval : ∀ k, k < i → P1 vals i v k = vals k := fun k hk => I5 _ _ (by omega)
  have henv : ∀ k, k < i + 1 → P1 envs (i + 1) (Cb s.e o.dst v) k = envs k := fun k hk => I5 _ _ (by omega)
  have hlk : ∀ m k, k ≠ i → look ((n0 + i, b) :: Hh m) (n0 + k) = look (Hh m) (n0 + k) := fun m k hk => by
    simp only [look, AS]
    rw [if_neg (by omega)]
  have ham : ∀ k, k ≠ i → (s.am ||| 2 ^ i).testBit k = s.am.testBit k := fun k hk => by
    rw [HU]; simp [Ne.symm hk]
  refine ⟨{ vals := P1 vals i v, envs := P1 envs (i + 1) (Cb s.e o.dst v), Hh := fun m => (n0 + i, b) :: Hh m, nx := nx, ks := ks, M := M,
            ssl := by simp [ssl], ssg := fun m hm => by rw [B9, ssg m hm]; rfl
            ksl := ksl, ksg := ksg, ke := (CS _ _ _).symm, ez := by rw [henv 0 (by omega)]; exact ez, es := ?_, nx0 := nx0, nxs := nxs, hz := ?_, ops := ?_, amlt := ?_, kst := ?_, kinc := kinc }⟩
  · intro k hk o' ho'
    by_cases he : k = i
    · subst he
      rw [ho] at ho'; cases ho'
      rw [CS, CS, henv k (by omega), ke]
    · rw [henv k (by omega), hval k (by omega), henv (k + 1) (by omega)]
      exact es k (by omega) o' ho'
  · intro id hid
    simp only [look, AS]
    rw [if_neg (by omega)]
    exact hz id hid
  · intro k hk o' p' ho' hp'
    by_cases he : k = i
    · subst he
      rw [ho] at ho'; cases ho'
      rw [hp] at hp'; cases hp'
      rw [henv k (by omega), ← ke, CS]
      refine .inr ⟨hw, .inr (.inr (.inl ⟨hc, by rw [HU]; simp, hne, b, ha, fun m _ _ => by simp [look]⟩))⟩
    · rw [henv k (by omega), hval k (by omega)]
      simp only [ham k he]
      rcases ops k (by omega) o' p' ho' hp' with h1 | ⟨h1, h2 | h2 | ⟨h2, h3, h4, b', h5, h6⟩ | h2⟩
      · exact .inl h1
      · exact .inr ⟨h1, .inl h2⟩
      · exact .inr ⟨h1, .inr (.inl h2)⟩
      · exact .inr ⟨h1, .inr (.inr (.inl ⟨h2, h3, h4, b', h5, fun m hm hr => by rw [hlk m k he]; exact h6 m hm hr⟩))⟩
      · exact .inr ⟨h1, .inr (.inr (.inr h2))⟩
  · intro k hk
    rw [HU] at hk
    simp only [BN, decide_eq_true_eq] at hk
    rcases hk with hk | hk
    · have := amlt k hk; omega
    · omega
  · intro r hr
    obtain ⟨h1, o', p', Z', h2, h3, h4, h5, h6, h7, h8⟩ := kst r hr
    have hanc : p'.anc.testBit i = false := by
      cases hb : p'.anc.testBit i with
      | false => rfl
      | true => have := F.ancLt _ p' h3 i (by omega) hb; omega
    have hcong : ∀ k, k < n → Dc p'.anc (s.am ||| 2 ^ i) k = Dc p'.anc s.am k := fun k _ => by
      unfold Dc
      by_cases he : k = i
      · subst he; rw [hanc]; simp
      · rw [ham k he]
    have hvi : Dc p'.anc (s.am ||| 2 ^ i) (n0 + i - n0) = false := by
      rw [show n0 + i - n0 = i by omega]; unfold Dc; rw [hanc]; rfl
    have hhide : Cv n0 n (Dc p'.anc (s.am ||| 2 ^ i)) ((n0 + i, b) :: Hh r) = Cv n0 n (Dc p'.anc s.am) (Hh r) := by
      rw [Cv, if_pos (KW.2 ⟨by omega, by omega, hvi⟩)]
      exact Jr hcong _
    have hkeep : Ev n0 n (Dc p'.anc (s.am ||| 2 ^ i)) ((n0 + i, b) :: Hh r) = (n0 + i, b) :: Ev n0 n (Dc p'.anc s.am) (Hh r) := by
      rw [Ev, if_pos (KW.2 ⟨by omega, by omega, hvi⟩)]
      rw [NY hcong]
    refine ⟨by omega, o', p', Z', h2, h3, h4, ?_, ?_, ?_, h8⟩
    · rw [henv _ (by omega)]; exact h5
    · rw [henv _ (by omega), hval _ h1, hhide]; exact h6
    · rw [hkeep, h7]; rfl
theorem Tr.writes {ops':Array Oper} {l:List BM} {pl:List DP} (F:Qw ops' l pl) {n0 n:Nat} (hn:n=ops'.size) {e0:Bz} {h0:EB} {i:Nat} {s:DS} (T:Tr E D l pl n0 n e0 h0 i s) {o:BM} {p:DP}
    (ho:l[i]? = some o) (hp:pl[i]? = some p) (v:V) (Z':H) {h:EB} {ss':List (EB)} (hss:s.ss=h::ss') (hw:Bf (restr p.looks s.e) o.guard=some true) (hc:o.op.cls = .k)
    (hd:Dp E D o.op (restr p.looks s.e) ⟨s.nx,Cv n0 n (Dc p.anc s.am) h⟩=some (v,Z')) :
    Nonempty (Tr E D l pl n0 n e0 h0 (i+1) { s with e:=Cb s.e o.dst v,nx:=Z'.next,ss:=(Ev n0 n (Dc p.anc s.am) h++Z'.bl)::s.ss,ks:=i::s.ks }):=by
  obtain⟨vals,envs,Hh,nx,ks,M,ssl,ssg,ksl,ksg,ke,ez,es,nx0,nxs,hz,ops,amlt,kst,kinc⟩:=T
  have hin:i<n:=by
    rcases A6 i l.length with h|h
    · have:=F.llen;omega
    · rw[Bl h]at ho;cases ho
  have hne:∀r,r<M->ks r≠i:=fun r hr=>by have:=(kst r hr).1;omega
  have hhead:h=Hh M:=by
    have:=ssg M (AL _)
    rw[HF,hss]at this
    simpa using this
  have ham:s.am.testBit i=false:=by
    cases hb:s.am.testBit i with
    | false=>rfl
    | true=>have:=amlt i hb;omega
  have hval:∀k,k<i->P1 vals i v k=vals k:=fun k hk=>I5 _ _ (by omega)
  have henv:∀k,k<i+1->P1 envs (i+1) (Cb s.e o.dst v) k=envs k:=fun k hk=>I5 _ _ (by omega)
  have hH:∀m,m<=M->P1 Hh (M+1) (Ev n0 n (Dc p.anc s.am) h++Z'.bl) m=Hh m:=fun m hm=>I5 _ _ (by omega)
  have hnx:∀m,m<=M->P1 nx (M+1) Z'.next m=nx m:=fun m hm=>I5 _ _ (by omega)
  have hks:∀r,r<M->P1 ks M i r=ks r:=fun r hr=>I5 _ _ (by omega)
  refine⟨{ vals:=P1 vals i v,envs:=P1 envs (i+1) (Cb s.e o.dst v),Hh:=P1 Hh (M+1) (Ev n0 n (Dc p.anc s.am) h++Z'.bl),nx:=P1 nx (M+1) Z'.next,ks:=P1 ks M i,M:=M+1,
            ssl:=by simp[ssl],ssg:=?_,ksl:=by simp[ksl],ksg:=?_,ke:=(CS _ _ _).symm,ez:=by rw[henv 0 (by omega)];exact ez,es:=?_,nx0:=by rw[hnx 0 (by omega)];exact nx0,
            nxs:=(CS _ _ _).symm,hz:=fun id hid=>by rw[hH 0 (by omega)];exact hz id hid,ops:=?_,amlt:=fun k hk=>Sx (amlt k hk),kst:=?_,kinc:=?_ }⟩
  · intro m hm
    by_cases he:m=M+1
    · subst he;rw[HF,CS];rfl
    · rw[hH m (by omega),show M+1-m=(M-m)+1 by omega,CA]
      exact ssg m (by omega)
  · intro r hr
    by_cases he:r=M
    · subst he;rw[CS,show r+1-1-r=0 by omega];rfl
    · rw[hks r (by omega),show M+1-1-r=(M-1-r)+1 by omega,CA]
      exact ksg r (by omega)
  · intro k hk o' ho'
    by_cases he:k=i
    · subst he
      rw[ho]at ho';cases ho'
      rw[CS,CS,henv k (by omega),ke]
    · rw[henv k (by omega),hval k (by omega),henv (k+1) (by omega)]
      exact es k (by omega) o' ho'
  · intro k hk o' p' ho' hp'
    by_cases he:k=i
    · subst he
      rw[ho]at ho';cases ho'
      rw[hp]at hp';cases hp'
      rw[henv k (by omega),<-ke,CS]
      exact .inr ⟨hw,.inr (.inr (.inr ⟨hc,ham,M,by omega,CS _ _ _⟩))⟩
    · rw[henv k (by omega),hval k (by omega)]
      have hnk:(∀r,r<M->ks r≠k)->∀r,r<M+1->P1 ks M i r≠k:=fun hh r hr=>by
        by_cases hrm:r=M
        · subst hrm;rw[CS];omega
        · rw[hks r (by omega)];exact hh r (by omega)
      rcases ops k (by omega) o' p' ho' hp' with ⟨h1,h2,h3,h4⟩|⟨h1,⟨h2,h3,h4,h5⟩|⟨h2,h3,h4,h5⟩|⟨h2,h3,h4,b',h5,h6⟩|⟨h2,h3,r,h4,h5⟩⟩
      · exact .inl ⟨h1,h2,h3,hnk h4⟩
      · exact .inr ⟨h1,.inl ⟨h2,h3,h4,hnk h5⟩⟩
      · exact .inr ⟨h1,.inr (.inl ⟨h2,h3,h4,hnk h5⟩)⟩
      · refine .inr ⟨h1,.inr (.inr (.inl ⟨h2,h3,hnk h4,b',h5,fun m hm hr=>?_⟩))⟩
        by_cases hmm:m=M+1
        · subst hmm
          rw[CS,NX,Od,hhead]
          have hanc:p.anc.testBit k=false:=by
            have:=hr M (by omega)
            rw[CS,Iu hp]at this
            exact this
          have hv:Dc p.anc s.am (n0+k-n0)=false:=by
            rw[show n0+k-n0=k by omega];unfold Dc;rw[hanc];rfl
          rw[if_pos ⟨by omega,by omega,hv⟩]
          have:=h6 M (AL _) (fun r hrM=>by have:=hr r (by omega);rw[hks r hrM]at this;exact this)
          rw[this]
        · rw[hH m (by omega)]
          exact h6 m (by omega) (fun r hrm=>by have:=hr r hrm;rw[hks r (by omega)]at this;exact this)
      · exact .inr ⟨h1,.inr (.inr (.inr ⟨h2,h3,r,by omega,by rw[hks r h4];exact h5⟩))⟩
  · intro r hr
    by_cases he:r=M
    · subst he
      rw[CS]
      refine⟨by omega,o,p,Z',ho,hp,hc,?_,?_,?_,?_⟩
      · rw[henv i (by omega),<-ke];exact hw
      · rw[henv i (by omega),<-ke,CS,hnx r (by omega),hH r (by omega),<-hhead,<-nxs];exact hd
      · rw[CS,hH r (by omega),hhead]
      · rw[CS]
    · obtain⟨h1,o',p',Z2,h2,h3,h4,h5,h6,h7,h8⟩:=kst r (by omega)
      rw[hks r (by omega)]
      refine⟨by omega,o',p',Z2,h2,h3,h4,?_,?_,?_,?_⟩
      · rw[henv _ (by omega)];exact h5
      · rw[henv _ (by omega),hval _ h1,hnx r (by omega),hH r (by omega)];exact h6
      · rw[hH (r+1) (by omega),hH r (by omega)];exact h7
      · rw[hnx (r+1) (by omega)];exact h8
  · intro r r' hrr hr'
    by_cases he:r'=M
    · subst he
      rw[CS,hks r (by omega)]
      exact(kst r (by omega)).1
    · rw[hks r' (by omega),hks r (by omega)]
      exact kinc r r' hrr (by omega)
theorem QO {ops':Array Oper} {l:List BM} {pl:List DP} (F:Qw ops' l pl) {n0 n:Nat} (hn:n=ops'.size) {e0:Bz} {h0:EB} :
  ∀(rest:List BM) (prest:List DP) (i:Nat) (s s':DS),l.drop i=rest->pl.drop i=prest->Nonempty (Tr E D l pl n0 n e0 h0 i s)->CM E D n0 n i rest prest s=some s' ->
   Nonempty (Tr E D l pl n0 n e0 h0 (i+rest.length) s')
 | [],prest,i,s,s',hl,hp,hT,h=>by
  cases prest<;>(simp only[CM,AM.injEq]at h;subst h;exact hT)
 | o::rest,[],i,s,s',hl,hp,hT,h=>by simp only[CM]at h;cases h
 | o::rest,p::prest,i,s,s',hl,hp,hT,h=>by
  have ho:l[i]? = some o:=by
   have:=congrArg (·[0]?) hl
   simpa[Cc]using this
  have hpp:pl[i]? = some p:=by
   have:=congrArg (·[0]?) hp
   simpa[Cc]using this
  have hl':l.drop (i+1)=rest:=by rw[<-IV,hl];rfl
  have hp':pl.drop (i+1)=prest:=by rw[<-IV,hp];rfl
  simp only[CM]at h
  cases hs:Dn E D n0 n i o p s with
  | none=>rw[hs]at h;cases h
  | some s1=>
   rw[hs]at h
   obtain⟨T⟩:=hT
   have hT1:Nonempty (Tr E D l pl n0 n e0 h0 (i+1) s1):=by
    unfold Dn at hs
    split at hs
    ·cases hs
    ·rename_i hw;cases hs
     exact T.quiet ho hpp Dh s.ls (fun _ h=>h) (.inl ⟨hw,rfl⟩)
    ·rename_i hw
     split at hs
     ·rename_i hc
      split at hs
      ·cases hs
      ·rename_i v hv;cases hs
       exact T.quiet ho hpp v s.ls (fun _ h=>h) (.inr ⟨hw,.inl ⟨hc,hv⟩⟩)
     ·rename_i hc
      split at hs
      ·cases hs
      ·split at hs
       ·cases hs
       ·rename_i v hv;cases hs
        exact T.quiet ho hpp v _ (fun _ h=>Cu _ h) (.inr ⟨hw,.inr ⟨hc,Av⟩⟩)
     ·rename_i hc
      split at hs
      ·cases hs
      ·rename_i v b hv;cases hs
       exact T.make F hn ho hpp v b hw hc hv
     ·rename_i hc
      split at hs
      ·cases hs
      ·rename_i hh hss
       split at hs
       ·cases hs
       ·rename_i v Z' hv;cases hs
        exact T.writes F hn ho hpp v Z' hss hw hc hv
   have:=QO F hn rest prest (i+1) s1 s' hl' hp' hT1 h
   rwa [show i+(o::rest).length=i+1+rest.length by simp;omega]
end Go.Og
namespace Go.Og
variable {P:Program} {G:Nat->Bool} {E:EB} {D:Ak} {C:Cx}
theorem QR {n0 n:Nat} {pl:List DP} {am j:Nat} {op:EH} {em:Bz} {v:V}:∀(ss:List (EB)) (ks more:List Nat),FI E n0 n pl am j op em v ss ks more=true->ss.length=ks.length+1 ->
  ∀(q:Nat) (h:EB),ss[q]? = some h->Of pl j (ks.drop q) ((ks.take q).reverse++more)=true->CX E op em ⟨0,Cv n0 n (Dc (Gk pl j) am) h⟩=some v
 | [],ks,more,_,hl,q,h,hq,_=>by simp at hq
 | h'::ss,ks,more,hc,hl,0,h,hq,hleg=>by
  simp only[Pu,AM.injEq]at hq
  subst hq
  simp only[Ca,wk,List.reverse_nil,Ch]at hleg
  simp only[FI,hleg,Bt,DN,AJ]at hc
  have:=hc.1
  unfold Gk
  split at this
  ·rename_i u hu
   rw[hu,Mz _ _ this]
  ·cases this
 | h'::ss,[],more,hc,hl,q+1,h,hq,hleg=>by
  simp at hl
  subst hl
  simp at hq
 | h'::ss,k::ks,more,hc,hl,q+1,h,hq,hleg=>by
  simp only[FI,AJ]at hc
  refine QR ss ks (k::more) hc.2 (by simpa using hl) q h (by simpa using hq) ?_
  simp only[List.drop_succ_cons,List.take_succ_cons,List.reverse_cons,FE,List.singleton_append]at hleg
  exact hleg
theorem DW {listed:Array Bool} {k n:Nat} (hs:listed.size=n) (hk:k<n):listed.getD k true=listed.getD k false:=by
 have h:k<listed.size:=by omega
 simp[Array.getD,h]
theorem If {listed:Array Bool} {i k:Nat} (hi:i<listed.size):(listed.setIfInBounds i true).getD k false=(decide (k=i) || listed.getD k false):=by
 simp only[D5,A1]
 by_cases h:i=k
 ·subst h;simp[hi]
 ·rw[if_neg h];simp[Ne.symm h]
theorem U9 {p q:Nat->Bool} (h:∀k,p k=true->q k=true) {i:Nat} (hq:q i=true) (hp:p i=false):∀(l:List Nat),i∈l->l.countP p<l.countP q
 | [],hm=>by cases hm
 | x::l,hm=>by
  have hmono:∀l:List Nat,l.countP p<=l.countP q:=fun l=>List.countP_mono_left fun x _ hx=>h x hx
  rcases Ae.1 hm with rfl|hm
  ·rw[IW hq,Pv (by simp[hp])]
   have:=hmono l;omega
  ·have ih:=U9 h hq hp l hm
   by_cases hx:p x=true
   ·rw[IW hx,IW (h x hx)];omega
   ·rw[Pv hx]
    by_cases hqx:q x=true
    ·rw[IW hqx];omega
    ·rw[Pv hqx];exact ih
set_option maxHeartbeats 1000000 in
theorem Tk (hD:∀f,CN P E G f (D f)) (hmix:P.follows .mixedOrders=true):PK P E G (AT E D):=by
  intro C hE hG nt id ops e0 Z0 e' Z' hplan hW R0 a0 w00 Q hrel0 he0 hnt0 hd0 hQ
  subst hE hG
  generalize hl:ops.toList.map (BE P C.G nt ops)=l at hplan hW
  generalize hpl:GL ops=pl at hplan hW
  have hlen:l.length=ops.size:=by rw[<-hl];simp
  have F:=QD hlen hplan
  unfold AT at hW
  have hn:l.length=ops.size:=hlen
  generalize hnn:l.length=n at hW
  have hnops:n=ops.size:=by omega
  cases hds:CM C.E D Z0.next n 0 l pl ⟨e0,Z0.next+n,[Z0.bl],[],0,[]⟩with
  | none=>rw[hds]at hW;cases hW
  | some s=>
    rw[hds]at hW
    simp only at hW
    split at hW
    case isFalse=>cases hW
    rename_i hchk
    obtain⟨T⟩:=QO F hnops l pl 0 _ s rfl rfl (Tr.start C.E D l pl Z0.next n e0 Z0.bl) hds
    rw[BZ,hnn]at T
    obtain⟨vals,envs,Hh,nx,ks,M,ssl,ssg,ksl,ksg,ke,ez,es,nx0,nxs,hz,hops,amlt,kst,kinc⟩:=T
    have hans:e'=envs n/\Z'=⟨nx M,Cv Z0.next n (fun k=>s.am.testBit k) (Hh M)⟩:=by
      have hh:=ssg M (AL _)
      rw[HF]at hh
      split at hW
      · rename_i h ss' hss
        rw[hss]at hh
        simp only[Pu,AM.injEq]at hh
        cases hW
        exact⟨ke,by rw[nxs,hh]⟩
      · cases hW
    obtain⟨rfl,rfl⟩:=hans
    clear hW hds
    have some3:∀i,i<n->∃o p,ops[i]? = some o/\l[i]? = some (BE P C.G nt ops o)/\pl[i]? = some p:=fun i hi=>by
      have h1:i<ops.size:=by omega
      refine⟨ops[i],pl[i]'(by have:=F.len;omega),CH h1,?_,Af _⟩
      rw[<-hl,B9,C7,CH h1];rfl
    have hdlt:∀(i:Nat) (o:Oper) (t:Nat),i<n->ops[i]? = some o->o.dst=some t->t<nt:=by
      intro i o t hin ho ht
      obtain⟨o2,p,ho2,hlo,hp⟩:=some3 i hin
      rw[ho]at ho2;cases ho2
      cases hdo:GG nt o.dst with
      | true=>rw[ht]at hdo;simpa[GG]using hdo
      | false=>
        exfalso
        have hco:BE P C.G nt ops o=⟨o.dst,.bad,none⟩:=by
          unfold BE
          rw[hdo]
          split
          · rename_i h;cases h
          · rfl
        have:=hops i hin _ p hlo hp
        rw[hco]at this
        simp[Bf,EH.cls,BT]at this
    have hload:∀j op em v,(j,op,em,v)∈s.ls->∀m,m<=M->(∀r,m<=r->r<M->(Gk pl j).testBit (ks r)=false)->(∀r,r<m->(Gk pl (ks r)).testBit j=false) ->
        CX C.E op em ⟨0,Cv Z0.next n (Dc (Gk pl j) s.am) (Hh m)⟩=some v:=by
      intro j op em v hmem m hm h1 h2
      have hc:=D3.1 hchk _ hmem
      refine QR s.ss s.ks [] hc (by omega) (M-m) (Hh m) (ssg m hm) ?_
      unfold Of
      simp only[CF,AJ,D3,Cr,List.mem_reverse]
      constructor
      · intro x hx
        obtain⟨q,hq⟩:=List.mem_iff_getElem?.1 hx
        rw[JN]at hq
        split at hq
        · rename_i hqm
          have:=ksg (M-1-q) (by omega)
          rw[show M-1-(M-1-q)=q by omega,hq]at this
          cases this
          exact h1 _ (by omega) (by omega)
        · cases hq
      · intro x hx
        obtain⟨q,hq⟩:=List.mem_iff_getElem?.1 hx
        rw[Cc]at hq
        have hql:M-m+q<s.ks.length:=by
          rcases A6 (M-m+q) s.ks.length with h|h
          · exact h
          · rw[Bl h]at hq;cases hq
        have:=ksg (M-1-(M-m+q)) (by omega)
        rw[show M-1-(M-1-(M-m+q))=M-m+q by omega,hq]at this
        cases this
        exact h2 _ (by omega)
    let Lf:Array Bool->Nat->Bool:=fun listed k=>listed.getD k false
    let vis:Array Bool->Nat->Bool:=fun listed k=>listed.getD k false&&s.am.testBit k
    let Inv:Array Bool->Act->World->Prop:=fun listed a w=>
      listed.size=n/\(∀i o,listed.getD i false=true->ops[i]? = some o->∀ed∈o.after,Region.binds .any ed=true->listed.getD ed.on false=true)/\a.defers=[] /\
      ∃R m,m<=M/\(∀r,r<M->(listed.getD (ks r) false=true↔r<m))/\Gp Z0.next R0 R/\Z0.next+n<=nx m/\De C R ⟨nx m,Cv Z0.next n (vis listed) (Hh m)⟩ w /\
        (∀k,k<n->listed.getD k false=false->R (Z0.next+k)=none)/\nt<=a.tmps.size /\
        (∀i o t,listed.getD i false=true->ops[i]? = some o->o.dst=some t->t<a.tmps.size->vals i = .dead\/∃x,a.tmps[t]? = some x/\Ao R (vals i)=some x) /\
        (∀t v,look e0 t=some v->(∀i o,listed.getD i false=true->ops[i]? = some o->o.dst≠some t)->v = .dead\/∃x,a.tmps[t]? = some x/\Ao R v=some x)
    have hanc:∀(listed:Array Bool),(∀i o,listed.getD i false=true->ops[i]? = some o->∀ed∈o.after,Region.binds .any ed=true->listed.getD ed.on false=true) ->
        ∀(i:Nat) (o:Oper) (p:DP),ops[i]? = some o->pl[i]? = some p->(∀ed∈o.after,Region.binds .any ed=true->listed.getD ed.on false=true)->∀(k:Nat),k<n->p.anc.testBit k=true->listed.getD k false=true:=by
      intro listed hcl i
      induction i using OH with
      | _ i ih=>
        intro o p ho hp hed k hk hb
        obtain⟨ed,hem,hbe,hr⟩:=F.anc i o p ho hp k (by omega) hb
        have hlt:=F.edges i o ho ed hem hbe
        have hli:=hed ed hem hbe
        rcases hr with rfl|hr
        · exact hli
        · have hin:i<n:=by
            rcases A6 i ops.size with h|h
            · omega
            · rw[B5 h]at ho;cases ho
          obtain⟨o2,p2,h1,_,h3⟩:=some3 ed.on (by omega)
          exact ih ed.on hlt o2 p2 h1 h3 (fun ed2 hm2 hb2=>hcl ed.on o2 hli h1 ed2 hm2 hb2) k hk (by rw[<-Iu h3];exact hr)
    have hready_nil:∀listed:Array Bool,listed.size=n->Region.ready .any ops listed=[]->∀k,k<n->listed.getD k false=true:=by
      intro listed hsz hr k
      induction k using OH with
      | _ k ih=>
        intro hk
        cases hb:listed.getD k false with
        | true=>rfl
        | false=>
          exfalso
          obtain⟨o,p,h1,_,_⟩:=some3 k hk
          have:k∈Region.ready .any ops listed:=mem_ready.2 ⟨by rw[DW hsz hk];exact hb,o,h1,fun ed hm hbd=>ih ed.on (F.edges k o h1 ed hm hbd) (by have:=F.edges k o h1 ed hm hbd;omega)⟩
          rw[hr]at this;cases this
    have henv:∀(listed:Array Bool) (a:Act) (R:Ren),
        (∀i o,listed.getD i false=true->ops[i]? = some o->∀ed∈o.after,Region.binds .any ed=true->listed.getD ed.on false=true) ->
        nt<=a.tmps.size ->
        (∀i o t,listed.getD i false=true->ops[i]? = some o->o.dst=some t->t<a.tmps.size->vals i = .dead\/∃x,a.tmps[t]? = some x/\Ao R (vals i)=some x) ->
        (∀t v,look e0 t=some v->(∀i o,listed.getD i false=true->ops[i]? = some o->o.dst≠some t)->v = .dead\/∃x,a.tmps[t]? = some x/\Ao R v=some x) ->
        ∀(j:Nat) (o:Oper) (p:DP),j<=n->(j=n->∀k,k<n->listed.getD k false=true) ->
          (j<n->ops[j]? = some o/\pl[j]? = some p/\listed.getD j false=false/\(∀ed∈o.after,Region.binds .any ed=true->listed.getD ed.on false=true)) ->
          ∀(t:Nat) (v:V),look (envs j) t=some v->(j<n->Bg p.looks t=true)->v = .dead\/∃x,a.tmps[t]? = some x/\Ao R v=some x:=by
      intro listed a R hcl hsz hw hu j o p hj hall hrd
      have hshape:∀j,j<=n->∀t v,look (envs j) t=some v ->
          (∃k o',k<j/\ops[k]? = some o'/\o'.dst=some t/\v=vals k)\/(look e0 t=some v/\∀k o',k<j->ops[k]? = some o'->o'.dst≠some t):=by
        intro j
        induction j with
        | zero=>intro _;rw[ez];exact fun t v hv => .inr ⟨hv,fun k o' hk=>by omega⟩
        | succ j ih=>
          intro hj
          have h2:=ih (by omega)
          obtain⟨oj,pj,ho1,hl1,_⟩:=some3 j (by omega)
          have hes:=es j (by omega) _ hl1
          have hdst:(BE P C.G nt ops oj).dst=oj.dst:=by unfold BE;split<;>rfl
          rw[hdst]at hes
          rw[hes]
          intro t v hv
          cases hd:oj.dst with
          | none=>
            rw[hd]at hv
            simp only[Cb]at hv
            rcases h2 t v hv with ⟨k,o',hk,hk2,hk3,hk4⟩|⟨hk,hk2⟩
            · exact .inl ⟨k,o',by omega,hk2,hk3,hk4⟩
            · refine .inr ⟨hk,fun k o' hkj hko=>?_⟩
              by_cases he:k=j
              · subst he;rw[ho1]at hko;cases hko;rw[hd];simp
              · exact hk2 k o' (by omega) hko
          | some d=>
            rw[hd]at hv
            simp only[Cb,look]at hv
            by_cases hdt:d=t
            · subst hdt
              rw[if_pos (by simp)]at hv
              cases hv
              exact .inl ⟨j,oj,by omega,ho1,hd,rfl⟩
            · rw[if_neg (by simpa using hdt)]at hv
              rcases h2 t v hv with ⟨k,o',hk,hk2,hk3,hk4⟩|⟨hk,hk2⟩
              · exact .inl ⟨k,o',by omega,hk2,hk3,hk4⟩
              · refine .inr ⟨hk,fun k o' hkj hko=>?_⟩
                by_cases he:k=j
                · subst he;rw[ho1]at hko;cases hko;rw[hd];simpa using hdt
                · exact hk2 k o' (by omega) hko
      have hsh:=hshape j hj
      intro t v hv hlook
      rcases hsh t v hv with ⟨k,ok,hk,hk2,hk3,rfl⟩|⟨hk,hk2⟩
      ·
        refine hw k ok t ?_ hk2 hk3 (Ga (hdlt k ok t (by omega) hk2 hk3) hsz)
        by_cases hjn:j<n
        · obtain⟨ho,hp,_,hed⟩:=hrd hjn
          obtain⟨o3,p3,h1,_,h3⟩:=some3 k (by omega)
          rw[hk2]at h1;cases h1
          have hd:=(F.dsts k j ok o p3 p (by omega) hk2 ho h3 hp t hk3).2 (hlook hjn)
          rcases hd with hd|hd
          · exact hanc listed hcl j o p ho hp hed k (by omega) hd
          · have:=F.ancLt k p3 h3 j (by omega) hd;omega
        · exact hall (by omega) k (by omega)
      ·
        refine hu t v hk (fun i oi hli hoi hdst=>?_)
        have hin:i<n:=by
          rcases A6 i ops.size with h|h
          · omega
          · rw[B5 h]at hoi;cases hoi
        by_cases hij:i<j
        · exact hk2 i oi hij hoi hdst
        · have hjn:j<n:=by omega
          obtain⟨ho,hp,hnl,_⟩:=hrd hjn
          by_cases hie:i=j
          · subst hie;rw[hnl]at hli;cases hli
          · obtain⟨o3,p3,h1,_,h3⟩:=some3 i hin
            rw[hoi]at h1;cases h1
            have hd:=(F.dsts i j oi o p3 p hie hoi ho h3 hp t hdst).2 (hlook hjn)
            rcases hd with hd|hd
            · have:=F.ancLt j p hp i (by omega) hd;omega
            · have:=hanc listed hcl i oi p3 hoi h3 (fun ed hm hb=>hcl i oi hli hoi ed hm hb) j hjn hd
              rw[hnl]at this;cases this
    have hput:∀(a:Act) (d:Option Nat) (x:Value) (t:Nat),d≠some t->(a.put d x).tmps[t]? = a.tmps[t]? := by
      intro a d x t hne
      cases d with
      | none=>rfl
      | some d=>
        simp only[Act.put,A1]
        rw[if_neg (fun h=>hne (by rw[h]))]
    have hputsz:∀(a:Act) (d:Option Nat) (x:Value),(a.put d x).tmps.size=a.tmps.size:=by
      intro a d x;cases d<;>simp[Act.put]
    have hfin:∀listed a w,Inv listed a w->(∀k,k<n->listed.getD k false=true)->Q .normal a w:=by
      intro listed a w hI hall
      obtain⟨hsz,hcl,hd,R,m,hm,hpre,hx,hnxm,hrel,hres,htsz,hwc,huc⟩:=hI
      have hmM:m=M:=by
        rcases A6 m M with h|h
        · have:=(hpre m h).1 (hall _ (by have:=(kst m h).1;omega));omega
        · omega
      subst hmM
      refine hQ R a w hx (by show Z0.next<=nx m;omega) ?_ ?_ htsz hd
      · refine hrel.congr (fun id hid=>hrel.fresh id hid) (fun k b hk=>?_)
        rw[Dx]at hk ⊢
        by_cases hc:Z0.next<=k/\k<Z0.next+n/\s.am.testBit (k-Z0.next)=false
        · rw[if_pos hc]at hk;cases hk
        · rw[if_neg hc]at hk
          rw[if_neg (fun h=>hc ⟨h.1,h.2.1,by have:=h.2.2;simp only[vis,hall (k-Z0.next) (by omega),Eu]at this;exact this⟩)]
          exact hk
      · refine⟨fun t v hv=>?_⟩
        exact henv listed a R hcl htsz hwc huc n default default (AL _) (fun _=>hall) (fun h=>by omega) t v hv (fun h=>by omega)
    have hstep:∀listed a w,Inv listed a w->∀i,i∈Region.ready .any ops listed->∀K:Act->World->Prop,(∀a' w',Inv (listed.setIfInBounds i true) a' w'->K a' w')->wpOp P ops Q i K a w:=by
      intro listed a w hI i hi K hK
      obtain⟨hsz,hcl,hd,R,m,hm,hpre,hx,hnxm,hrel,hres,htsz,hwc,huc⟩:=hI
      obtain⟨hli,o,ho,hed⟩:=mem_ready.1 hi
      have hin:i<n:=by
        rcases A6 i ops.size with h|h
        · omega
        · rw[B5 h]at ho;cases ho
      have hnl:listed.getD i false=false:=by rw[<-DW hsz hin];exact hli
      obtain⟨o2,p,ho2,hlo,hp⟩:=some3 i hin
      rw[ho]at ho2;cases ho2
      have hsz':i<listed.size:=by omega
      have hLs:∀k,(listed.setIfInBounds i true).getD k false=(decide (k=i) || listed.getD k false):=fun k=>If hsz'
      have hancl:∀k,k<n->p.anc.testBit k=true->listed.getD k false=true:=hanc listed hcl i o p ho hp hed
      have hgl:=hrel.globOk
      have hle0:∀{R'},Gp (nx m) R R'->Le R R':=fun h=>h.le hrel.fresh
      have hem:Bv R (restr p.looks (envs i)) a.tmps:=by
        refine⟨fun t v hv=>?_⟩
        obtain⟨ht,hmem⟩:=GO _ _ _ _ hv
        exact henv listed a R hcl htsz hwc huc i o p (by omega) (fun h=>by omega) (fun _=>⟨ho,hp,hnl,hed⟩) t v ht (fun _=>hmem)
      have mk:∀(R':Ren) (m':Nat) (w':World) (x:Value),m'<=M->(∀r,r<M->((listed.setIfInBounds i true).getD (ks r) false=true↔r<m'))->Gp Z0.next R0 R'->Z0.next+n<=nx m' ->
          De C R' ⟨nx m',Cv Z0.next n (vis (listed.setIfInBounds i true)) (Hh m')⟩ w'->(∀k,k<n->(listed.setIfInBounds i true).getD k false=false->R' (Z0.next+k)=none)->Le R R' ->
          (vals i = .dead\/Ao R' (vals i)=some x)->K (a.put o.dst x) w':=by
        intro R' m' w' x h1 h2 h3 h4 h5 h6 h7 h8
        refine hK _ _ ⟨by rw[Dk];exact hsz,?_,by rw[EY];exact hd,R',m',h1,h2,h3,h4,h5,h6,by rw[hputsz];exact htsz,?_,?_⟩
        · intro i' o' hi' ho' ed hm' hb'
          rw[hLs]at hi' ⊢
          simp only[BN,decide_eq_true_eq]at hi' ⊢
          rcases hi' with rfl|hi'
          · rw[ho]at ho';cases ho'
            exact .inr (hed ed hm' hb')
          · exact .inr (hcl i' o' hi' ho' ed hm' hb')
        · intro i' o' t hi' ho' hdt htl
          rw[hputsz]at htl
          rw[hLs]at hi'
          simp only[BN,decide_eq_true_eq]at hi'
          by_cases he:i'=i
          · subst he
            rw[ho]at ho';cases ho'
            rcases h8 with h8|h8
            · exact .inl h8
            · refine .inr ⟨x,?_,h8⟩
              rw[hdt]
              simp[Act.put,A1,htl]
          · have hi'':=hi'.resolve_left he
            have hi'n:i'<n:=by
              rcases A6 i' ops.size with h|h
              · omega
              · rw[B5 h]at ho';cases ho'
            obtain⟨o3,p3,h1',_,h3'⟩:=some3 i' hi'n
            rw[ho']at h1';cases h1'
            rw[hput a o.dst x t ((F.dsts i' i o' o p3 p he ho' ho h3' hp t hdt).1)]
            rcases hwc i' o' t hi'' ho' hdt htl with h|⟨y,hy,hc⟩
            · exact .inl h
            · exact .inr ⟨y,hy,Cd h7 _ _ hc⟩
        · intro t v hv hno
          have hot:o.dst≠some t:=hno i o (by rw[hLs];simp) ho
          rw[hput a o.dst x t hot]
          rcases huc t v hv (fun i' o' hi' ho'=>hno i' o' (by rw[hLs,hi'];simp) ho')with h|⟨y,hy,hc⟩
          · exact .inl h
          · exact .inr ⟨y,hy,Cd h7 _ _ hc⟩
      have hsame:s.am.testBit i=false->De C R ⟨nx m,Cv Z0.next n (vis (listed.setIfInBounds i true)) (Hh m)⟩ w:=by
        intro ham
        rw[Jr (q:=vis listed) (fun k hk=>by
          simp only[vis]
          rw[hLs]
          by_cases he:k=i
          · subst he;simp[ham]
          · simp[he])]
        exact hrel
      have hpre1:(∀r,r<M->ks r≠i)->∀r,r<M->((listed.setIfInBounds i true).getD (ks r) false=true↔r<m):=by
        intro hne r hr
        rw[hLs]
        simp only[hne r hr,decide_false,DN]
        exact hpre r hr
      have hres1:∀k,k<n->(listed.setIfInBounds i true).getD k false=false->R (Z0.next+k)=none:=by
        intro k hk hkl
        rw[hLs]at hkl
        simp only[BJ]at hkl
        exact hres k hk hkl.2
      have hkbefore:∀r,r<m->(Gk pl (ks r)).testBit i=false:=by
        intro r hr
        cases hb:(Gk pl (ks r)).testBit i with
        | false=>rfl
        | true=>
          exfalso
          obtain⟨hkn,_⟩:=kst r (by omega)
          obtain⟨o3,p3,h1',_,h3'⟩:=some3 (ks r) hkn
          have hlr:=(hpre r (by omega)).2 hr
          have:=hanc listed hcl (ks r) o3 p3 h1' h3' (fun ed hm hb=>hcl (ks r) o3 hlr h1' ed hm hb) i hin (by rw[<-Iu h3'];exact hb)
          rw[hnl]at this;cases this
      unfold wpOp
      rw[ho]
      simp only
      have hco:BE P C.G nt ops o=⟨o.dst,.bad,none⟩\/∃g,O2 ops o.guard=some g/\BE P C.G nt ops o=⟨o.dst,Ab P C.G o.op,g⟩:=by
        unfold BE
        split
        · rename_i g hg _;exact .inr ⟨g,hg,rfl⟩
        · exact .inl rfl
      rcases hco with hco|⟨g,hcg,hco⟩
      · exfalso
        have:=hops i hin _ p hlo hp
        rw[hco]at this
        simp[Bf,EH.cls,BT]at this
      · have hF:=hops i hin _ p hlo hp
        rw[hco]at hF
        simp only at hF
        rcases hF with ⟨hw,hv,ham,hne⟩|⟨hw,⟨hc,hv,ham,hne⟩|⟨hc,hmem,ham,hne⟩|⟨hc,ham,hne,b,hv,hb⟩|⟨hc,ham,r,hr,hkr⟩⟩
        · rw[if_neg (by rw[DG hem hcg hw];simp)]
          exact mk R m w undef hm (hpre1 hne) hx hnxm (hsame ham) hres1 (Le.refl _) (.inr (by rw[hv];rfl))
        · rw[if_pos (DG hem hcg hw)]
          left
          obtain⟨x,hxv,hrun⟩:=MO (a:=a) (P:=P) hem hgl o hv w
          unfold Oper.wp
          rw[hrun]
          exact mk R m w x hm (hpre1 hne) hx hnxm (hsame ham) hres1 (Le.refl _) (.inr hxv)
        · rw[if_pos (DG hem hcg hw)]
          left
          have hl1:=hload i _ _ _ hmem m hm (fun r hr1 hr2=>by
            cases hbt:(Gk pl i).testBit (ks r)with
            | false=>rfl
            | true=>
              exfalso
              have:=hancl (ks r) (kst r hr2).1 (by rw[<-Iu hp];exact hbt)
              have:=(hpre r hr2).1 this
              omega) hkbefore
          have hl2:=Yr hrel (Zs:=⟨0,Cv Z0.next n (Dc (Gk pl i) s.am) (Hh m)⟩) (fun id b hid=>by
            simp only at hid ⊢
            rw[Dx]at hid ⊢
            by_cases hcnd:Z0.next<=id/\id<Z0.next+n/\Dc (Gk pl i) s.am (id-Z0.next)=false
            · rw[if_pos hcnd]at hid;cases hid
            · rw[if_neg hcnd]at hid
              rw[if_neg (fun hh=>hcnd ⟨hh.1,hh.2.1,by
                have h3:=hh.2.2
                unfold Dc
                cases hbt:(Gk pl i).testBit (id-Z0.next)with
                | false=>rfl
                | true=>
                  have:=hancl (id-Z0.next) (by omega) (by rw[<-Iu hp];exact hbt)
                  simp only[vis,this,Eu]at h3
                  rw[h3];rfl⟩)]
              exact hid) hl1
          obtain⟨x,hxv,hrun⟩:=MP (P:=P) hrel hem o hl2
          unfold Oper.wp
          rw[hrun]
          exact mk R m w x hm (hpre1 hne) hx hnxm (hsame ham) hres1 (Le.refl _) (.inr hxv)
        · rw[if_pos (DG hem hcg hw)]
          left
          have hRi:R (Z0.next+i)=none:=hres i hin hnl
          obtain⟨x,w',inf,hrun,hnew,hblk,hxv,hok⟩:=OG (a:=a) (P:=P) hem hgl o hv hRi w
          unfold Oper.wp
          rw[hrun]
          have hle:Le R (IY R (Z0.next+i) inf):=fun k j hk=>by
            by_cases he:k=Z0.next+i
            · subst he;rw[hRi]at hk;cases hk
            · rw[Bn he];exact hk
          refine mk (IY R (Z0.next+i) inf) m w' x hm (hpre1 hne) (hx.trans (fun id hid=>Bn (by omega)) (AL Z0.next)) hnxm ?_ ?_ hle (.inr hxv)
          · refine hrel.allocAt hRi (by show Z0.next+i<nx m;omega) hnew b inf hblk hok rfl (fun k=>?_)
            simp only
            rw[Dx,Dx]
            by_cases he:k=Z0.next+i
            · subst he
              rw[if_pos rfl,if_neg (by
                intro h
                have h3:=h.2.2
                rw[show Z0.next+i-Z0.next=i by omega]at h3
                simp only[vis]at h3
                rw[hLs,ham]at h3
                simp at h3)]
              exact hb m hm hkbefore
            · rw[if_neg he]
              by_cases hrg:Z0.next<=k/\k<Z0.next+n
              · have:vis (listed.setIfInBounds i true) (k-Z0.next)=vis listed (k-Z0.next):=by
                  simp only[vis]
                  rw[hLs]
                  have:k-Z0.next≠i:=by omega
                  simp[this]
                rw[this]
              · rw[if_neg (fun h=>hrg ⟨h.1,h.2.1⟩),if_neg (fun h=>hrg ⟨h.1,h.2.1⟩)]
          · intro k hk hkl
            rw[hLs]at hkl
            simp only[BJ,decide_eq_false_iff_not]at hkl
            rw[Bn (by omega)]
            exact hres k hk hkl.2
        · rw[if_pos (DG hem hcg hw)]
          left
          have hrm:r=m:=by
            have h1:¬r<m:=fun h=>by
              have:=(hpre r hr).2 h
              rw[hkr,hnl]at this;cases this
            rcases A6 m r with h2|h2
            · exfalso
              obtain⟨hkn,o4,p4,Z4,hl4,hp4,hc4,_⟩:=kst m (by omega)
              have hlt:=kinc m r h2 hr
              rw[hkr]at hlt
              have:=F.kk (ks m) i o4 _ p hlt hl4 hlo hp hc4 (by rw[hco];exact hc)
              have:=hancl (ks m) hkn this
              have:=(hpre m (by omega)).1 this
              omega
            · omega
          subst hrm
          obtain⟨_,o4,p4,Z4,hl4,hp4,hc4,hw4,hden,hHn,hnxn⟩:=kst r hr
          rw[hkr]at hl4 hp4 hw4 hden
          rw[hlo]at hl4;cases hl4
          rw[hp]at hp4;cases hp4
          rw[hco]at hden
          simp only at hden
          have hsub:∀id b,look (Cv Z0.next n (Dc p.anc s.am) (Hh r)) id=some b->look (Cv Z0.next n (vis listed) (Hh r)) id=some b:=by
            intro id b hid
            rw[Dx]at hid ⊢
            by_cases hcnd:Z0.next<=id/\id<Z0.next+n/\Dc p.anc s.am (id-Z0.next)=false
            · rw[if_pos hcnd]at hid;cases hid
            · rw[if_neg hcnd]at hid
              rw[if_neg (fun hh=>hcnd ⟨hh.1,hh.2.1,by
                have h3:=hh.2.2
                unfold Dc
                cases hbt:p.anc.testBit (id-Z0.next)with
                | false=>rfl
                | true=>
                  have:=hancl (id-Z0.next) (by omega) hbt
                  simp only[vis,this,Eu]at h3
                  rw[h3];rfl⟩)]
              exact hid
          have hsmall:=hrel.shrink (Zs:=⟨nx r,Cv Z0.next n (Dc p.anc s.am) (Hh r)⟩) rfl hsub
          refine OE hD (C:=C.sub R ⟨nx r,Cv Z0.next n (Dc p.anc s.am) (Hh r)⟩ w) rfl rfl hsmall hem o hden K Q (fun R' w' x hx' hn' hrel' hv'=>?_)
          have hnle:nx r<=Z4.next:=hn'
          refine mk R' (r+1) w' x (by omega) ?_ (hx.trans hx' (show Z0.next<=nx r by omega)) (by rw[hnxn];omega) ?_ ?_ (hle0 hx') hv'
          · intro r' hr'
            rw[hLs]
            simp only[BN,decide_eq_true_eq]
            constructor
            · rintro(h | h)
              · rcases AEi r' r with h2 | h2 | h2
                · omega
                · omega
                · have:=kinc r r' h2 hr';omega
              · have:=(hpre r' hr').1 h;omega
            · intro h
              by_cases he:r'=r
              · subst he;exact .inl hkr
              · exact .inr ((hpre r' hr').2 (by omega))
          · refine hrel.regrow (Zs:=⟨nx r,Cv Z0.next n (Dc p.anc s.am) (Hh r)⟩) hsub hrel' hx' hnxn (fun id b hid=>?_)
            simp only at hid ⊢
            rw[Dx]at hid
            split at hid
            · cases hid
            · rename_i hvis
              rw[hHn,NX,Od]at hid
              by_cases hcnd:Z0.next<=id/\id<Z0.next+n/\Dc p.anc s.am (id-Z0.next)=false
              · rw[if_pos hcnd]at hid
                cases hlk:look (Hh r) id with
                | none=>rw[hlk]at hid;exact .inl hid
                | some b'=>
                  rw[hlk]at hid
                  cases hid
                  right
                  rw[Dx,Dx,if_pos hcnd]
                  refine⟨?_,rfl⟩
                  rw[if_neg (fun hh=>hvis ⟨hh.1,hh.2.1,by
                    have h3:=hh.2.2
                    simp only[vis]at h3 ⊢
                    rw[hLs]
                    by_cases he:id-Z0.next=i
                    · rw[he,ham];simp
                    · simp only[he,decide_false,DN];exact h3⟩)]
                  exact hlk
              · rw[if_neg hcnd]at hid
                exact .inl hid
          · intro k hk hkl
            rw[hx' (Z0.next+k) (by show Z0.next+k<nx r;omega)]
            exact hres1 k hk hkl
    have hany:∀fuel listed a w,Inv listed a w->(Cz n).countP (fun k=>!listed.getD k false)<=fuel->wpAny P .any ops Q fuel listed a w:=by
      intro fuel
      induction fuel with
      | zero=>
        intro listed a w hI hcnt
        have hall:∀k,k<n->listed.getD k false=true:=by
          intro k hk
          have h0:(Cz n).countP (fun k=>!listed.getD k false)=0:=by omega
          have:=List.countP_eq_zero.1 h0 k (Sz.2 hk)
          simpa using this
        refine⟨?_,hfin listed a w hI hall⟩
        apply V3.2
        intro j hj
        obtain⟨h1,o,h2,_⟩:=mem_ready.1 hj
        have hjn:j<n:=by
          rcases A6 j ops.size with h|h
          · omega
          · rw[B5 h]at h2;cases h2
        rw[DW hI.1 hjn,hall j hjn]at h1
        cases h1
      | succ fuel ih=>
        intro listed a w hI hcnt
        refine⟨fun hr=>hfin listed a w hI (hready_nil listed hI.1 hr),fun i hi=>?_⟩
        have hin:i<n:=by
          obtain⟨_,o,h2,_⟩:=mem_ready.1 hi
          rcases A6 i ops.size with h|h
          · omega
          · rw[B5 h]at h2;cases h2
        have hnl:listed.getD i false=false:=by rw[<-DW hI.1 hin];exact(mem_ready.1 hi).1
        refine hstep listed a w hI i hi _ (fun a' w' hI'=>ih _ a' w' hI' ?_)
        have hsz':i<listed.size:=by rw[hI.1];exact hin
        have:=U9 (p:=fun k=>!(listed.setIfInBounds i true).getD k false) (q:=fun k=>!listed.getD k false) (fun k hk=>by
          simp only[Cr]at hk ⊢
          rw[If hsz']at hk
          simp only[BJ]at hk
          exact hk.2) (i:=i) (by simp only[hnl];rfl) (by simp only[If hsz'];simp) (Cz n) (Sz.2 hin)
        omega
    refine wp_region_any hmix ?_
    rw[<-hnops]
    have hrepl:∀k,(G6 n false).getD k false=false:=fun k=>by
      simp only[D5,AIx]
      split<;>rfl
    refine hany n _ a0 _ ⟨by simp,?_,hd0,R0,0,HE _,?_,Gp.refl _ _,by rw[nx0];exact AL _,?_,?_,hnt0,?_,?_⟩ ?_
    · intro i o hi;rw[hrepl]at hi;cases hi
    · intro r hr;rw[hrepl];simp
    · refine(hrel0.drawn (w00.drawn+1)).congr (fun id hid=>hrel0.fresh id (by have h1:nx 0<=id:=hid;rw[nx0]at h1;omega)) (fun k b hk=>?_)
      simp only at hk
      rw[Dx]at hk
      split at hk
      · cases hk
      · rename_i hc
        have hnr:¬(Z0.next<=k/\k<Z0.next+n):=fun h=>hc ⟨h.1,h.2,by simp only[vis,hrepl,wx]⟩
        rw[hz k hnr]at hk
        exact hk
    · intro k hk _;exact hrel0.fresh _ (by omega)
    · intro i o t hi;rw[hrepl]at hi;cases hi
    · intro t v hv _;exact he0.at_ t v hv
    · refine BP (List.countP_le_length) (by simp)
end Go.Og
namespace Go.Og
abbrev AH:=Option (V × H)
noncomputable section
def BC {α:Type} (l:List (Nat × α)) (id:Nat):Option α:=
 List.rec none (fun p _ r=>Bool.rec r (some p.2) (AW p.1 id)) l
def Tj {α:Type} (l:List (Nat × α)) (id:Nat):List (Nat × α):=
 List.rec [] (fun p l r=>Bool.rec (p::r) l (AW p.1 id)) l
def iz (l:List V):Nat->Option V:=
 List.rec (fun _=>none) (fun a _ ih n=>Nat.rec (some a) (fun m _=>ih m) n) l
def Ou (l:EB) (id:Nat):(EB->AH)->AH:=
 List.rec (fun k=>k []) (fun p _ ih k=>ih fun l'=>Bool.rec (k (p::l')) (k l') (AW p.1 id)) l
def AK (c:Bool) (a b:AH):AH:=match c with
 | true=>a
 | false=>b
def GW (c:Bool) (a:AH):AH:=match c with
 | true=>a
 | false=>none
def gK (x:Option V) (J:V->AH):AH:=match x with
 | some v=>J v
 | none=>none
def AV (x:AH) (J:V->H->AH):AH:=match x with
 | some (v,Z)=>J v Z
 | none=>none
def Aa (f:Bool->H->AH) (g:(Bool->H->AH)->AH):AH:=g f
def LA:IntKind->Nat
 | .i8=>127 | .i16=>32767 | .i32=>2147483647 | .i64=>9223372036854775807
 | .u8=>255 | .u16=>65535 | .u32=>4294967295 | .u64=>18446744073709551615
def yj:IntKind->Nat
 | .i8=>128 | .i16=>32768 | .i32=>2147483648 | .i64=>9223372036854775808
 | .u8=>0 | .u16=>0 | .u32=>0 | .u64=>0
def wz (k:IntKind) (n:Int):Bool:=match n with
 | .ofNat m=>Ag m (LA k)
 | .negSucc m=>DA m (yj k)
def An (k:IntKind) (n:Int):Int:=match wz k n with
 | true=>n
 | false=>k.wrap n
def Ke (a b:Int):Int:=if b > a then b else a
def C8 (a b:Int):Bool:=match a,b with
 | .ofNat m,.ofNat n=>DA m n
 | .negSucc m,.negSucc n=>DA n m
 | .negSucc _,.ofNat _=>true
 | .ofNat _,.negSucc _=>false
def Hp (a b:Int):Bool:=match a,b with
 | .ofNat m,.ofNat n=>Ag m n
 | .negSucc m,.negSucc n=>Ag n m
 | .negSucc _,.ofNat _=>true
 | .ofNat _,.negSucc _=>false
def CR (k:IntKind) (a b:Int):Int:=An k (Int.add a b)
def D6 (k:IntKind) (a b:Int):Int:=An k (Int.sub a b)
def Hq (k:IntKind) (a b:Int):Int:=An k (Int.mul a b)
def yY (k:IntKind) (a b:Int):Int:=An k (Int.tdiv a b)
def JV (k:IntKind) (a:Int) (n:Nat):Int:=An k (Int.mul a (AA (Nat.pow 2 (Ds n k.bits))))
def GB (k:IntKind) (a:Int) (n:Nat):Int:=match a with
 | .ofNat m => .ofNat (Nat.div m (Nat.pow 2 (Ds n k.bits)))
 | .negSucc m=>Int.fdiv (.negSucc m) (2 ^ (Ds n k.bits))
def OS (k:IntKind) (a b:Int) (f:Nat->Nat->Nat) (g:Int):Int:=match a,b with
 | .ofNat m,.ofNat n=>match Ag m (LA k)&&Ag n (LA k)with
  | true => .ofNat (f m n)
  | false=>g
 | _,_=>g
def Eo (k:IntKind) (a b:Int):Int:=OS k a b Nat.land (k.wrap (BA k.bits a &&& BA k.bits b).toNat)
def Gq (k:IntKind) (a b:Int):Int:=OS k a b Nat.lor (k.wrap (BA k.bits a ||| BA k.bits b).toNat)
def xS (k:IntKind) (a b:Int):Int:=OS k a b Nat.xor (k.wrap (BA k.bits a ^^^ BA k.bits b).toNat)
def Ge (k:IntKind) (a b:Int):Int:=k.wrap (BA k.bits a &&& ~~~BA k.bits b).toNat
def rG (k:IntKind) (a:Int):Int:=An k (Int.sub 0 a)
def AFU (k:IntKind) (a:Int):Int:=k.wrap (BA k.bits (if k.signed then -1 else k.max) ^^^ BA k.bits a).toNat
def N8 (b:Int) (J:Nat->AH):AH:=match b with
 | .ofNat n=>J n
 | .negSucc _=>none
def nzK (b:Int) (a:AH):AH:=match b with
 | .ofNat 0=>none
 | _=>a
def rU (op:BinOp) (k k':IntKind) (a b:Int) (J:V->AH):AH:=
 match op with
 | .shl=>N8 b fun n=>J (.int k (JV k a n))
 | .shr=>N8 b fun n=>J (.int k (GB k a n))
 | op=>if k=k' then
   match op with
   | .add=>J (.int k (CR k a b))
   | .sub=>J (.int k (D6 k a b))
   | .mul=>J (.int k (Hq k a b))
   | .quo=>nzK b (J (.int k (yY k a b)))
   | .rem=>nzK b (J (.int k (E3 a b)))
   | .and=>J (.int k (Eo k a b))
   | .or=>J (.int k (Gq k a b))
   | .xor=>J (.int k (xS k a b))
   | .andNot=>J (.int k (Ge k a b))
   | .eql=>J (.bool (B4 a b))
   | .neq=>J (.bool (not (B4 a b)))
   | .lss=>J (.bool (C8 a b))
   | .leq=>J (.bool (Hp a b))
   | .gtr=>J (.bool (C8 b a))
   | .geq=>J (.bool (Hp b a))
   | _=>none
  else none
def P2 (a b:BS) (J:BS->AH):AH:=match Ag (Ap a.len b.len) 1000000000000 with
 | true=>J (a.cat b)
 | false=>none
def ltS (a b:BS):Bool:=Op.bytesLess a.toList b.toList
def yM (op:BinOp) (a b:BS) (J:V->AH):AH:=
 match op with
 | .add=>P2 a b fun s=>J (.str s)
 | .eql=>J (.bool (a.beq b))
 | .neq=>J (.bool (not (a.beq b)))
 | .lss=>J (.bool (ltS a b))
 | .leq=>J (.bool (ltS a b || a.beq b))
 | .gtr=>J (.bool (not (ltS a b || a.beq b)))
 | .geq=>J (.bool (not (ltS a b)))
 | _=>none
def ZD (t:FU) (x y:V) (J:Bool->AH):AH:=match Jt t x y with
 | some b=>J b
 | none=>none
def eqX (op:BinOp) (t:FU) (x y:V) (J:V->AH):AH:=match op with
 | .eql=>ZD t x y fun b=>J (.bool b)
 | .neq=>ZD t x y fun b=>J (.bool (not b))
 | _=>none
def r7 (op:BinOp) (t:FU) (x y:V) (J:V->AH):AH:=
 match t with
 | .none=>match x,y with
  | .int k a,.int k' b=>rU op k k' a b J
  | .str a,.str b=>yM op a b J
  | _,_=>none
 | t=>eqX op t x y J
def unX (op:UnOp) (x:V) (J:V->AH):AH:=
 match op,x with
 | .neg,.int k n=>J (.int k (rG k n))
 | .xor,.int k n=>J (.int k (AFU k n))
 | .not,.bool b=>J (.bool (not b))
 | _,_=>none
inductive C6 where
 | any | int (k:IntKind) | bool | str | ptr | one
 | agg (l:List C6)
 | tup (l:List C6)
 deriving Inhabited
def Am (k:IntKind) (v:V) (J:Int->AH):AH:=match v with
 | .int k' n=>if k=k' then J n else none
 | _=>none
def AZ (v:V) (J:Bool->AH):AH:=match v with
 | .bool b=>J b
 | _=>none
def Ht (v:V) (J:BS->AH):AH:=match v with
 | .str s=>J s
 | _=>none
def B8 (v:V) (J:Nat->Nat->AH):AH:=match v with
 | .ptr b o=>J b o
 | _=>none
def Bm (v:V) (J:List V->AH):AH:=match v with
 | .agg l=>J l
 | _=>none
def DH (v:V) (J:List V->AH):AH:=match v with
 | .tup l=>J l
 | _=>none
def AE (l:List V) (J:V->List V->AH):AH:=match l with
 | v::l=>J v l
 | []=>none
def AP (l:List V) (a:AH):AH:=match l with
 | []=>a
 | _::_=>none
def Ba (v:V) (a:AH):AH:=match v.one with
 | true=>a
 | false=>none
mutual
def rt:C6->V->(V->AH)->AH
 | .any,v,J=>J v
 | .int k,v,J=>Am k v fun n=>J (.int k n)
 | .bool,v,J=>AZ v fun b=>J (.bool b)
 | .str,v,J=>Ht v fun s=>J (.str s)
 | .ptr,v,J=>B8 v fun b o=>J (.ptr b o)
 | .one,v,J=>Ba v (J v)
 | .agg ts,v,J=>Bm v fun l=>mC ts l fun l'=>J (.agg l')
 | .tup ts,v,J=>DH v fun l=>mC ts l fun l'=>J (.tup l')
def mC:List C6->List V->(List V->AH)->AH
 | [],l,J=>AP l (J [])
 | t::ts,l,J=>AE l fun v l'=>rt t v fun v'=>mC ts l' fun l''=>J (v'::l'')
end
abbrev Qs:=List (Nat × (Nat × Nat))
abbrev Rg:=List (Nat × List V)
def CL (e:Bz) (x:AO) (J:V->AH):AH:=match x with
 | .con v=>match v.live with
  | true=>J v
  | false=>none
 | .tmp t=>match look e t with
  | some v=>J v
  | none=>none
def ME (e:Bz):List AO->(List V->AH)->AH
 | [],J=>J []
 | x::l,J=>CL e x fun v=>ME e l fun vs=>J (v::vs)
def MF (e:Bz) (x:Option AO) (J:Option V->AH):AH:=match x with
 | none=>J none
 | some x=>CL e x fun v=>J (some v)
def OZ (e:Bz):List (Nat × Nat × AO)->(List (Nat × Nat × V)->AH)->AH
 | [],J=>J []
 | (o,s,x)::l,J=>CL e x fun v=>OZ e l fun r=>J ((o,s,v)::r)
def FQ (q:Qs):AO->Option (Nat × Nat)
 | .tmp t=>look q t
 | .con _=>none
def SH (o:Option V) (d:Nat) (J:Nat->AH):AH:=match o with
 | none=>J d
 | some v=>match v with
  | .int _ n=>N8 n J
  | _=>none
def FN (s:BS) (lo hi:Option V) (J:BS->AH):AH:=
 SH hi s.len fun h=>SH lo 0 fun l=>GW (Ag l h&&Ag h s.len) (J (s.sub l h))
def C9 (s:BS) (i:Int) (J:Int->AH):AH:=
 N8 i fun n=>GW (DA n s.len) (J (AA (s.get n)))
def A2 (v:V) (J:Nat->AH):AH:=match v with
 | .nils=>J 0
 | .sl _ _ n _=>J n
 | .sle _ _ _ _=>J 0
 | _=>none
def AU (esz:Nat) (v:V) (i:Int) (J:Nat->Nat->AH):AH:=match v with
 | .sl b off len _=>N8 i fun n=>GW (DA n len) (J b (Ap off (Xz n esz)))
 | _=>none
def JW (l:List V) (n:Nat) (J:V->AH):AH:=match iz l n with
 | some v=>J v
 | none=>none
def GA (l:List V) (off n:Nat) (J:List V->AH):AH:=match Ag (Ap off n) l.length with
 | true=>J ((l.drop off).take n)
 | false=>none
def X7 (E:EB) (Z:H) (b:Nat) (J:List V->AH):AH:=match BC Z.bl b with
 | some (.cells l)=>J l
 | some _=>none
 | none=>match BC E b with
  | some (.cells l)=>J l
  | _=>none
def Bc (E:EB) (Z:H) (b off:Nat) (J:V->AH):AH:=X7 E Z b fun l=>JW l off J
def BH (E:EB) (Z:H) (b off n:Nat) (J:List V->AH):AH:=X7 E Z b fun l=>GA l off n J
def Br (Z:H) (b:FX):H:=⟨Z.next+1,(Z.next,b)::Z.bl⟩
def Px (Z:H) (b:Nat) (c:FX):H:=⟨Z.next,(b,c)::Tj Z.bl b⟩
def FW (n b off:Nat) (v:V) (Z:H) (J:H->AH):AH:=match BC Z.bl b with
 | some (.cells l)=>GW (AW v.cells.length n&&Ag (Ap off n) l.length&&allOne v.cells) (J (Px Z b (.cells (HK l off v.cells))))
 | _=>none
def srcK (E:EB) (Z:H) (esz:Nat) (v:V) (J:Nat->List V->AH):AH:=match v with
 | .nils=>J 0 []
 | .sle _ _ _ _=>J 0 []
 | .sl b off len _=>X7 E Z b fun l=>GA l off (len*esz) fun l'=>J len l'
 | .str s=>match AW esz 1 with
  | true=>J s.len (YL s.toList)
  | false=>none
 | _=>none
def DD (E:EB) (esz bytes:Nat) (s x:V) (Z:H) (J:V->H->AH):AH:=
 srcK E Z esz x fun n new=>
  match s with
  | .sl b 0 len (.op e)=>match n with
   | 0=>J s Z
   | n=>match BC Z.bl b with
    | some (.cells l)=>GW (AW l.length (len*esz)&&AW e esz&&CT (len+n) bytes&&allOne new)
      (Ou Z.bl b fun bl'=>J (.sl Z.next 0 (len+n) (.op esz)) ⟨Z.next+1,(Z.next,.cells (l++new))::bl'⟩)
    | _=>none
  | s=>AV (Cq E esz bytes s x Z) J
def IM (E:EB) (Z:H) (v:V) (J:BS->AH):AH:=match v with
 | .str _=>none
 | v=>srcK E Z 1 v fun _ l=>match E9 l with
  | some s=>J (BS.ofList s)
  | none=>none
def D8 (l:List (Nat × Nat × V)) (z:List V) (J:List V->AH):AH:=match EW l z with
 | some l'=>J l'
 | none=>none
def mS (E:EB) (esz:Nat) (d s:V) (Z:H):Option (V × H):=
 match d,CQ E Z esz s with
  | .nils,some (_,_)=>some (.int .i64 0,Z)
  | .sle _ _ _ _,some (_,_)=>some (.int .i64 0,Z)
  | .sl b off len _,some (n,src)=>
   let m:=Ds n len
   if m=0 then some (.int .i64 0,Z)else
   match look Z.bl b with
   | some (.cells l)=>if Ag (off+m*esz) l.length&&allOne (src.take (m*esz))then some (.int .i64 m,Z.set b (.cells (HK l off (src.take (m*esz)))))else none
   | _=>none
  | _,_=>none
theorem bU (E:EB) (esz:Nat) (d s:AO) (e:Bz) (Z:H):EK E (.copy esz d s) e Z=mS E esz (CI e d) (CI e s) Z:=rfl
def BR (e:Bz) (t:Nat) (J:V->AH):AH:=match look e t with
 | some v=>GW v.live (J v)
 | none=>none
def FL (D:Ak) (fv:V) (vs:List V) (Z:H) (J:V->H->AH):AH:=match fv with
 | .fn g first cap=>AV (D g (first++vs++cap) Z) J
 | _=>none
def Cs (E:EB) (D:Ak) (id nx:Nat) (o:EH) (e:Bz) (Z:H) (J:V->H->AH):AH:=
 match o with
 | .mov x=>CL e x fun v=>J v Z
 | .bin op t x y=>CL e x fun a=>CL e y fun b=>r7 op t a b fun v=>J v Z
 | .un op x=>CL e x fun a=>unX op a fun v=>J v Z
 | .conv (.toInt k) x=>CL e x fun v=>match v with
  | .int _ n=>J (.int k (An k n)) Z
  | _=>none
 | .conv .same x=>CL e x fun v=>Ht v fun s=>J (.str s) Z
 | .conv .toStr x=>CL e x fun v=>IM E Z v fun u=>J (.str u) Z
 | .conv (.toBytes _) x=>CL e x fun v=>Ht v fun s=>GW (Ag s.len 1000000000000) (J (.sl id 0 s.len (.op 1)) ⟨nx,(id,.cells (YL s.toList))::Z.bl⟩)
 | .nilck x=>CL e x fun v=>B8 v fun b o=>J (.ptr b o) Z
 | .faddr off x=>CL e x fun v=>B8 v fun b o=>J (.ptr b (Ap o off)) Z
 | .field off none x=>CL e x fun v=>Bm v fun l=>JW l off fun u=>J u Z
 | .field off (some n) x=>CL e x fun v=>Bm v fun l=>GA l off n fun l'=>J (.agg l') Z
 | .extract i x=>CL e x fun v=>DH v fun l=>JW l i fun u=>J u Z
 | .iaddrS esz x i=>CL e x fun v=>CL e i fun j=>match j with
  | .int _ n=>AU esz v n fun b o=>J (.ptr b o) Z
  | _=>none
 | .iaddrA len esz x i=>CL e x fun v=>CL e i fun j=>match j with
  | .int _ n=>B8 v fun b o=>N8 n fun m=>GW (DA m len) (J (.ptr b (Ap o (Xz m esz))) Z)
  | _=>none
 | .idxStr x i=>CL e x fun v=>CL e i fun j=>Ht v fun s=>match j with
  | .int _ n=>C9 s n fun u=>J (.int .u8 u) Z
  | _=>none
 | .len true x=>CL e x fun v=>Ht v fun s=>J (.int .i64 (AA s.len)) Z
 | .len false x=>CL e x fun v=>A2 v fun n=>J (.int .i64 (AA n)) Z
 | .lenC n=>J (.int .i64 (AA n)) Z
 | .sliceStr x lo hi=>CL e x fun v=>MF e lo fun l=>MF e hi fun h=>Ht v fun s=>FN s l h fun u=>J (.str u) Z
 | .sliceSl esz x lo hi mx=>CL e x fun v=>MF e lo fun l=>MF e hi fun h=>MF e mx fun m=>gK (DI esz v l h m) fun u=>J u Z
 | .sliceArr n esz x lo hi mx=>CL e x fun v=>MF e lo fun l=>MF e hi fun h=>MF e mx fun m=>gK (Ic n esz v l h m) fun u=>J u Z
 | .mkifc t x=>CL e x fun v=>J (.ifc t v) Z
 | .mkfn f a c=>ME e a fun xs=>ME e c fun ys=>J (.fn f xs ys) Z
 | .build z ps=>OZ e ps fun l=>D8 l z fun l'=>J (.agg l') Z
 | .cap x=>CL e x fun v=>match v with
  | .nils=>J (.int .i64 0) Z
  | .sl _ _ _ (.ex c)=>J (.int .i64 (AA c)) Z
  | _=>none
 | .min x l=>CL e x fun v=>ME e l fun vs=>gK (TS v vs) fun u=>match u with
  | .int k n=>J (.int k n) Z
  | _=>none
 | .max x l=>CL e x fun v=>ME e l fun vs=>gK (TT v vs) fun u=>match u with
  | .int k n=>J (.int k n) Z
  | _=>none
 | .load none x=>CL e x fun v=>B8 v fun b o=>Bc E Z b o fun u=>J u Z
 | .load (some n) x=>CL e x fun v=>B8 v fun b o=>BH E Z b o n fun u=>J (.agg u) Z
 | .alloc _ z=>J (.ptr id 0) ⟨nx,(id,.cells z)::Z.bl⟩
 | .box _ x=>CL e x fun v=>GW (allOne v.cells) (J (.ptr id 0) ⟨nx,(id,.cells v.cells)::Z.bl⟩)
 | .buildSlice _ n z ps=>OZ e ps fun l=>D8 l z fun l'=>GW (allOne l') (J (.sl id 0 n (.ex n)) ⟨nx,(id,.cells l')::Z.bl⟩)
 | .mkslice _ _ bytes z len cap=>CL e len fun a=>CL e cap fun b=>match a,b with
  | .int .i64 n,.int .i64 c=>N8 n fun n=>N8 c fun c=>GW (Ag n c&&Ag (c*bytes) 281474976710656&&Ag c 1000000000000)
    (J (.sl id 0 n (.ex c)) ⟨nx,(id,.cells (AY c z).flatten)::Z.bl⟩)
  | _,_=>none
 | .store n x v=>CL e x fun p=>CL e v fun u=>B8 p fun b o=>FW n b o u Z fun Z'=>J .dead Z'
 | .append _ esz bytes s x=>CL e s fun a=>CL e x fun b=>DD E esz bytes a b Z J
 | .copy esz d s=>CL e d fun a=>CL e s fun b=>AV (mS E esz a b Z) J
 | .call f args=>ME e args fun vs=>AV (D f vs Z) J
 | .callv f args=>CL e f fun fv=>ME e args fun vs=>FL D fv vs Z J
 | .mkmap=>J (.mp id) ⟨nx,(id,.map [])::Z.bl⟩
 | .lookup t z m x=>CL e m fun p=>CL e x fun k=>gK (L8 t z p k Z) fun v=>J v Z
 | .mapset t m k v=>CL e m fun p=>CL e k fun a=>CL e v fun b=>AV (Rv t p a b Z) J
 | .alloc0 el=>J (.ptr id 0) ⟨nx,(id,.unit el)::Z.bl⟩
 | .box0 el x=>CL e x fun v=>match v with
  | .agg []=>J (.ptr id 0) ⟨nx,(id,.unit el)::Z.bl⟩
  | _=>none
 | .load0 x=>CL e x fun v=>B8 v fun _ _=>J (.agg []) Z
 | .store0 x v=>CL e x fun p=>CL e v fun u=>match p,u with
  | .ptr _ _,.agg []=>J .dead Z
  | _,_=>none
 | .faddr0 t x=>CL e x fun v=>gK (OD t v Z) fun u=>J u Z
 | .idxArr n esz none x i=>CL e x fun v=>CL e i fun j=>Bm v fun l=>match j with
  | .int _ k=>N8 k fun m=>GW (DA m n) (JW l (Xz m esz) fun u=>J u Z)
  | _=>none
 | .idxArr n esz (some s) x i=>CL e x fun v=>CL e i fun j=>Bm v fun l=>match j with
  | .int _ k=>N8 k fun m=>GW (DA m n) (GA l (Xz m esz) s fun l'=>J (.agg l') Z)
  | _=>none
 | _=>none
def VB (ty:C6) (v:V) (J:List V->AH):AH:=match ty with
 | .agg _=>Bm v fun l=>GW (allOne l) (J l)
 | _=>Ba v (J [v])
def iF (E:EB) (D:Ak) (pw:Bool) (id nx:Nat) (o:EH) (ty:C6) (e:Bz) (q:Qs) (r:Rg) (Z:H) (J:V->Rg->H->AH) (Jm:Nat->Nat->AH):AH:=
 match o with
 | .mov x=>match FQ q x with
  | some (m,off)=>Jm m off
  | none=>Cs E D id nx o e Z fun v Z'=>rt ty v fun v'=>J v' r Z'
 | .nilck x=>match FQ q x with
  | some (m,off)=>Jm m off
  | none=>Cs E D id nx o e Z fun v Z'=>rt ty v fun v'=>J v' r Z'
 | .faddr d x=>match FQ q x with
  | some (m,off)=>Jm m (off+d)
  | none=>Cs E D id nx o e Z fun v Z'=>rt ty v fun v'=>J v' r Z'
 | .load none x=>match FQ q x with
  | some (m,off)=>match look r m with
   | some l=>JW l off fun v=>rt ty v fun v'=>J v' r Z
   | none=>none
  | none=>Cs E D id nx o e Z fun v Z'=>rt ty v fun v'=>J v' r Z'
 | .load (some n) x=>match FQ q x with
  | some (m,off)=>match look r m with
   | some l=>GA l off n fun l'=>rt ty (.agg l') fun v'=>J v' r Z
   | none=>none
  | none=>Cs E D id nx o e Z fun v Z'=>rt ty v fun v'=>J v' r Z'
 | .store n x v=>match FQ q x with
  | some (m,off)=>match pw,look r m with
   | true,some l=>match FQ q v with
    | none=>CL e v fun u=>VB ty u fun cs=>GW (AW cs.length n&&Ag (off+n) l.length) (J .dead (I0 r m (HK l off cs)) Z)
    | some _=>none
   | _,_=>none
  | none=>Cs E D id nx o e Z fun v Z'=>J v r Z'
 | o=>Cs E D id nx o e Z fun v Z'=>rt ty v fun v'=>J v' r Z'
inductive XL where
 | nil
 | op (dst:Option Nat) (ty:C6) (looks:List Nat) (o:EH) (rest:XL)
 | pal (dst:Nat) (looks:List Nat) (el:TypeId) (z:List V) (rest:XL)
 | grp (t:Nat) (b:Bool) (l:XL) (dst:Nat) (looks:List Nat) (c x y:AO) (rest:XL)
 deriving Inhabited
def XL.size:XL->Nat
 | .nil=>0
 | .op _ _ _ _ r=>r.size+1
 | .pal _ _ _ _ r=>r.size+1
 | .grp _ _ l _ _ _ _ _ r=>l.size+(r.size+1)
def XL.flat (g:Option (Nat × Bool)):XL->List BM
 | .nil=>[]
 | .op d _ _ o r=>⟨d,o,g⟩::r.flat g
 | .pal d _ el z r=>⟨some d,.alloc el z,g⟩::r.flat g
 | .grp t b l d _ c x y r=>l.flat (some (t,b))++⟨some d,.pick c x y,g⟩::r.flat g
def XL.lks:XL->List (List Nat)
 | .nil=>[]
 | .op _ _ k _ r=>k::r.lks
 | .pal _ k _ _ r=>k::r.lks
 | .grp _ _ l _ k _ _ _ r=>l.lks++k::r.lks
def XL.dsts:XL->List Nat
 | .nil=>[]
 | .op d _ _ _ r=>(match d with | some d=>d::r.dsts | none=>r.dsts)
 | .pal d _ _ _ r=>d::r.dsts
 | .grp _ _ l d _ _ _ _ r=>l.dsts++d::r.dsts
def Bd {α:Type} (ds:List Nat):List (Nat × α)->List (Nat × α)
 | []=>[]
 | (k,v)::l=>match Bg ds k with
  | true=>Bd ds l
  | false=>(k,v)::Bd ds l
def B3 {α:Type} (d:Option Nat) (l:List (Nat × α)):List (Nat × α):=match d with
 | none=>l
 | some d=>Bd [d] l
def IN (m:Nat):Qs->List Nat
 | []=>[]
 | (t,p)::l=>match AW p.1 m with
  | true=>t::IN m l
  | false=>IN m l
def Je (m:Nat) (q:Qs):Qs:=Bd (IN m q) q
def Kz:List Nat->Qs->Qs
 | [],_=>[]
 | t::l,q=>match look q t with
  | some p=>(t,p)::Kz l q
  | none=>Kz l q
def Dt (dr:Bool) (ks:List Nat) (e:Bz):Bz:=match dr with
 | true=>restr ks e
 | false=>e
def Kd (dr:Bool) (ks:List Nat) (q:Qs):Qs:=match dr with
 | true=>Kz ks q
 | false=>q
def Pz (q:Qs) (d:Option Nat) (p:Nat × Nat):Qs:=match d with
 | some d=>(d,p)::q
 | none=>q
def Im (E:EB) (D:Ak) (dr pw:Bool) (_n0:Nat) (l:XL):Nat->Bz->Qs->Rg->H->(Bz->Qs->Rg->H->AH)->AH:=
 XL.rec (motive:=fun _=>Bool->Nat->Bz->Qs->Rg->H->(Bz->Qs->Rg->H->AH)->AH)
  (fun _ _ e q r Z J=>J e q r Z)
  (fun d ty ks o _ ih pw i e q r Z J=>
   iF E D pw Z.next (Z.next+1) o ty (Dt dr ks e) (Kd dr ks q) r Z
    (fun v r' Z'=>ih pw (i+1) (Cb e d v) (B3 d q) r' Z' J)
    (fun m off=>ih pw (i+1) (B3 d e) (Pz (B3 d q) d (m,off)) r Z J))
  (fun d _ _ z _ ih pw i e q r Z J=>match pw with
   | true=>ih true (i+1) (Bd [d] e) ((d,(d,0))::Je d (Bd [d] q)) ((d,z)::Bd [d] r) Z J
   | false=>none)
  (fun t b l d ks _ x y _ ihl ih pw i e q r Z J=>
   CL (Dt dr [t] e) (.tmp t) fun c=>AZ c fun cb=>
    Aa (fun v Z'=>ih pw (i+l.size+1) ((d,.bool v)::Bd (d::l.dsts) e) (Bd (d::l.dsts) q) r Z' J) fun k=>
     match b with
     | true=>AK cb
       (ihl false i e q r Z fun e' _ _ Z'=>CL (Dt dr ks e') x fun v=>AZ v fun v=>k v Z')
       (CL (Dt dr ks e) y fun v=>AZ v fun v=>k v Z)
     | false=>AK cb
       (CL (Dt dr ks e) x fun v=>AZ v fun v=>k v Z)
       (ihl false i e q r Z fun e' _ _ Z'=>CL (Dt dr ks e') y fun v=>AZ v fun v=>k v Z'))
  l pw
section
variable {E:EB} {D:Ak} {dr:Bool} {n0 i:Nat} {e:Bz} {q:Qs} {r:Rg} {Z:H} {J:Bz->Qs->Rg->H->AH}
theorem jX {pw:Bool} (d:Option Nat) (ty:C6) (ks:List Nat) (o:EH) (rest:XL):Im E D dr pw n0 (.op d ty ks o rest) i e q r Z J=iF E D pw Z.next (Z.next+1) o ty (Dt dr ks e) (Kd dr ks q) r Z
      (fun v r' Z'=>Im E D dr pw n0 rest (i+1) (Cb e d v) (B3 d q) r' Z' J)
      (fun m off=>Im E D dr pw n0 rest (i+1) (B3 d e) (Pz (B3 d q) d (m,off)) r Z J):=rfl
theorem bN (d:Nat) (ks:List Nat) (el:TypeId) (z:List V) (rest:XL):Im E D dr true n0 (.pal d ks el z rest) i e q r Z J=Im E D dr true n0 rest (i+1) (Bd [d] e) ((d,(d,0))::Je d (Bd [d] q)) ((d,z)::Bd [d] r) Z J:=rfl
theorem Yd (d:Nat) (ks:List Nat) (el:TypeId) (z:List V) (rest:XL):Im E D dr false n0 (.pal d ks el z rest) i e q r Z J=none:=rfl
theorem bO {pw:Bool} (t:Nat) (b:Bool) (l:XL) (d:Nat) (ks:List Nat) (c x y:AO) (rest:XL):Im E D dr pw n0 (.grp t b l d ks c x y rest) i e q r Z J =
      CL (Dt dr [t] e) (.tmp t) fun c=>AZ c fun cb=>
        Aa (fun v Z'=>Im E D dr pw n0 rest (i+l.size+1) ((d,.bool v)::Bd (d::l.dsts) e) (Bd (d::l.dsts) q) r Z' J) fun k=>
          match b with
          | true=>AK cb
              (Im E D dr false n0 l i e q r Z fun e' _ _ Z'=>CL (Dt dr ks e') x fun v=>AZ v fun v=>k v Z')
              (CL (Dt dr ks e) y fun v=>AZ v fun v=>k v Z)
          | false=>AK cb
              (CL (Dt dr ks e) x fun v=>AZ v fun v=>k v Z)
              (Im E D dr false n0 l i e q r Z fun e' _ _ Z'=>CL (Dt dr ks e') y fun v=>AZ v fun v=>k v Z'):=rfl
end
structure St where
 e:Bz
 q:Qs
 r:Rg
 Z:H
inductive XC where
 | skip
 | ops (l:XL)
 | draw (l:XL) (ancs:List Nat)
 | gdraw (ops:List BM) (plan:List DP) (ts:List (Nat × C6))
 | seq (a b:XC)
 | cond (c:AO) (a b:XC)
 | block (id:Nat) (c:XC)
 | loop (ts:List (Nat × C6)) (ms:List Nat) (rs:List (Nat × List C6)) (c:XC)
 | exit (id:Nat)
 | ret
 | keep (ts:List (Nat × C6)) (ms:List Nat) (rs:List (Nat × List C6)) (c:XC)
 | bad
 deriving Inhabited
def TU (e:Bz):List (Nat × C6)->(Bz->AH)->AH
 | [],J=>J []
 | (t,ty)::l,J=>BR e t fun v=>rt ty v fun v'=>TU e l fun e'=>J ((t,v')::e')
def Ok (ms rs:List Nat) (q:Qs):Qs:=match ms with
 | []=>[]
 | t::l=>match look q t with
  | some p=>(match Bg rs p.1 with
   | true=>(t,p)::Ok l rs q
   | false=>Ok l rs q)
  | none=>Ok l rs q
def WY (e:Bz):List (Nat × C6)->(Bz->AH)->AH
 | [],J=>J []
 | (t,ty)::l,J=>CL e (.tmp t) fun v=>rt ty v fun v'=>WY e l fun e'=>J ((t,v')::e')
def WX (r:Rg):List (Nat × List C6)->(Rg->AH)->AH
 | [],J=>J []
 | (m,tys)::l,J=>match look r m with
  | some cs=>mC tys cs fun cs'=>WX r l fun r'=>J ((m,cs')::r')
  | none=>none
def Ad (f:(St->AH)->St->AH) (N:Nat):St->AH:=Nat.rec (fun _=>none) (fun _ ih=>f ih) N
theorem Aq (f:(St->AH)->St->AH) (n:Nat) (s:St):Ad f (n+1) s=f (Ad f n) s:=rfl
def XL.makes:XL->Bool
 | .nil=>false
 | .op _ _ _ o r=>(match o.cls with | .a=>true | _=>r.makes)
 | .pal _ _ _ _ r=>r.makes
 | .grp _ _ l _ _ _ _ _ r=>l.makes || r.makes
def XL.pals:XL->List Nat
 | .nil=>[]
 | .op _ _ _ _ r=>r.pals
 | .pal d _ _ _ r=>d::r.pals
 | .grp _ _ l _ _ _ _ _ r=>l.pals++r.pals
def Oa (q:Qs):List Nat->Bool
 | []=>true
 | d::l=>(IN d q).isEmpty&&Oa q l
def JQ (ts:List (Nat × C6)) (ms:List Nat) (rs:List (Nat × List C6)) (s:St) (J:St->AH):AH:=
 WY s.e ts fun e'=>WX s.r rs fun r'=>J ⟨e',Ok ms (rs.map Prod.fst) s.q,r',s.Z⟩
def BY (id:Nat) (kn:St->AH) (kx:Nat->St->AH):Nat->St->AH:=fun j s'=>match AW j id with
 | true=>kn s'
 | false=>kx j s'
def bM (q:Qs) (ds:List Nat) (a:AH):AH:=match Oa q ds with
 | true=>a
 | false=>none
def Ci (x:Option (Bz × H)) (J:Bz->H->AH):AH:=match x with
 | some (e,Z)=>J e Z
 | none=>none
def AN (E:EB) (D:Ak) (W:AI) (N:Nat) (c:XC):St->(St->AH)->(Nat->St->AH)->(St->AH)->AH:=
 XC.rec (motive:=fun _=>St->(St->AH)->(Nat->St->AH)->(St->AH)->AH)
  (fun s kn _ _=>kn s)
  (fun l s kn _ _=>Im E D false true 0 l 0 s.e s.q s.r s.Z fun e q r Z=>kn ⟨e,q,r,Z⟩)
  (fun l _ s kn _ _=>bM s.q l.pals (Im E D true true 0 l 0 s.e s.q s.r s.Z fun e q r Z=>kn ⟨e,q,r,Z⟩))
  (fun ops pl ts s kn _ _=>Ci (W ops pl s.e s.Z) fun e' Z'=>TU e' ts fun e''=>kn ⟨e'',[],[],Z'⟩)
  (fun _ _ iha ihb s kn kx kr=>iha s (fun s'=>ihb s' kn kx kr) kx kr)
  (fun c _ _ iha ihb s kn kx kr=>CL s.e c fun v=>AZ v fun cb=>AK cb (iha s kn kx kr) (ihb s kn kx kr))
  (fun id _ ih s kn kx kr=>ih s kn (BY id kn kx) kr)
  (fun ts ms rs _ ih s _ kx kr=>JQ ts ms rs s fun s0=>Ad (fun rec s'=>ih s' (fun s''=>JQ ts ms rs s'' rec) kx kr) N s0)
  (fun id s _ kx _=>kx id s)
  (fun s _ _ kr=>kr s)
  (fun ts ms rs _ ih s kn kx kr=>JQ ts ms rs s fun s0=>ih s0 kn kx kr)
  (fun _ _ _ _=>none)
  c
section
variable {E:EB} {D:Ak} {W:AI} {N:Nat} {s:St} {kn:St->AH} {kx:Nat->St->AH} {kr:St->AH}
theorem bQ (l:XL):AN E D W N (.ops l) s kn kx kr=Im E D false true 0 l 0 s.e s.q s.r s.Z fun e q r Z=>kn ⟨e,q,r,Z⟩:=rfl
theorem Yg (l:XL) (ancs:List Nat):AN E D W N (.draw l ancs) s kn kx kr=bM s.q l.pals (Im E D true true 0 l 0 s.e s.q s.r s.Z fun e q r Z=>kn ⟨e,q,r,Z⟩):=rfl
theorem U5 (ops:List BM) (pl:List DP) (ts:List (Nat × C6)):AN E D W N (.gdraw ops pl ts) s kn kx kr=Ci (W ops pl s.e s.Z) fun e' Z'=>TU e' ts fun e''=>kn ⟨e'',[],[],Z'⟩:=rfl
theorem bP (a b:XC):AN E D W N (.seq a b) s kn kx kr=AN E D W N a s (fun s'=>AN E D W N b s' kn kx kr) kx kr:=rfl
theorem Yh (c:AO) (a b:XC):AN E D W N (.cond c a b) s kn kx kr=CL s.e c fun v=>AZ v fun cb=>AK cb (AN E D W N a s kn kx kr) (AN E D W N b s kn kx kr):=rfl
theorem U6 (id:Nat) (c:XC):AN E D W N (.block id c) s kn kx kr=AN E D W N c s kn (BY id kn kx) kr:=rfl
theorem Ye (ts:List (Nat × C6)) (ms:List Nat) (rs:List (Nat × List C6)) (c:XC):AN E D W N (.loop ts ms rs c) s kn kx kr=JQ ts ms rs s fun s0=>Ad (fun rec s'=>AN E D W N c s' (fun s''=>JQ ts ms rs s'' rec) kx kr) N s0:=rfl
theorem Yf (ts:List (Nat × C6)) (ms:List Nat) (rs:List (Nat × List C6)) (c:XC):AN E D W N (.keep ts ms rs c) s kn kx kr=JQ ts ms rs s fun s0=>AN E D W N c s0 kn kx kr:=rfl
end
structure DR where
 ntmps:Nat
 params:List C6
 results:List AR
 body:XC
 deriving Inhabited
def DF (E:EB) (s:St):List AR->(List V->AH)->AH
 | [],J=>J []
 | .tmp t::l,J=>CL s.e (.tmp t) fun v=>DF E s l fun r=>J (v::r)
 | .cell t n::l,J=>match look s.q t with
  | some (m,off)=>match look s.r m with
   | some cs=>match n with
    | none=>JW cs off fun v=>DF E s l fun r=>J (v::r)
    | some n=>GA cs off n fun l'=>DF E s l fun r=>J (.agg l'::r)
   | none=>none
  | none=>CL s.e (.tmp t) fun p=>B8 p fun b o=>match n with
   | none=>Bc E s.Z b o fun v=>DF E s l fun r=>J (v::r)
   | some n=>BH E s.Z b o n fun v=>DF E s l fun r=>J (.agg v::r)
def Bq (E:EB) (D:Ak) (W:AI) (N:Nat) (f:DR) (args:List V) (Z:H):AH:=
 mC f.params args fun args'=>AN E D W N f.body ⟨Nx 0 args',[],[],Z⟩ (fun s=>DF E s f.results fun l=>some (Da l,s.Z)) (fun _ _=>none) (fun s=>DF E s f.results fun l=>some (Da l,s.Z))
def XC.strip:XC->AC
 | .skip => .skip
 | .ops l => .region (l.flat none)
 | .draw l ancs => .draw (l.flat none) (List.zipWith DP.mk ancs l.lks)
 | .gdraw l pl _ => .draw l pl
 | .seq a b => .seq a.strip b.strip
 | .cond c a b => .cond c a.strip b.strip
 | .block id c => .block id c.strip
 | .loop _ _ _ c => .loop c.strip
 | .exit id => .exit id
 | .ret => .ret
 | .keep _ _ _ c=>c.strip
 | .bad => .bad
def DR.strip (f:DR):ZA:=⟨f.ntmps,f.results,[],f.body.strip⟩
def C6.known:C6->Bool
 | .any=>false
 | _=>true
def okD (d:Option Nat) (ty:C6) (o:EH):Bool:=match d,o with
 | none,_=>true
 | some _,.store _ _ _=>false
 | some _,o=>(match o.cls with
  | .k=>ty.known
  | _=>true)
def iU (gt:Option Nat) (ks:List Nat):Bool:=match gt with
 | none=>true
 | some t=>Bg ks t
def aG (t:Nat) (b:Bool) (ds:List Nat) (c x y:AO):Bool:=
 (match c with
  | .tmp u=>AW u t
  | .con _=>false) &&
 (match (match b with | true=>y | false=>x)with
  | .tmp u=>!Bg ds u
  | .con _=>true)
def XL.okG:XL->Option (List Nat)->Option Nat->Bool
 | .nil,_,_=>true
 | .op d ty ks o r,ds,gt=>okD d ty o&&iU gt ks&&(match ds,d with
  | some l,some d=>r.okG (some (d::l)) gt
  | _,_=>r.okG ds gt)
 | .pal _ ks _ _ r,ds,gt=>iU gt ks&&(match ds with
  | some _=>false
  | none=>r.okG none gt)
 | .grp t b l d ks c x y r,ds,gt=>iU gt ks&&Bg ks t && !Bg l.dsts t&&aG t b l.dsts c x y&&(match ds with
  | some ds'=>Bg ds' t
  | none=>true)&&l.okG (some []) (some t)&&(match ds with
  | some ds'=>r.okG (some (d::l.dsts++ds')) gt
  | none=>r.okG none gt)
def bK (l:List BM) (ancs:List Nat):Bool:=
 VI l.length fun k=>match l[k]? with
  | some ok=>(match ok.op.cls with
   | .k=>VI l.length fun j=>match l[j]? with
    | some oj=>(match oj.op.cls with
     | .l=>(ancs.getD j 0).testBit k || (ancs.getD k 0).testBit j
     | .a=>!DA j k || (ancs.getD k 0).testBit j
     | _=>true)
    | none=>false
   | _=>true)
  | none=>false
def TQ:List BM->Bool
 | []=>true
 | o::l=>(match o.op with
  | .bad=>false
  | _=>true)&&TQ l
def XC.ok:XC->Bool
 | .skip=>true
 | .ops l=>l.okG none none
 | .draw l ancs=>l.okG none none&&bK (l.flat none) ancs&&AW ancs.length l.lks.length && !l.makes&&TQ (l.flat none)
 | .gdraw _ _ _=>true
 | .seq a b=>a.ok&&b.ok
 | .cond _ a b=>a.ok&&b.ok
 | .block _ c=>c.ok
 | .loop _ _ _ c=>c.ok
 | .exit _=>true
 | .ret=>true
 | .keep _ _ _ c=>c.ok
 | .bad=>true
end
def AO.t (i:Nat):AO := .tmp i
def AO.i (n:Nat):AO := .con (.int .i64 (AA n))
def C6.i:C6 := .int .i64
def XL.m (d s:Nat) (k:XL):XL := .op (some d) .any [s] (.mov (.tmp s)) k
def XL.p (d:Nat) (ks:List Nat) (o:EH) (k:XL):XL := .op (some d) .any ks o k
def AO.ts:List AO->List Nat
 | []=>[]
 | .tmp i::l=>i::AO.ts l
 | .con _::l=>AO.ts l
def XL.f (d k s:Nat) (r:XL):XL := .op (some d) .any [s] (.faddr k (.tmp s)) r
def XL.n (d s:Nat) (r:XL):XL := .op (some d) .any [s] (.nilck (.tmp s)) r
def XL.u (d s:Nat) (r:XL):XL := .op (some d) .any [s] (.len false (.tmp s)) r
def XL.s (d e x i:Nat) (r:XL):XL := .op (some d) .any [x,i] (.iaddrS e (.tmp x) (.tmp i)) r
def XL.b (d:Nat) (o:BinOp) (t:FU) (x y:AO) (r:XL):XL := .op (some d) .any (AO.ts [x,y]) (.bin o t x y) r
def XL.q (d n:Nat) (r:XL):XL := .op (some d) .any [] (.mov (.con (.int .i64 (AA n)))) r
def XL.c (d:Nat) (v:V) (r:XL):XL := .op (some d) .any [] (.mov (.con v)) r
def XL.l (d:Nat) (t:C6) (s:Nat) (r:XL):XL := .op (some d) t [s] (.load none (.tmp s)) r
def XL.k (d:Nat) (t:C6) (f:FuncId) (l:List AO) (r:XL):XL := .op (some d) t (AO.ts l) (.call f l) r
def XL.w (n x v:Nat) (r:XL):XL := .op none .any [x,v] (.store n (.tmp x) (.tmp v)) r
def EH.ts:EH->List Nat
 | .mov x | .box _ x | .load _ x | .nilck x | .un _ x | .conv _ x | .mkifc _ x | .faddr _ x | .field _ _ x | .extract _ x | .len _ x | .cap x=>AO.ts [x]
 | .bin _ _ x y | .iaddrS _ x y | .iaddrA _ _ x y | .idxStr x y | .idxArr _ _ _ x y | .append _ _ _ x y | .mkslice _ _ _ _ x y=>AO.ts [x,y]
 | .call _ l=>AO.ts l
 | .callv f l=>AO.ts (f::l)
 | _=>[]
def XL.P (d:Nat) (o:EH) (r:XL):XL := .op (some d) .any o.ts o r
def XL.O (d:Nat) (t:C6) (o:EH) (r:XL):XL := .op (some d) t o.ts o r
def XL.gA (t:Nat) (b:Bool) (l:XL) (d c x:Nat) (r:XL):XL := .grp t b l d [c,x] (.tmp c) (.tmp x) (.con (.bool false)) r
def XL.gO (t:Nat) (b:Bool) (l:XL) (d c x:Nat) (r:XL):XL := .grp t b l d [c,x] (.tmp c) (.con (.bool true)) (.tmp x) r
def XC.z (a:XL) (b:XC):XC := .seq (.ops a) b
def Gn (l:List V) (Z:H) (J:H->AH):AH:=GW (allOne l) (J (Br Z (.cells l)))
def Ah (k:IntKind) (l:List V) (J:Int->List V->AH):AH:=AE l fun v m=>Am k v fun n=>J n m
def DQ (l:List V) (J:Bool->List V->AH):AH:=AE l fun v m=>AZ v fun b=>J b m
def IZ (l:List V) (J:BS->List V->AH):AH:=AE l fun v m=>Ht v fun s=>J s m
end Go.Og
namespace Go.Og
theorem Az {α:Type} (p:Nat × α) (l:List (Nat × α)) (id:Nat):BC (p::l) id=if p.1=id then some p.2 else BC l id:=by
 show (Bool.rec (motive:=fun _=>Option α) (BC l id) (some p.2) (AW p.1 id))=_
 by_cases h:p.1=id
 ·have hb:AW p.1 id=true:=by rw[AS];exact h
  rw[if_pos h,hb]
 ·rw[if_neg h]
  have:AW p.1 id=false:=HJ.2 (by rw[ne_eq,AS];exact h)
  rw[this]
theorem As {α:Type} (l:List (Nat × α)) (id:Nat):BC l id=look l id:=by
 induction l with
 | nil=>rfl
 | cons p l ih=>
  obtain⟨k,b⟩:=p
  rw[Az,ih]
  simp only[look,AS]
theorem U4 {α:Type} (p:Nat × α) (l:List (Nat × α)) (id:Nat):Tj (p::l) id=if p.1=id then l else p::Tj l id:=by
 show (Bool.rec (motive:=fun _=>List (Nat × α)) (p::Tj l id) l (AW p.1 id))=_
 by_cases h:p.1=id
 ·have hb:AW p.1 id=true:=by rw[AS];exact h
  rw[if_pos h,hb]
 ·rw[if_neg h]
  have:AW p.1 id=false:=HJ.2 (by rw[ne_eq,AS];exact h)
  rw[this]
theorem Uq {α:Type} (l:List (Nat × α)) (id k:Nat) (h:id≠k):look (Tj l id) k=look l k:=by
 induction l with
 | nil=>rfl
 | cons p l ih=>
  obtain⟨m,b⟩:=p
  rw[U4]
  by_cases hm:m=id
  ·rw[if_pos hm];simp only[look,AS];rw[if_neg (by omega)]
  ·rw[if_neg hm];simp only[look,AS,ih]
theorem N7 (l:List V) (n:Nat):iz l n=l[n]? := by
 induction l generalizing n with
 | nil=>rfl
 | cons a l ih=>
  cases n with
  | zero=>rfl
  | succ n=>exact ih n
theorem Mr (l:EB) (id:Nat) (J:EB->AH):Ou l id J=J (drop l id):=by
 induction l generalizing J with
 | nil=>rfl
 | cons p l ih=>
  obtain⟨k,b⟩:=p
  show Ou l id (fun l'=>Bool.rec (motive:=fun _=>AH) (J ((k,b)::l')) (J l') (AW k id))=_
  rw[ih]
  simp only[drop]
  cases hb:AW k id<;>simp[hb]
theorem Dd {c:Bool} {a:AH} {r:V × H} (h:GW c a=some r):c=true/\a=some r:=by
 cases c with
 | true=>exact⟨rfl,h⟩
 | false=>cases h
theorem EZ (a b:AH):AK true a b=a:=rfl
theorem C3 (a b:AH):AK false a b=b:=rfl
theorem KX {x:Option V} {J:V->AH} {r:V × H} (h:gK x J=some r):∃v,x=some v/\J v=some r:=by
 cases x with
 | none=>cases h
 | some v=>exact⟨v,rfl,h⟩
theorem Hg {x:AH} {J:V->H->AH} {r:V × H} (h:AV x J=some r):∃v Z,x=some (v,Z)/\J v Z=some r:=by
 cases x with
 | none=>cases h
 | some p=>exact⟨p.1,p.2,rfl,h⟩
theorem RW {k:IntKind} {n:Int} (h:wz k n=true):k.wrap n=n:=by
 unfold IntKind.wrap
 cases n with
 | ofNat m=>
  simp only[wz,BF]at h
  cases k<;>simp only[LA]at h<;>simp only[IntKind.signed,IntKind.bits,Int.ofNat_eq_natCast]<;>simp<;>omega
 | negSucc m=>
  simp only[wz,Cj]at h
  cases k<;>simp only[yj]at h<;>(first | omega | skip)<;>simp only[IntKind.signed,IntKind.bits,Int.negSucc_eq]<;>simp<;>omega
theorem DO (k:IntKind) (n:Int):An k n=k.wrap n:=by
 unfold An
 cases h:wz k n with
 | true=>exact(RW h).symm
 | false=>rfl
theorem aW (a b:Int):C8 a b=decide (a<b):=by
 cases a<;>cases b<;>simp only[C8]<;>(rw[G5];simp[Cj])<;>omega
theorem ae (a b:Int):Hp a b=decide (a<=b):=by
 cases a<;>cases b<;>simp only[Hp]<;>(rw[G5];simp[BF])<;>omega
theorem MQ (k:IntKind) (a b:Int):CR k a b=k.wrap (a+b):=DO k _
theorem iR (k:IntKind) (a b:Int):D6 k a b=k.wrap (a-b):=DO k _
theorem jD (k:IntKind) (a b:Int):Hq k a b=k.wrap (a*b):=DO k _
theorem ik (k:IntKind) (a b:Int):yY k a b=k.wrap (a.tdiv b):=DO k _
theorem jB (k:IntKind) (a:Int):rG k a=k.wrap (0-a):=DO k _
theorem N4 (k:IntKind) (a:Int) (n:Nat):JV k a n=k.wrap (a*2 ^ (Ds n k.bits)):=by
 unfold JV
 rw[DO]
 have h:(AA (Nat.pow 2 (Ds n k.bits)))=(2:Int) ^ (Ds n k.bits):=by
  show ((2 ^ (Ds n k.bits):Nat):Int)=_
  rw[iD];rfl
 rw[h];rfl
theorem N3 (k:IntKind) (a:Int) (n:Nat):GB k a n=a.fdiv (2 ^ (Ds n k.bits)):=by
 cases a with
 | ofNat m=>
  have h:(2:Int) ^ (Ds n k.bits)=((2 ^ (Ds n k.bits):Nat):Int):=by rw[iD];rfl
  rw[h]
  show ((m / 2 ^ (Ds n k.bits):Nat):Int)=Int.fdiv ((m:Nat):Int) _
  rw[wu _ (Po _),Int.natCast_ediv]
 | negSucc m=>rfl
theorem Ob (k:IntKind):∃p,LA k+1=2 ^ p/\p<=k.bits:=by
 cases k
 ·exact⟨7,rfl,by decide⟩
 ·exact⟨15,rfl,by decide⟩
 ·exact⟨31,rfl,by decide⟩
 ·exact⟨63,rfl,by decide⟩
 ·exact⟨8,rfl,by decide⟩
 ·exact⟨16,rfl,by decide⟩
 ·exact⟨32,rfl,by decide⟩
 ·exact⟨64,rfl,by decide⟩
theorem Ip {k:IntKind} {m:Nat} (h:m<=LA k):(BA k.bits (AA m)).toNat=m:=by
 obtain⟨p,hp,hb⟩:=Ob k
 have h1:m<2 ^ k.bits:=Ga (by omega) (ZB (by decide) hb)
 have:BA k.bits (AA m)=BitVec.ofNat k.bits m:=by
  show BA k.bits ((m:Nat):Int)=_
  rw[BitVec.ofInt_natCast]
 rw[this,BitVec.toNat_ofNat,Bp h1]
theorem OR {k:IntKind} {a b:Int} {f:Nat->Nat->Nat} {g:Int} (h:∀m n,a = .ofNat m->b = .ofNat n->m<=LA k->n<=LA k->g = .ofNat (f m n)):OS k a b f g=g:=by
 unfold OS
 split
 ·rename_i m n
  cases hc:(Ag m (LA k)&&Ag n (LA k))with
  | true=>
   simp only[AJ,BF]at hc
   exact(h m n rfl rfl hc.1 hc.2).symm
  | false=>rfl
 ·rfl
theorem OM {k:IntKind} {m:Nat} (h:m<=LA k):k.wrap (m:Int) = .ofNat m:=RW (n := .ofNat m) (by simpa[wz]using h)
theorem Ww (k:IntKind) (a b:Int):Eo k a b=k.wrap (BA k.bits a &&& BA k.bits b).toNat:=by
 refine OR fun m n ha hb hm hn=>?_
 subst ha hb
 rw[BitVec.toNat_and,Ip hm,Ip hn]
 exact OM (BP Nat.and_le_left hm)
theorem Uo (k:IntKind) (a b:Int):Gq k a b=k.wrap (BA k.bits a ||| BA k.bits b).toNat:=by
 refine OR fun m n ha hb hm hn=>?_
 subst ha hb
 obtain⟨p,hp,_⟩:=Ob k
 rw[BitVec.toNat_or,Ip hm,Ip hn]
 refine OM ?_
 have:=Nat.or_lt_two_pow (x:=m) (y:=n) (n:=p) (by omega) (by omega)
 omega
theorem iN (k:IntKind) (a b:Int):xS k a b=k.wrap (BA k.bits a ^^^ BA k.bits b).toNat:=by
 refine OR fun m n ha hb hm hn=>?_
 subst ha hb
 obtain⟨p,hp,_⟩:=Ob k
 rw[BitVec.toNat_xor,Ip hm,Ip hn]
 refine OM ?_
 have:=Nat.xor_lt_two_pow (x:=m) (y:=n) (n:=p) (by omega) (by omega)
 omega
theorem E5 {b:Int} {J:Nat->AH} {r:V × H} (h:N8 b J=some r):0<=b/\J b.toNat=some r:=by
 cases b with
 | ofNat n=>exact⟨Po n,h⟩
 | negSucc n=>cases h
theorem aO {b:Int} {a:AH} {r:V × H} (h:nzK b a=some r):b≠0/\a=some r:=by
 unfold nzK at h
 split at h
 ·cases h
 ·rename_i hb;exact⟨fun h0=>hb (by rw[h0];rfl),h⟩
theorem YM {op:BinOp} {t:FU} {k k':IntKind} {a b:Int} {J:V->AH} {r:V × H} (h:rU op k k' a b J=some r):∃v,Hi op t (.int k a) (.int k' b)=some v/\J v=some r:=by
  cases op
  case shl=>
    obtain⟨h1,h2⟩:=E5 h
    refine⟨_,?_,h2⟩
    simp only[Hi,OU]
    rw[if_neg (by omega),N4];rfl
  case shr=>
    obtain⟨h1,h2⟩:=E5 h
    refine⟨_,?_,h2⟩
    simp only[Hi,OU]
    rw[if_neg (by omega),N3];rfl
  all_goals
    simp only[rU]at h
    split at h
    · rename_i hk
      simp only[Hi]
      rw[if_pos hk]
      first
        | (refine⟨_,?_,h⟩;simp only[Wv,SG,MQ,iR,jD,Ww,Uo,iN,Ge,Ju,aW,ae];rfl)
        | (obtain⟨h1,h2⟩:=aO h
           refine⟨_,?_,h2⟩
           simp only[Wv]
           rw[if_neg h1]
           first | rfl | (rw[ik];rfl))
    · cases h
theorem Yl {a b:BS} {J:BS->AH} {r:V × H} (h:P2 a b J=some r):Ag (Ap a.len b.len) 1000000000000=true/\J (a.cat b)=some r:=by
 unfold P2 at h
 split at h
 ·rename_i hc;exact⟨hc,h⟩
 ·cases h
theorem X2 {op:BinOp} {t:FU} {a b:BS} {J:V->AH} {r:V × H} (h:yM op a b J=some r):∃v,Hi op t (.str a) (.str b)=some v/\J v=some r:=by
 cases op
 case add=>
  have h':P2 a b (fun s=>J (.str s))=some r:=h
  obtain⟨h1,h2⟩:=Yl h'
  exact⟨_,by simp only[Hi,ZR,h1],h2⟩
 all_goals first
  | exact⟨_,rfl,h⟩
  | cases h
theorem Te {t:FU} {x y:V} {J:Bool->AH} {r:V × H} (h:ZD t x y J=some r):∃b,Jt t x y=some b/\J b=some r:=by
 unfold ZD at h
 split at h
 ·exact⟨_,‹_›,h⟩
 ·cases h
theorem Nc {t:FU} {x y:V} {b:Bool} (h:Jt t x y=some b):(∀k n k' m,x = .int k n->y = .int k' m->False)/\(∀l m,x = .str l->y = .str m->False):=by
 constructor
 ·rintro k n k' m rfl rfl;cases t<;>(first|cases h|(rename_i b;cases b<;>cases h))
 ·rintro l m rfl rfl;cases t<;>(first|cases h|(rename_i b;cases b<;>cases h))
theorem Ym {op:BinOp} {t:FU} {x y:V} {J:V->AH} {r:V × H} (h:r7 op t x y J=some r):∃v,Hi op t x y=some v/\J v=some r:=by
 have eqs:∀(t:FU),eqX op t x y J=some r->∃v,Hi op t x y=some v/\J v=some r:=by
  intro t h
  unfold eqX at h
  split at h
  ·obtain⟨b,h1,h2⟩:=Te h
   obtain⟨h3,h4⟩:=Nc h1
   refine⟨_,?_,h2⟩
   unfold Hi
   split
   ·exact(h3 _ _ _ _ rfl rfl).elim
   ·exact(h4 _ _ rfl rfl).elim
   ·simp only[h1];rfl
  ·obtain⟨b,h1,h2⟩:=Te h
   obtain⟨h3,h4⟩:=Nc h1
   refine⟨_,?_,h2⟩
   unfold Hi
   split
   ·exact(h3 _ _ _ _ rfl rfl).elim
   ·exact(h4 _ _ rfl rfl).elim
   ·simp only[h1];rfl
  ·cases h
 cases t with
 | none=>
  simp only[r7]at h
  split at h
  ·exact YM h
  ·exact X2 h
  ·cases h
 | bool=>exact eqs _ h
 | ptr=>exact eqs _ h
 | slice=>exact eqs _ h
 | map=>exact eqs _ h
 | func=>exact eqs _ h
 | iface b=>exact eqs _ h
 | flat l=>exact eqs _ h
theorem ZQ {op:UnOp} {x:V} {J:V->AH} {r:V × H} (h:unX op x J=some r):∃v,unV op x=some v/\J v=some r:=by
 unfold unX at h
 split at h
 ·exact⟨_,by simp only[unV,jB],h⟩
 ·exact⟨_,rfl,h⟩
 ·exact⟨_,rfl,h⟩
 ·cases h
theorem OW {k:IntKind} {v:V} {J:Int->AH} {r:V × H} (h:Am k v J=some r):∃n,v = .int k n/\J n=some r:=by
 unfold Am at h
 split at h
 ·split at h
  ·rename_i hk;subst hk;exact⟨_,rfl,h⟩
  ·cases h
 ·cases h
theorem FO {v:V} {J:Bool->AH} {r:V × H} (h:AZ v J=some r):∃b,v = .bool b/\J b=some r:=by
 unfold AZ at h
 split at h
 ·exact⟨_,rfl,h⟩
 ·cases h
theorem FF {v:V} {J:BS->AH} {r:V × H} (h:Ht v J=some r):∃s,v = .str s/\J s=some r:=by
 unfold Ht at h
 split at h
 ·exact⟨_,rfl,h⟩
 ·cases h
theorem Du {v:V} {J:Nat->Nat->AH} {r:V × H} (h:B8 v J=some r):∃b o,v = .ptr b o/\J b o=some r:=by
 unfold B8 at h
 split at h
 ·exact⟨_,_,rfl,h⟩
 ·cases h
theorem FG {v:V} {J:List V->AH} {r:V × H} (h:Bm v J=some r):∃l,v = .agg l/\J l=some r:=by
 unfold Bm at h
 split at h
 ·exact⟨_,rfl,h⟩
 ·cases h
theorem Kw {v:V} {J:List V->AH} {r:V × H} (h:DH v J=some r):∃l,v = .tup l/\J l=some r:=by
 unfold DH at h
 split at h
 ·exact⟨_,rfl,h⟩
 ·cases h
theorem TA {l:List V} {J:V->List V->AH} {r:V × H} (h:AE l J=some r):∃v m,l=v::m/\J v m=some r:=by
 unfold AE at h
 split at h
 ·exact⟨_,_,rfl,h⟩
 ·cases h
theorem Ul {l:List V} {a:AH} {r:V × H} (h:AP l a=some r):l=[]/\a=some r:=by
 unfold AP at h
 split at h
 ·exact⟨rfl,h⟩
 ·cases h
theorem Kx {v:V} {a:AH} {r:V × H} (h:Ba v a=some r):v.one=true/\a=some r:=by
 unfold Ba at h
 split at h
 ·exact⟨‹_›,h⟩
 ·cases h
mutual
theorem G7:∀(ty:C6) (v:V) (J:V->AH) (r:V × H),rt ty v J=some r->J v=some r
 | .any,v,J,r,h=>by simpa only [rt]using h
 | .int k,v,J,r,h=>by simp only[rt]at h;obtain⟨n,rfl,h2⟩:=OW h;exact h2
 | .bool,v,J,r,h=>by simp only[rt]at h;obtain⟨n,rfl,h2⟩:=FO h;exact h2
 | .str,v,J,r,h=>by simp only[rt]at h;obtain⟨n,rfl,h2⟩:=FF h;exact h2
 | .ptr,v,J,r,h=>by simp only[rt]at h;obtain⟨b,o,rfl,h2⟩:=Du h;exact h2
 | .one,v,J,r,h=>by simp only[rt]at h;exact(Kx h).2
 | .agg ts,v,J,r,h=>by simp only[rt]at h;obtain⟨l,rfl,h2⟩:=FG h;exact Jh ts l _ r h2
 | .tup ts,v,J,r,h=>by simp only[rt]at h;obtain⟨l,rfl,h2⟩:=Kw h;exact Jh ts l _ r h2
theorem Jh:∀(ts:List C6) (l:List V) (J:List V->AH) (r:V × H),mC ts l J=some r->J l=some r
 | [],l,J,r,h=>by simp only[mC]at h;obtain⟨rfl,h2⟩:=Ul h;exact h2
 | t::ts,l,J,r,h=>by
  simp only[mC]at h
  obtain⟨v,m,rfl,h⟩:=TA h
  have:=G7 t v _ r h
  exact Jh ts m _ r this
end
def Ey (e:Bz):Prop:=∀t v,look e t=some v->v.live=true
theorem Ac {e:Bz} {x:AO} {J:V->AH} {r:V × H} (h:CL e x J=some r):∃v,CI e x=v/\(Ey e->v.live=true)/\J v=some r:=by
 unfold CL at h
 split at h
 ·rename_i v
  split at h
  ·exact⟨v,rfl,fun _=>‹_›,h⟩
  ·cases h
 ·rename_i t
  cases hl:look e t with
  | none=>rw[hl]at h;cases h
  | some v=>
   rw[hl]at h
   exact⟨v,by simp only[CI,GS,hl],fun he=>he t v hl,h⟩
theorem FH {e:Bz}:∀(l:List AO) (J:List V->AH) (r:V × H),ME e l J=some r->(Ey e->(FT e l).all V.live=true)/\J (FT e l)=some r
 | [],J,r,h=>⟨fun _=>rfl,h⟩
 | x::l,J,r,h=>by
  simp only[ME]at h
  obtain⟨v,hv,hl,h⟩:=Ac h
  obtain⟨h1,h2⟩:=FH l _ r h
  subst hv
  exact⟨fun he=>by simp only[FT,CP,Bj,hl he,Eu];exact h1 he,h2⟩
theorem EV {e:Bz} {x:Option AO} {J:Option V->AH} {r:V × H} (h:MF e x J=some r):J (DB e x)=some r:=by
 cases x with
 | none=>exact h
 | some x=>
  obtain⟨v,hv,_,h⟩:=Ac h
  subst hv;exact h
theorem Jj {e:Bz}:∀(l:List (Nat × Nat × AO)) (J:List (Nat × Nat × V)->AH) (r:V × H),OZ e l J=some r->J (Jk e l)=some r
 | [],J,r,h=>h
 | (o,s,x)::l,J,r,h=>by
  simp only[OZ]at h
  obtain⟨v,hv,_,h⟩:=Ac h
  have:=Jj l _ r h
  subst hv;exact this
theorem GM {l:List V} {n:Nat} {J:V->AH} {r:V × H} (h:JW l n J=some r):∃v,l[n]? = some v/\J v=some r:=by
 unfold JW at h
 rw[N7]at h
 split at h
 ·exact⟨_,‹_›,h⟩
 ·cases h
theorem GI {l:List V} {off n:Nat} {J:List V->AH} {r:V × H} (h:GA l off n J=some r):Ag (off+n) l.length=true/\J ((l.drop off).take n)=some r:=by
 unfold GA at h
 split at h
 ·exact⟨‹_›,h⟩
 ·cases h
theorem Ji {E:EB} {Z:H} {b:Nat} {J:List V->AH} {r:V × H} (h:X7 E Z b J=some r):∃l,rd E Z b=some l/\J l=some r:=by
 unfold X7 at h
 rw[As]at h
 unfold rd
 split at h
 ·rename_i hb;rw[hb];exact⟨_,rfl,h⟩
 ·cases h
 ·rename_i hb
  rw[As]at h
  rw[hb]
  split at h
  ·rename_i he;rw[he];exact⟨_,rfl,h⟩
  ·cases h
theorem Nh {o:Option V} {d:Nat} {J:Nat->AH} {r:V × H} (h:SH o d J=some r):∃n,Gz o d=some n/\J n=some r:=by
 unfold SH at h
 split at h
 ·exact⟨d,rfl,h⟩
 ·split at h
  ·obtain⟨h1,h2⟩:=E5 h
   exact⟨_,by simp only[Gz,if_pos h1],h2⟩
  ·cases h
theorem Uk {v:V} {J:Nat->AH} {r:V × H} (h:A2 v J=some r):∃n:Nat,J n=some r/\∀e x,CI e x=v->BT (.len false x) e=some (.int .i64 n):=by
 unfold A2 at h
 split at h
 ·exact⟨0,h,fun e x hx=>by simp only[BT,hx];rfl⟩
 ·exact⟨_,h,fun e x hx=>by simp only[BT,hx]⟩
 ·exact⟨0,h,fun e x hx=>by simp only[BT,hx];rfl⟩
 ·cases h
theorem QA {E:EB} {Z:H} {esz:Nat} {v:V} {J:Nat->List V->AH} {r:V × H} (h:srcK E Z esz v J=some r):∃n l,CQ E Z esz v=some (n,l)/\J n l=some r:=by
 unfold srcK at h
 split at h
 ·exact⟨_,_,rfl,h⟩
 ·exact⟨_,_,rfl,h⟩
 ·obtain⟨l,h1,h2⟩:=Ji h
  obtain⟨h3,h4⟩:=GI h2
  exact⟨_,_,by simp only[CQ,Kh,h1,h3,if_true];rfl,h4⟩
 ·split at h
  ·rename_i he
   rw[AS]at he
   exact⟨_,_,by simp only[CQ,if_pos he],h⟩
  ·cases h
 ·cases h
structure J4 (Z2 Z1:H):Prop where
 next:Z2.next=Z1.next
 sub:∀k b,look Z2.bl k=some b->look Z1.bl k=some b
theorem J4.refl (Z:H):J4 Z Z:=⟨rfl,fun _ _ h=>h⟩
theorem QH (Z:H) (b:Nat) (c:FX) (k:Nat):look (Px Z b c).bl k=if b=k then some c else look Z.bl k:=by
 simp only[Px,look,AS]
 by_cases h:b=k
 ·rw[if_pos h,if_pos h]
 ·rw[if_neg h,if_neg h,Uq _ _ _ h]
theorem ZY {Z:H} {b:Nat} {c d:FX} (h:look Z.bl b=some d):J4 (Px Z b c) (Z.set b c):=by
 refine⟨rfl,fun k u hk=>?_⟩
 rw[QH]at hk
 simp only[H.set,Ek]
 by_cases he:b=k
 ·subst he;rw[if_pos rfl]at hk;rw[if_pos rfl,h];exact hk
 ·rw[if_neg he]at hk;rw[if_neg he];exact hk
theorem ZS {n b off:Nat} {v:V} {Z:H} {J:H->AH} {r:V × H} (h:FW n b off v Z J=some r) :
  ∃Z1 Z2,J Z2=some r/\J4 Z2 Z1/\∀(E:EB) (e:Bz) (x y:AO),CI e x = .ptr b off->CI e y=v->EK E (.store n x y) e Z=some (.dead,Z1):=by
 unfold FW at h
 rw[As]at h
 split at h
 ·rename_i l hb
  obtain⟨hc,h⟩:=Dd h
  refine⟨_,_,h,ZY hb,fun E e x y hx hy=>?_⟩
  have hc':(AW v.cells.length n&&Ag (off+n) l.length&&allOne v.cells)=true:=hc
  simp only[EK,hx,hy,hb]
  rw[if_pos hc']
 ·cases h
theorem QT {E:EB} {esz bytes:Nat} {s x:V} {Z:H} {J:V->H->AH} {r:V × H} (h:DD E esz bytes s x Z J=some r) :
  ∃v Z1,Cq E esz bytes s x Z=some (v,Z1)/\J v Z1=some r:=by
 unfold DD at h
 obtain⟨n,new,h1,h⟩:=QA h
 split at h
 ·rename_i b len e
  split at h
  ·exact⟨_,_,by simp only[Cq,h1];rfl,h⟩
  ·rename_i hn
   split at h
   ·rename_i l hb
    rw[As]at hb
    obtain⟨hc,h⟩:=Dd h
    rw[Mr]at h
    refine⟨_,_,?_,h⟩
    simp only[Cq,h1]
    rw[if_neg (by omega),hb]
    simp only
    rw[if_pos hc]
    rfl
   ·cases h
 ·obtain⟨v,Z1,h2,h3⟩:=Hg h
  exact⟨v,Z1,h2,h3⟩
theorem Ov {l:List (Nat × Nat × V)} {z:List V} {J:List V->AH} {r:V × H} (h:D8 l z J=some r):∃l',EW l z=some l'/\J l'=some r:=by
 unfold D8 at h
 split at h
 ·exact⟨_,‹_›,h⟩
 ·cases h
theorem V9 {E:EB} {D:Ak} {id nx:Nat} {o:EH} {e:Bz} {Z:H} {J:V->H->AH} {r:V × H} (h:Cs E D id nx o e Z J=some r) :
  (o.cls = .p/\∃v,(Ey e->BT o e=some v)/\J v Z=some r)\/(o.cls = .l/\∃v,(Ey e->CX E o e Z=some v)/\J v Z=some r) \/
  (o.cls = .a/\∃v b,(Ey e->CW o e id=some (v,b))/\J v ⟨nx,(id,b)::Z.bl⟩=some r) \/
  (o.cls = .k/\∃v Z1 Z2,(Ey e->Dp E D o e Z=some (v,Z1))/\J4 Z2 Z1/\J v Z2=some r):=by
 have P:∀{v},o.cls = .p->(Ey e->BT o e=some v)->J v Z=some r->(o.cls = .p/\∃v,(Ey e->BT o e=some v)/\J v Z=some r)\/(o.cls = .l/\∃v,(Ey e->CX E o e Z=some v)/\J v Z=some r) \/
  (o.cls = .a/\∃v b,(Ey e->CW o e id=some (v,b))/\J v ⟨nx,(id,b)::Z.bl⟩=some r) \/
  (o.cls = .k/\∃v Z1 Z2,(Ey e->Dp E D o e Z=some (v,Z1))/\J4 Z2 Z1/\J v Z2=some r):=fun h1 h2 h3 => .inl ⟨h1,_,h2,h3⟩
 have L:∀{v},o.cls = .l->(Ey e->CX E o e Z=some v)->J v Z=some r->(o.cls = .p/\∃v,(Ey e->BT o e=some v)/\J v Z=some r)\/(o.cls = .l/\∃v,(Ey e->CX E o e Z=some v)/\J v Z=some r) \/
  (o.cls = .a/\∃v b,(Ey e->CW o e id=some (v,b))/\J v ⟨nx,(id,b)::Z.bl⟩=some r) \/
  (o.cls = .k/\∃v Z1 Z2,(Ey e->Dp E D o e Z=some (v,Z1))/\J4 Z2 Z1/\J v Z2=some r):=fun h1 h2 h3 => .inr (.inl ⟨h1,_,h2,h3⟩)
 have A:∀{v b},o.cls = .a->(Ey e->CW o e id=some (v,b))->J v ⟨nx,(id,b)::Z.bl⟩=some r->(o.cls = .p/\∃v,(Ey e->BT o e=some v)/\J v Z=some r)\/(o.cls = .l/\∃v,(Ey e->CX E o e Z=some v)/\J v Z=some r) \/
  (o.cls = .a/\∃v b,(Ey e->CW o e id=some (v,b))/\J v ⟨nx,(id,b)::Z.bl⟩=some r) \/
  (o.cls = .k/\∃v Z1 Z2,(Ey e->Dp E D o e Z=some (v,Z1))/\J4 Z2 Z1/\J v Z2=some r):=fun h1 h2 h3 => .inr (.inr (.inl ⟨h1,_,_,h2,h3⟩))
 have K:∀{v Z1 Z2},o.cls = .k->(Ey e->Dp E D o e Z=some (v,Z1))->J4 Z2 Z1->J v Z2=some r->(o.cls = .p/\∃v,(Ey e->BT o e=some v)/\J v Z=some r)\/(o.cls = .l/\∃v,(Ey e->CX E o e Z=some v)/\J v Z=some r) \/
  (o.cls = .a/\∃v b,(Ey e->CW o e id=some (v,b))/\J v ⟨nx,(id,b)::Z.bl⟩=some r) \/
  (o.cls = .k/\∃v Z1 Z2,(Ey e->Dp E D o e Z=some (v,Z1))/\J4 Z2 Z1/\J v Z2=some r):=fun h1 h2 h3 h4 => .inr (.inr (.inr ⟨h1,_,_,_,h2,h3,h4⟩))
 cases o with
 | mov x=>
  simp only[Cs]at h
  obtain⟨v,hv,hl,h⟩:=Ac h
  exact P rfl (fun he=>by simp only[BT,hv,hl he,if_true]) h
 | bin op t x y=>
  simp only[Cs]at h
  obtain⟨v,hv,hl,h⟩:=Ac h
  obtain⟨u,hu,_,h⟩:=Ac h
  obtain⟨w,hw,h⟩:=Ym h
  exact P rfl (fun he=>by simp only[BT,hv,hu,hw]) h
 | un op x=>
  simp only[Cs]at h
  obtain⟨v,hv,hl,h⟩:=Ac h
  obtain⟨w,hw,h⟩:=ZQ h
  exact P rfl (fun he=>by simp only[BT,hv,hw]) h
 | conv t x=>
  cases t with
  | toInt k=>
   simp only[Cs]at h
   obtain⟨v,hv,hl,h⟩:=Ac h
   split at h
   ·rw[DO]at h;exact P rfl (fun he=>by simp only[BT,hv]) h
   ·cases h
  | same=>
   simp only[Cs]at h
   obtain⟨v,hv,hl,h⟩:=Ac h
   obtain⟨s,rfl,h9⟩:=FF h
   replace h:=h9
   exact P rfl (fun he=>by simp only[BT,hv]) h
  | toBytes el=>
   simp only[Cs]at h
   obtain⟨v,hv,hl,h⟩:=Ac h
   obtain⟨s,rfl,h9⟩:=FF h
   replace h:=h9
   obtain⟨hc,h⟩:=Dd h
   exact A rfl (fun he=>by simp only[CW,hv,hc,if_true]) h
  | toStr=>
   simp only[Cs]at h
   obtain⟨v,hv,hl,h⟩:=Ac h
   unfold IM at h
   split at h
   ·cases h
   ·rename_i hns
    obtain⟨n,l,h1,h2⟩:=QA h
    split at h2
    ·rename_i s hs
     have hnot:(CI e x).isStr=false:=by
      rw[hv]
      cases v<;>first | rfl | (exact(hns _ rfl).elim)
     refine L rfl (fun he=>?_) h2
     simp only[CX,hnot]
     rw[hv,h1]
     simp[hs]
    ·cases h2
  | bad=>simp only[Cs]at h;cases h
 | nilck x=>
  simp only[Cs]at h
  obtain⟨v,hv,hl,h⟩:=Ac h
  obtain⟨b,o,rfl,h9⟩:=Du h
  replace h:=h9
  exact P rfl (fun he=>by simp only[BT,hv]) h
 | faddr off x=>
  simp only[Cs]at h
  obtain⟨v,hv,hl,h⟩:=Ac h
  obtain⟨b,o,rfl,h9⟩:=Du h
  replace h:=h9
  exact P rfl (fun he=>by simp only[BT,hv];rfl) h
 | field off n x=>
  cases n with
  | none=>
   simp only[Cs]at h
   obtain⟨v,hv,hl,h⟩:=Ac h
   obtain⟨l,rfl,h9⟩:=FG h
   replace h:=h9
   obtain⟨u,hu,h⟩:=GM h
   exact P rfl (fun he=>by simp only[BT,hv,hu]) h
  | some n=>
   simp only[Cs]at h
   obtain⟨v,hv,hl,h⟩:=Ac h
   obtain⟨l,rfl,h9⟩:=FG h
   replace h:=h9
   obtain⟨hu,h⟩:=GI h
   exact P rfl (fun he=>by simp only[BT,hv,hu,if_true]) h
 | extract i x=>
  simp only[Cs]at h
  obtain⟨v,hv,hl,h⟩:=Ac h
  obtain⟨l,rfl,h9⟩:=Kw h
  replace h:=h9
  obtain⟨u,hu,h⟩:=GM h
  exact P rfl (fun he=>by simp only[BT,hv,hu]) h
 | iaddrS esz x i=>
  simp only[Cs]at h
  obtain⟨v,hv,hl,h⟩:=Ac h
  obtain⟨u,hu,_,h⟩:=Ac h
  split at h
  ·unfold AU at h
   split at h
   ·obtain⟨h1,h⟩:=E5 h
    obtain⟨h2,h⟩:=Dd h
    simp only[Cj]at h2
    exact P rfl (fun he=>by simp only[BT,hv,hu];rw[if_pos ⟨h1,by omega⟩];rfl) h
   ·cases h
  ·cases h
 | iaddrA len esz x i=>
  simp only[Cs]at h
  obtain⟨v,hv,hl,h⟩:=Ac h
  obtain⟨u,hu,_,h⟩:=Ac h
  split at h
  ·obtain⟨b,o,rfl,h9⟩:=Du h
   replace h:=h9
   obtain⟨h1,h⟩:=E5 h
   obtain⟨h2,h⟩:=Dd h
   simp only[Cj]at h2
   exact P rfl (fun he=>by simp only[BT,hv,hu];rw[if_pos ⟨h1,by omega⟩];rfl) h
  ·cases h
 | idxStr x i=>
  simp only[Cs]at h
  obtain⟨v,hv,hl,h⟩:=Ac h
  obtain⟨u,hu,_,h⟩:=Ac h
  obtain⟨s,rfl,h9⟩:=FF h
  replace h:=h9
  split at h
  ·obtain⟨h1,h⟩:=E5 h
   obtain⟨h2,h⟩:=Dd h
   exact P rfl (fun he=>by simp only[BT,hv,hu];rw[if_pos h1,if_pos h2];rfl) h
  ·cases h
 | len b x=>
  cases b with
  | true=>
   simp only[Cs]at h
   obtain⟨v,hv,hl,h⟩:=Ac h
   obtain⟨s,rfl,h9⟩:=FF h
   replace h:=h9
   exact P rfl (fun he=>by simp only[BT,hv];rfl) h
  | false=>
   simp only[Cs]at h
   obtain⟨v,hv,hl,h⟩:=Ac h
   obtain⟨n,h1,h2⟩:=Uk h
   exact P rfl (fun _=>h2 e x hv) h1
 | lenC n=>simp only[Cs]at h;exact P rfl (fun he=>by simp only[BT];rfl) h
 | sliceStr x lo hi=>
  simp only[Cs]at h
  obtain⟨v,hv,hl,h⟩:=Ac h
  have h:=EV h
  have h:=EV h
  obtain⟨s,rfl,h9⟩:=FF h
  replace h:=h9
  unfold FN at h
  obtain⟨a,ha,h⟩:=Nh h
  obtain⟨b,hb,h⟩:=Nh h
  obtain⟨hc,h⟩:=Dd h
  exact P rfl (fun he=>by simp only[BT,hv,Ib,ha,hb,hc,if_true]) h
 | sliceSl esz x lo hi mx=>
  simp only[Cs]at h
  obtain⟨v,hv,hl,h⟩:=Ac h
  have h:=EV h
  have h:=EV h
  have h:=EV h
  obtain⟨u,hu,h⟩:=KX h
  exact P rfl (fun he=>by simp only[BT,hv,hu]) h
 | sliceArr n esz x lo hi mx=>
  simp only[Cs]at h
  obtain⟨v,hv,hl,h⟩:=Ac h
  have h:=EV h
  have h:=EV h
  have h:=EV h
  obtain⟨u,hu,h⟩:=KX h
  exact P rfl (fun he=>by simp only[BT,hv,hu]) h
 | mkifc t x=>
  simp only[Cs]at h
  obtain⟨v,hv,hl,h⟩:=Ac h
  exact P rfl (fun he=>by simp only[BT,hv,hl he,if_true]) h
 | mkfn f a c=>
  simp only[Cs]at h
  obtain⟨h1,h⟩:=FH _ _ _ h
  obtain⟨h2,h⟩:=FH _ _ _ h
  exact P rfl (fun he=>by simp only[BT,h1 he,h2 he,Bool.and_self,if_true]) h
 | build z ps=>
  simp only[Cs]at h
  have h:=Jj _ _ _ h
  obtain⟨l',hf,h⟩:=Ov h
  exact P rfl (fun he=>by simp only[BT,hf]) h
 | cap x=>
  simp only[Cs]at h
  obtain⟨v,hv,hl,h⟩:=Ac h
  split at h
  ·exact P rfl (fun he=>by simp only[BT,hv]) h
  ·exact P rfl (fun he=>by simp only[BT,hv];rfl) h
  ·cases h
 | min x l=>
  simp only[Cs]at h
  obtain⟨v,hv,hl,h⟩:=Ac h
  obtain⟨_,h⟩:=FH _ _ _ h
  obtain⟨u,hu,h⟩:=KX h
  split at h
  ·exact P rfl (fun he=>by simp only[BT,hv,hu]) h
  ·cases h
 | max x l=>
  simp only[Cs]at h
  obtain⟨v,hv,hl,h⟩:=Ac h
  obtain⟨_,h⟩:=FH _ _ _ h
  obtain⟨u,hu,h⟩:=KX h
  split at h
  ·exact P rfl (fun he=>by simp only[BT,hv,hu]) h
  ·cases h
 | load n x=>
  cases n with
  | none=>
   simp only[Cs]at h
   obtain⟨v,hv,hl,h⟩:=Ac h
   obtain⟨b,o,rfl,h9⟩:=Du h
   replace h:=h9
   obtain⟨l,hr,h⟩:=Ji h
   obtain⟨u,hu,h⟩:=GM h
   exact L rfl (fun he=>by simp only[CX,hv,hr,hu]) h
  | some n=>
   simp only[Cs]at h
   obtain⟨v,hv,hl,h⟩:=Ac h
   obtain⟨b,o,rfl,h9⟩:=Du h
   replace h:=h9
   obtain⟨l,hr,h⟩:=Ji h
   obtain⟨hu,h⟩:=GI h
   exact L rfl (fun he=>by simp only[CX,hv,Kh,hr,hu,if_true]) h
 | alloc el z=>simp only[Cs]at h;exact A rfl (fun he=>by simp only[CW]) h
 | box el x=>
  simp only[Cs]at h
  obtain⟨v,hv,hl,h⟩:=Ac h
  obtain⟨hc,h⟩:=Dd h
  exact A rfl (fun he=>by simp only[CW,hv,hl he,hc,Bool.and_self,if_true]) h
 | buildSlice el n z ps=>
  simp only[Cs]at h
  have h:=Jj _ _ _ h
  obtain⟨l',hf,h⟩:=Ov h
  obtain⟨hc,h⟩:=Dd h
  exact A rfl (fun he=>by simp only[CW,hf,hc,if_true]) h
 | mkslice el esz bytes z len cap=>
  simp only[Cs]at h
  obtain⟨v,hv,_,h⟩:=Ac h
  obtain⟨u,hu,_,h⟩:=Ac h
  split at h
  ·obtain⟨h1,h⟩:=E5 h
   obtain⟨h2,h⟩:=E5 h
   obtain⟨hc,h⟩:=Dd h
   simp only[AJ,BF]at hc
   obtain⟨⟨c1,c2⟩,c3⟩:=hc
   refine A rfl (fun he=>?_) h
   simp only[CW,hv,hu]
   have hcb:∀c:Int,0<=c->c*bytes=((c.toNat*bytes:Nat):Int):=fun c h2=>by rw[Int.natCast_mul,Int.toNat_of_nonneg h2]
   rw[if_pos ⟨h1,by omega,by rw[hcb _ h2];omega,by omega⟩]
  ·cases h
 | store n x v=>
  simp only[Cs]at h
  obtain⟨p,hp,_,h⟩:=Ac h
  obtain⟨u,hu,_,h⟩:=Ac h
  obtain⟨b,o,rfl,h9⟩:=Du h
  replace h:=h9
  obtain⟨Z1,Z2,h1,h2,h3⟩:=ZS h
  exact K rfl (fun he=>by simp only[Dp,iH,EH.cls];exact h3 E e x v hp hu) h2 h1
 | append el esz bytes s x=>
  simp only[Cs]at h
  obtain⟨p,hp,_,h⟩:=Ac h
  obtain⟨u,hu,_,h⟩:=Ac h
  obtain⟨v,Z1,h1,h2⟩:=QT h
  exact K rfl (fun he=>by simp only[Dp,iH,EH.cls,EK,hp,hu];exact h1) (J4.refl _) h2
 | copy esz d s=>
  simp only[Cs]at h
  obtain⟨p,hp,_,h⟩:=Ac h
  obtain⟨u,hu,_,h⟩:=Ac h
  obtain⟨v,Z1,h1,h2⟩:=Hg h
  exact K rfl (fun he=>by simp only[Dp,iH,EH.cls];rw[bU,hp,hu];exact h1) (J4.refl _) h2
 | call f args=>
  simp only[Cs]at h
  obtain⟨h1,h⟩:=FH _ _ _ h
  obtain⟨v,Z1,h2,h3⟩:=Hg h
  exact K rfl (fun he=>by simp only[Dp,h1 he,if_true];exact h2) (J4.refl _) h3
 | callv f args=>
  simp only[Cs]at h
  obtain⟨p,hp,_,h⟩:=Ac h
  obtain⟨h1,h⟩:=FH _ _ _ h
  unfold FL at h
  split at h
  ·obtain⟨v,Z1,h2,h3⟩:=Hg h
   exact K rfl (fun he=>by simp only[Dp,hp,h1 he,if_true];exact h2) (J4.refl _) h3
  ·cases h
 | mkmap=>simp only[Cs]at h;exact A rfl (fun he=>by simp only[CW]) h
 | lookup t z m x=>
  simp only[Cs]at h
  obtain⟨p,hp,_,h⟩:=Ac h
  obtain⟨u,hu,_,h⟩:=Ac h
  obtain⟨v,hv,h⟩:=KX h
  exact L rfl (fun he=>by simp only[CX,hp,hu];exact hv) h
 | mapset t m k v=>
  simp only[Cs]at h
  obtain⟨p,hp,_,h⟩:=Ac h
  obtain⟨u,hu,_,h⟩:=Ac h
  obtain⟨x,hx,_,h⟩:=Ac h
  obtain⟨y,Z1,h1,h2⟩:=Hg h
  exact K rfl (fun he=>by simp only[Dp,iH,EH.cls,EK,hp,hu,hx];exact h1) (J4.refl _) h2
 | alloc0 el=>simp only[Cs]at h;exact A rfl (fun he=>by simp only[CW]) h
 | box0 el x=>
  simp only[Cs]at h
  obtain⟨v,hv,hl,h⟩:=Ac h
  split at h
  ·exact A rfl (fun he=>by simp only[CW,hv]) h
  ·cases h
 | load0 x=>
  simp only[Cs]at h
  obtain⟨v,hv,hl,h⟩:=Ac h
  obtain⟨b,o,rfl,h9⟩:=Du h
  replace h:=h9
  exact P rfl (fun he=>by simp only[BT,hv]) h
 | store0 x v=>
  simp only[Cs]at h
  obtain⟨p,hp,_,h⟩:=Ac h
  obtain⟨u,hu,_,h⟩:=Ac h
  split at h
  ·exact K rfl (fun he=>by simp only[Dp,iH,EH.cls,EK,hp,hu]) (J4.refl _) h
  ·cases h
 | faddr0 t x=>
  simp only[Cs]at h
  obtain⟨p,hp,_,h⟩:=Ac h
  obtain⟨v,hv,h⟩:=KX h
  exact L rfl (fun he=>by simp only[CX,hp];exact hv) h
 | idxArr n esz s x i=>
  cases s with
  | none=>
   simp only[Cs]at h
   obtain⟨p,hp,_,h⟩:=Ac h
   obtain⟨u,hu,_,h⟩:=Ac h
   obtain⟨l,rfl,h9⟩:=FG h
   replace h:=h9
   split at h
   ·obtain⟨h1,h⟩:=E5 h
    obtain⟨hc,h⟩:=Dd h
    obtain⟨v,hv,h⟩:=GM h
    simp only[Cj]at hc
    exact P rfl (fun he=>by simp only[BT,hp,hu,LH];rw[if_pos ⟨h1,by omega⟩];exact hv) h
   ·cases h
  | some s=>
   simp only[Cs]at h
   obtain⟨p,hp,_,h⟩:=Ac h
   obtain⟨u,hu,_,h⟩:=Ac h
   obtain⟨l,rfl,h9⟩:=FG h
   replace h:=h9
   split at h
   ·obtain⟨h1,h⟩:=E5 h
    obtain⟨hc,h⟩:=Dd h
    obtain⟨hv,h⟩:=GI h
    simp only[Cj]at hc
    exact P rfl (fun he=>by simp only[BT,hp,hu,LH];rw[if_pos ⟨h1,by omega⟩];simp only[Nat.mul_eq]at hv ⊢;rw[if_pos hv]) h
   ·cases h
 | pick c a b=>simp only[Cs]at h;cases h
 | bad=>simp only[Cs]at h;cases h
inductive Out where
 | val (v:V) (r:Rg) (Z:H)
 | mark (m off:Nat)
inductive GC (E:EB) (D:Ak) (pw:Bool) (id nx:Nat) (o:EH) (e:Bz) (q:Qs) (r:Rg) (Z:H):Out->Prop where
 | p (v:V) (hc:o.cls = .p) (h:Ey e->BT o e=some v):GC E D pw id nx o e q r Z (.val v r Z)
 | l (v:V) (hc:o.cls = .l) (h:Ey e->CX E o e Z=some v):GC E D pw id nx o e q r Z (.val v r Z)
 | a (v:V) (b:FX) (hc:o.cls = .a) (h:Ey e->CW o e id=some (v,b)):GC E D pw id nx o e q r Z (.val v r ⟨nx,(id,b)::Z.bl⟩)
 | k (v:V) (Z1 Z2:H) (hc:o.cls = .k) (h:Ey e->Dp E D o e Z=some (v,Z1)) (hs:J4 Z2 Z1):GC E D pw id nx o e q r Z (.val v r Z2)
 | mv (x:AO) (m off:Nat) (ho:o = .mov x\/o = .nilck x) (hm:FQ q x=some (m,off)):GC E D pw id nx o e q r Z (.mark m off)
 | fa (d:Nat) (x:AO) (m off:Nat) (ho:o = .faddr d x) (hm:FQ q x=some (m,off)):GC E D pw id nx o e q r Z (.mark m (off+d))
 | ld (x:AO) (m off:Nat) (l:List V) (v:V) (ho:o = .load none x) (hm:FQ q x=some (m,off)) (hl:look r m=some l) (h:l[off]? = some v):GC E D pw id nx o e q r Z (.val v r Z)
 | ldn (n:Nat) (x:AO) (m off:Nat) (l:List V) (ho:o = .load (some n) x) (hm:FQ q x=some (m,off)) (hl:look r m=some l) (h:off+n<=l.length):GC E D pw id nx o e q r Z (.val (.agg ((l.drop off).take n)) r Z)
 | st (n:Nat) (x y:AO) (m off:Nat) (l cs:List V) (u:V) (hw:pw=true) (ho:o = .store n x y) (hm:FQ q x=some (m,off)) (hl:look r m=some l) (hn:FQ q y=none) (hu:CI e y=u) (hlu:Ey e->u.live=true)
   (hcs:cs=u.cells) (h1:allOne cs=true) (hlen:cs.length=n) (h:off+n<=l.length):GC E D pw id nx o e q r Z (.val .dead (I0 r m (HK l off cs)) Z)
theorem YB {v:V} (h:v.one=true):v.cells=[v]:=by cases v<;>first | rfl | cases h
theorem Tq {ty:C6} {v:V} {J:List V->AH} {r:V × H} (h:VB ty v J=some r):allOne v.cells=true/\J v.cells=some r:=by
 unfold VB at h
 split at h
 ·obtain⟨l,rfl,h2⟩:=FG h
  obtain⟨hc,h2⟩:=Dd h2
  exact⟨hc,h2⟩
 ·obtain⟨h1,h2⟩:=Kx h
  rw[YB h1]
  exact⟨by simp[allOne,h1],h2⟩
theorem iY {ty:C6} {v:V} {J:V->AH} {r:V × H} (h:rt ty v J=some r) (hk:ty.known=true):v.live=true:=by
 cases ty with
 | any=>cases hk
 | int k=>simp only[rt]at h;obtain⟨n,rfl,_⟩:=OW h;rfl
 | bool=>simp only[rt]at h;obtain⟨n,rfl,_⟩:=FO h;rfl
 | str=>simp only[rt]at h;obtain⟨n,rfl,_⟩:=FF h;rfl
 | ptr=>simp only[rt]at h;obtain⟨b,o,rfl,_⟩:=Du h;rfl
 | one=>simp only[rt]at h;have:=(Kx h).1;cases v<;>first | rfl | cases this
 | agg ts=>simp only[rt]at h;obtain⟨l,rfl,_⟩:=FG h;rfl
 | tup ts=>simp only[rt]at h;obtain⟨l,rfl,_⟩:=Kw h;rfl
theorem aJ {E:EB} {D:Ak} {pw:Bool} {id nx:Nat} {o:EH} {ty:C6} {e:Bz} {q:Qs} {r:Rg} {Z:H} {J:V->Rg->H->AH} {Jm:Nat->Nat->AH} {res:V × H}
  (h:iF E D pw id nx o ty e q r Z J Jm=some res) :
  ∃out,GC E D pw id nx o e q r Z out/\(match out with
   | .val v r' Z'=>J v r' Z'=some res/\((∃n x y,o = .store n x y)\/o.cls ≠ .k\/ty.known=false\/v.live=true)
   | .mark m off=>Jm m off=some res):=by
 have gen:(Cs E D id nx o e Z fun v Z'=>rt ty v fun v'=>J v' r Z')=some res->∃out,GC E D pw id nx o e q r Z out/\(match out with
   | .val v r' Z'=>J v r' Z'=some res/\((∃n x y,o = .store n x y)\/o.cls ≠ .k\/ty.known=false\/v.live=true)
   | .mark m off=>Jm m off=some res):=by
  intro h
  rcases V9 h with ⟨hc,v,h1,h2⟩|⟨hc,v,h1,h2⟩|⟨hc,v,b,h1,h2⟩|⟨hc,v,Z1,Z2,h1,h2,h3⟩
  ·exact⟨_,.p v hc h1,G7 _ _ _ _ h2,.inr (.inl (by rw[hc];intro h;cases h))⟩
  ·exact⟨_,.l v hc h1,G7 _ _ _ _ h2,.inr (.inl (by rw[hc];intro h;cases h))⟩
  ·exact⟨_,.a v b hc h1,G7 _ _ _ _ h2,.inr (.inl (by rw[hc];intro h;cases h))⟩
  ·refine⟨_,.k v Z1 Z2 hc h1 h2,G7 _ _ _ _ h3,?_⟩
   cases hk:ty.known with
   | false=>exact .inr (.inr (.inl rfl))
   | true=>exact .inr (.inr (.inr (iY h3 hk)))
 have np:∀{c:Cls},c = .p\/c = .l->c ≠ .k:=by rintro c (rfl | rfl)<;>(intro h;cases h)
 cases o with
 | mov x=>
  simp only[iF]at h
  split at h
  ·rename_i m off hm;exact⟨_,.mv x m off (.inl rfl) hm,h⟩
  ·exact gen h
 | nilck x=>
  simp only[iF]at h
  split at h
  ·rename_i m off hm;exact⟨_,.mv x m off (.inr rfl) hm,h⟩
  ·exact gen h
 | faddr d x=>
  simp only[iF]at h
  split at h
  ·rename_i m off hm;exact⟨_,.fa d x m off rfl hm,h⟩
  ·exact gen h
 | load n x=>
  cases n with
  | none=>
   simp only[iF]at h
   split at h
   ·rename_i m off hm
    split at h
    ·rename_i l hl
     obtain⟨v,hv,h⟩:=GM h
     exact⟨_,.ld x m off l v rfl hm hl hv,G7 _ _ _ _ h,.inr (.inl (by intro h;cases h))⟩
    ·cases h
   ·exact gen h
  | some n=>
   simp only[iF]at h
   split at h
   ·rename_i m off hm
    split at h
    ·rename_i l hl
     obtain⟨hv,h⟩:=GI h
     exact⟨_,.ldn n x m off l rfl hm hl (by simpa using hv),G7 _ _ _ _ h,.inr (.inl (by intro h;cases h))⟩
    ·cases h
   ·exact gen h
 | store n x v=>
  simp only[iF]at h
  split at h
  ·rename_i m off hm
   split at h
   ·rename_i l hl
    split at h
    ·rename_i hn
     obtain⟨u,hu,hlu,h⟩:=Ac h
     obtain⟨h1,h⟩:=Tq h
     obtain⟨hc,h⟩:=Dd h
     simp only[AJ,AS,BF]at hc
     exact⟨_,.st n x v m off l u.cells u rfl rfl hm hl hn hu hlu rfl h1 hc.1 hc.2,h,.inl ⟨n,x,v,rfl⟩⟩
    ·cases h
   ·cases h
  ·have h:(Cs E D id nx (.store n x v) e Z fun v Z'=>J v r Z')=some res:=h
   rcases V9 h with ⟨hc,v,h1,h2⟩|⟨hc,v,h1,h2⟩|⟨hc,v,b,h1,h2⟩|⟨hc,v,Z1,Z2,h1,h2,h3⟩
   ·cases hc
   ·cases hc
   ·cases hc
   ·exact⟨_,.k v Z1 Z2 hc h1 h2,h3,.inl ⟨_,_,_,rfl⟩⟩
 | _=>exact gen (by simpa only [iF]using h)
variable {P:Program} {D:Ak} {C:Cx} {R:Ren} {Z:H} {w w':World}
abbrev Bs:=Nat->Option BI
structure UI (C:Cx) (R:Ren) (B:Bs) (r:Rg) (Z:H) (w:World):Prop where
 at_:∀m i,B m=some i->C.O i.blk/\∃l,look r m=some l/\Ew R i (.cells l) w
 inj:∀m m' i i',B m=some i->B m'=some i'->i.blk=i'.blk->m=m'
 apart:∀m i,B m=some i->∀id b j,look Z.bl id=some b->R id=some j->j.blk≠i.blk
structure HD (R:Ren) (e:Bz) (tmps:Array Value):Prop where
 at_:∀(k:Nat) (v:V),look e k=some v->∃x,tmps[k]? = some x/\Ao R v=some x
structure Si (B:Bs) (q:Qs) (tmps:Array Value):Prop where
 at_:∀(k m off:Nat),look q k=some (m,off)->∃i,B m=some i/\tmps[k]? = some (.pointer (some ⟨i.blk,i.shift+off,none⟩))
theorem L9 {v:V} {x:Value} (h:Ao R v=some x):v.live=true:=by
 cases v<;>first | rfl | (simp[Ao]at h)
theorem HD.env {e:Bz} {tmps:Array Value} (h:HD R e tmps):Bv R e tmps:=⟨fun k v hk => .inr (h.at_ k v hk)⟩
theorem HD.live {e:Bz} {tmps:Array Value} (h:HD R e tmps):Ey e:=fun t v ht=>by
 obtain⟨x,_,hx⟩:=h.at_ t v ht
 exact L9 hx
theorem HD.mono {R':Ren} {e:Bz} {tmps:Array Value} (h:HD R e tmps) (hle:Le R R'):HD R' e tmps:=
 ⟨fun k v hk=>by obtain⟨x,h1,h2⟩:=h.at_ k v hk;exact⟨x,h1,Cd hle v x h2⟩⟩
theorem De.frame (h:De C R Z w) (hold:∀blk,blk<w.heap.size->((∃id b j,look Z.bl id=some b/\R id=some j/\j.blk=blk)\/¬C.O blk)->w'.heap[blk]? = w.heap[blk]?)
  (hsz:w.heap.size<=w'.heap.size) (hos:w'.os=w.os) (htape:w'.tape=w.tape) (hout:w'.output=w.output):De C R Z w':=by
 refine⟨h.fresh,?_,h.inj,?_,h.glob,?_,BP h.size hsz,h.new,hos.trans h.os,htape.trans h.tape,hout.trans h.output⟩
 ·intro id b hb
  obtain⟨i,hi,hO,hok⟩:=h.own id b hb
  exact⟨i,hi,hO,hok.mono (Le.refl _) (hold _ hok.lt (.inl ⟨id,b,i,hb,hi,rfl⟩))⟩
 ·intro id b hb
  obtain⟨i,hi,hn,hok⟩:=h.ext id b hb
  refine⟨i,hi,hn,hok.mono (Le.refl _) (hold _ ?_ (.inr hn))⟩
  rcases A6 i.blk w.heap.size with hl|hl
  ·exact hl
  ·exact absurd (h.new _ (BP h.size hl)) hn
 ·intro blk hn
  rw[<-h.fr blk hn]
  rcases A6 blk w.heap.size with hl|hl
  ·exact hold _ hl (.inr hn)
  ·exact absurd (h.new _ (BP h.size hl)) hn
theorem UI.mono {R':Ren} {B:Bs} {r:Rg} {Z':H} (h:UI C R B r Z w) (hle:Le R R') (hold:∀m i,B m=some i->w'.heap[i.blk]? = w.heap[i.blk]?)
  (hap:∀m i,B m=some i->∀id b j,look Z'.bl id=some b->R' id=some j->j.blk≠i.blk):UI C R' B r Z' w' where
 at_ m i hm:=by
  obtain⟨hO,l,hl,hok⟩:=h.at_ m i hm
  exact⟨hO,l,hl,hok.mono hle (hold m i hm)⟩
 inj:=h.inj
 apart:=hap
theorem UI.lt {B:Bs} {r:Rg} (h:UI C R B r Z w) {m:Nat} {i:BI} (hm:B m=some i):i.blk<w.heap.size:=by
 obtain⟨_,l,_,hok⟩:=h.at_ m i hm
 exact hok.lt
theorem UI.one (h:De C R Z w) {B:Bs} {r:Rg} (hp:UI C R B r Z w) {m:Nat} {i:BI} (hm:B m=some i) {l:List V} (hl:look r m=some l) :
  De { C with O:=fun blk=>blk=i.blk\/w.heap.size<=blk,w0:=w } (IY R Z.next i) ⟨Z.next+1,[(Z.next,.cells l)]⟩ w:=by
 have hle:Le R (IY R Z.next i):=(Eh R Z.next i).le h.fresh
 obtain⟨hO,l',hl',hok⟩:=hp.at_ m i hm
 rw[hl]at hl';cases hl'
 have hsub:∀blk,(blk=i.blk\/w.heap.size<=blk)->C.O blk:=by
  rintro blk (rfl|hg)
  ·exact hO
  ·exact h.new _ (BP h.size hg)
 have hlook:∀id b,look [(Z.next,FX.cells l)] id=some b->id=Z.next/\b = .cells l:=by
  intro id b hb
  simp only[look,AS]at hb
  split at hb
  ·rename_i he;cases hb;exact⟨he.symm,rfl⟩
  ·cases hb
 refine⟨?_,?_,?_,?_,?_,fun _ _=>rfl,AL _,fun _ hb => .inr hb,rfl,rfl,rfl⟩
 ·intro id hid
  have hid':Z.next+1<=id:=hid
  rw[Bn (by omega)];exact h.fresh id (by omega)
 ·intro id b hb
  obtain⟨rfl,rfl⟩:=hlook id b hb
  exact⟨i,CC _ _ _,.inl rfl,hok.mono hle rfl⟩
 ·intro id id' b b' j j' hb hb' _ _ _
  rw[(hlook id b hb).1,(hlook id' b' hb').1]
 ·intro id b hb
  obtain⟨j,hj,hn,hk⟩:=h.ext id b hb
  exact⟨j,hle _ _ hj,fun ho=>hn (hsub _ ho),hk.mono hle rfl⟩
 ·intro g hg
  obtain⟨j,hj,hb⟩:=h.glob g hg
  exact⟨j,hle _ _ hj,hb⟩
theorem Bv.cons {e:Bz} {tmps:Array Value} (h:Bv R e tmps) {t:Nat} {v:V} {x:Value} (ht:tmps[t]? = some x) (hv:Ao R v=some x):Bv R ((t,v)::e) tmps:=by
 refine⟨fun k u hk=>?_⟩
 simp only[look,AS]at hk
 split at hk
 ·rename_i he;subst he;cases hk;exact .inr ⟨x,ht,hv⟩
 ·exact h.at_ k u hk
theorem HY {α:Type} {l:List (Nat × α)} {m:Nat} {a c:α} (h:look l m=some a) (k:Nat):look (I0 l m c) k=if m=k then some c else look l k:=by
 rw[Ek]
 by_cases he:m=k
 ·subst he;rw[if_pos rfl,if_pos rfl,h];rfl
 ·rw[if_neg he,if_neg he]
structure Sj (C:Cx) (R:Ren) (B:Bs) (r:Rg) (Z:H) (w:World):Prop where
 rel:De C R Z w
 priv:UI C R B r Z w
theorem Lr (hD:∀f,CN P C.E C.G f (D f)) {B:Bs} {r:Rg} (hm:Sj C R B r Z w) {a:Act} {e:Bz} {q:Qs} (he:HD R e a.tmps) (hq:Si B q a.tmps)
    (o:Oper) {pw:Bool} {id nx:Nat} (hid:R id=none) (hlt:id<nx) (hnx:Z.next<=nx) {out:Out} (h:GC C.E D pw id nx (Ab P C.G o.op) e q r Z out) (K:Act->World->Prop) (Q:Exit->Act->World->Prop)
    (hV:∀v r' Z',out = .val v r' Z'->∀R' w' x,Le R R'->(∀k,k<Z.next->k≠id->R' k=R k)->Z.next<=Z'.next->Sj C R' B r' Z' w'->((v = .dead/\(Ab P C.G o.op).cls = .k)\/Ao R' v=some x)->K (a.put o.dst x) w')
    (hM:∀m off,out = .mark m off->∀i,B m=some i->K (a.put o.dst (.pointer (some ⟨i.blk,i.shift+off,none⟩))) w):o.wp P a w K Q:=by
  obtain⟨hrel,hpriv⟩:=hm
  have hg:=hrel.globOk
  have hmark:∀x m off,FQ q x=some (m,off)->∃t i,x = .tmp t/\B m=some i/\a.tmps[t]? = some (.pointer (some ⟨i.blk,i.shift+off,none⟩)):=by
    intro x m off hx
    cases x with
    | con v=>cases hx
    | tmp t=>
      obtain⟨i,h1,h2⟩:=hq.at_ t m off hx
      exact⟨t,i,rfl,h1,h2⟩
  have hle2:∀i,Le R (IY R Z.next i):=fun i=>(Eh R Z.next i).le hrel.fresh
  have hg2:∀i,Di C.G (IY R Z.next i):=fun i g hgg=>by
    obtain⟨j,hj,hb⟩:=hg g hgg
    exact⟨j,hle2 i _ _ hj,hb⟩
  have hcp:∀i off,Ao (IY R Z.next i) (.ptr Z.next off)=some (.pointer (some ⟨i.blk,i.shift+off,none⟩)):=fun i off=>C4 (CC _ _ _)
  cases h with
  | p v hc h=>
    replace h:=h he.live
    obtain⟨x,hx,hrun⟩:=MO (a:=a) (P:=P) he.env hg o h w
    unfold Oper.wp;rw[hrun]
    exact hV v r Z rfl R w x (Le.refl _) (fun _ _ _=>rfl) (AL _) ⟨hrel,hpriv⟩ (.inr hx)
  | l v hc h=>
    replace h:=h he.live
    obtain⟨x,hx,hrun⟩:=MP (a:=a) (P:=P) hrel he.env o h
    unfold Oper.wp;rw[hrun]
    exact hV v r Z rfl R w x (Le.refl _) (fun _ _ _=>rfl) (AL _) ⟨hrel,hpriv⟩ (.inr hx)
  | a v b hc h=>
    replace h:=h he.live
    obtain⟨x,w',i,hrun,hn,hi,hx,hok⟩:=OG (a:=a) (P:=P) he.env hg o h hid w
    unfold Oper.wp;rw[hrun]
    have hle:Le R (IY R id i):=fun k j hk=>by
      by_cases hke:k=id
      · subst hke;rw[hid]at hk;cases hk
      · rw[Bn hke];exact hk
    have hrel1:De C R ⟨nx,Z.bl⟩ w:=hrel.congr (fun k hk=>hrel.fresh k (BP hnx hk)) (fun _ _ hb=>hb)
    have hrel2:De C (IY R id i) ⟨nx,(id,b)::Z.bl⟩ w':=by
      refine hrel1.allocAt hid hlt hn b i hi hok rfl (fun k=>?_)
      simp only[look,AS]
      by_cases hk:k=id
      · subst hk;simp
      · rw[if_neg (Ne.symm hk),if_neg hk]
    refine hV v r _ rfl (IY R id i) w' x hle (fun k _ hk=>Bn hk) hnx ⟨hrel2,hpriv.mono hle (fun m j hj=>hn.old _ (hpriv.lt hj)) (fun m j hj k c j' hk hj'=>?_)⟩ (.inr hx)
    simp only[look,AS]at hk
    split at hk
    · rename_i he';subst he'
      rw[CC]at hj';cases hj'
      have:=hpriv.lt hj
      omega
    · rename_i he'
      rw[Bn (Ne.symm he')]at hj'
      exact hpriv.apart m j hj k c j' hk hj'
  | k v Z1 Z2 hc h hs=>
    replace h:=h he.live
    have hsh:De (C.sub R Z w) R Z w:=hrel.shrink (Zs:=Z) rfl (fun _ _ hb=>hb)
    refine OE (C:=C.sub R Z w) hD rfl rfl hsh he.env o h K Q (fun R' w' x hx hn hrel' hv=>?_)
    have hle:Le R R':=hx.le hrel.fresh
    have hno:∀m i,B m=some i->¬(C.sub R Z w).O i.blk:=by
      rintro m i hm (hg|⟨k,b,j,hb,hj,hbl⟩)
      · have:=hpriv.lt hm;omega
      · exact hpriv.apart m i hm k b j hb hj hbl
    have hrel2:De C R' Z1 w':=hrel.regrow (Zs:=Z) (fun _ _ hb=>hb) hrel' hx rfl (fun k b hk => .inl hk)
    have hrel3:De C R' Z2 w':=hrel2.congr (fun k hk=>hrel2.fresh k (by rw[<-hs.next];exact hk)) hs.sub
    have hv:(v = .dead/\(Ab P C.G o.op).cls = .k)\/Ao R' v=some x:=hv.imp (fun h=>⟨h,hc⟩) (fun h=>h)
    refine hV v r Z2 rfl R' w' x hle (fun k hk _=>hx k hk) (by rw[hs.next];exact hn) ⟨hrel3,hpriv.mono hle (fun m i hm=>hrel'.fr _ (hno m i hm)) (fun m i hm k b j hk hj hbl=>?_)⟩ hv
    obtain⟨j',hj',hO,_⟩:=hrel'.own k b (hs.sub k b hk)
    rw[hj]at hj';cases hj'
    exact hno m i hm (hbl ▸ hO)
  | mv x m off ho hmx=>
    obtain⟨t,i,rfl,hB,ht⟩:=hmark x m off hmx
    have he2:Bv (IY R Z.next i) [(t,.ptr Z.next off)] a.tmps:=Bv.cons ⟨fun k v hk=>by simp[look]at hk⟩ ht (hcp i off)
    have hap:BT (Ab P C.G o.op) [(t,.ptr Z.next off)]=some (.ptr Z.next off):=by
      have hop:CI [(t,V.ptr Z.next off)] (.tmp t) = .ptr Z.next off:=by simp[CI,GS,look]
      rcases ho with ho|ho<;>rw[ho]<;>simp only[BT,hop,V.live,if_true]
    obtain⟨x,hx,hrun⟩:=MO (a:=a) (P:=P) he2 (hg2 i) o hap w
    rw[hcp i off]at hx;cases hx
    unfold Oper.wp;rw[hrun]
    exact hM m off rfl i hB
  | fa d x m off ho hmx=>
    obtain⟨t,i,rfl,hB,ht⟩:=hmark x m off hmx
    have he2:Bv (IY R Z.next i) [(t,.ptr Z.next off)] a.tmps:=Bv.cons ⟨fun k v hk=>by simp[look]at hk⟩ ht (hcp i off)
    have hap:BT (Ab P C.G o.op) [(t,.ptr Z.next off)]=some (.ptr Z.next (off+d)):=by
      have hop:CI [(t,V.ptr Z.next off)] (.tmp t) = .ptr Z.next off:=by simp[CI,GS,look]
      rw[ho];simp only[BT,hop]
    obtain⟨x,hx,hrun⟩:=MO (a:=a) (P:=P) he2 (hg2 i) o hap w
    rw[hcp i (off+d)]at hx;cases hx
    unfold Oper.wp;rw[hrun]
    exact hM m (off+d) rfl i hB
  | ld x m off l v ho hmx hl h=>
    obtain⟨t,i,rfl,hB,ht⟩:=hmark x m off hmx
    have hr2:=hpriv.one hrel hB hl
    have he2:Bv (IY R Z.next i) [(t,.ptr Z.next off)] a.tmps:=Bv.cons ⟨fun k v hk=>by simp[look]at hk⟩ ht (hcp i off)
    have hap:CX C.E (Ab P C.G o.op) [(t,.ptr Z.next off)] ⟨Z.next+1,[(Z.next,.cells l)]⟩=some v:=by
      have hop:CI [(t,V.ptr Z.next off)] (.tmp t) = .ptr Z.next off:=by simp[CI,GS,look]
      rw[ho];simp[CX,hop,rd,look,h]
    obtain⟨x,hx,hrun⟩:=MP (a:=a) (P:=P) hr2 he2 o hap
    unfold Oper.wp;rw[hrun]
    obtain⟨_,l',hl',hok⟩:=hpriv.at_ m i hB
    rw[hl]at hl';cases hl'
    obtain⟨arr,el,lo,hi,_,hh,_⟩:=hok
    obtain⟨y,hy,_⟩:=hh off v h
    have hyx:=Cd (hle2 i) v y hy
    rw[hx]at hyx;cases hyx
    exact hV v r Z rfl R w x (Le.refl _) (fun _ _ _=>rfl) (AL _) ⟨hrel,hpriv⟩ (.inr hy)
  | ldn n x m off l ho hmx hl h=>
    obtain⟨t,i,rfl,hB,ht⟩:=hmark x m off hmx
    have hr2:=hpriv.one hrel hB hl
    have he2:Bv (IY R Z.next i) [(t,.ptr Z.next off)] a.tmps:=Bv.cons ⟨fun k v hk=>by simp[look]at hk⟩ ht (hcp i off)
    have hap:CX C.E (Ab P C.G o.op) [(t,.ptr Z.next off)] ⟨Z.next+1,[(Z.next,.cells l)]⟩=some (.agg ((l.drop off).take n)):=by
      have hop:CI [(t,V.ptr Z.next off)] (.tmp t) = .ptr Z.next off:=by simp[CI,GS,look]
      rw[ho];simp[CX,hop,Kh,rd,look,h]
    obtain⟨x,hx,hrun⟩:=MP (a:=a) (P:=P) hr2 he2 o hap
    unfold Oper.wp;rw[hrun]
    obtain⟨_,l',hl',hok⟩:=hpriv.at_ m i hB
    rw[hl]at hl';cases hl'
    obtain⟨arr,el,lo,hi,_,hh,_⟩:=hok
    obtain⟨xs,hxs,_⟩:=hh.cells h
    have hy:Ao R (.agg ((l.drop off).take n))=some (.agg xs.toArray):=DX hxs
    have hyx:=Cd (hle2 i) _ _ hy
    rw[hx]at hyx;cases hyx
    exact hV _ r Z rfl R w _ (Le.refl _) (fun _ _ _=>rfl) (AL _) ⟨hrel,hpriv⟩ (.inr hy)
  | st n x y m off l cs u hw ho hmx hl hn hu hlu hcs h1 hlen h=>
    replace hlu:=hlu he.live
    obtain⟨t,i,rfl,hB,ht⟩:=hmark x m off hmx
    have hr2:=hpriv.one hrel hB hl
    have he2:Bv (IY R Z.next i) ((t,.ptr Z.next off)::e) a.tmps:=Bv.cons (he.env.mono (hle2 i)) ht (hcp i off)
    have hop:CI ((t,V.ptr Z.next off)::e) (.tmp t) = .ptr Z.next off:=by simp[CI,GS,look]
    have hoy:CI ((t,V.ptr Z.next off)::e) y=u:=by
      rw[<-hu]
      cases y with
      | con v=>rfl
      | tmp s=>
        have hne:¬t=s:=fun hts=>by subst hts;simp only[FQ]at hn hmx;rw[hn]at hmx;cases hmx
        simp only[CI,GS,look,AS,hne,if_false]
    have hap:Dp C.E D (Ab P C.G o.op) ((t,.ptr Z.next off)::e) ⟨Z.next+1,[(Z.next,.cells l)]⟩=some (.dead,(⟨Z.next+1,[(Z.next,.cells l)]⟩:H).set Z.next (.cells (HK l off cs))):=by
      rw[ho]
      simp only[Dp,iH,EH.cls,EK,hop,hoy]
      simp only[look,AS,if_true]
      rw[if_pos]
      · rw[hcs]
      · simp only[AJ,AS,BF]
        exact⟨⟨by rw[<-hcs];exact hlen,h⟩,by rw[<-hcs];exact h1⟩
    refine OE (C:={ C with O:=fun blk=>blk=i.blk\/w.heap.size<=blk,w0:=w }) hD rfl rfl hr2 he2 o hap K Q (fun R' w' x hx hn' hrel' hv=>?_)
    have hR'n:R' Z.next=some i:=by rw[hx Z.next (IT _)];exact CC _ _ _
    obtain⟨j,hj,_,hok⟩:=hrel'.own Z.next (.cells (HK l off cs)) (by simp[H.set,I0,look])
    rw[hR'n]at hj;cases hj
    have hRR':Le R R':=(hle2 i).trans (hx.le (fun k hk=>by
      have hk':Z.next+1<=k:=hk
      rw[Bn (by omega)];exact hrel.fresh k (by omega)))
    obtain⟨hOi,l',hl',hokl⟩:=hpriv.at_ m i hB
    rw[hl]at hl';cases hl'
    have hcell:∀u':V,(∃k:Nat,(HK l off cs)[k]? = some u')->∃y,Ao R u'=some y:=by
      rintro u' ⟨k,hk⟩
      rw[Ls]at hk
      split at hk
      · split at hk
        · have huc:∃z,Ao R u=some z:=by
            obtain⟨oy,rfl⟩:∃oy,y=Ai C.G oy:=by
              obtain⟨dst,op,ty,pos,after,guard⟩:=o
              simp only at ho
              cases op<;>simp only[Ab]at ho<;>(try (first | (cases ho;done) | ((repeat' split at ho)<;>(cases ho;done))))
              · split at ho
                · cases ho
                · simp only[EH.store.injEq]at ho;exact⟨_,ho.2.2.symm⟩
                · cases ho
              · rename_i fn _ _;cases fn<;>cases ho
              · rename_i r;cases r<;>cases ho
              · rename_i ok;cases ok
                · cases ho
                · simp only at ho;split at ho<;>cases ho
              · rename_i c
                obtain⟨callee,cargs,argTypes⟩:=c
                simp only at ho
                split at ho
                · unfold Kk at ho;(repeat' split at ho)<;>cases ho
                · cases ho
                · cases ho
                · cases ho
            exact⟨_,ev (a:=a) he.env hg hu hlu⟩
          obtain⟨z,hz⟩:=huc
          have hcc:=Hd hz
          rw[<-hcs]at hcc
          obtain⟨y',hy',_⟩:=Dm hcc hk
          exact⟨y',hy'⟩
        · cases hk
      · obtain⟨arr,el,lo,hi,_,hh,_⟩:=hokl
        obtain⟨y',hy',_⟩:=hh k u' hk
        exact⟨y',hy'⟩
    have hokR:Ew R i (.cells (HK l off cs)) w':=by
      obtain⟨arr,el,lo,hi,h1',h2',h3',h4',h5'⟩:=hok
      refine⟨arr,el,lo,hi,h1',fun k v hk=>?_,h3',h4',h5'⟩
      obtain⟨y',hy',hone,harr⟩:=h2' k v hk
      obtain⟨y2,hy2⟩:=hcell v ⟨k,hk⟩
      have:=Cd hRR' v y2 hy2
      rw[hy']at this;cases this
      exact⟨_,hy2,hone,harr⟩
    have hfr:∀blk,blk<w.heap.size->blk≠i.blk->w'.heap[blk]? = w.heap[blk]? := fun blk hb hne=>hrel'.fr blk (by rintro(h | h);exact hne h;omega)
    have hrelw:De C R Z w':=hrel.frame (fun blk hb hor=>by
      refine hfr blk hb ?_
      rcases hor with ⟨k,b,j,hk,hj,rfl⟩|hno
      · exact hpriv.apart m i hB k b j hk hj
      · intro he';exact hno (he' ▸ hOi)) hrel'.size hrel'.os hrel'.tape hrel'.output
    refine hV .dead _ Z rfl R w' x (Le.refl _) (fun _ _ _=>rfl) (AL _) ⟨hrelw,⟨fun m' i' hm'=>?_,hpriv.inj,hpriv.apart⟩⟩ (.inl ⟨rfl,by rw[ho];rfl⟩)
    obtain⟨hO',l2,hl2,ai⟩:=hpriv.at_ m' i' hm'
    refine⟨hO',?_⟩
    by_cases hmm:m=m'
    · subst hmm
      rw[hB]at hm';cases hm'
      exact⟨_,by rw[HY hl,if_pos rfl],hokR⟩
    · refine⟨l2,by rw[HY hl,if_neg hmm];exact hl2,ai.mono (Le.refl _) (hfr _ ai.lt (fun hbl=>hmm (hpriv.inj m m' i i' hB hm' hbl.symm)))⟩
end Go.Og
namespace Go.Og
variable {P:Program} {E:EB} {D:Ak} {C:Cx} {R:Ren} {Z:H} {w w':World}
inductive PL (E:EB) (D:Ak) (dr:Bool) (n0:Nat):Nat->List (BM × List Nat)->St->St->Prop where
 | nil (i:Nat) (s:St):PL E D dr n0 i [] s s
 | skip (i:Nat) (o:BM) (ks:List Nat) (l:List (BM × List Nat)) (s s':St) (hw:Bf (Dt dr ks s.e) o.guard=some false)
   (h:PL E D dr n0 (i+1) l ⟨Cb s.e o.dst Dh,B3 o.dst s.q,s.r,s.Z⟩ s'):PL E D dr n0 i ((o,ks)::l) s s'
 | val (i:Nat) (o:BM) (ks:List Nat) (l:List (BM × List Nat)) (s s':St) (pw:Bool) (v:V) (r':Rg) (Z':H) (hw:Bf (Dt dr ks s.e) o.guard=some true)
   (hs:GC E D pw s.Z.next (s.Z.next+1) o.op (Dt dr ks s.e) (Kd dr ks s.q) s.r s.Z (.val v r' Z'))
   (hl:o.dst=none\/v.live=true\/o.op.cls ≠ .k) (hna:dr=true->o.op.cls ≠ .a)
   (h:PL E D dr n0 (i+1) l ⟨Cb s.e o.dst v,B3 o.dst s.q,r',Z'⟩ s'):PL E D dr n0 i ((o,ks)::l) s s'
 | mark (i:Nat) (o:BM) (ks:List Nat) (l:List (BM × List Nat)) (s s':St) (pw:Bool) (id nx m off:Nat) (hw:Bf (Dt dr ks s.e) o.guard=some true)
   (hs:GC E D pw id nx o.op (Dt dr ks s.e) (Kd dr ks s.q) s.r s.Z (.mark m off))
   (h:PL E D dr n0 (i+1) l ⟨B3 o.dst s.e,Pz (B3 o.dst s.q) o.dst (m,off),s.r,s.Z⟩ s'):PL E D dr n0 i ((o,ks)::l) s s'
 | pal (i:Nat) (o:BM) (ks:List Nat) (l:List (BM × List Nat)) (s s':St) (d:Nat) (el:TypeId) (z:List V) (hd:o.dst=some d) (ho:o.op = .alloc el z) (hw:Bf (Dt dr ks s.e) o.guard=some true)
   (h:PL E D dr n0 (i+1) l ⟨Bd [d] s.e,(d,(d,0))::Je d (Bd [d] s.q),(d,z)::Bd [d] s.r,s.Z⟩ s'):PL E D dr n0 i ((o,ks)::l) s s'
 | shrink (i:Nat) (l:List (BM × List Nat)) (s s':St) (e:Bz) (q:Qs) (he:∀t v,look e t=some v->look s.e t=some v) (hq:∀t v,look q t=some v->look s.q t=some v)
   (h:PL E D dr n0 i l ⟨e,q,s.r,s.Z⟩ s'):PL E D dr n0 i l s s'
theorem PL.append {dr:Bool} {n0:Nat}:∀{i:Nat} {l m:List (BM × List Nat)} {s s1 s2:St},PL E D dr n0 i l s s1->PL E D dr n0 (i+l.length) m s1 s2->PL E D dr n0 i (l++m) s s2:=by
 intro i l m s s1 s2 h
 induction h with
 | nil i s=>intro h2;simpa using h2
 | skip i o ks l s s' hw _ ih=>intro h2;exact .skip i o ks _ s s2 hw (ih (by rwa [Ay,show i+(l.length+1)=i+1+l.length by omega]at h2))
 | val i o ks l s s' pw v r' Z' hw hs hl hna _ ih=>intro h2;exact .val i o ks _ s s2 pw v r' Z' hw hs hl hna (ih (by rwa [Ay,show i+(l.length+1)=i+1+l.length by omega]at h2))
 | mark i o ks l s s' pw id nx m off hw hs _ ih=>intro h2;exact .mark i o ks _ s s2 pw id nx m off hw hs (ih (by rwa [Ay,show i+(l.length+1)=i+1+l.length by omega]at h2))
 | pal i o ks l s s' d el z hd ho hw _ ih=>intro h2;exact .pal i o ks _ s s2 d el z hd ho hw (ih (by rwa [Ay,show i+(l.length+1)=i+1+l.length by omega]at h2))
 | shrink i l s s' e q he hq _ ih=>intro h2;exact .shrink i _ s s2 e q he hq (ih h2)
theorem CJ {α:Type} (ds:List Nat) (l:List (Nat × α)) (t:Nat):look (Bd ds l) t=if Bg ds t=true then none else look l t:=by
 induction l with
 | nil=>simp[Bd,look]
 | cons p l ih=>
  obtain⟨k,v⟩:=p
  simp only[Bd]
  split
  ·rename_i hk
   rw[ih]
   by_cases ht:Bg ds t=true
   ·rw[if_pos ht,if_pos ht]
   ·rw[if_neg ht,if_neg ht]
    have hkt:¬k=t:=fun h=>ht (h ▸ hk)
    simp only[look,AS,hkt,if_false]
  ·rename_i hk
   simp only[look,AS]
   by_cases hkt:k=t
   ·subst hkt;rw[if_pos rfl,if_neg (by rw[hk];simp),if_pos rfl]
   ·rw[if_neg hkt,if_neg hkt,ih]
theorem Gf (d t:Nat):Bg [d] t=true↔d=t:=by simp[Bg]
theorem C1 (d:Nat) (l:List Nat) (t:Nat):Bg (d::l) t=true↔d=t\/Bg l t=true:=by simp[Bg]
theorem FP (l m:List Nat) (t:Nat):Bg (l++m) t=true↔Bg l t=true\/Bg m t=true:=by
 induction l with
 | nil=>simp[Bg]
 | cons a l ih=>simp only[Ef,Bg,BN,ih,or_assoc]
theorem B6 {α:Type} (d:Option Nat) (l:List (Nat × α)) (t:Nat):look (B3 d l) t=if d=some t then none else look l t:=by
 cases d with
 | none=>simp[B3]
 | some d=>
  simp only[B3,CJ,AM.injEq]
  by_cases h:d=t
  ·rw[if_pos ((Gf d t).2 h),if_pos h]
  ·rw[if_neg (fun hh=>h ((Gf d t).1 hh)),if_neg h]
theorem GP (e:Bz) (d:Option Nat) (v:V) (t:Nat):look (Cb e d v) t=if d=some t then some v else look e t:=by
 cases d with
 | none=>simp[Cb]
 | some d=>
  simp only[Cb,look,AS,AM.injEq]
theorem KU (q:Qs) (d:Option Nat) (p:Nat × Nat) (t:Nat):look (Pz q d p) t=if d=some t then some p else look q t:=by
 cases d with
 | none=>simp[Pz]
 | some d=>
  simp only[Pz,look,AS,AM.injEq]
theorem Jo {ks:List Nat} {e:Bz} {t:Nat} (h:Bg ks t=true):look (restr ks e) t=look e t:=by
 induction ks with
 | nil=>simp[Bg]at h
 | cons a ks ih=>
  simp only[Bg,BN,AS]at h
  simp only[restr]
  cases ha:look e a with
  | none=>
   simp only
   by_cases hat:a=t
   ·subst hat
    rw[ha]
    cases hl:look (restr ks e) a with
    | none=>rfl
    | some v=>rw[(GO ks e a v hl).1]at ha;cases ha
   ·exact ih (h.resolve_left hat)
  | some u=>
   simp only[look,AS]
   by_cases hat:a=t
   ·subst hat;rw[if_pos rfl,ha]
   ·rw[if_neg hat];exact ih (h.resolve_left hat)
theorem Gg (ls:List Nat) (q:Qs) (t:Nat) (p:Nat × Nat) (h:look (Kz ls q) t=some p):look q t=some p/\Bg ls t=true:=by
 induction ls with
 | nil=>simp[Kz,look]at h
 | cons a ls ih=>
  simp only[Kz]at h
  simp only[Bg,BN,AS]
  cases ha:look q a with
  | none=>rw[ha]at h;exact(ih h).imp id .inr
  | some u=>
   rw[ha]at h
   simp only[look,AS]at h
   by_cases hat:a=t
   ·subst hat
    rw[if_pos rfl]at h
    cases h
    exact⟨ha,.inl rfl⟩
   ·rw[if_neg hat]at h
    exact(ih h).imp id .inr
theorem KS {dr:Bool} {ks:List Nat} {e:Bz} {t:Nat} (h:Bg ks t=true):look (Dt dr ks e) t=look e t:=by
 cases dr with
 | true=>exact Jo h
 | false=>rfl
theorem S9 {dr:Bool} {ks:List Nat} {e:Bz} {t:Nat} {v:V} (h:look (Dt dr ks e) t=some v):look e t=some v:=by
 cases dr with
 | true=>exact(GO _ _ _ _ h).1
 | false=>exact h
theorem I2 {m:Nat}:∀{q:Qs} {t:Nat} {p:Nat × Nat},Bg (IN m q) t=false->look q t=some p->p.1≠m
 | [],t,p,_,h=>by simp[look]at h
 | (k,b)::q,t,p,hm,h=>by
  simp only[IN]at hm
  simp only[look,AS]at h
  split at hm
  ·rename_i hb
   have hkt:¬k=t:=by
    intro he;subst he
    simp[Bg]at hm
   rw[if_neg hkt]at h
   have hm2:Bg (IN m q) t=false:=by
    cases h2:Bg (IN m q) t with
    | false=>rfl
    | true=>rw[(C1 k _ t).2 (.inr h2)]at hm;cases hm
   exact I2 hm2 h
  ·rename_i hb
   by_cases hk:k=t
   ·rw[if_pos hk]at h;cases h
    intro he;rw[<-AS,hb]at he;cases he
   ·rw[if_neg hk]at h;exact I2 hm h
theorem Jn (m:Nat) (q:Qs) (t:Nat) (p:Nat × Nat) (h:look (Je m q) t=some p):p.1≠m/\look q t=some p:=by
 unfold Je at h
 rw[CJ]at h
 split at h
 ·cases h
 ·rename_i hm
  have hm2:Bg (IN m q) t=false:=by simpa using hm
  exact⟨I2 hm2 h,h⟩
theorem Mg {dr:Bool} {ks:List Nat} {e:Bz} {t:Nat} {b c:Bool} (hm:Bg ks t=true) (h:look e t=some (.bool c)):Bf (Dt dr ks e) (some (t,b))=some (c==b):=by
 simp only[Bf,GS,KS hm,h]
theorem Lo {dr:Bool} {ks:List Nat} {e:Bz} {t:Nat} {b:Bool} (hm:Bg ks t=true) (h:look e t=some Dh):Bf (Dt dr ks e) (some (t,b))=some false:=by
 simp only[Bf,GS,KS hm,h,Dh]
theorem Gi:∀(l:XL) (g:Option (Nat × Bool)),(l.flat g).length=l.size/\l.lks.length=l.size
 | .nil,g=>⟨rfl,rfl⟩
 | .op _ _ _ _ r,g=>by obtain⟨h1,h2⟩:=Gi r g;simp[XL.flat,XL.lks,XL.size,h1,h2]
 | .pal _ _ _ _ r,g=>by obtain⟨h1,h2⟩:=Gi r g;simp[XL.flat,XL.lks,XL.size,h1,h2]
 | .grp t b l _ _ _ _ _ r,g=>by
  obtain⟨h1,h2⟩:=Gi r g
  obtain⟨h3,h4⟩:=Gi l (some (t,b))
  simp[XL.flat,XL.lks,XL.size,h1,h2,h3,h4]
theorem V4 (l:XL) (g:Option (Nat × Bool)) (x:BM) (k:List Nat) (m:List BM) (n:List (List Nat)) :
  (l.flat g++x::m).zip (l.lks++k::n)=(l.flat g).zip l.lks++(x,k)::m.zip n:=by
 obtain⟨h1,h2⟩:=Gi l g
 rw[List.zip_append (by omega)]
 rfl
theorem RT (l:XL) (g:Option (Nat × Bool)):((l.flat g).zip l.lks).length=l.size:=by
 obtain⟨h1,h2⟩:=Gi l g
 simp[h1,h2]
theorem Jg {dr:Bool} {n0:Nat}:∀(l:XL) (ds:List Nat) (t:Nat) (b:Bool) (i:Nat) (s:St),l.okG (some ds) (some t)=true ->
    (look s.e t=some Dh\/∃c,look s.e t=some (.bool c)/\(c==b)=false)->Bg l.dsts t=false->(∀u,Bg ds u=true->look s.e u=some Dh) ->
    ∃s',PL E D dr n0 i ((l.flat (some (t,b))).zip l.lks) s s'/\s'.r=s.r/\s'.Z=s.Z/\(∀u,Bg l.dsts u=false->look s'.e u=look s.e u/\look s'.q u=look s.q u) /\
      (∀u,Bg l.dsts u=true->look s'.e u=some Dh)
  | .nil,ds,t,b,i,s,hok,ht,hd,hds=>⟨s,.nil i s,rfl,rfl,fun _ _=>⟨rfl,rfl⟩,fun u hu=>by simp[XL.dsts,Bg]at hu⟩
  | .pal _ _ _ _ r,ds,t,b,i,s,hok,ht,hd,hds=>by simp[XL.okG]at hok
  | .op d ty ks o r,ds,t,b,i,s,hok,ht,hd,hds=>by
    simp only[XL.okG,AJ]at hok
    obtain⟨⟨_,hks⟩,hr⟩:=hok
    have hks:Bg ks t=true:=hks
    have hw:Bf (Dt dr ks s.e) (some (t,b))=some false:=by
      rcases ht with ht|⟨c,ht,hc⟩
      · exact Lo hks ht
      · rw[Mg hks ht,hc]
    cases d with
    | none=>
      have hr:r.okG (some ds) (some t)=true:=hr
      obtain⟨s',h1,h2,h3,h4,h5⟩:=Jg (dr:=dr) (n0:=n0) r ds t b (i+1) s hr ht hd hds
      exact⟨s',.skip i ⟨none,o,some (t,b)⟩ ks _ s s' hw h1,h2,h3,h4,h5⟩
    | some d=>
      have hr:r.okG (some (d::ds)) (some t)=true:=hr
      simp only[XL.dsts]at hd
      have hdt:d≠t/\Bg r.dsts t=false:=by
        simp only[Bg,BJ]at hd
        exact⟨(by intro h;rw[<-AS,hd.1]at h;cases h),hd.2⟩
      have hput:∀u,look (Cb s.e (some d) Dh) u=if d=u then some Dh else look s.e u:=fun u=>by rw[GP];simp
      obtain⟨s',h1,h2,h3,h4,h5⟩:=Jg (dr:=dr) (n0:=n0) r (d::ds) t b (i+1) ⟨Cb s.e (some d) Dh,B3 (some d) s.q,s.r,s.Z⟩ hr
        (by simp only[hput,if_neg hdt.1];exact ht) hdt.2 (fun u hu=>by
          simp only[hput]
          rcases(C1 d ds u).1 hu with h|h
          · rw[if_pos h]
          · by_cases hdu:d=u
            · rw[if_pos hdu]
            · rw[if_neg hdu];exact hds u h)
      refine⟨s',.skip i ⟨some d,o,some (t,b)⟩ ks _ s s' hw h1,h2,h3,fun u hu=>?_,fun u hu=>?_⟩
      · simp only[XL.dsts,Bg,BJ]at hu
        have hdu:¬d=u:=by intro h;rw[<-AS,hu.1]at h;cases h
        obtain⟨h6,h7⟩:=h4 u hu.2
        refine⟨by rw[h6];simp only[hput,if_neg hdu],by rw[h7,B6];simp[hdu]⟩
      · simp only[XL.dsts]at hu
        cases hru:Bg r.dsts u with
        | true=>exact h5 u hru
        | false=>
          rcases(C1 d r.dsts u).1 hu with h|h
          · rw[(h4 u hru).1];simp only[hput,if_pos h]
          · rw[hru]at h;cases h
  | .grp t2 b2 l d ks c x y r,ds,t,b,i,s,hok,ht,hd,hds=>by
    simp only[XL.okG,AJ,Cr]at hok
    obtain⟨⟨⟨⟨⟨⟨hks,_⟩,hlt⟩,_⟩,hdt2⟩,hl⟩,hr⟩:=hok
    have hks:Bg ks t=true:=hks
    simp only[XL.dsts]at hd
    have hdl:Bg l.dsts t=false/\d≠t/\Bg r.dsts t=false:=by
      have h0:¬(Bg (l.dsts++d::r.dsts) t=true):=by rw[hd];simp
      rw[FP,C1]at h0
      refine⟨?_,fun h=>h0 (.inr (.inl h)),?_⟩
      · cases h:Bg l.dsts t with
        | false=>rfl
        | true=>exact(h0 (.inl h)).elim
      · cases h:Bg r.dsts t with
        | false=>rfl
        | true=>exact(h0 (.inr (.inr h))).elim
    obtain⟨s1,h1,h2,h3,h4,h5⟩:=Jg (dr:=dr) (n0:=n0) l [] t2 b2 i s hl (.inl (hds t2 hdt2)) hlt (fun u hu=>by simp[Bg]at hu)
    have ht1:look s1.e t=some Dh\/∃c,look s1.e t=some (.bool c)/\(c==b)=false:=by rw[(h4 t hdl.1).1];exact ht
    have hw:Bf (Dt dr ks s1.e) (some (t,b))=some false:=by
      rcases ht1 with ht|⟨c,ht,hc⟩
      · exact Lo hks ht
      · rw[Mg hks ht,hc]
    have hput:∀u,look (Cb s1.e (some d) Dh) u=if d=u then some Dh else look s1.e u:=fun u=>by rw[GP];simp
    obtain⟨s',g1,g2,g3,g4,g5⟩:=Jg (dr:=dr) (n0:=n0) r (d::l.dsts++ds) t b (i+l.size+1) ⟨Cb s1.e (some d) Dh,B3 (some d) s1.q,s1.r,s1.Z⟩ hr
      (by simp only[hput,if_neg hdl.2.1];exact ht1) hdl.2.2 (fun u hu=>by
        simp only[hput]
        by_cases hdu:d=u
        · rw[if_pos hdu]
        · rw[if_neg hdu]
          rw[Ef]at hu
          rcases(C1 d _ u).1 hu with h|h
          · exact(hdu h).elim
          · cases hlu:Bg l.dsts u with
            | true=>exact h5 u hlu
            | false=>
              rcases(FP _ _ u).1 h with h|h
              · rw[hlu]at h;cases h
              · rw[(h4 u hlu).1];exact hds u h)
    refine⟨s',?_,by rw[g2];exact h2,by rw[g3];exact h3,fun u hu=>?_,fun u hu=>?_⟩
    · simp only[XL.flat,XL.lks]
      rw[V4]
      refine h1.append ?_
      rw[RT]
      exact .skip _ ⟨some d,.pick c x y,some (t,b)⟩ ks _ s1 s' hw g1
    · simp only[XL.dsts]at hu
      have h0:¬(Bg (l.dsts++d::r.dsts) u=true):=by rw[hu];simp
      rw[FP,C1]at h0
      have hlu:Bg l.dsts u=false:=by
        cases h:Bg l.dsts u with
        | false=>rfl
        | true=>exact(h0 (.inl h)).elim
      have hru:Bg r.dsts u=false:=by
        cases h:Bg r.dsts u with
        | false=>rfl
        | true=>exact(h0 (.inr (.inr h))).elim
      have hdu:¬d=u:=fun h=>h0 (.inr (.inl h))
      obtain⟨k1,k2⟩:=g4 u hru
      obtain⟨k3,k4⟩:=h4 u hlu
      refine⟨by rw[k1];simp only[hput,if_neg hdu];exact k3,by rw[k2,B6];simp only[AM.injEq,if_neg hdu];exact k4⟩
    · simp only[XL.dsts]at hu
      cases hru:Bg r.dsts u with
      | true=>exact g5 u hru
      | false=>
        rw[(g4 u hru).1]
        simp only[hput]
        by_cases hdu:d=u
        · rw[if_pos hdu]
        · rw[if_neg hdu]
          rcases(FP _ _ u).1 hu with h|h
          · exact h5 u h
          · rcases(C1 d _ u).1 h with h | h
            · exact(hdu h).elim
            · rw[hru]at h;cases h
end Go.Og
namespace Go.Og
variable {E:EB} {D:Ak}
def Gd (g:Option (Nat × Bool)) (gt:Option Nat) (e:Bz) (ds:List Nat):Prop:=
 (g=none/\gt=none)\/∃t b,g=some (t,b)/\gt=some t/\look e t=some (.bool b)/\Bg ds t=false
theorem Gd.wanted {g:Option (Nat × Bool)} {gt:Option Nat} {e:Bz} {ds:List Nat} (h:Gd g gt e ds) {dr:Bool} {ks:List Nat} (hs:iU gt ks=true):Bf (Dt dr ks e) g=some true:=by
 rcases h with ⟨rfl,rfl⟩|⟨t,b,rfl,rfl,hl,_⟩
 ·rfl
 ·rw[Mg hs hl];simp
theorem Gd.next {g:Option (Nat × Bool)} {gt:Option Nat} {e e':Bz} {ds ds':List Nat} (h:Gd g gt e ds) (hd:∀t,Bg ds t=false->Bg ds' t=false) (he:∀t,Bg ds t=false->look e' t=look e t):Gd g gt e' ds':=by
 rcases h with ⟨rfl,rfl⟩|⟨t,b,rfl,rfl,hl,hm⟩
 ·exact .inl ⟨rfl,rfl⟩
 ·exact .inr ⟨t,b,rfl,rfl,by rw[he t hm];exact hl,hd t hm⟩
theorem iS {id nx:Nat} {o:EH} {e:Bz} {q:Qs} {r r':Rg} {Z Z':H} {v:V} (h:GC E D false id nx o e q r Z (.val v r' Z')):r'=r:=by
 cases h<;>first | rfl | (rename_i hw _ _ _ _ _ _ _ _ _ _;cases hw)
theorem GN {ds:List Nat} {t:Nat}:Bg ds t=false↔¬Bg ds t=true:=by cases Bg ds t<;>simp
theorem EG {d:Nat} {l:List Nat} {t:Nat} (h:Bg (d::l) t=false):d≠t/\Bg l t=false:=by
 rw[GN,C1]at h
 exact⟨fun hh=>h (.inl hh),GN.2 fun hh=>h (.inr hh)⟩
theorem L7 {l m:List Nat} {t:Nat} (h:Bg (l++m) t=false):Bg l t=false/\Bg m t=false:=by
 rw[GN,FP]at h
 exact⟨GN.2 fun hh=>h (.inl hh),GN.2 fun hh=>h (.inr hh)⟩
theorem WT {d:Option Nat} {ty:C6} {ks:List Nat} {o:EH} {r:XL} (h:(XL.op d ty ks o r).makes=false):o.cls ≠ .a/\r.makes=false:=by
 simp only[XL.makes]at h
 split at h
 ·cases h
 ·rename_i hc;exact⟨hc,h⟩
theorem Up {t:Nat} {b:Bool} {l:XL} {d:Nat} {ks:List Nat} {c x y:AO} {r:XL} (h:(XL.grp t b l d ks c x y r).makes=false):l.makes=false/\r.makes=false:=by
 simpa only [XL.makes,BJ]using h
theorem TP {d:Nat} {ty:C6} {o:EH} (h:okD (some d) ty o=true):(∀n x y,o = .store n x y->False)/\(o.cls = .k->ty.known=true):=by
 constructor
 ·rintro n x y rfl;cases h
 ·intro hc
  cases o<;>(first | (cases hc;done) | (cases h;done) | exact h | (rename_i t x;cases t<;>cases hc))
theorem Hc {dr:Bool} {n0:Nat}:∀(l:XL) (ds:Option (List Nat)) (gt:Option Nat) (g:Option (Nat × Bool)) (pw:Bool) (i:Nat) (s:St) (J:Bz->Qs->Rg->H->AH) (res:V × H),
  Im E D dr pw n0 l i s.e s.q s.r s.Z J=some res->l.okG ds gt=true->Gd g gt s.e l.dsts->(dr=true->l.makes=false) ->
  ∃s',PL E D dr n0 i ((l.flat g).zip l.lks) s s'/\J s'.e s'.q s'.r s'.Z=some res/\(pw=false->s'.r=s.r) /\
   (∀u,Bg l.dsts u=false->look s'.e u=look s.e u)/\(pw=false->∀u,Bg l.dsts u=false->look s'.q u=look s.q u)
 | .nil,ds,gt,g,pw,i,s,J,res,h,hok,hg,hmk=>⟨s,.nil i s,h,fun _=>rfl,fun _ _=>rfl,fun _ _ _=>rfl⟩
 | .op d ty ks o r,ds,gt,g,pw,i,s,J,res,h,hok,hg,hmk=>by
  rw[jX]at h
  simp only[XL.okG,AJ]at hok
  obtain⟨⟨hkd,hks⟩,hr⟩:=hok
  have hr':∃ds',r.okG ds' gt=true:=by
   split at hr
   ·exact⟨_,hr⟩
   ·exact⟨_,hr⟩
  obtain⟨ds',hr'⟩:=hr'
  have hw:=hg.wanted (dr:=dr) hks
  have hdst:∀t,Bg (XL.op d ty ks o r).dsts t=false->d≠some t/\Bg r.dsts t=false:=by
   intro t ht
   cases d with
   | none=>exact⟨by simp,ht⟩
   | some d=>obtain⟨h1,h2⟩:=EG ht;exact⟨by simpa using h1,h2⟩
  obtain⟨out,hs,hout⟩:=aJ h
  cases out with
  | val v r' Z'=>
   obtain⟨hk,hlv⟩:=hout
   have hput:∀t,Bg (XL.op d ty ks o r).dsts t=false->look (Cb s.e d v) t=look s.e t:=fun t ht=>by
    rw[GP,if_neg (hdst t ht).1]
   obtain⟨s',h1,h2,h3,h4,h5⟩:=Hc r ds' gt g pw (i+1) ⟨Cb s.e d v,B3 d s.q,r',Z'⟩ J res hk hr'
    (hg.next (fun t ht=>(hdst t ht).2) hput) (fun hd=>(WT (hmk hd)).2)
   refine⟨s',.val i ⟨d,o,g⟩ ks _ s s' pw v r' Z' hw hs ?_ (fun hd=>(WT (hmk hd)).1) h1,h2,fun hpw=>?_,fun u hu=>?_,fun hpw u hu=>?_⟩
   ·cases d with
    | none=>exact .inl rfl
    | some d=>
     right
     rcases hlv with ⟨n,x,y,rfl⟩|hlv|hlv|hlv
     ·exact((TP hkd).1 _ _ _ rfl).elim
     ·exact .inr hlv
     ·right
      intro hc
      have:=(TP hkd).2 hc
      rw[hlv]at this;cases this
     ·exact .inl hlv
   ·subst hpw;rw[h3 rfl];exact iS hs
   ·rw[h4 u (hdst u hu).2];exact hput u hu
   ·rw[h5 hpw u (hdst u hu).2]
    show look (B3 d s.q) u=_
    rw[B6,if_neg (hdst u hu).1]
  | mark m off=>
   have hput:∀t,Bg (XL.op d ty ks o r).dsts t=false->look (B3 d s.e) t=look s.e t:=fun t ht=>by
    rw[B6,if_neg (hdst t ht).1]
   obtain⟨s',h1,h2,h3,h4,h5⟩:=Hc r ds' gt g pw (i+1) ⟨B3 d s.e,Pz (B3 d s.q) d (m,off),s.r,s.Z⟩ J res hout hr'
    (hg.next (fun t ht=>(hdst t ht).2) hput) (fun hd=>(WT (hmk hd)).2)
   refine⟨s',.mark i ⟨d,o,g⟩ ks _ s s' pw _ _ m off hw hs h1,h2,h3,fun u hu=>?_,fun hpw u hu=>?_⟩
   ·rw[h4 u (hdst u hu).2];exact hput u hu
   ·rw[h5 hpw u (hdst u hu).2]
    show look (Pz (B3 d s.q) d (m,off)) u=_
    rw[KU,if_neg (hdst u hu).1,B6,if_neg (hdst u hu).1]
 | .pal d ks el z r,ds,gt,g,pw,i,s,J,res,h,hok,hg,hmk=>by
  cases pw with
  | false=>rw[Yd]at h;cases h
  | true=>
   rw[bN]at h
   simp only[XL.okG,AJ]at hok
   obtain⟨hks,hr⟩:=hok
   have hr':r.okG none gt=true:=by
    split at hr
    ·cases hr
    ·exact hr
   have hw:=hg.wanted (dr:=dr) hks
   have hput:∀t,Bg (XL.pal d ks el z r).dsts t=false->look (Bd [d] s.e) t=look s.e t:=fun t ht=>by
    have:=(EG ht).1
    rw[CJ,if_neg (fun hh=>this ((Gf d t).1 hh))]
   obtain⟨s',h1,h2,h3,h4,h5⟩:=Hc r none gt g true (i+1) ⟨Bd [d] s.e,(d,(d,0))::Je d (Bd [d] s.q),(d,z)::Bd [d] s.r,s.Z⟩ J res h hr'
    (hg.next (fun t ht=>(EG ht).2) hput) hmk
   refine⟨s',.pal i ⟨some d,.alloc el z,g⟩ ks _ s s' d el z rfl rfl hw h1,h2,(fun hpw=>by cases hpw),fun u hu=>?_,(fun hpw=>by cases hpw)⟩
   rw[h4 u (EG hu).2];exact hput u hu
 | .grp t b l d ks c x y r,ds,gt,g,pw,i,s,J,res,h,hok,hg,hmk=>by
  rw[bO]at h
  simp only[XL.okG,AJ,Cr]at hok
  obtain⟨⟨⟨⟨⟨⟨hks,hkt⟩,hlt⟩,hpk⟩,_⟩,hl⟩,hr⟩:=hok
  have hr':∃ds',r.okG ds' gt=true:=by
   split at hr
   ·exact⟨_,hr⟩
   ·exact⟨_,hr⟩
  obtain⟨ds',hr'⟩:=hr'
  have hdst:∀u,Bg (XL.grp t b l d ks c x y r).dsts u=false->Bg l.dsts u=false/\d≠u/\Bg r.dsts u=false:=by
   intro u hu
   obtain⟨h1,h2⟩:=L7 hu
   obtain⟨h3,h4⟩:=EG h2
   exact⟨h1,h3,h4⟩
  unfold aG at hpk
  simp only[AJ]at hpk
  obtain⟨hct,hother⟩:=hpk
  have hct:c = .tmp t:=by
   cases c with
   | con v=>cases hct
   | tmp u=>simp only[AS]at hct;rw[hct]
  subst hct
  obtain⟨v,hv,_,h⟩:=Ac h
  obtain⟨cb,rfl,h9⟩:=FO h
  replace h:=h9
  have hte:look s.e t=some (.bool cb):=by
   simp only[CI,GS]at hv
   cases hq:look (Dt dr [t] s.e) t with
   | none=>rw[hq]at hv;cases hv
   | some u=>rw[hq]at hv;simp only at hv;subst hv;exact S9 hq
  have fin:∀(s1:St) (vb:Bool),PL E D dr n0 i ((l.flat (some (t,b))).zip l.lks) s s1->s1.r=s.r->(∀u,Bg l.dsts u=false->look s1.e u=look s.e u)->(∀u,Bg l.dsts u=false->look s1.q u=look s.q u) ->
    BT (.pick (.tmp t) x y) (Dt dr ks s1.e)=some (.bool vb) ->
    Im E D dr pw n0 r (i+l.size+1) ((d,.bool vb)::Bd (d::l.dsts) s.e) (Bd (d::l.dsts) s.q) s.r s1.Z J=some res ->
    ∃s',PL E D dr n0 i (((XL.grp t b l d ks (.tmp t) x y r).flat g).zip (XL.grp t b l d ks (.tmp t) x y r).lks) s s'/\J s'.e s'.q s'.r s'.Z=some res/\(pw=false->s'.r=s.r) /\
     (∀u,Bg (XL.grp t b l d ks (.tmp t) x y r).dsts u=false->look s'.e u=look s.e u)/\(pw=false->∀u,Bg (XL.grp t b l d ks (.tmp t) x y r).dsts u=false->look s'.q u=look s.q u):=by
   intro s1 vb hrun hr1 he1 hq1 hp hrest
   have hput:∀u,d≠u->Bg l.dsts u=false->look ((d,V.bool vb)::Bd (d::l.dsts) s.e) u=look s.e u:=by
    intro u h1 h2
    simp only[look,AS,h1,if_false]
    rw[CJ,if_neg (fun hh=>by rcases(C1 d _ u).1 hh with hh | hh;exact h1 hh;rw[h2]at hh;cases hh)]
   obtain⟨s',h1,h2,h3,h4,h5⟩:=Hc r ds' gt g pw (i+l.size+1) ⟨(d,.bool vb)::Bd (d::l.dsts) s.e,Bd (d::l.dsts) s.q,s.r,s1.Z⟩ J res hrest hr'
    (hg.next (fun u hu=>(hdst u hu).2.2) (fun u hu=>hput u (hdst u hu).2.1 (hdst u hu).1)) (fun hd=>(Up (hmk hd)).2)
   have hg1:Gd g gt s1.e (XL.grp t b l d ks (.tmp t) x y r).dsts:=hg.next (fun _ hu=>hu) (fun u hu=>he1 u (hdst u hu).1)
   refine⟨s',?_,h2,h3,fun u hu=>?_,fun hpw u hu=>?_⟩
   ·simp only[XL.flat,XL.lks]
    rw[V4]
    refine hrun.append ?_
    rw[RT]
    refine .val _ ⟨some d,.pick (.tmp t) x y,g⟩ ks _ s1 s' true (.bool vb) s1.r s1.Z (hg1.wanted hks) (.p _ rfl fun _=>hp) (.inr (.inl rfl)) (fun _ h=>by cases h) ?_
    refine .shrink _ _ _ s' ((d,.bool vb)::Bd (d::l.dsts) s.e) (Bd (d::l.dsts) s.q) (fun u w hu=>?_) (fun u w hu=>?_) (by rw[hr1];exact h1)
    ·simp only[look,AS]at hu
     rw[GP]
     by_cases hdu:d=u
     ·rw[if_pos hdu]at hu;rw[if_pos (by rw[hdu])];exact hu
     ·rw[if_neg hdu,CJ]at hu
      rw[if_neg (by simpa using hdu)]
      split at hu
      ·cases hu
      ·rename_i hm
       rw[he1 u (GN.2 fun hh=>hm ((C1 d _ u).2 (.inr hh)))]
       exact hu
    ·rw[CJ]at hu
     split at hu
     ·cases hu
     ·rename_i hm
      show look (B3 (some d) s1.q) u=some w
      rw[B6,if_neg (fun hh=>hm ((C1 d _ u).2 (.inl (by simpa using hh)))),hq1 u (GN.2 fun hh=>hm ((C1 d _ u).2 (.inr hh)))]
      exact hu
   ·rw[h4 u (hdst u hu).2.2];exact hput u (hdst u hu).2.1 (hdst u hu).1
   ·rw[h5 hpw u (hdst u hu).2.2]
    show look (Bd (d::l.dsts) s.q) u=_
    rw[CJ,if_neg (fun hh=>by rcases(C1 d _ u).1 hh with hh | hh;exact(hdst u hu).2.1 hh;rw[(hdst u hu).1]at hh;cases hh)]
  have taken:cb=b->∀(z:AO),(∀e,CI e (.tmp t) = .bool cb->∀vb,CI e z = .bool vb->BT (.pick (.tmp t) x y) e=some (.bool vb)) ->
    (Im E D dr false n0 l i s.e s.q s.r s.Z fun e' _ _ Z'=>CL (Dt dr ks e') z fun v=>AZ v fun v=>
     Im E D dr pw n0 r (i+l.size+1) ((d,.bool v)::Bd (d::l.dsts) s.e) (Bd (d::l.dsts) s.q) s.r Z' J)=some res ->
    ∃s',PL E D dr n0 i (((XL.grp t b l d ks (.tmp t) x y r).flat g).zip (XL.grp t b l d ks (.tmp t) x y r).lks) s s'/\J s'.e s'.q s'.r s'.Z=some res/\(pw=false->s'.r=s.r) /\
     (∀u,Bg (XL.grp t b l d ks (.tmp t) x y r).dsts u=false->look s'.e u=look s.e u)/\(pw=false->∀u,Bg (XL.grp t b l d ks (.tmp t) x y r).dsts u=false->look s'.q u=look s.q u):=by
   intro hcb z hz hh
   subst hcb
   obtain⟨s1,h1,h2,h3,h4,h5⟩:=Hc l (some []) (some t) (some (t,cb)) false i s _ res hh hl (.inr ⟨t,cb,rfl,rfl,hte,hlt⟩) (fun hd=>(Up (hmk hd)).1)
   obtain⟨v,hv,_,h2⟩:=Ac h2
   obtain⟨vb,rfl,h9⟩:=FO h2
   replace h2:=h9
   refine fin s1 vb h1 (h3 rfl) h4 (h5 rfl) (hz _ ?_ vb hv) h2
   simp only[CI,GS,KS hkt,h4 t hlt,hte]
  have left:(cb==b)=false->∀(z:AO),(match z with | .tmp u=>!Bg l.dsts u | .con _=>true)=true->(∀e,CI e (.tmp t) = .bool cb->∀vb,CI e z = .bool vb->BT (.pick (.tmp t) x y) e=some (.bool vb)) ->
    (CL (Dt dr ks s.e) z fun v=>AZ v fun v=>
     Im E D dr pw n0 r (i+l.size+1) ((d,.bool v)::Bd (d::l.dsts) s.e) (Bd (d::l.dsts) s.q) s.r s.Z J)=some res ->
    ∃s',PL E D dr n0 i (((XL.grp t b l d ks (.tmp t) x y r).flat g).zip (XL.grp t b l d ks (.tmp t) x y r).lks) s s'/\J s'.e s'.q s'.r s'.Z=some res/\(pw=false->s'.r=s.r) /\
     (∀u,Bg (XL.grp t b l d ks (.tmp t) x y r).dsts u=false->look s'.e u=look s.e u)/\(pw=false->∀u,Bg (XL.grp t b l d ks (.tmp t) x y r).dsts u=false->look s'.q u=look s.q u):=by
   intro hcb z hz0 hz h
   obtain⟨s1,h1,h2,h3,h4,_⟩:=Jg (E:=E) (D:=D) (dr:=dr) (n0:=n0) l [] t b i s hl (.inr ⟨cb,hte,hcb⟩) hlt (fun u hu=>by simp[Bg]at hu)
   obtain⟨v,hv,_,h5⟩:=Ac h
   obtain⟨vb,rfl,h9⟩:=FO h5
   replace h5:=h9
   refine fin s1 vb h1 h2 (fun u hu=>(h4 u hu).1) (fun u hu=>(h4 u hu).2) (hz _ ?_ vb ?_) (by rw[h3];exact h5)
   ·simp only[CI,GS,KS hkt,(h4 t hlt).1,hte]
   ·cases z with
    | con v=>exact hv
    | tmp u=>
     simp only[Cr]at hz0
     simp only[CI,GS]at hv ⊢
     cases hq:look (Dt dr ks s.e) u with
     | none=>rw[hq]at hv;cases hv
     | some u2=>
      rw[hq]at hv
      have hq1:look (Dt dr ks s1.e) u=some u2:=by
       cases dr with
       | true=>
        obtain⟨h6,h7⟩:=GO _ _ _ _ hq
        show look (restr ks s1.e) u=_
        rw[Jo h7,(h4 u hz0).1];exact h6
       | false=>
        show look s1.e u=_
        rw[(h4 u hz0).1];exact hq
      rw[hq1];exact hv
  have hpt:∀e,CI e (.tmp t) = .bool true->∀vb,CI e x = .bool vb->BT (.pick (.tmp t) x y) e=some (.bool vb):=by
   intro e h1 vb h2
   simp only[BT,h1,h2,V.live,if_true]
  have hpf:∀e,CI e (.tmp t) = .bool false->∀vb,CI e y = .bool vb->BT (.pick (.tmp t) x y) e=some (.bool vb):=by
   intro e h1 vb h2
   simp only[BT,h1,h2,V.live,if_true]
  unfold Aa at h
  cases b with
  | true=>
   simp only at h hother
   cases cb with
   | true=>exact taken rfl x hpt h
   | false=>exact left rfl y hother hpf h
  | false=>
   simp only at h hother
   cases cb with
   | true=>exact left rfl x hother hpt h
   | false=>exact taken rfl y hpf h
end Go.Og
namespace Go.Og
variable {P:Program} {D:Ak} {C:Cx} {R:Ren} {Z:H} {w w':World}
theorem HD.put {e:Bz} {a:Act} (h:HD R e a.tmps) {dst:Option Nat} (hd:GG a.tmps.size dst=true) {v:V} {x:Value} (hv:dst=none\/Ao R v=some x):HD R (Cb e dst v) (a.put dst x).tmps:=by
 cases dst with
 | none=>exact h
 | some d=>
  simp only[GG,Cj]at hd
  refine⟨fun k u hk=>?_⟩
  rw[GP]at hk
  simp only[Act.put,A1]
  by_cases hdk:d=k
  ·rw[if_pos (by rw[hdk])]at hk
   cases hk
   rw[if_pos hdk,if_pos hd]
   exact⟨x,rfl,hv.resolve_left (by simp)⟩
  ·rw[if_neg (by simpa using hdk)]at hk
   rw[if_neg hdk]
   exact h.at_ k u hk
theorem HD.del {e:Bz} {a:Act} (h:HD R e a.tmps) (dst:Option Nat) (x:Value):HD R (B3 dst e) (a.put dst x).tmps:=by
 refine⟨fun k u hk=>?_⟩
 rw[B6]at hk
 split at hk
 ·cases hk
 ·rename_i hne
  obtain⟨y,h1,h2⟩:=h.at_ k u hk
  refine⟨y,?_,h2⟩
  cases dst with
  | none=>exact h1
  | some d=>
   simp only[Act.put,A1]
   rw[if_neg (by simpa using hne)];exact h1
theorem Si.del {B:Bs} {q:Qs} {a:Act} (h:Si B q a.tmps) (dst:Option Nat) (x:Value):Si B (B3 dst q) (a.put dst x).tmps:=by
 refine⟨fun k m off hk=>?_⟩
 rw[B6]at hk
 split at hk
 ·cases hk
 ·rename_i hne
  obtain⟨i,h1,h2⟩:=h.at_ k m off hk
  refine⟨i,h1,?_⟩
  cases dst with
  | none=>exact h2
  | some d=>
   simp only[Act.put,A1]
   rw[if_neg (by simpa using hne)];exact h2
theorem Si.mark {B:Bs} {q:Qs} {a:Act} (h:Si B q a.tmps) {dst:Option Nat} (hd:GG a.tmps.size dst=true) {m off:Nat} {i:BI} (hB:B m=some i) :
  Si B (Pz (B3 dst q) dst (m,off)) (a.put dst (.pointer (some ⟨i.blk,i.shift+off,none⟩))).tmps:=by
 refine⟨fun k m' off' hk=>?_⟩
 rw[KU]at hk
 by_cases hdk:dst=some k
 ·rw[if_pos hdk]at hk
  cases hk
  subst hdk
  simp only[GG,Cj]at hd
  exact⟨i,hB,by simp[Act.put,A1,hd]⟩
 ·rw[if_neg hdk]at hk
  exact(h.del dst _).at_ k m' off' hk
theorem HD.sub {e e':Bz} {tmps:Array Value} (h:HD R e tmps) (hs:∀t v,look e' t=some v->look e t=some v):HD R e' tmps:=
 ⟨fun k v hk=>h.at_ k v (hs k v hk)⟩
theorem Si.sub {B:Bs} {q q':Qs} {tmps:Array Value} (h:Si B q tmps) (hs:∀t v,look q' t=some v->look q t=some v):Si B q' tmps:=
 ⟨fun k m off hk=>h.at_ k m off (hs k _ hk)⟩
theorem HD.sel {e:Bz} {tmps:Array Value} (h:HD R e tmps) (dr:Bool) (ks:List Nat):HD R (Dt dr ks e) tmps:=h.sub fun _ _ hk=>S9 hk
theorem Si.sel {B:Bs} {q:Qs} {tmps:Array Value} (h:Si B q tmps) (dr:Bool) (ks:List Nat):Si B (Kd dr ks q) tmps:=h.sub fun t v hk=>by
 cases dr with
 | true=>exact(Gg _ _ _ _ hk).1
 | false=>exact hk
theorem aH {B:Bs} {r:Rg} (hm:Sj C R B r Z w) {a:Act} (o:Oper) {d:Nat} {el:TypeId} {z:List V} (ho:Ab P C.G o.op = .alloc el z) (K:Act->World->Prop) (Q:Exit->Act->World->Prop)
  (hK:∀i w',Sj C R (fun m=>if m=d then some i else B m) ((d,z)::Bd [d] r) Z w'->K (a.put o.dst (.pointer (some ⟨i.blk,i.shift+0,none⟩))) w'):o.wp P a w K Q:=by
 obtain⟨hrel,hpriv⟩:=hm
 have hg:=hrel.globOk
 have ha:CW (Ab P C.G o.op) [] Z.next=some (.ptr Z.next 0,.cells z):=by rw[ho];rfl
 have he0:Bv R [] a.tmps:=⟨fun k v hk=>by simp[look]at hk⟩
 obtain⟨x,w',i,hrun,hn,hi,hx,hok⟩:=OG (a:=a) (P:=P) he0 hg o ha (hrel.fresh _ (AL _)) w
 have hcp:Ao (IY R Z.next i) (.ptr Z.next 0)=some (.pointer (some ⟨i.blk,i.shift+0,none⟩)):=C4 (CC _ _ _)
 rw[hcp]at hx;cases hx
 unfold Oper.wp;rw[hrun]
 have hle:Le R (IY R Z.next i):=(Eh R Z.next i).le hrel.fresh
 have hzc:∃zs,Ax R z=some zs:=by
  obtain⟨dst,op,ty,pos,after,guard⟩:=o
  simp only at ho
  cases op<;>simp only[Ab]at ho<;>(try (first | (cases ho;done) | ((repeat' split at ho)<;>(cases ho;done))))
  ·rename_i el'
   split at ho
   ·cases ho
   ·rename_i z' _ hz
    simp only[EH.alloc.injEq]at ho
    rw[<-ho.2]
    unfold Jc at hz
    split at hz
    ·split at hz
     ·exact⟨_,Wz R hz⟩
     ·cases hz
    ·cases hz
   ·cases ho
  ·rename_i fn _ _;cases fn<;>cases ho
  ·rename_i r;cases r<;>cases ho
  ·rename_i ok;cases ok
   ·cases ho
   ·simp only at ho;split at ho<;>cases ho
  ·rename_i c
   obtain⟨callee,cargs,argTypes⟩:=c
   simp only at ho
   split at ho
   ·unfold Kk at ho;(repeat' split at ho)<;>cases ho
   ·cases ho
   ·cases ho
   ·cases ho
 obtain⟨zs,hzs⟩:=hzc
 have hokR:Ew R i (.cells z) w':=by
  obtain⟨arr,el',lo,hi',h1,h2,h3,h4,h5⟩:=hok
  refine⟨arr,el',lo,hi',h1,fun k v hk=>?_,h3,h4,h5⟩
  obtain⟨y,hy,hone,harr⟩:=h2 k v hk
  obtain⟨y2,hy2,_⟩:=Dm hzs hk
  have:=Cd hle v y2 hy2
  rw[hy]at this;cases this
  exact⟨_,hy2,hone,harr⟩
 have hO:C.O i.blk:=by rw[hi];exact hrel.new _ hrel.size
 have hrelw:De C R Z w':=hrel.frame (fun blk hb _=>hn.old blk hb) (by rw[hn.size];omega) hn.os hn.tape hn.output
 refine hK i w' ⟨hrelw,⟨fun m j hm=>?_,fun m m' j j' hm hm' hbl=>?_,fun m j hm k b j' hk hj' hbl=>?_⟩⟩
 ·by_cases hmd:m=d
  ·subst hmd
   rw[if_pos rfl]at hm;cases hm
   exact⟨hO,z,by simp[look],hokR⟩
  ·rw[if_neg hmd]at hm
   obtain⟨hO',l,hl,hok'⟩:=hpriv.at_ m j hm
   refine⟨hO',l,?_,hok'.mono (Le.refl _) (hn.old _ hok'.lt)⟩
   simp only[look,AS]
   rw[if_neg (Ne.symm hmd),CJ,if_neg (fun h=>hmd ((Gf d m).1 h).symm)]
   exact hl
 ·by_cases hmd:m=d
  ·by_cases hmd':m'=d
   ·rw[hmd,hmd']
   ·exfalso
    rw[if_pos hmd]at hm;rw[if_neg hmd']at hm';cases hm
    have:=hpriv.lt hm';omega
  ·by_cases hmd':m'=d
   ·exfalso
    rw[if_neg hmd]at hm;rw[if_pos hmd']at hm';cases hm'
    have:=hpriv.lt hm;omega
   ·rw[if_neg hmd]at hm;rw[if_neg hmd']at hm'
    exact hpriv.inj m m' j j' hm hm' hbl
 ·by_cases hmd:m=d
  ·rw[if_pos hmd]at hm;cases hm
   obtain⟨j2,hj2,_,ai⟩:=hrel.own k b hk
   rw[hj']at hj2;cases hj2
   have:=ai.lt;omega
  ·rw[if_neg hmd]at hm
   exact hpriv.apart m j hm k b j' hk hj' hbl
def Ny (C:Cx) (nR:Nat) (R0:Ren) (nt:Nat) (s:St) (a:Act) (w:World):Prop:=
 ∃R B,Gp nR R0 R/\nR<=s.Z.next/\Sj C R B s.r s.Z w/\HD R s.e a.tmps/\Si B s.q a.tmps/\nt<=a.tmps.size/\a.defers=[]
theorem Si.pal {B:Bs} {q:Qs} {a:Act} (h:Si B q a.tmps) {d:Nat} (hd:GG a.tmps.size (some d)=true) (i:BI) :
  Si (fun m=>if m=d then some i else B m) ((d,(d,0))::Je d (Bd [d] q)) (a.put (some d) (.pointer (some ⟨i.blk,i.shift+0,none⟩))).tmps:=by
 refine⟨fun k m off hk=>?_⟩
 simp only[look,AS]at hk
 simp only[GG,Cj]at hd
 by_cases hdk:d=k
 ·rw[if_pos hdk]at hk
  cases hk
  exact⟨i,by simp,by simp[Act.put,A1,hdk,hdk ▸ hd]⟩
 ·rw[if_neg hdk]at hk
  obtain⟨h1,h2⟩:=Jn _ _ _ _ hk
  rw[CJ]at h2
  split at h2
  ·cases h2
  ·obtain⟨j,h3,h4⟩:=h.at_ k m off h2
   refine⟨j,by rw[if_neg h1];exact h3,?_⟩
   simp only[Act.put,A1]
   rw[if_neg hdk];exact h4
theorem iW (hD:∀f,CN P C.E C.G f (D f)) {nR:Nat} {R0:Ren} {nt n0:Nat} {ops:Array Oper} {Q:Exit->Act->World->Prop} :
  ∀{i:Nat} {fl:List (BM × List Nat)} {s s':St},PL C.E D false n0 i fl s s'->∀(l:List Oper) (a:Act) (w:World),l.map (BE P C.G nt ops)=fl.map Prod.fst->Ny C nR R0 nt s a w ->
   (∀a' w',Ny C nR R0 nt s' a' w'->Q .normal a' w')->wpList P ops Q l a w:=by
 intro i fl s s' h
 have good:∀(o:Oper) (l:List Oper) (ao:BM) (fl:List BM),(o::l).map (BE P C.G nt ops)=ao::fl->(∃e,∃(b:Bool),Bf e ao.guard=some b/\(b=true->ao.op ≠ .bad)) ->
   ao.dst=o.dst/\ao.op=Ab P C.G o.op/\GG nt o.dst=true/\O2 ops o.guard=some ao.guard/\l.map (BE P C.G nt ops)=fl:=by
  intro o l ao fl hm ⟨e,b,hw,hb⟩
  simp only[CP,List.cons.injEq]at hm
  obtain⟨h1,h2⟩:=hm
  unfold BE at h1
  split at h1
  ·rename_i g hg hd
   subst h1
   exact⟨rfl,rfl,hd,hg,h2⟩
  ·exfalso
   subst h1
   simp only[Bf,AM.injEq]at hw
   exact hb hw.symm rfl
 have nostep:∀{pw id nx e q r Z out},Ey e->¬GC C.E D pw id nx .bad e q r Z out:=by
  intro pw id nx e q r Z out hlive h
  cases h with
  | p v hc h=>
   have:=h hlive
   cases this
  | l v hc h=>cases hc
  | a v b hc h=>cases hc
  | k v Z1 Z2 hc h hs=>cases hc
  | mv x m off ho hm=>rcases ho with ho | ho<;>cases ho
  | fa d x m off ho hm=>cases ho
  | ld x m off l v ho hm hl h=>cases ho
  | ldn n x m off l ho hm hl h=>cases ho
  | st n x y m off l cs u hw ho hm hl hn hu hlu hcs h1 hlen h=>cases ho
 induction h with
 | nil i s=>
  intro l a w hl hI hQ
  cases l with
  | nil=>exact hQ a w hI
  | cons o l=>simp at hl
 | shrink i fl s s' e q he hq _ ih=>
  intro l a w hl hI hQ
  obtain⟨R,B,h1,h2,h3,h4,h5,h6,h7⟩:=hI
  exact ih l a w hl ⟨R,B,h1,h2,h3,h4.sub he,h5.sub hq,h6,h7⟩ hQ
 | skip i o ks fl s s' hw _ ih=>
  intro l a w hl hI hQ
  cases l with
  | nil=>simp at hl
  | cons oo l=>
   obtain⟨g1,g2,g3,g4,g5⟩:=good oo l o _ hl ⟨_,false,hw,fun h=>by cases h⟩
   obtain⟨R,B,h1,h2,h3,h4,h5,h6,h7⟩:=hI
   have hdst:=Ha g3 h6
   unfold wpList
   rw[if_neg (by rw[DG (h4.sel false ks).env g4 hw];simp)]
   refine ih l _ w g5 ⟨R,B,h1,h2,h3,?_,?_,by rw[Ie];exact h6,by rw[EY];exact h7⟩ hQ
   ·rw[g1];exact h4.put hdst (.inr rfl)
   ·rw[g1];exact h5.del _ _
 | val i o ks fl s s' pw v r' Z' hw hs hlv _ _ ih=>
  intro l a w hl hI hQ
  cases l with
  | nil=>simp at hl
  | cons oo l=>
   obtain⟨R,B,h1,h2,h3,h4,h5,h6,h7⟩:=hI
   obtain⟨g1,g2,g3,g4,g5⟩:=good oo l o _ hl ⟨_,true,hw,fun _ hb=>nostep (h4.sel false ks).live (hb ▸ hs)⟩
   have hdst:=Ha g3 h6
   unfold wpList
   rw[if_pos (DG (h4.sel false ks).env g4 hw)]
   left
   rw[g2]at hs
   refine Lr hD h3 (h4.sel false ks) (h5.sel false ks) oo (h3.rel.fresh _ (AL _)) (IT _) (EI _) hs _ Q (fun v2 r2 Z2 heq R' w' x hle hk hn hmem hv=>?_) (fun m off heq=>by cases heq)
   cases heq
   have hx:Gp s.Z.next R R':=fun k hk1=>hk k hk1 (by intro he;subst he;exact DM _ hk1)
   refine ih l _ w' g5 ⟨R',B,h1.trans hx h2,BP h2 hn,hmem,?_,?_,by rw[Ie];exact h6,by rw[EY];exact h7⟩ hQ
   ·rw[g1]at hlv ⊢
    refine(h4.mono hle).put hdst ?_
    rcases hv with ⟨rfl,hc⟩|hv
    ·rcases hlv with h|h|h
     ·exact .inl h
     ·cases h
     ·rw[g2]at h;exact(h hc).elim
    ·exact .inr hv
   ·rw[g1];exact h5.del _ _
 | mark i o ks fl s s' pw id nx m off hw hs _ ih=>
  intro l a w hl hI hQ
  cases l with
  | nil=>simp at hl
  | cons oo l=>
   obtain⟨R,B,h1,h2,h3,h4,h5,h6,h7⟩:=hI
   obtain⟨g1,g2,g3,g4,g5⟩:=good oo l o _ hl ⟨_,true,hw,fun _ hb=>nostep (h4.sel false ks).live (hb ▸ hs)⟩
   have hdst:=Ha g3 h6
   unfold wpList
   rw[if_pos (DG (h4.sel false ks).env g4 hw)]
   left
   rw[g2]at hs
   have hs2:GC C.E D pw s.Z.next (s.Z.next+1) (Ab P C.G oo.op) (Dt false ks s.e) (Kd false ks s.q) s.r s.Z (.mark m off):=by
    cases hs with
    | mv x m off ho hm=>exact .mv x m off ho hm
    | fa d x m off ho hm=>exact .fa d x m off ho hm
   refine Lr hD h3 (h4.sel false ks) (h5.sel false ks) oo (h3.rel.fresh _ (AL _)) (IT _) (EI _) hs2 _ Q (fun v2 r2 Z2 heq=>by cases heq) (fun m2 off2 heq ii hB=>?_)
   cases heq
   refine ih l _ w g5 ⟨R,B,h1,h2,h3,?_,?_,by rw[Ie];exact h6,by rw[EY];exact h7⟩ hQ
   ·rw[g1];exact h4.del _ _
   ·rw[g1];exact h5.mark hdst hB
 | pal i o ks fl s s' d el z hd ho hw _ ih=>
  intro l a w hl hI hQ
  cases l with
  | nil=>simp at hl
  | cons oo l=>
   obtain⟨g1,g2,g3,g4,g5⟩:=good oo l o _ hl ⟨_,true,hw,fun _ hb=>by rw[ho]at hb;cases hb⟩
   obtain⟨R,B,h1,h2,h3,h4,h5,h6,h7⟩:=hI
   have hdst:=Ha g3 h6
   unfold wpList
   rw[if_pos (DG (h4.sel false ks).env g4 hw)]
   left
   rw[g2]at ho
   rw[hd]at g1
   refine aH h3 oo (d:=d) ho _ Q (fun ii w' hmem=>?_)
   rw[<-g1]at hdst ⊢
   refine ih l _ w' g5 ⟨R,_,h1,h2,hmem,?_,?_,by rw[Ie];exact h6,by rw[EY];exact h7⟩ hQ
   ·exact h4.del (some d) _
   ·exact h5.pal hdst ii
end Go.Og
namespace Go.Og
variable {P:Program} {E:EB} {D:Ak} {C:Cx} {R:Ren} {Z:H} {w w':World}
inductive Oc where
 | val (v:V)
 | mark (m off:Nat)
 | pal (d:Nat) (z:List V)
def JS (s2 s1:St):Prop:=(∀t v,look s2.e t=some v->look s1.e t=some v)/\(∀t v,look s2.q t=some v->look s1.q t=some v)/\s2.r=s1.r/\s2.Z=s1.Z
theorem JS.refl (s:St):JS s s:=⟨fun _ _ h=>h,fun _ _ h=>h,rfl,rfl⟩
inductive At (E:EB) (D:Ak) (s:St) (o:BM) (ks:List Nat):Oc->Bool->St->Prop where
 | skip (s2:St) (hw:Bf (Dt true ks s.e) o.guard=some false) (h:JS s2 ⟨Cb s.e o.dst Dh,B3 o.dst s.q,s.r,s.Z⟩):At E D s o ks (.val Dh) false s2
 | val (s2:St) (pw:Bool) (v:V) (r':Rg) (Z':H) (hw:Bf (Dt true ks s.e) o.guard=some true) (hs:GC E D pw s.Z.next (s.Z.next+1) o.op (Dt true ks s.e) (Kd true ks s.q) s.r s.Z (.val v r' Z'))
   (hl:o.dst=none\/v.live=true\/o.op.cls ≠ .k) (hna:o.op.cls ≠ .a) (h:JS s2 ⟨Cb s.e o.dst v,B3 o.dst s.q,r',Z'⟩):At E D s o ks (.val v) true s2
 | mark (s2:St) (pw:Bool) (id nx m off:Nat) (hw:Bf (Dt true ks s.e) o.guard=some true) (hs:GC E D pw id nx o.op (Dt true ks s.e) (Kd true ks s.q) s.r s.Z (.mark m off))
   (h:JS s2 ⟨B3 o.dst s.e,Pz (B3 o.dst s.q) o.dst (m,off),s.r,s.Z⟩):At E D s o ks (.mark m off) true s2
 | pal (s2:St) (d:Nat) (el:TypeId) (z:List V) (hd:o.dst=some d) (ho:o.op = .alloc el z) (hw:Bf (Dt true ks s.e) o.guard=some true)
   (h:JS s2 ⟨Bd [d] s.e,(d,(d,0))::Je d (Bd [d] s.q),(d,z)::Bd [d] s.r,s.Z⟩):At E D s o ks (.pal d z) true s2
theorem X5 {n0:Nat}:∀{i:Nat} {fl:List (BM × List Nat)} {s s':St},PL E D true n0 i fl s s' ->
  ∃(sts:Nat->St) (oc:Nat->Oc) (ex:Nat->Bool),JS (sts 0) s/\s'=sts fl.length/\∀(k:Nat) (o:BM) (ks:List Nat),fl[k]? = some (o,ks)->At E D (sts k) o ks (oc k) (ex k) (sts (k+1)):=by
 intro i fl s s' h
 have cons:∀(s s1:St) (o:BM) (ks:List Nat) (l:List (BM × List Nat)) (c:Oc) (x:Bool),(∀s2,JS s2 s1->At E D s o ks c x s2) ->
   (∃(sts:Nat->St) (oc:Nat->Oc) (ex:Nat->Bool),JS (sts 0) s1/\s'=sts l.length/\∀(k:Nat) (o:BM) (ks:List Nat),l[k]? = some (o,ks)->At E D (sts k) o ks (oc k) (ex k) (sts (k+1))) ->
   ∃(sts:Nat->St) (oc:Nat->Oc) (ex:Nat->Bool),JS (sts 0) s/\s'=sts ((o,ks)::l).length/\∀(k:Nat) (o':BM) (ks':List Nat),((o,ks)::l)[k]? = some (o',ks')->At E D (sts k) o' ks' (oc k) (ex k) (sts (k+1)):=by
  rintro s s1 o ks l c x hat ⟨sts,oc,ex,h1,h2,h3⟩
  refine⟨fun k=>Nat.casesOn k s sts,fun k=>Nat.casesOn k c oc,fun k=>Nat.casesOn k x ex,JS.refl s,h2,fun k o' ks' hk=>?_⟩
  cases k with
  | zero=>
   simp only[Pu,AM.injEq,Prod.mk.injEq]at hk
   obtain⟨rfl,rfl⟩:=hk
   exact hat _ h1
  | succ k=>
   simp only[CA]at hk
   exact h3 k o' ks' hk
 induction h with
 | nil i s=>exact⟨fun _=>s,fun _ => .val .dead,fun _=>false,JS.refl s,rfl,fun k o ks hk=>by simp at hk⟩
 | skip i o ks l s s' hw _ ih=>exact cons s _ o ks l _ _ (fun s2 hs => .skip s2 hw hs) (ih (cons:=cons))
 | val i o ks l s s' pw v r' Z' hw hs hl hna _ ih=>exact cons s _ o ks l _ _ (fun s2 h2 => .val s2 pw v r' Z' hw hs hl (hna rfl) h2) (ih (cons:=cons))
 | mark i o ks l s s' pw id nx m off hw hs _ ih=>exact cons s _ o ks l _ _ (fun s2 h2 => .mark s2 pw id nx m off hw hs h2) (ih (cons:=cons))
 | pal i o ks l s s' d el z hd ho hw _ ih=>exact cons s _ o ks l _ _ (fun s2 h2 => .pal s2 d el z hd ho hw h2) (ih (cons:=cons))
 | shrink i l s s' e q he hq _ ih=>
  obtain⟨sts,oc,ex,h1,h2,h3⟩:=ih (cons:=cons)
  exact⟨sts,oc,ex,⟨fun t v hv=>he t v (h1.1 t v hv),fun t v hv=>hq t v (h1.2.1 t v hv),h1.2.2.1,h1.2.2.2⟩,h2,h3⟩
theorem P9 {pw:Bool} {id nx:Nat} {o:EH} {e:Bz} {q:Qs} {r r' rL:Rg} {Z':H} {v:V} (h:GC E D pw id nx o e q r Z (.val v r' Z')) (hr:∀x m off,FQ q x=some (m,off)->look rL m=look r m) :
  ∃rL',GC E D pw id nx o e q rL Z (.val v rL' Z')/\((r'=r/\rL'=rL)\/∃x m off c l,FQ q x=some (m,off)/\look r m=some l/\r'=I0 r m c/\rL'=I0 rL m c):=by
 cases h with
 | p _ hc h=>exact⟨rL,.p v hc h,.inl ⟨rfl,rfl⟩⟩
 | l _ hc h=>exact⟨rL,.l v hc h,.inl ⟨rfl,rfl⟩⟩
 | a _ b hc h=>exact⟨rL,.a v b hc h,.inl ⟨rfl,rfl⟩⟩
 | k _ Z1 _ hc h hs=>exact⟨rL,.k v Z1 Z' hc h hs,.inl ⟨rfl,rfl⟩⟩
 | ld x m off l _ ho hm hl h=>exact⟨rL,.ld x m off l v ho hm (by rw[hr x m off hm];exact hl) h,.inl ⟨rfl,rfl⟩⟩
 | ldn n x m off l ho hm hl h=>exact⟨rL,.ldn n x m off l ho hm (by rw[hr x m off hm];exact hl) h,.inl ⟨rfl,rfl⟩⟩
 | st n x y m off l cs u hw ho hm hl hn hu hlu hcs h1 hlen h=>exact⟨_,.st n x y m off l cs u hw ho hm (by rw[hr x m off hm];exact hl) hn hu hlu hcs h1 hlen h,.inr ⟨x,m,off,_,l,hm,hl,rfl,rfl⟩⟩
theorem OP {pw:Bool} {id nx:Nat} {o:EH} {e:Bz} {q:Qs} {r r':Rg} {Z':H} {v:V} (h:GC E D pw id nx o e q r Z (.val v r' Z')) (hk:o.cls ≠ .k) (ha:o.cls ≠ .a):r'=r/\Z'=Z:=by
 cases h with
 | p _ hc h=>exact⟨rfl,rfl⟩
 | l _ hc h=>exact⟨rfl,rfl⟩
 | a _ b hc h=>exact(ha hc).elim
 | k _ Z1 _ hc h hs=>exact(hk hc).elim
 | ld x m off l _ ho hm hl h=>exact⟨rfl,rfl⟩
 | ldn n x m off l ho hm hl h=>exact⟨rfl,rfl⟩
 | st n x y m off l cs u hw ho hm hl hn hu hlu hcs h1 hlen h=>exact(hk (by rw[ho];rfl)).elim
theorem aU {pw:Bool} {id nx id' nx':Nat} {o:EH} {e:Bz} {q:Qs} {r rL:Rg} {Z ZL:H} {m off:Nat} (h:GC E D pw id nx o e q r Z (.mark m off)):GC E D pw id' nx' o e q rL ZL (.mark m off):=by
 cases h with
 | mv x _ _ ho hm=>exact .mv x m off ho hm
 | fa d x _ off ho hm=>exact .fa d x m off ho hm
theorem YD {pw:Bool} {id nx:Nat} {o:EH} {e:Bz} {q:Qs} {r:Rg} {m off:Nat} (h:GC E D pw id nx o e q r Z (.mark m off)):∃x off',FQ q x=some (m,off'):=by
 cases h with
 | mv x _ _ ho hm=>exact⟨x,off,hm⟩
 | fa d x _ off ho hm=>exact⟨x,off,hm⟩
theorem Ig:∀(l:XL) (g:Option (Nat × Bool)),l.makes=false->∀o∈l.flat g,∀d,o.op.cls = .a->o.dst=some d->Bg l.pals d=true
 | .nil,g,h,o,ho,d,hc,hd=>by simp[XL.flat]at ho
 | .op dd ty ks op r,g,h,o,ho,d,hc,hd=>by
  obtain⟨h1,h2⟩:=WT h
  simp only[XL.flat,Ae]at ho
  rcases ho with rfl|ho
  ·exact(h1 hc).elim
  ·exact Ig r g h2 o ho d hc hd
 | .pal dd ks el z r,g,h,o,ho,d,hc,hd=>by
  simp only[XL.flat,Ae]at ho
  simp only[XL.pals]
  rw[C1]
  rcases ho with rfl|ho
  ·left;simpa using hd
  ·right;exact Ig r g h o ho d hc hd
 | .grp t b l dd ks c x y r,g,h,o,ho,d,hc,hd=>by
  obtain⟨h1,h2⟩:=Up h
  simp only[XL.flat,Ja,Ae]at ho
  simp only[XL.pals]
  rw[FP]
  rcases ho with ho|rfl|ho
  ·left;exact Ig l _ h1 o ho d hc hd
  ·cases hc
  ·right;exact Ig r g h2 o ho d hc hd
theorem K8 {q:Qs}:∀{l:List Nat},Oa q l=true->∀d,Bg l d=true->∀t off,look q t≠some (d,off)
 | [],_,d,hd=>by simp[Bg]at hd
 | a::l,h,d,hd=>by
  simp only[Oa,AJ]at h
  intro t off hl
  rcases(C1 a l d).1 hd with rfl|hd
  ·have hm:IN a q=[]:=by simpa using h.1
   have:=I2 (m:=a) (q:=q) (t:=t) (p:=(a,off)) (by rw[hm];rfl) hl
   exact this rfl
  ·exact K8 h.2 d hd t off hl
end Go.Og
