/- What the last text leans on, part 2 of 7: merged out of smaller texts. No condition. -/
import Derived.Orders
import Derived.Test.YtcpdffccolffaaaGreatDoorQ0
open Int renaming ofNat -> AA,tmod -> Fq,natCast_pow -> PO,natCast_nonneg -> Rf,fdiv_eq_ediv_of_nonneg -> yg
open Nat renaming le_refl -> AN,beq_eq -> AV,add -> Ac,le_trans -> Ae,lt_or_ge -> Al,beq -> Ax,ble -> A0,ble_eq -> BC,lt_of_lt_of_le -> Bg,mod_eq_of_lt -> Bw,lt_succ_self -> Bz,lt_irrefl -> CD,zero_le -> CH,zero_add -> CJ,blt_eq -> C1,blt -> DQ,le_succ -> Ec,min -> E9,pow_le_pow_right -> MB,sub_self -> M6,strongRecOn -> PL,testBit_or -> Ui,lt_succ_of_lt -> Uj,mul -> Zz,lt_trichotomy -> AFK
open Bool renaming and_eq_true -> AK,or_eq_false_iff -> B2,or_eq_true -> CB,not_true -> Cn,not_eq_true' -> C4,false_or -> DL,eq_false_iff -> HV,true_and -> Hz,eq_iff_iff -> PQ
open List renaming getElem?_eq_getElem -> AZ,getElem?_eq_none -> Aa,append_assoc -> Ab,getD_eq_getElem?_getD -> Ad,length_cons -> Aj,append_nil -> Am,mem_cons -> BJ,getElem?_map -> BM,mem_cons_self -> BZ,replicate -> Bj,map_cons -> B3,getElem?_cons_succ -> CK,drop_zero -> CO,range -> Cj,nil_append -> Cy,getElem?_drop -> DC,mem_cons_of_mem -> ED,getElem?_take -> Ey,cons_append -> Ez,all_eq_true -> E0,mem_append -> Fe,getElem?_cons_zero -> IN,drop_drop -> IP,countP_cons_of_pos -> IQ,all_cons -> Ji,mem_range -> MC,countP_cons_of_neg -> Rm,eq_nil_iff_forall_not_mem -> Yi
open Option renaming some -> AP,map_eq_some_iff -> Aq
open Array renaming getElem?_setIfInBounds -> BE,getElem?_eq_none -> CE,getElem?_eq_getElem -> Dm,size_setIfInBounds -> Dx,getD_eq_getD_getElem? -> EF,replicate -> HE,getElem?_toList -> WK,getElem?_replicate -> AI5
open BitVec renaming ofInt -> BU,toNat_or -> PR,toNat_and -> Yj
set_option linter.unusedSimpArgs false
namespace Go.Og
variable {P:Program} {G:Nat->Bool} {E:EB} {D:Az} {C:Cx}
theorem OR {α:Type} (l m:List (Nat × α)) (id:Nat):look (l++m) id=match look l id with
  | some b=>some b
  | none=>look m id:=by
 induction l with
 | nil=>rfl
 | cons p l ih=>
  obtain⟨k,b⟩:=p
  by_cases h:k=id
  ·simp[look,h]
  ·simp only[Ez,look,AV,h,if_false,ih]
theorem Kq {n0 n id:Nat} {p:Nat->Bool}:(A0 n0 id&&DQ id (n0+n) && !p (id-n0))=true↔(n0<=id/\id<n0+n/\p (id-n0)=false):=by
 simp only[AK,BC,C1,C4,and_assoc]
theorem D6 (n0 n:Nat) (p:Nat->Bool) (l:EB) (id:Nat) :
  look (C9 n0 n p l) id=if n0<=id/\id<n0+n/\p (id-n0)=false then none else look l id:=by
 induction l with
 | nil=>simp[C9,look]
 | cons q l ih=>
  obtain⟨k,b⟩:=q
  unfold C9
  by_cases hk:n0<=k/\k<n0+n/\p (k-n0)=false
  ·rw[if_pos (Kq.2 hk),ih]
   by_cases h:k=id
   ·subst h;rw[if_pos hk,if_pos hk]
   ·simp only[look,AV,h,if_false]
  ·rw[if_neg (fun hh=>hk (Kq.1 hh))]
   by_cases h:k=id
   ·subst h;rw[if_neg hk];simp[look]
   ·simp only[look,AV,h,if_false,ih]
theorem QA (n0 n:Nat) (p:Nat->Bool) (l:EB) (id:Nat) :
  look (FC n0 n p l) id=if n0<=id/\id<n0+n/\p (id-n0)=false then look l id else none:=by
 induction l with
 | nil=>simp[FC,look]
 | cons q l ih=>
  obtain⟨k,b⟩:=q
  unfold FC
  by_cases hk:n0<=k/\k<n0+n/\p (k-n0)=false
  ·rw[if_pos (Kq.2 hk)]
   by_cases h:k=id
   ·subst h;rw[if_pos hk];simp[look]
   ·simp only[look,AV,h,if_false,ih]
  ·rw[if_neg (fun hh=>hk (Kq.1 hh)),ih]
   by_cases h:k=id
   ·subst h;rw[if_neg hk,if_neg hk]
   ·simp only[look,AV,h,if_false]
theorem Jz {n0 n:Nat} {p q:Nat->Bool} (h:∀k,k<n->p k=q k):∀l,C9 n0 n p l=C9 n0 n q l
 | []=>rfl
 | (id,b)::l=>by
  unfold C9
  rw[Jz h l]
  by_cases hk:n0<=id/\id<n0+n
  ·rw[h (id-n0) (by omega)]
  ·have:(A0 n0 id&&DQ id (n0+n))=false:=by
    cases hb:(A0 n0 id&&DQ id (n0+n))with
    | false=>rfl
    | true=>simp only[AK,BC,C1]at hb;exact(hk hb).elim
   rw[this];simp
theorem OS {n0 n:Nat} {p q:Nat->Bool} (h:∀k,k<n->p k=q k):∀l,FC n0 n p l=FC n0 n q l
 | []=>rfl
 | (id,b)::l=>by
  unfold FC
  rw[OS h l]
  by_cases hk:n0<=id/\id<n0+n
  ·rw[h (id-n0) (by omega)]
  ·have:(A0 n0 id&&DQ id (n0+n))=false:=by
    cases hb:(A0 n0 id&&DQ id (n0+n))with
    | false=>rfl
    | true=>simp only[AK,BC,C1]at hb;exact(hk hb).elim
   rw[this];simp
mutual
theorem NX:∀(a b:V),V.beq a b=true->a=b
 | .dead,b,h=>by cases b<;>simp[V.beq]at h
 | .bool a,b,h=>by cases b<;>simp[V.beq]at h;subst h;rfl
 | .int k a,b,h=>by cases b<;>simp[V.beq]at h;obtain⟨rfl,rfl⟩:=h;rfl
 | .str a,b,h=>by cases b<;>simp[V.beq]at h;subst h;rfl
 | .nilp,b,h=>by cases b<;>simp[V.beq]at h;rfl
 | .ptr _ _,b,h=>by cases b<;>simp[V.beq]at h;obtain⟨rfl,rfl⟩:=h;rfl
 | .nils,b,h=>by cases b<;>simp[V.beq]at h;rfl
 | .sl _ _ _ _,b,h=>by cases b<;>simp[V.beq]at h;obtain⟨⟨⟨rfl,rfl⟩,rfl⟩,rfl⟩:=h;rfl
 | .sle _ _ _ _,b,h=>by cases b<;>simp[V.beq]at h;obtain⟨⟨⟨rfl,rfl⟩,rfl⟩,rfl⟩:=h;rfl
 | .nilm,b,h=>by cases b<;>simp[V.beq]at h;rfl
 | .mp _,b,h=>by cases b<;>simp[V.beq]at h;subst h;rfl
 | .fn f x y,b,h=>by
  cases b with
  | fn g u v=>
   simp only[V.beq,AK,AV]at h
   obtain⟨⟨rfl,h1⟩,h2⟩:=h
   rw[Kx x u h1,Kx y v h2]
  | _=>simp[V.beq]at h
 | .nilf,b,h=>by cases b<;>simp[V.beq]at h;rfl
 | .ifc t x,b,h=>by
  cases b with
  | ifc u y=>
   simp only[V.beq,AK,AV]at h
   obtain⟨rfl,h1⟩:=h
   rw[NX x y h1]
  | _=>simp[V.beq]at h
 | .nili,b,h=>by cases b<;>simp[V.beq]at h;rfl
 | .agg l,b,h=>by
  cases b with
  | agg m=>simp only[V.beq]at h;rw[Kx l m h]
  | _=>simp[V.beq]at h
 | .tup l,b,h=>by
  cases b with
  | tup m=>simp only[V.beq]at h;rw[Kx l m h]
  | _=>simp[V.beq]at h
theorem Kx:∀(l m:List V),KF l m=true->l=m
 | [],m,h=>by cases m<;>simp[KF]at h;rfl
 | a::l,m,h=>by
  cases m with
  | nil=>simp[KF]at h
  | cons b m=>
   simp only[KF,AK]at h
   rw[NX a b h.1,Kx l m h.2]
end
def Cx.sub (C:Cx) (R:Cz) (Js:H) (w:World):Cx:=
 { C with O:=fun blk=>w.heap.size<=blk\/∃id b j,look Js.bl id=some b/\R id=some j/\j.blk=blk,w0:=w }
theorem ql {R:Cz} {J Js:H} {w:World} (h:Ds C R J w) (hsub:∀id b,look Js.bl id=some b->look J.bl id=some b) {blk:Nat} (hO:(C.sub R Js w).O blk):C.O blk:=by
 rcases hO with hge|⟨id,b,j,hb,hj,rfl⟩
 ·exact h.new _ (Ae h.size hge)
 ·obtain⟨j',hj',hO',_⟩:=h.own id b (hsub id b hb)
  rw[hj]at hj';cases hj';exact hO'
theorem Ds.shrink {R:Cz} {J Js:H} {w:World} (h:Ds C R J w) (hn:Js.next=J.next) (hsub:∀id b,look Js.bl id=some b->look J.bl id=some b):Ds (C.sub R Js w) R Js w where
 fresh id hid:=h.fresh id (hn ▸ hid)
 own id b hb:=by
  obtain⟨j,hj,_,hok⟩:=h.own id b (hsub id b hb)
  exact⟨j,hj,.inr ⟨id,b,j,hb,hj,rfl⟩,hok⟩
 inj id id' b b' i i' hb hb' hi hi' hbl:=h.inj id id' b b' i i' (hsub _ _ hb) (hsub _ _ hb') hi hi' hbl
 ext id b hb:=by
  obtain⟨j,hj,hno,hok⟩:=h.ext id b hb
  exact⟨j,hj,fun hO=>hno (ql h hsub hO),hok⟩
 glob:=h.glob
 fr _ _:=rfl
 size:=AN _
 new _ hblk := .inl hblk
 os:=rfl
 tape:=rfl
 output:=rfl
theorem Ds.regrow {R R':Cz} {J Js J' J2:H} {w w':World} (h:Ds C R J w) (hsub:∀id b,look Js.bl id=some b->look J.bl id=some b)
  (hs:Ds (C.sub R Js w) R' J' w') (hx:G8 J.next R R') (h2:J2.next=J'.next)
  (hl:∀id b,look J2.bl id=some b->look J'.bl id=some b\/(look J.bl id=some b/\look Js.bl id=none)):Ds C R' J2 w':=by
 have hle:Le R R':=hx.le h.fresh
 have hOO:∀blk,(C.sub R Js w).O blk->C.O blk:=fun blk hO=>ql h hsub hO
 have hno:∀id b j,look J.bl id=some b->look Js.bl id=none->R id=some j->¬(C.sub R Js w).O j.blk:=by
  intro id b j hb hnone hj hO
  rcases hO with hge|⟨id2,b2,j2,hb2,hj2,hbl⟩
  ·obtain⟨j',hj',_,hok⟩:=h.own id b hb
   rw[hj]at hj';cases hj'
   have:=hok.lt
   omega
  ·have:=h.inj id2 id b2 b j2 j (hsub _ _ hb2) hb hj2 hj hbl
   subst this
   rw[hnone]at hb2;cases hb2
 have hR:∀id b,look J.bl id=some b->R' id=R id:=fun id b hb=>hx id (h.next_of_own hb)
 refine⟨fun id hid=>hs.fresh id (h2 ▸ hid),?_,?_,?_,?_,?_,?_,h.new,hs.os.trans h.os,hs.tape.trans h.tape,hs.output.trans h.output⟩
 ·intro id b hb
  rcases hl id b hb with h1|⟨h1,h1n⟩
  ·obtain⟨j,hj,hO,hok⟩:=hs.own id b h1
   exact⟨j,hj,hOO _ hO,hok⟩
  ·obtain⟨j,hj,hO,hok⟩:=h.own id b h1
   exact⟨j,by rw[hR id b h1];exact hj,hO,hok.mono hle (hs.fr _ (hno id b j h1 h1n hj))⟩
 ·intro id id' b b' i i' hb hb' hi hi' hbl
  rcases hl id b hb with h1|⟨h1,h1n⟩
  ·rcases hl id' b' hb' with h1'|⟨h1',h1n'⟩
   ·exact hs.inj id id' b b' i i' h1 h1' hi hi' hbl
   ·exfalso
    obtain⟨j,hj,hO,_⟩:=hs.own id b h1
    rw[hi]at hj;cases hj
    rw[hR id' b' h1']at hi'
    exact hno id' b' i' h1' h1n' hi' (hbl ▸ hO)
  ·rcases hl id' b' hb' with h1'|⟨h1',h1n'⟩
   ·exfalso
    obtain⟨j,hj,hO,_⟩:=hs.own id' b' h1'
    rw[hi']at hj;cases hj
    rw[hR id b h1]at hi
    exact hno id b i h1 h1n hi (hbl ▸ hO)
   ·rw[hR id b h1]at hi;rw[hR id' b' h1']at hi'
    exact h.inj id id' b b' i i' h1 h1' hi hi' hbl
 ·intro id b hb
  obtain⟨j,hj,hn,hok⟩:=h.ext id b hb
  exact⟨j,hle _ _ hj,hn,hok.mono hle (hs.fr _ fun hO=>hn (hOO _ hO))⟩
 ·intro g hg
  obtain⟨j,hj,hb⟩:=h.glob g hg
  exact⟨j,hle _ _ hj,hb⟩
 ·intro blk hn
  rw[<-h.fr blk hn]
  exact hs.fr blk fun hO=>hn (hOO _ hO)
 ·exact Ae h.size hs.size
theorem Ds.allocAt {R:Cz} {J J2:H} {w w':World} (h:Ds C R J w) {id:Nat} (hid:R id=none) (hlt:id<J.next) (hn:FF w w') (b:GL) (i:BI) (hi:i.blk=w.heap.size)
  (hb:FD (IS R id i) i b w') (h2:J2.next=J.next) (hl:∀k,look J2.bl k=if k=id then some b else look J.bl k):Ds C (IS R id i) J2 w':=by
 have hle:Le R (IS R id i):=fun k j hk=>by
  by_cases he:k=id
  ·subst he;rw[hid]at hk;cases hk
  ·rw[Bt he];exact hk
 have hold:=hn.old
 have hO:C.O w.heap.size:=h.new _ h.size
 refine⟨?_,?_,?_,?_,?_,?_,?_,h.new,hn.os.trans h.os,hn.tape.trans h.tape,hn.output.trans h.output⟩
 ·intro k hk
  rw[Bt (by omega)];exact h.fresh k (by omega)
 ·intro k c hc
  rw[hl]at hc
  by_cases he:k=id
  ·subst he
   rw[if_pos rfl]at hc;cases hc
   exact⟨i,CL _ _ _,hi ▸ hO,hb⟩
  ·rw[if_neg he]at hc
   obtain⟨j,hj,hOj,hok⟩:=h.own k c hc
   exact⟨j,by rw[Bt he];exact hj,hOj,hok.mono hle (hold _ hok.lt)⟩
 ·intro k k' c c' j j' hc hc' hj hj' hbl
  rw[hl]at hc hc'
  by_cases he:k=id
  ·by_cases he':k'=id
   ·rw[he,he']
   ·exfalso
    subst he
    rw[CL]at hj;cases hj
    rw[if_neg he']at hc'
    rw[Bt he']at hj'
    obtain⟨q,hq,_,hok⟩:=h.own k' c' hc'
    rw[hq]at hj';cases hj'
    have:=hok.lt
    omega
  ·by_cases he':k'=id
   ·exfalso
    subst he'
    rw[CL]at hj';cases hj'
    rw[if_neg he]at hc
    rw[Bt he]at hj
    obtain⟨q,hq,_,hok⟩:=h.own k c hc
    rw[hq]at hj;cases hj
    have:=hok.lt
    omega
   ·rw[if_neg he]at hc;rw[if_neg he']at hc'
    rw[Bt he]at hj;rw[Bt he']at hj'
    exact h.inj k k' c c' j j' hc hc' hj hj' hbl
 ·intro k c hc
  obtain⟨j,hj,hno,hok⟩:=h.ext k c hc
  refine⟨j,hle _ _ hj,hno,hok.mono hle (hold _ ?_)⟩
  rcases Al j.blk w.heap.size with hl|hl
  ·exact hl
  ·exact absurd (h.new _ (Ae h.size hl)) hno
 ·intro g hg
  obtain⟨j,hj,hb⟩:=h.glob g hg
  exact⟨j,hle _ _ hj,hb⟩
 ·intro blk hno
  rw[<-h.fr blk hno]
  refine hold _ ?_
  rcases Al blk w.heap.size with hl|hl
  ·exact hl
  ·exact absurd (h.new _ (Ae h.size hl)) hno
 ·rw[hn.size];have:=h.size;omega
theorem Ds.congr {R:Cz} {J J2:H} {w:World} (h:Ds C R J w) (hn:∀id,J2.next<=id->R id=none) (hl:∀k b,look J2.bl k=some b->look J.bl k=some b):Ds C R J2 w:=
 ⟨hn,fun k c hk=>h.own k c (hl k c hk),fun k k' c c' i i' hk hk'=>h.inj k k' c c' i i' (hl k c hk) (hl k' c' hk'),h.ext,h.glob,h.fr,h.size,h.new,h.os,h.tape,h.output⟩
theorem Yu {R:Cz} {J Js:H} {w:World} (h:Ds C R J w) (hsub:∀id b,look Js.bl id=some b->look J.bl id=some b) {id:Nat} {l:List V} (hr:rd C.E Js id=some l):rd C.E J id=some l:=by
 unfold rd at hr ⊢
 cases hs:look Js.bl id with
 | some b=>rw[hs]at hr;rw[hsub id b hs];exact hr
 | none=>
  rw[hs]at hr
  cases he:look C.E id with
  | none=>rw[he]at hr;cases hr
  | some b=>
   rw[he]at hr
   cases ho:look J.bl id with
   | none=>exact hr
   | some c=>
    exfalso
    obtain⟨j,hj,hO,_⟩:=h.own id c ho
    obtain⟨j',hj',hno,_⟩:=h.ext id b he
    rw[hj]at hj';cases hj'
    exact hno hO
theorem Uv {R:Cz} {J Js:H} {w:World} (h:Ds C R J w) (hsub:∀id b,look Js.bl id=some b->look J.bl id=some b) {id off n:Nat} {l:List V} (hr:NA C.E Js id off n=some l):NA C.E J id off n=some l:=by
 unfold NA at hr ⊢
 cases hs:rd C.E Js id with
 | none=>rw[hs]at hr;cases hr
 | some m=>rw[hs]at hr;rw[Yu h hsub hs];exact hr
theorem cW {R:Cz} {J Js:H} {w:World} (h:Ds C R J w) (hsub:∀id b,look Js.bl id=some b->look J.bl id=some b) {esz:Nat} {x:V} {q:Nat × List V} (hr:Ch C.E Js esz x=some q):Ch C.E J esz x=some q:=by
 unfold Ch at hr ⊢
 split at hr
 ·exact hr
 ·exact hr
 ·simp only[Aq]at hr ⊢
  obtain⟨m,hm,rfl⟩:=hr
  exact⟨m,Uv h hsub hm,rfl⟩
 ·exact hr
 ·cases hr
theorem bM {R:Cz} {J Js:H} {w:World} (h:Ds C R J w) (hsub:∀id b,look Js.bl id=some b->look J.bl id=some b) {op:Ej} {e:CF} {v:V} (hr:Cl C.E op e Js=some v):Cl C.E op e J=some v:=by
 unfold Cl at hr ⊢
 split at hr
 ·split at hr
  ·split at hr
   ·rename_i hq;rw[Yu h hsub hq];exact hr
   ·cases hr
  ·cases hr
 ·split at hr
  ·split at hr
   ·rename_i hq;rw[Uv h hsub hq];exact hr
   ·cases hr
  ·cases hr
 ·split at hr
  ·cases hr
  ·rename_i hns
   rw[if_neg hns]
   split at hr
   ·rename_i hq;rw[cW h hsub hq];exact hr
   ·cases hr
 ·unfold MZ at hr ⊢
  split at hr
  ·split at hr
   ·rename_i hq;rw[hsub _ _ hq];exact hr
   ·cases hr
  ·cases hr
 ·unfold O3 at hr ⊢
  split at hr
  ·split at hr
   ·rename_i hq;rw[hsub _ _ hq];exact hr
   ·cases hr
  ·cases hr
 ·cases hr
end Go.Og
namespace Go.Og
variable {P:Program} {G:Nat->Bool} {E:EB} {D:Az} {C:Cx}
theorem HQ:∀{n:Nat} {p:Nat->Bool},W3 n p=true->∀k,k<n->p k=true
 | n+1,p,h,k,hk=>by
  simp only[W3,AK]at h
  by_cases he:k=n
  ·subst he;exact h.1
  ·exact HQ h.2 k (by omega)
structure Sw (ops:Array Oper) (l:List BY) (pl:List DP):Prop where
 len:pl.length=ops.size
 llen:l.length=ops.size
 edges:∀(i:Nat) (o:Oper),ops[i]? = some o->∀e∈o.after,Region.binds .any e=true->e.on<i
 anc:∀(i:Nat) (o:Oper) (p:DP),ops[i]? = some o->pl[i]? = some p->∀k,k<ops.size->p.anc.testBit k=true->∃e∈o.after,Region.binds .any e=true/\(e.on=k\/(G1 pl e.on).testBit k=true)
 dsts:∀(i k:Nat) (o o':Oper) (p p':DP),i≠k->ops[i]? = some o->ops[k]? = some o'->pl[i]? = some p->pl[k]? = some p'->∀(t:Nat),o.dst=some t ->
  o'.dst≠some t/\(Bp p'.looks t=true->p'.anc.testBit i=true\/p.anc.testBit k=true)
 kk:∀(i k:Nat) (ao ao':BY) (p':DP),i<k->l[i]? = some ao->l[k]? = some ao'->pl[k]? = some p'->ao.op.cls = .k->ao'.op.cls = .k->p'.anc.testBit i=true
theorem SG {ops:Array Oper} {l:List BY} {pl:List DP} (hl:l.length=ops.size) (h:Pp ops l pl=true):Sw ops l pl:=by
 unfold Pp at h
 simp only[AK,AV]at h
 obtain⟨hlen,h⟩:=h
 have hlt:∀{i:Nat} {o:Oper},ops[i]? = some o->i<ops.size:=fun {i o} ho=>by
  rcases Al i ops.size with h|h
  ·exact h
  ·rw[CE h]at ho;cases ho
 have hmain:=HQ h
 have hl_lt:∀{i:Nat} {o:BY},l[i]? = some o->i<ops.size:=fun {i o} ho=>by
  rcases Al i l.length with h|h
  ·omega
  ·rw[Aa h]at ho;cases ho
 have some3:∀i,i<ops.size->∃o ao p,ops[i]? = some o/\l[i]? = some ao/\pl[i]? = some p:=fun i hi=>
  ⟨_,_,_,Dm hi,AZ (by omega),AZ (by omega)⟩
 refine⟨hlen,hl,?_,?_,?_,?_⟩
 ·intro i o ho e he hb
  obtain⟨o1,ao,p,h1,h2,h3⟩:=some3 i (hlt ho)
  have hm:=hmain i (hlt ho)
  rw[h1,h2,h3]at hm
  rw[ho]at h1;cases h1
  simp only[AK]at hm
  have:=E0.1 hm.1 e (by simpa using he)
  simp only[hb,Cn,DL,C1]at this
  exact this
 ·intro i o p ho hp k hk hbit
  obtain⟨o1,ao,p1,h1,h2,h3⟩:=some3 i (hlt ho)
  have hm:=hmain i (hlt ho)
  rw[h1,h2,h3]at hm
  rw[ho]at h1;cases h1
  rw[hp]at h3;cases h3
  simp only[AK]at hm
  have hk2:=HQ hm.2 k hk
  simp only[AK]at hk2
  have:=hk2.1
  rw[hbit]at this
  simp only[Cn,DL,List.any_eq_true,AK,CB,AV]at this
  obtain⟨e,he,hb,hr⟩:=this
  exact⟨e,by simpa using he,hb,hr⟩
 ·intro i k o o' p p' hne ho ho' hp hp' t ht
  obtain⟨o1,ao,p1,h1,h2,h3⟩:=some3 i (hlt ho)
  obtain⟨o2,ao2,p2,h1',h2',h3'⟩:=some3 k (hlt ho')
  have hm:=hmain i (hlt ho)
  rw[h1,h2,h3]at hm
  rw[ho]at h1;cases h1
  rw[hp]at h3;cases h3
  rw[ho']at h1';cases h1'
  rw[hp']at h3';cases h3'
  simp only[AK]at hm
  have hk2:=HQ hm.2 k (hlt ho')
  have hik:Ax i k=false:=HV.2 (by rw[ne_eq,AV];exact hne)
  simp only[AK,hik,DL]at hk2
  have:=hk2.2
  rw[ho',h2',hp']at this
  simp only[ht,AK]at this
  obtain⟨⟨h4,h5⟩,_⟩:=this
  constructor
  ·intro heq
   rw[heq]at h4
   simp at h4
  ·intro hmem
   rw[hmem]at h5
   simpa using h5
 ·intro i k ao ao' p' hik ha ha' hp' hc hc'
  obtain⟨o1,ao1,p1,h1,h2,h3⟩:=some3 i (hl_lt ha)
  obtain⟨o2,ao2,p2,h1',h2',h3'⟩:=some3 k (hl_lt ha')
  have hm:=hmain i (hl_lt ha)
  rw[h1,h2,h3]at hm
  rw[ha]at h2;cases h2
  rw[ha']at h2';cases h2'
  rw[hp']at h3';cases h3'
  simp only[AK]at hm
  have hk2:=HQ hm.2 k (hl_lt ha')
  have hne:Ax i k=false:=HV.2 (by rw[ne_eq,AV];omega)
  simp only[AK,hne,DL]at hk2
  have:=hk2.2
  rw[h1',ha',hp']at this
  simp only[AK,hc,hc']at this
  have:=this.2
  have hb:DQ i k=true:=by simpa using hik
  rw[hb]at this
  simpa using this
theorem Sw.ancLt {ops:Array Oper} {l:List BY} {pl:List DP} (h:Sw ops l pl):∀(i:Nat) (p:DP),pl[i]? = some p->∀(k:Nat),k<ops.size->p.anc.testBit k=true->k<i:=by
 intro i
 induction i using PL with
 | _ i ih=>
  intro p hp k hk hb
  have hi:i<ops.size:=by
   rcases Al i pl.length with h1|h1
   ·have:=h.len;omega
   ·rw[Aa h1]at hp;cases hp
  obtain⟨e,he,hbe,hr⟩:=h.anc i ops[i] p (Dm hi) hp k hk hb
  have hlt:=h.edges i ops[i] (Dm hi) e he hbe
  rcases hr with rfl|hr
  ·exact hlt
  ·have hel:e.on<pl.length:=by have:=h.len;omega
   have hp':pl[e.on]? = some pl[e.on]:=AZ hel
   have:(pl[e.on]).anc.testBit k=true:=by
    simpa[G1,Ad,hp']using hr
   have:=ih e.on hlt _ hp' k hk this
   omega
structure Tr (E:EB) (D:Az) (l:List BY) (pl:List DP) (n0 n:Nat) (e0:CF) (h0:EB) (i:Nat) (s:DS) where
 vals:Nat->V
 envs:Nat->CF
 Hh:Nat->EB
 nx:Nat->Nat
 ks:Nat->Nat
 M:Nat
 ssl:s.ss.length=M+1
 ssg:∀(m:Nat),m<=M->s.ss[M-m]? = some (Hh m)
 ksl:s.ks.length=M
 ksg:∀(r:Nat),r<M->s.ks[M-1-r]? = some (ks r)
 ke:s.e=envs i
 ez:envs 0=e0
 es:∀(k:Nat),k<i->∀(o:BY),l[k]? = some o->envs (k+1)=Cr (envs k) o.dst (vals k)
 nx0:nx 0=n0+n
 nxs:s.nx=nx M
 hz:∀id,¬(n0<=id/\id<n0+n)->look (Hh 0) id=look h0 id
 ops:∀(k:Nat),k<i->∀(o:BY) (p:DP),l[k]? = some o->pl[k]? = some p ->
  (Bv (restr p.looks (envs k)) o.guard=some false/\vals k=EG/\s.am.testBit k=false/\∀r,r<M->ks r≠k) \/
  (Bv (restr p.looks (envs k)) o.guard=some true /\
   ((o.op.cls = .p/\Be o.op (restr p.looks (envs k))=some (vals k)/\s.am.testBit k=false/\∀r,r<M->ks r≠k) \/
    (o.op.cls = .l/\(k,o.op,restr p.looks (envs k),vals k)∈s.ls/\s.am.testBit k=false/\∀r,r<M->ks r≠k) \/
    (o.op.cls = .a/\s.am.testBit k=true/\(∀r,r<M->ks r≠k)/\∃b,Ce o.op (restr p.looks (envs k)) (n0+k)=some (vals k,b) /\
     ∀m,m<=M->(∀r,r<m->(G1 pl (ks r)).testBit k=false)->look (Hh m) (n0+k)=some b) \/
    (o.op.cls = .k/\s.am.testBit k=false/\∃r,r<M/\ks r=k)))
 amlt:∀k,s.am.testBit k=true->k<i
 kst:∀r,r<M->ks r<i/\∃(o:BY) (p:DP) (J':H),l[ks r]? = some o/\pl[ks r]? = some p/\o.op.cls = .k/\Bv (restr p.looks (envs (ks r))) o.guard=some true /\
  EO E D o.op (restr p.looks (envs (ks r))) ⟨nx r,C9 n0 n (Dn p.anc s.am) (Hh r)⟩=some (vals (ks r),J') /\
  Hh (r+1)=FC n0 n (Dn p.anc s.am) (Hh r)++J'.bl/\nx (r+1)=J'.next
 kinc:∀r r',r<r'->r'<M->ks r<ks r'
theorem Hd {a i k:Nat}:(a ||| 2 ^ i).testBit k=(a.testBit k || decide (i=k)):=by
 rw[Ui,Nat.testBit_two_pow]
theorem Tr.start (E : EB) (D : Az) (l : List BY) (pl : List DP) (n0 n : Nat) (e0 : CF) (h0 : EB) : Nonempty (Tr E D l pl n0 n e0 h0 0 ⟨e0, n0 + n, [h0], [], 0, []⟩) :=
  ⟨{ vals := fun _ => .dead, envs := fun _ => e0, Hh := fun _ => h0, nx := fun _ => n0 + n, ks := fun _ => 0, M := 0,
     ssl := rfl, ssg := fun m hm => by have : m = 0 := by omega
                                       subst this; rfl
     ksl := rfl, ksg := fun r hr => by omega
     ke := rfl, ez := rfl, es := fun k hk => by omega
     nx0 := rfl, nxs := rfl, hz := fun _ _ => rfl
     ops := fun k hk => by omega
     amlt := fun k hk => by simp at hk
     kst := fun r hr => by omega
     kinc := fun r r' h h' => by omega }⟩
def Rq {α:Type} (f:Nat->α) (i:Nat) (v:α) (k:Nat):α:=if k=i then v else f k
theorem Ca {α:Type} (f:Nat->α) (i:Nat) (v:α):Rq f i v i=v:=if_pos rfl
theorem Ix {α:Type} (f:Nat->α) {i k:Nat} (v:α) (h:k≠i):Rq f i v k=f k:=if_neg h
theorem Tr.quiet {l:List BY} {pl:List DP} {n0 n:Nat} {e0:CF} {h0:EB} {i:Nat} {s:DS} (T:Tr E D l pl n0 n e0 h0 i s) {o:BY} {p:DP} (ho:l[i]? = some o) (hp:pl[i]? = some p) (v:V) (ls:List (Nat × Ej × CF × V))
    (hls:∀x,x∈s.ls->x∈ls)
    (hcase:(Bv (restr p.looks s.e) o.guard=some false/\v=EG)\/(Bv (restr p.looks s.e) o.guard=some true /\
      ((o.op.cls = .p/\Be o.op (restr p.looks s.e)=some v)\/(o.op.cls = .l/\(i,o.op,restr p.looks s.e,v)∈ls)))) :
    Nonempty (Tr E D l pl n0 n e0 h0 (i+1) { s with e:=Cr s.e o.dst v,ls:=ls }):=by
  obtain⟨vals,envs,Hh,nx,ks,M,ssl,ssg,ksl,ksg,ke,ez,es,nx0,nxs,hz,ops,amlt,kst,kinc⟩:=T
  have hne:∀r,r<M->ks r≠i:=fun r hr=>by have:=(kst r hr).1;omega
  have ham:s.am.testBit i=false:=by
    cases hb:s.am.testBit i with
    | false=>rfl
    | true=>have:=amlt i hb;omega
  have hval:∀k,k<i->Rq vals i v k=vals k:=fun k hk=>Ix _ _ (by omega)
  have henv:∀k,k<i+1->Rq envs (i+1) (Cr s.e o.dst v) k=envs k:=fun k hk=>Ix _ _ (by omega)
  refine⟨{ vals:=Rq vals i v,envs:=Rq envs (i+1) (Cr s.e o.dst v),Hh:=Hh,nx:=nx,ks:=ks,M:=M,
            ssl:=ssl,ssg:=ssg,ksl:=ksl,ksg:=ksg,ke:=(Ca _ _ _).symm,ez:=by rw[henv 0 (by omega)];exact ez,es:=?_,nx0:=nx0,nxs:=nxs,hz:=hz,ops:=?_,amlt:=fun k hk=>Uj (amlt k hk),kst:=?_,kinc:=kinc }⟩
  · intro k hk o' ho'
    by_cases he:k=i
    · subst he
      rw[ho]at ho';cases ho'
      rw[Ca,Ca,henv k (by omega),ke]
    · rw[henv k (by omega),hval k (by omega),henv (k+1) (by omega)]
      exact es k (by omega) o' ho'
  · intro k hk o' p' ho' hp'
    by_cases he:k=i
    · subst he
      rw[ho]at ho';cases ho'
      rw[hp]at hp';cases hp'
      rw[henv k (by omega),<-ke,Ca]
      rcases hcase with ⟨h1,h2⟩|⟨h1,h2⟩
      · exact .inl ⟨h1,h2,ham,hne⟩
      · refine .inr ⟨h1,?_⟩
        rcases h2 with ⟨h2,h3⟩|⟨h2,h3⟩
        · exact .inl ⟨h2,h3,ham,hne⟩
        · exact .inr (.inl ⟨h2,h3,ham,hne⟩)
    · rw[henv k (by omega),hval k (by omega)]
      rcases ops k (by omega) o' p' ho' hp' with h1|⟨h1,h2|⟨h2,h3,h4⟩|h2|h2⟩
      · exact .inl h1
      · exact .inr ⟨h1,.inl h2⟩
      · exact .inr ⟨h1,.inr (.inl ⟨h2,hls _ h3,h4⟩)⟩
      · exact .inr ⟨h1,.inr (.inr (.inl h2))⟩
      · exact .inr ⟨h1,.inr (.inr (.inr h2))⟩
  · intro r hr
    obtain⟨h1,o',p',J',h2,h3,h4,h5,h6,h7,h8⟩:=kst r hr
    refine⟨by omega,o',p',J',h2,h3,h4,?_,?_,h7,h8⟩
    · rw[henv _ (by omega)];exact h5
    · rw[henv _ (by omega),hval _ h1];exact h6
end Go.Og
namespace Go.Og
variable {P:Program} {G:Nat->Bool} {E:EB} {D:Az} {C:Cx}
theorem Io {pl:List DP} {i:Nat} {p:DP} (h:pl[i]? = some p):G1 pl i=p.anc:=by simp[G1,Ad,h]
theorem Tr.make {ops' : Array Oper} {l : List BY} {pl : List DP} (F : Sw ops' l pl) {n0 n : Nat} (hn : n = ops'.size) {e0 : CF} {h0 : EB} {i : Nat} {s : DS} (T : Tr E D l pl n0 n e0 h0 i s) {o : BY} {p : DP}
    (ho : l[i]? = some o) (hp : pl[i]? = some p) (v : V) (b : GL) (hw : Bv (restr p.looks s.e) o.guard = some true) (hc : o.op.cls = .a) (ha : Ce o.op (restr p.looks s.e) (n0 + i) = some (v, b)) :
    Nonempty (Tr E D l pl n0 n e0 h0 (i + 1) { s with e := Cr s.e o.dst v, ss := s.ss.map ((n0 + i, b) :: ·), am := s.am ||| 2 ^ i }) := by
  obtain ⟨vals, envs, Hh, nx, ks, M, ssl, ssg, ksl, ksg, ke, ez, es, nx0, nxs, hz, ops, amlt, kst, kinc⟩ := T
  have hin : i < n := by
    rcases Al i l.length with h | h
    · have := F.llen; omega
    · rw [Aa h] at ho; cases ho
  have hne : ∀ r, r < M → ks r ≠ i := fun r hr => by have := (kst r hr).1; omega
  have hval : ∀ k, k < i → Rq vals i v k = vals k := fun k hk => Ix _ _ (by omega)
  have henv : ∀ k, k < i + 1 → Rq envs (i + 1) (Cr s.e o.dst v) k = envs k := fun k hk => Ix _ _ (by omega)
  have hlk : ∀ m k, k ≠ i → look ((n0 + i, b) :: Hh m) (n0 + k) = look (Hh m) (n0 + k) := fun m k hk => by
    simp only [look, AV]
    rw [if_neg (by omega)]
  have ham : ∀ k, k ≠ i → (s.am ||| 2 ^ i).testBit k = s.am.testBit k := fun k hk => by
    rw [Hd]; simp [Ne.symm hk]
  refine ⟨{ vals := Rq vals i v, envs := Rq envs (i + 1) (Cr s.e o.dst v), Hh := fun m => (n0 + i, b) :: Hh m, nx := nx, ks := ks, M := M,
            ssl := by simp [ssl], ssg := fun m hm => by rw [BM, ssg m hm]; rfl
            ksl := ksl, ksg := ksg, ke := (Ca _ _ _).symm, ez := by rw [henv 0 (by omega)]; exact ez, es := ?_, nx0 := nx0, nxs := nxs, hz := ?_, ops := ?_, amlt := ?_, kst := ?_, kinc := kinc }⟩
  · intro k hk o' ho'
    by_cases he : k = i
    · subst he
      rw [ho] at ho'; cases ho'
      rw [Ca, Ca, henv k (by omega), ke]
    · rw [henv k (by omega), hval k (by omega), henv (k + 1) (by omega)]
      exact es k (by omega) o' ho'
  · intro id hid
    simp only [look, AV]
    rw [if_neg (by omega)]
    exact hz id hid
  · intro k hk o' p' ho' hp'
    by_cases he : k = i
    · subst he
      rw [ho] at ho'; cases ho'
      rw [hp] at hp'; cases hp'
      rw [henv k (by omega), ← ke, Ca]
      refine .inr ⟨hw, .inr (.inr (.inl ⟨hc, by rw [Hd]; simp, hne, b, ha, fun m _ _ => by simp [look]⟩))⟩
    · rw [henv k (by omega), hval k (by omega)]
      simp only [ham k he]
      rcases ops k (by omega) o' p' ho' hp' with h1 | ⟨h1, h2 | h2 | ⟨h2, h3, h4, b', h5, h6⟩ | h2⟩
      · exact .inl h1
      · exact .inr ⟨h1, .inl h2⟩
      · exact .inr ⟨h1, .inr (.inl h2)⟩
      · exact .inr ⟨h1, .inr (.inr (.inl ⟨h2, h3, h4, b', h5, fun m hm hr => by rw [hlk m k he]; exact h6 m hm hr⟩))⟩
      · exact .inr ⟨h1, .inr (.inr (.inr h2))⟩
  · intro k hk
    rw [Hd] at hk
    simp only [CB, decide_eq_true_eq] at hk
    rcases hk with hk | hk
    · have := amlt k hk; omega
    · omega
  · intro r hr
    obtain ⟨h1, o', p', J', h2, h3, h4, h5, h6, h7, h8⟩ := kst r hr
    have hanc : p'.anc.testBit i = false := by
      cases hb : p'.anc.testBit i with
      | false => rfl
      | true => have := F.ancLt _ p' h3 i (by omega) hb; omega
    have hcong : ∀ k, k < n → Dn p'.anc (s.am ||| 2 ^ i) k = Dn p'.anc s.am k := fun k _ => by
      unfold Dn
      by_cases he : k = i
      · subst he; rw [hanc]; simp
      · rw [ham k he]
    have hvi : Dn p'.anc (s.am ||| 2 ^ i) (n0 + i - n0) = false := by
      rw [show n0 + i - n0 = i by omega]; unfold Dn; rw [hanc]; rfl
    have hhide : C9 n0 n (Dn p'.anc (s.am ||| 2 ^ i)) ((n0 + i, b) :: Hh r) = C9 n0 n (Dn p'.anc s.am) (Hh r) := by
      rw [C9, if_pos (Kq.2 ⟨by omega, by omega, hvi⟩)]
      exact Jz hcong _
    have hkeep : FC n0 n (Dn p'.anc (s.am ||| 2 ^ i)) ((n0 + i, b) :: Hh r) = (n0 + i, b) :: FC n0 n (Dn p'.anc s.am) (Hh r) := by
      rw [FC, if_pos (Kq.2 ⟨by omega, by omega, hvi⟩)]
      rw [OS hcong]
    refine ⟨by omega, o', p', J', h2, h3, h4, ?_, ?_, ?_, h8⟩
    · rw [henv _ (by omega)]; exact h5
    · rw [henv _ (by omega), hval _ h1, hhide]; exact h6
    · rw [hkeep, h7]; rfl
theorem Tr.writes {ops':Array Oper} {l:List BY} {pl:List DP} (F:Sw ops' l pl) {n0 n:Nat} (hn:n=ops'.size) {e0:CF} {h0:EB} {i:Nat} {s:DS} (T:Tr E D l pl n0 n e0 h0 i s) {o:BY} {p:DP}
    (ho:l[i]? = some o) (hp:pl[i]? = some p) (v:V) (J':H) {h:EB} {ss':List (EB)} (hss:s.ss=h::ss') (hw:Bv (restr p.looks s.e) o.guard=some true) (hc:o.op.cls = .k)
    (hd:EO E D o.op (restr p.looks s.e) ⟨s.nx,C9 n0 n (Dn p.anc s.am) h⟩=some (v,J')) :
    Nonempty (Tr E D l pl n0 n e0 h0 (i+1) { s with e:=Cr s.e o.dst v,nx:=J'.next,ss:=(FC n0 n (Dn p.anc s.am) h++J'.bl)::s.ss,ks:=i::s.ks }):=by
  obtain⟨vals,envs,Hh,nx,ks,M,ssl,ssg,ksl,ksg,ke,ez,es,nx0,nxs,hz,ops,amlt,kst,kinc⟩:=T
  have hin:i<n:=by
    rcases Al i l.length with h|h
    · have:=F.llen;omega
    · rw[Aa h]at ho;cases ho
  have hne:∀r,r<M->ks r≠i:=fun r hr=>by have:=(kst r hr).1;omega
  have hhead:h=Hh M:=by
    have:=ssg M (AN _)
    rw[M6,hss]at this
    simpa using this
  have ham:s.am.testBit i=false:=by
    cases hb:s.am.testBit i with
    | false=>rfl
    | true=>have:=amlt i hb;omega
  have hval:∀k,k<i->Rq vals i v k=vals k:=fun k hk=>Ix _ _ (by omega)
  have henv:∀k,k<i+1->Rq envs (i+1) (Cr s.e o.dst v) k=envs k:=fun k hk=>Ix _ _ (by omega)
  have hH:∀m,m<=M->Rq Hh (M+1) (FC n0 n (Dn p.anc s.am) h++J'.bl) m=Hh m:=fun m hm=>Ix _ _ (by omega)
  have hnx:∀m,m<=M->Rq nx (M+1) J'.next m=nx m:=fun m hm=>Ix _ _ (by omega)
  have hks:∀r,r<M->Rq ks M i r=ks r:=fun r hr=>Ix _ _ (by omega)
  refine⟨{ vals:=Rq vals i v,envs:=Rq envs (i+1) (Cr s.e o.dst v),Hh:=Rq Hh (M+1) (FC n0 n (Dn p.anc s.am) h++J'.bl),nx:=Rq nx (M+1) J'.next,ks:=Rq ks M i,M:=M+1,
            ssl:=by simp[ssl],ssg:=?_,ksl:=by simp[ksl],ksg:=?_,ke:=(Ca _ _ _).symm,ez:=by rw[henv 0 (by omega)];exact ez,es:=?_,nx0:=by rw[hnx 0 (by omega)];exact nx0,
            nxs:=(Ca _ _ _).symm,hz:=fun id hid=>by rw[hH 0 (by omega)];exact hz id hid,ops:=?_,amlt:=fun k hk=>Uj (amlt k hk),kst:=?_,kinc:=?_ }⟩
  · intro m hm
    by_cases he:m=M+1
    · subst he;rw[M6,Ca];rfl
    · rw[hH m (by omega),show M+1-m=(M-m)+1 by omega,CK]
      exact ssg m (by omega)
  · intro r hr
    by_cases he:r=M
    · subst he;rw[Ca,show r+1-1-r=0 by omega];rfl
    · rw[hks r (by omega),show M+1-1-r=(M-1-r)+1 by omega,CK]
      exact ksg r (by omega)
  · intro k hk o' ho'
    by_cases he:k=i
    · subst he
      rw[ho]at ho';cases ho'
      rw[Ca,Ca,henv k (by omega),ke]
    · rw[henv k (by omega),hval k (by omega),henv (k+1) (by omega)]
      exact es k (by omega) o' ho'
  · intro k hk o' p' ho' hp'
    by_cases he:k=i
    · subst he
      rw[ho]at ho';cases ho'
      rw[hp]at hp';cases hp'
      rw[henv k (by omega),<-ke,Ca]
      exact .inr ⟨hw,.inr (.inr (.inr ⟨hc,ham,M,by omega,Ca _ _ _⟩))⟩
    · rw[henv k (by omega),hval k (by omega)]
      have hnk:(∀r,r<M->ks r≠k)->∀r,r<M+1->Rq ks M i r≠k:=fun hh r hr=>by
        by_cases hrm:r=M
        · subst hrm;rw[Ca];omega
        · rw[hks r (by omega)];exact hh r (by omega)
      rcases ops k (by omega) o' p' ho' hp' with ⟨h1,h2,h3,h4⟩|⟨h1,⟨h2,h3,h4,h5⟩|⟨h2,h3,h4,h5⟩|⟨h2,h3,h4,b',h5,h6⟩|⟨h2,h3,r,h4,h5⟩⟩
      · exact .inl ⟨h1,h2,h3,hnk h4⟩
      · exact .inr ⟨h1,.inl ⟨h2,h3,h4,hnk h5⟩⟩
      · exact .inr ⟨h1,.inr (.inl ⟨h2,h3,h4,hnk h5⟩)⟩
      · refine .inr ⟨h1,.inr (.inr (.inl ⟨h2,h3,hnk h4,b',h5,fun m hm hr=>?_⟩))⟩
        by_cases hmm:m=M+1
        · subst hmm
          rw[Ca,OR,QA,hhead]
          have hanc:p.anc.testBit k=false:=by
            have:=hr M (by omega)
            rw[Ca,Io hp]at this
            exact this
          have hv:Dn p.anc s.am (n0+k-n0)=false:=by
            rw[show n0+k-n0=k by omega];unfold Dn;rw[hanc];rfl
          rw[if_pos ⟨by omega,by omega,hv⟩]
          have:=h6 M (AN _) (fun r hrM=>by have:=hr r (by omega);rw[hks r hrM]at this;exact this)
          rw[this]
        · rw[hH m (by omega)]
          exact h6 m (by omega) (fun r hrm=>by have:=hr r hrm;rw[hks r (by omega)]at this;exact this)
      · exact .inr ⟨h1,.inr (.inr (.inr ⟨h2,h3,r,by omega,by rw[hks r h4];exact h5⟩))⟩
  · intro r hr
    by_cases he:r=M
    · subst he
      rw[Ca]
      refine⟨by omega,o,p,J',ho,hp,hc,?_,?_,?_,?_⟩
      · rw[henv i (by omega),<-ke];exact hw
      · rw[henv i (by omega),<-ke,Ca,hnx r (by omega),hH r (by omega),<-hhead,<-nxs];exact hd
      · rw[Ca,hH r (by omega),hhead]
      · rw[Ca]
    · obtain⟨h1,o',p',J2,h2,h3,h4,h5,h6,h7,h8⟩:=kst r (by omega)
      rw[hks r (by omega)]
      refine⟨by omega,o',p',J2,h2,h3,h4,?_,?_,?_,?_⟩
      · rw[henv _ (by omega)];exact h5
      · rw[henv _ (by omega),hval _ h1,hnx r (by omega),hH r (by omega)];exact h6
      · rw[hH (r+1) (by omega),hH r (by omega)];exact h7
      · rw[hnx (r+1) (by omega)];exact h8
  · intro r r' hrr hr'
    by_cases he:r'=M
    · subst he
      rw[Ca,hks r (by omega)]
      exact(kst r (by omega)).1
    · rw[hks r' (by omega),hks r (by omega)]
      exact kinc r r' hrr (by omega)
theorem SZ {ops':Array Oper} {l:List BY} {pl:List DP} (F:Sw ops' l pl) {n0 n:Nat} (hn:n=ops'.size) {e0:CF} {h0:EB} :
  ∀(rest:List BY) (prest:List DP) (i:Nat) (s s':DS),l.drop i=rest->pl.drop i=prest->Nonempty (Tr E D l pl n0 n e0 h0 i s)->Cd E D n0 n i rest prest s=some s' ->
   Nonempty (Tr E D l pl n0 n e0 h0 (i+rest.length) s')
 | [],prest,i,s,s',hl,hp,hT,h=>by
  cases prest<;>(simp only[Cd,AP.injEq]at h;subst h;exact hT)
 | o::rest,[],i,s,s',hl,hp,hT,h=>by simp only[Cd]at h;cases h
 | o::rest,p::prest,i,s,s',hl,hp,hT,h=>by
  have ho:l[i]? = some o:=by
   have:=congrArg (·[0]?) hl
   simpa[DC]using this
  have hpp:pl[i]? = some p:=by
   have:=congrArg (·[0]?) hp
   simpa[DC]using this
  have hl':l.drop (i+1)=rest:=by rw[<-IP,hl];rfl
  have hp':pl.drop (i+1)=prest:=by rw[<-IP,hp];rfl
  simp only[Cd]at h
  cases hs:FT E D n0 n i o p s with
  | none=>rw[hs]at h;cases h
  | some s1=>
   rw[hs]at h
   obtain⟨T⟩:=hT
   have hT1:Nonempty (Tr E D l pl n0 n e0 h0 (i+1) s1):=by
    unfold FT at hs
    split at hs
    ·cases hs
    ·rename_i hw;cases hs
     exact T.quiet ho hpp EG s.ls (fun _ h=>h) (.inl ⟨hw,rfl⟩)
    ·rename_i hw
     split at hs
     ·rename_i hc
      split at hs
      ·cases hs
      ·rename_i v hv;cases hs
       exact T.quiet ho hpp v s.ls (fun _ h=>h) (.inr ⟨hw,.inl ⟨hc,hv⟩⟩)
     ·rename_i hc
      split at hs
      ·cases hs
      ·split at hs
       ·cases hs
       ·rename_i v hv;cases hs
        exact T.quiet ho hpp v _ (fun _ h=>ED _ h) (.inr ⟨hw,.inr ⟨hc,BZ⟩⟩)
     ·rename_i hc
      split at hs
      ·cases hs
      ·rename_i v b hv;cases hs
       exact T.make F hn ho hpp v b hw hc hv
     ·rename_i hc
      split at hs
      ·cases hs
      ·rename_i hh hss
       split at hs
       ·cases hs
       ·rename_i v J' hv;cases hs
        exact T.writes F hn ho hpp v J' hss hw hc hv
   have:=SZ F hn rest prest (i+1) s1 s' hl' hp' hT1 h
   rwa [show i+(o::rest).length=i+1+rest.length by simp;omega]
end Go.Og
namespace Go.Og
variable {P:Program} {G:Nat->Bool} {E:EB} {D:Az} {C:Cx}
theorem Sc {n0 n:Nat} {pl:List DP} {am j:Nat} {op:Ej} {em:CF} {v:V}:∀(ss:List (EB)) (ks more:List Nat),Fa E n0 n pl am j op em v ss ks more=true->ss.length=ks.length+1 ->
  ∀(q:Nat) (h:EB),ss[q]? = some h->Ie pl j (ks.drop q) ((ks.take q).reverse++more)=true->Cl E op em ⟨0,C9 n0 n (Dn (G1 pl j) am) h⟩=some v
 | [],ks,more,_,hl,q,h,hq,_=>by simp at hq
 | h'::ss,ks,more,hc,hl,0,h,hq,hleg=>by
  simp only[IN,AP.injEq]at hq
  subst hq
  simp only[CO,List.take_zero,List.reverse_nil,Cy]at hleg
  simp only[Fa,hleg,Cn,DL,AK]at hc
  have:=hc.1
  unfold G1
  split at this
  ·rename_i u hu
   rw[hu,NX _ _ this]
  ·cases this
 | h'::ss,[],more,hc,hl,q+1,h,hq,hleg=>by
  simp at hl
  subst hl
  simp at hq
 | h'::ss,k::ks,more,hc,hl,q+1,h,hq,hleg=>by
  simp only[Fa,AK]at hc
  refine Sc ss ks (k::more) hc.2 (by simpa using hl) q h (by simpa using hq) ?_
  simp only[List.drop_succ_cons,List.take_succ_cons,List.reverse_cons,Ab,List.singleton_append]at hleg
  exact hleg
theorem Di {listed:Array Bool} {k n:Nat} (hs:listed.size=n) (hk:k<n):listed.getD k true=listed.getD k false:=by
 have h:k<listed.size:=by omega
 simp[Array.getD,h]
theorem IX {listed:Array Bool} {i k:Nat} (hi:i<listed.size):(listed.setIfInBounds i true).getD k false=(decide (k=i) || listed.getD k false):=by
 simp only[EF,BE]
 by_cases h:i=k
 ·subst h;simp[hi]
 ·rw[if_neg h];simp[Ne.symm h]
theorem Wv {p q:Nat->Bool} (h:∀k,p k=true->q k=true) {i:Nat} (hq:q i=true) (hp:p i=false):∀(l:List Nat),i∈l->l.countP p<l.countP q
 | [],hm=>by cases hm
 | x::l,hm=>by
  have hmono:∀l:List Nat,l.countP p<=l.countP q:=fun l=>List.countP_mono_left fun x _ hx=>h x hx
  rcases BJ.1 hm with rfl|hm
  ·rw[IQ hq,Rm (by simp[hp])]
   have:=hmono l;omega
  ·have ih:=Wv h hq hp l hm
   by_cases hx:p x=true
   ·rw[IQ hx,IQ (h x hx)];omega
   ·rw[Rm hx]
    by_cases hqx:q x=true
    ·rw[IQ hqx];omega
    ·rw[Rm hqx];exact ih
set_option maxHeartbeats 1000000 in
theorem VR (hD:∀f,Cb P E G f (D f)) (hmix:P.follows .mixedOrders=true):RD P E G (Ao E D):=by
  intro C hE hG nt id ops e0 J0 e' J' hplan hW R0 a0 w00 Q hrel0 he0 hnt0 hd0 hQ
  subst hE hG
  generalize hl:ops.toList.map (BN P C.G nt ops)=l at hplan hW
  generalize hpl:GS ops=pl at hplan hW
  have hlen:l.length=ops.size:=by rw[<-hl];simp
  have F:=SG hlen hplan
  unfold Ao at hW
  have hn:l.length=ops.size:=hlen
  generalize hnn:l.length=n at hW
  have hnops:n=ops.size:=by omega
  cases hds:Cd C.E D J0.next n 0 l pl ⟨e0,J0.next+n,[J0.bl],[],0,[]⟩with
  | none=>rw[hds]at hW;cases hW
  | some s=>
    rw[hds]at hW
    simp only at hW
    split at hW
    case isFalse=>cases hW
    rename_i hchk
    obtain⟨T⟩:=SZ F hnops l pl 0 _ s rfl rfl (Tr.start C.E D l pl J0.next n e0 J0.bl) hds
    rw[CJ,hnn]at T
    obtain⟨vals,envs,Hh,nx,ks,M,ssl,ssg,ksl,ksg,ke,ez,es,nx0,nxs,hz,hops,amlt,kst,kinc⟩:=T
    have hans:e'=envs n/\J'=⟨nx M,C9 J0.next n (fun k=>s.am.testBit k) (Hh M)⟩:=by
      have hh:=ssg M (AN _)
      rw[M6]at hh
      split at hW
      · rename_i h ss' hss
        rw[hss]at hh
        simp only[IN,AP.injEq]at hh
        cases hW
        exact⟨ke,by rw[nxs,hh]⟩
      · cases hW
    obtain⟨rfl,rfl⟩:=hans
    clear hW hds
    have some3:∀i,i<n->∃o p,ops[i]? = some o/\l[i]? = some (BN P C.G nt ops o)/\pl[i]? = some p:=fun i hi=>by
      have h1:i<ops.size:=by omega
      refine⟨ops[i],pl[i]'(by have:=F.len;omega),Dm h1,?_,AZ _⟩
      rw[<-hl,BM,WK,Dm h1];rfl
    have hdlt:∀(i:Nat) (o:Oper) (t:Nat),i<n->ops[i]? = some o->o.dst=some t->t<nt:=by
      intro i o t hin ho ht
      obtain⟨o2,p,ho2,hlo,hp⟩:=some3 i hin
      rw[ho]at ho2;cases ho2
      cases hdo:GN nt o.dst with
      | true=>rw[ht]at hdo;simpa[GN]using hdo
      | false=>
        exfalso
        have hco:BN P C.G nt ops o=⟨o.dst,.bad,none⟩:=by
          unfold BN
          rw[hdo]
          split
          · rename_i h;cases h
          · rfl
        have:=hops i hin _ p hlo hp
        rw[hco]at this
        simp[Bv,Ej.cls,Be]at this
    have hload:∀j op em v,(j,op,em,v)∈s.ls->∀m,m<=M->(∀r,m<=r->r<M->(G1 pl j).testBit (ks r)=false)->(∀r,r<m->(G1 pl (ks r)).testBit j=false) ->
        Cl C.E op em ⟨0,C9 J0.next n (Dn (G1 pl j) s.am) (Hh m)⟩=some v:=by
      intro j op em v hmem m hm h1 h2
      have hc:=E0.1 hchk _ hmem
      refine Sc s.ss s.ks [] hc (by omega) (M-m) (Hh m) (ssg m hm) ?_
      unfold Ie
      simp only[Am,AK,E0,C4,List.mem_reverse]
      constructor
      · intro x hx
        obtain⟨q,hq⟩:=List.mem_iff_getElem?.1 hx
        rw[Ey]at hq
        split at hq
        · rename_i hqm
          have:=ksg (M-1-q) (by omega)
          rw[show M-1-(M-1-q)=q by omega,hq]at this
          cases this
          exact h1 _ (by omega) (by omega)
        · cases hq
      · intro x hx
        obtain⟨q,hq⟩:=List.mem_iff_getElem?.1 hx
        rw[DC]at hq
        have hql:M-m+q<s.ks.length:=by
          rcases Al (M-m+q) s.ks.length with h|h
          · exact h
          · rw[Aa h]at hq;cases hq
        have:=ksg (M-1-(M-m+q)) (by omega)
        rw[show M-1-(M-1-(M-m+q))=M-m+q by omega,hq]at this
        cases this
        exact h2 _ (by omega)
    let Lf:Array Bool->Nat->Bool:=fun listed k=>listed.getD k false
    let vis:Array Bool->Nat->Bool:=fun listed k=>listed.getD k false&&s.am.testBit k
    let Inv:Array Bool->Act->World->Prop:=fun listed a w=>
      listed.size=n/\(∀i o,listed.getD i false=true->ops[i]? = some o->∀ed∈o.after,Region.binds .any ed=true->listed.getD ed.on false=true)/\a.defers=[] /\
      ∃R m,m<=M/\(∀r,r<M->(listed.getD (ks r) false=true↔r<m))/\G8 J0.next R0 R/\J0.next+n<=nx m/\Ds C R ⟨nx m,C9 J0.next n (vis listed) (Hh m)⟩ w /\
        (∀k,k<n->listed.getD k false=false->R (J0.next+k)=none)/\nt<=a.tmps.size /\
        (∀i o t,listed.getD i false=true->ops[i]? = some o->o.dst=some t->t<a.tmps.size->vals i = .dead\/∃x,a.tmps[t]? = some x/\Au R (vals i)=some x) /\
        (∀t v,look e0 t=some v->(∀i o,listed.getD i false=true->ops[i]? = some o->o.dst≠some t)->v = .dead\/∃x,a.tmps[t]? = some x/\Au R v=some x)
    have hanc:∀(listed:Array Bool),(∀i o,listed.getD i false=true->ops[i]? = some o->∀ed∈o.after,Region.binds .any ed=true->listed.getD ed.on false=true) ->
        ∀(i:Nat) (o:Oper) (p:DP),ops[i]? = some o->pl[i]? = some p->(∀ed∈o.after,Region.binds .any ed=true->listed.getD ed.on false=true)->∀(k:Nat),k<n->p.anc.testBit k=true->listed.getD k false=true:=by
      intro listed hcl i
      induction i using PL with
      | _ i ih=>
        intro o p ho hp hed k hk hb
        obtain⟨ed,hem,hbe,hr⟩:=F.anc i o p ho hp k (by omega) hb
        have hlt:=F.edges i o ho ed hem hbe
        have hli:=hed ed hem hbe
        rcases hr with rfl|hr
        · exact hli
        · have hin:i<n:=by
            rcases Al i ops.size with h|h
            · omega
            · rw[CE h]at ho;cases ho
          obtain⟨o2,p2,h1,_,h3⟩:=some3 ed.on (by omega)
          exact ih ed.on hlt o2 p2 h1 h3 (fun ed2 hm2 hb2=>hcl ed.on o2 hli h1 ed2 hm2 hb2) k hk (by rw[<-Io h3];exact hr)
    have hready_nil:∀listed:Array Bool,listed.size=n->Region.ready .any ops listed=[]->∀k,k<n->listed.getD k false=true:=by
      intro listed hsz hr k
      induction k using PL with
      | _ k ih=>
        intro hk
        cases hb:listed.getD k false with
        | true=>rfl
        | false=>
          exfalso
          obtain⟨o,p,h1,_,_⟩:=some3 k hk
          have:k∈Region.ready .any ops listed:=mem_ready.2 ⟨by rw[Di hsz hk];exact hb,o,h1,fun ed hm hbd=>ih ed.on (F.edges k o h1 ed hm hbd) (by have:=F.edges k o h1 ed hm hbd;omega)⟩
          rw[hr]at this;cases this
    have henv:∀(listed:Array Bool) (a:Act) (R:Cz),
        (∀i o,listed.getD i false=true->ops[i]? = some o->∀ed∈o.after,Region.binds .any ed=true->listed.getD ed.on false=true) ->
        nt<=a.tmps.size ->
        (∀i o t,listed.getD i false=true->ops[i]? = some o->o.dst=some t->t<a.tmps.size->vals i = .dead\/∃x,a.tmps[t]? = some x/\Au R (vals i)=some x) ->
        (∀t v,look e0 t=some v->(∀i o,listed.getD i false=true->ops[i]? = some o->o.dst≠some t)->v = .dead\/∃x,a.tmps[t]? = some x/\Au R v=some x) ->
        ∀(j:Nat) (o:Oper) (p:DP),j<=n->(j=n->∀k,k<n->listed.getD k false=true) ->
          (j<n->ops[j]? = some o/\pl[j]? = some p/\listed.getD j false=false/\(∀ed∈o.after,Region.binds .any ed=true->listed.getD ed.on false=true)) ->
          ∀(t:Nat) (v:V),look (envs j) t=some v->(j<n->Bp p.looks t=true)->v = .dead\/∃x,a.tmps[t]? = some x/\Au R v=some x:=by
      intro listed a R hcl hsz hw hu j o p hj hall hrd
      have hshape:∀j,j<=n->∀t v,look (envs j) t=some v ->
          (∃k o',k<j/\ops[k]? = some o'/\o'.dst=some t/\v=vals k)\/(look e0 t=some v/\∀k o',k<j->ops[k]? = some o'->o'.dst≠some t):=by
        intro j
        induction j with
        | zero=>intro _;rw[ez];exact fun t v hv => .inr ⟨hv,fun k o' hk=>by omega⟩
        | succ j ih=>
          intro hj
          have h2:=ih (by omega)
          obtain⟨oj,pj,ho1,hl1,_⟩:=some3 j (by omega)
          have hes:=es j (by omega) _ hl1
          have hdst:(BN P C.G nt ops oj).dst=oj.dst:=by unfold BN;split<;>rfl
          rw[hdst]at hes
          rw[hes]
          intro t v hv
          cases hd:oj.dst with
          | none=>
            rw[hd]at hv
            simp only[Cr]at hv
            rcases h2 t v hv with ⟨k,o',hk,hk2,hk3,hk4⟩|⟨hk,hk2⟩
            · exact .inl ⟨k,o',by omega,hk2,hk3,hk4⟩
            · refine .inr ⟨hk,fun k o' hkj hko=>?_⟩
              by_cases he:k=j
              · subst he;rw[ho1]at hko;cases hko;rw[hd];simp
              · exact hk2 k o' (by omega) hko
          | some d=>
            rw[hd]at hv
            simp only[Cr,look]at hv
            by_cases hdt:d=t
            · subst hdt
              rw[if_pos (by simp)]at hv
              cases hv
              exact .inl ⟨j,oj,by omega,ho1,hd,rfl⟩
            · rw[if_neg (by simpa using hdt)]at hv
              rcases h2 t v hv with ⟨k,o',hk,hk2,hk3,hk4⟩|⟨hk,hk2⟩
              · exact .inl ⟨k,o',by omega,hk2,hk3,hk4⟩
              · refine .inr ⟨hk,fun k o' hkj hko=>?_⟩
                by_cases he:k=j
                · subst he;rw[ho1]at hko;cases hko;rw[hd];simpa using hdt
                · exact hk2 k o' (by omega) hko
      have hsh:=hshape j hj
      intro t v hv hlook
      rcases hsh t v hv with ⟨k,ok,hk,hk2,hk3,rfl⟩|⟨hk,hk2⟩
      ·
        refine hw k ok t ?_ hk2 hk3 (Bg (hdlt k ok t (by omega) hk2 hk3) hsz)
        by_cases hjn:j<n
        · obtain⟨ho,hp,_,hed⟩:=hrd hjn
          obtain⟨o3,p3,h1,_,h3⟩:=some3 k (by omega)
          rw[hk2]at h1;cases h1
          have hd:=(F.dsts k j ok o p3 p (by omega) hk2 ho h3 hp t hk3).2 (hlook hjn)
          rcases hd with hd|hd
          · exact hanc listed hcl j o p ho hp hed k (by omega) hd
          · have:=F.ancLt k p3 h3 j (by omega) hd;omega
        · exact hall (by omega) k (by omega)
      ·
        refine hu t v hk (fun i oi hli hoi hdst=>?_)
        have hin:i<n:=by
          rcases Al i ops.size with h|h
          · omega
          · rw[CE h]at hoi;cases hoi
        by_cases hij:i<j
        · exact hk2 i oi hij hoi hdst
        · have hjn:j<n:=by omega
          obtain⟨ho,hp,hnl,_⟩:=hrd hjn
          by_cases hie:i=j
          · subst hie;rw[hnl]at hli;cases hli
          · obtain⟨o3,p3,h1,_,h3⟩:=some3 i hin
            rw[hoi]at h1;cases h1
            have hd:=(F.dsts i j oi o p3 p hie hoi ho h3 hp t hdst).2 (hlook hjn)
            rcases hd with hd|hd
            · have:=F.ancLt j p hp i (by omega) hd;omega
            · have:=hanc listed hcl i oi p3 hoi h3 (fun ed hm hb=>hcl i oi hli hoi ed hm hb) j hjn hd
              rw[hnl]at this;cases this
    have hput:∀(a:Act) (d:Option Nat) (x:Value) (t:Nat),d≠some t->(a.put d x).tmps[t]? = a.tmps[t]? := by
      intro a d x t hne
      cases d with
      | none=>rfl
      | some d=>
        simp only[Act.put,BE]
        rw[if_neg (fun h=>hne (by rw[h]))]
    have hputsz:∀(a:Act) (d:Option Nat) (x:Value),(a.put d x).tmps.size=a.tmps.size:=by
      intro a d x;cases d<;>simp[Act.put]
    have hfin:∀listed a w,Inv listed a w->(∀k,k<n->listed.getD k false=true)->Q .normal a w:=by
      intro listed a w hI hall
      obtain⟨hsz,hcl,hd,R,m,hm,hpre,hx,hnxm,hrel,hres,htsz,hwc,huc⟩:=hI
      have hmM:m=M:=by
        rcases Al m M with h|h
        · have:=(hpre m h).1 (hall _ (by have:=(kst m h).1;omega));omega
        · omega
      subst hmM
      refine hQ R a w hx (by show J0.next<=nx m;omega) ?_ ?_ htsz hd
      · refine hrel.congr (fun id hid=>hrel.fresh id hid) (fun k b hk=>?_)
        rw[D6]at hk ⊢
        by_cases hc:J0.next<=k/\k<J0.next+n/\s.am.testBit (k-J0.next)=false
        · rw[if_pos hc]at hk;cases hk
        · rw[if_neg hc]at hk
          rw[if_neg (fun h=>hc ⟨h.1,h.2.1,by have:=h.2.2;simp only[vis,hall (k-J0.next) (by omega),Hz]at this;exact this⟩)]
          exact hk
      · refine⟨fun t v hv=>?_⟩
        exact henv listed a R hcl htsz hwc huc n default default (AN _) (fun _=>hall) (fun h=>by omega) t v hv (fun h=>by omega)
    have hstep:∀listed a w,Inv listed a w->∀i,i∈Region.ready .any ops listed->∀K:Act->World->Prop,(∀a' w',Inv (listed.setIfInBounds i true) a' w'->K a' w')->wpOp P ops Q i K a w:=by
      intro listed a w hI i hi K hK
      obtain⟨hsz,hcl,hd,R,m,hm,hpre,hx,hnxm,hrel,hres,htsz,hwc,huc⟩:=hI
      obtain⟨hli,o,ho,hed⟩:=mem_ready.1 hi
      have hin:i<n:=by
        rcases Al i ops.size with h|h
        · omega
        · rw[CE h]at ho;cases ho
      have hnl:listed.getD i false=false:=by rw[<-Di hsz hin];exact hli
      obtain⟨o2,p,ho2,hlo,hp⟩:=some3 i hin
      rw[ho]at ho2;cases ho2
      have hsz':i<listed.size:=by omega
      have hLs:∀k,(listed.setIfInBounds i true).getD k false=(decide (k=i) || listed.getD k false):=fun k=>IX hsz'
      have hancl:∀k,k<n->p.anc.testBit k=true->listed.getD k false=true:=hanc listed hcl i o p ho hp hed
      have hgl:=hrel.globOk
      have hle0:∀{R'},G8 (nx m) R R'->Le R R':=fun h=>h.le hrel.fresh
      have hem:B9 R (restr p.looks (envs i)) a.tmps:=by
        refine⟨fun t v hv=>?_⟩
        obtain⟨ht,hmem⟩:=GX _ _ _ _ hv
        exact henv listed a R hcl htsz hwc huc i o p (by omega) (fun h=>by omega) (fun _=>⟨ho,hp,hnl,hed⟩) t v ht (fun _=>hmem)
      have mk:∀(R':Cz) (m':Nat) (w':World) (x:Value),m'<=M->(∀r,r<M->((listed.setIfInBounds i true).getD (ks r) false=true↔r<m'))->G8 J0.next R0 R'->J0.next+n<=nx m' ->
          Ds C R' ⟨nx m',C9 J0.next n (vis (listed.setIfInBounds i true)) (Hh m')⟩ w'->(∀k,k<n->(listed.setIfInBounds i true).getD k false=false->R' (J0.next+k)=none)->Le R R' ->
          (vals i = .dead\/Au R' (vals i)=some x)->K (a.put o.dst x) w':=by
        intro R' m' w' x h1 h2 h3 h4 h5 h6 h7 h8
        refine hK _ _ ⟨by rw[Dx];exact hsz,?_,by rw[Ev];exact hd,R',m',h1,h2,h3,h4,h5,h6,by rw[hputsz];exact htsz,?_,?_⟩
        · intro i' o' hi' ho' ed hm' hb'
          rw[hLs]at hi' ⊢
          simp only[CB,decide_eq_true_eq]at hi' ⊢
          rcases hi' with rfl|hi'
          · rw[ho]at ho';cases ho'
            exact .inr (hed ed hm' hb')
          · exact .inr (hcl i' o' hi' ho' ed hm' hb')
        · intro i' o' t hi' ho' hdt htl
          rw[hputsz]at htl
          rw[hLs]at hi'
          simp only[CB,decide_eq_true_eq]at hi'
          by_cases he:i'=i
          · subst he
            rw[ho]at ho';cases ho'
            rcases h8 with h8|h8
            · exact .inl h8
            · refine .inr ⟨x,?_,h8⟩
              rw[hdt]
              simp[Act.put,BE,htl]
          · have hi'':=hi'.resolve_left he
            have hi'n:i'<n:=by
              rcases Al i' ops.size with h|h
              · omega
              · rw[CE h]at ho';cases ho'
            obtain⟨o3,p3,h1',_,h3'⟩:=some3 i' hi'n
            rw[ho']at h1';cases h1'
            rw[hput a o.dst x t ((F.dsts i' i o' o p3 p he ho' ho h3' hp t hdt).1)]
            rcases hwc i' o' t hi'' ho' hdt htl with h|⟨y,hy,hc⟩
            · exact .inl h
            · exact .inr ⟨y,hy,Cq h7 _ _ hc⟩
        · intro t v hv hno
          have hot:o.dst≠some t:=hno i o (by rw[hLs];simp) ho
          rw[hput a o.dst x t hot]
          rcases huc t v hv (fun i' o' hi' ho'=>hno i' o' (by rw[hLs,hi'];simp) ho')with h|⟨y,hy,hc⟩
          · exact .inl h
          · exact .inr ⟨y,hy,Cq h7 _ _ hc⟩
      have hsame:s.am.testBit i=false->Ds C R ⟨nx m,C9 J0.next n (vis (listed.setIfInBounds i true)) (Hh m)⟩ w:=by
        intro ham
        rw[Jz (q:=vis listed) (fun k hk=>by
          simp only[vis]
          rw[hLs]
          by_cases he:k=i
          · subst he;simp[ham]
          · simp[he])]
        exact hrel
      have hpre1:(∀r,r<M->ks r≠i)->∀r,r<M->((listed.setIfInBounds i true).getD (ks r) false=true↔r<m):=by
        intro hne r hr
        rw[hLs]
        simp only[hne r hr,decide_false,DL]
        exact hpre r hr
      have hres1:∀k,k<n->(listed.setIfInBounds i true).getD k false=false->R (J0.next+k)=none:=by
        intro k hk hkl
        rw[hLs]at hkl
        simp only[B2]at hkl
        exact hres k hk hkl.2
      have hkbefore:∀r,r<m->(G1 pl (ks r)).testBit i=false:=by
        intro r hr
        cases hb:(G1 pl (ks r)).testBit i with
        | false=>rfl
        | true=>
          exfalso
          obtain⟨hkn,_⟩:=kst r (by omega)
          obtain⟨o3,p3,h1',_,h3'⟩:=some3 (ks r) hkn
          have hlr:=(hpre r (by omega)).2 hr
          have:=hanc listed hcl (ks r) o3 p3 h1' h3' (fun ed hm hb=>hcl (ks r) o3 hlr h1' ed hm hb) i hin (by rw[<-Io h3'];exact hb)
          rw[hnl]at this;cases this
      unfold wpOp
      rw[ho]
      simp only
      have hco:BN P C.G nt ops o=⟨o.dst,.bad,none⟩\/∃g,QT ops o.guard=some g/\BN P C.G nt ops o=⟨o.dst,Ag P C.G o.op,g⟩:=by
        unfold BN
        split
        · rename_i g hg _;exact .inr ⟨g,hg,rfl⟩
        · exact .inl rfl
      rcases hco with hco|⟨g,hcg,hco⟩
      · exfalso
        have:=hops i hin _ p hlo hp
        rw[hco]at this
        simp[Bv,Ej.cls,Be]at this
      · have hF:=hops i hin _ p hlo hp
        rw[hco]at hF
        simp only at hF
        rcases hF with ⟨hw,hv,ham,hne⟩|⟨hw,⟨hc,hv,ham,hne⟩|⟨hc,hmem,ham,hne⟩|⟨hc,ham,hne,b,hv,hb⟩|⟨hc,ham,r,hr,hkr⟩⟩
        · rw[if_neg (by rw[DW hem hcg hw];simp)]
          exact mk R m w undef hm (hpre1 hne) hx hnxm (hsame ham) hres1 (Le.refl _) (.inr (by rw[hv];rfl))
        · rw[if_pos (DW hem hcg hw)]
          left
          obtain⟨x,hxv,hrun⟩:=Mm (a:=a) (P:=P) hem hgl o hv w
          unfold Oper.wp
          rw[hrun]
          exact mk R m w x hm (hpre1 hne) hx hnxm (hsame ham) hres1 (Le.refl _) (.inr hxv)
        · rw[if_pos (DW hem hcg hw)]
          left
          have hl1:=hload i _ _ _ hmem m hm (fun r hr1 hr2=>by
            cases hbt:(G1 pl i).testBit (ks r)with
            | false=>rfl
            | true=>
              exfalso
              have:=hancl (ks r) (kst r hr2).1 (by rw[<-Io hp];exact hbt)
              have:=(hpre r hr2).1 this
              omega) hkbefore
          have hl2:=bM hrel (Js:=⟨0,C9 J0.next n (Dn (G1 pl i) s.am) (Hh m)⟩) (fun id b hid=>by
            simp only at hid ⊢
            rw[D6]at hid ⊢
            by_cases hcnd:J0.next<=id/\id<J0.next+n/\Dn (G1 pl i) s.am (id-J0.next)=false
            · rw[if_pos hcnd]at hid;cases hid
            · rw[if_neg hcnd]at hid
              rw[if_neg (fun hh=>hcnd ⟨hh.1,hh.2.1,by
                have h3:=hh.2.2
                unfold Dn
                cases hbt:(G1 pl i).testBit (id-J0.next)with
                | false=>rfl
                | true=>
                  have:=hancl (id-J0.next) (by omega) (by rw[<-Io hp];exact hbt)
                  simp only[vis,this,Hz]at h3
                  rw[h3];rfl⟩)]
              exact hid) hl1
          obtain⟨x,hxv,hrun⟩:=Mn (P:=P) hrel hem o hl2
          unfold Oper.wp
          rw[hrun]
          exact mk R m w x hm (hpre1 hne) hx hnxm (hsame ham) hres1 (Le.refl _) (.inr hxv)
        · rw[if_pos (DW hem hcg hw)]
          left
          have hRi:R (J0.next+i)=none:=hres i hin hnl
          obtain⟨x,w',inf,hrun,hnew,hblk,hxv,hok⟩:=O7 (a:=a) (P:=P) hem hgl o hv hRi w
          unfold Oper.wp
          rw[hrun]
          have hle:Le R (IS R (J0.next+i) inf):=fun k j hk=>by
            by_cases he:k=J0.next+i
            · subst he;rw[hRi]at hk;cases hk
            · rw[Bt he];exact hk
          refine mk (IS R (J0.next+i) inf) m w' x hm (hpre1 hne) (hx.trans (fun id hid=>Bt (by omega)) (AN J0.next)) hnxm ?_ ?_ hle (.inr hxv)
          · refine hrel.allocAt hRi (by show J0.next+i<nx m;omega) hnew b inf hblk hok rfl (fun k=>?_)
            simp only
            rw[D6,D6]
            by_cases he:k=J0.next+i
            · subst he
              rw[if_pos rfl,if_neg (by
                intro h
                have h3:=h.2.2
                rw[show J0.next+i-J0.next=i by omega]at h3
                simp only[vis]at h3
                rw[hLs,ham]at h3
                simp at h3)]
              exact hb m hm hkbefore
            · rw[if_neg he]
              by_cases hrg:J0.next<=k/\k<J0.next+n
              · have:vis (listed.setIfInBounds i true) (k-J0.next)=vis listed (k-J0.next):=by
                  simp only[vis]
                  rw[hLs]
                  have:k-J0.next≠i:=by omega
                  simp[this]
                rw[this]
              · rw[if_neg (fun h=>hrg ⟨h.1,h.2.1⟩),if_neg (fun h=>hrg ⟨h.1,h.2.1⟩)]
          · intro k hk hkl
            rw[hLs]at hkl
            simp only[B2,decide_eq_false_iff_not]at hkl
            rw[Bt (by omega)]
            exact hres k hk hkl.2
        · rw[if_pos (DW hem hcg hw)]
          left
          have hrm:r=m:=by
            have h1:¬r<m:=fun h=>by
              have:=(hpre r hr).2 h
              rw[hkr,hnl]at this;cases this
            rcases Al m r with h2|h2
            · exfalso
              obtain⟨hkn,o4,p4,J4,hl4,hp4,hc4,_⟩:=kst m (by omega)
              have hlt:=kinc m r h2 hr
              rw[hkr]at hlt
              have:=F.kk (ks m) i o4 _ p hlt hl4 hlo hp hc4 (by rw[hco];exact hc)
              have:=hancl (ks m) hkn this
              have:=(hpre m (by omega)).1 this
              omega
            · omega
          subst hrm
          obtain⟨_,o4,p4,J4,hl4,hp4,hc4,hw4,hden,hHn,hnxn⟩:=kst r hr
          rw[hkr]at hl4 hp4 hw4 hden
          rw[hlo]at hl4;cases hl4
          rw[hp]at hp4;cases hp4
          rw[hco]at hden
          simp only at hden
          have hsub:∀id b,look (C9 J0.next n (Dn p.anc s.am) (Hh r)) id=some b->look (C9 J0.next n (vis listed) (Hh r)) id=some b:=by
            intro id b hid
            rw[D6]at hid ⊢
            by_cases hcnd:J0.next<=id/\id<J0.next+n/\Dn p.anc s.am (id-J0.next)=false
            · rw[if_pos hcnd]at hid;cases hid
            · rw[if_neg hcnd]at hid
              rw[if_neg (fun hh=>hcnd ⟨hh.1,hh.2.1,by
                have h3:=hh.2.2
                unfold Dn
                cases hbt:p.anc.testBit (id-J0.next)with
                | false=>rfl
                | true=>
                  have:=hancl (id-J0.next) (by omega) hbt
                  simp only[vis,this,Hz]at h3
                  rw[h3];rfl⟩)]
              exact hid
          have hsmall:=hrel.shrink (Js:=⟨nx r,C9 J0.next n (Dn p.anc s.am) (Hh r)⟩) rfl hsub
          refine O4 hD (C:=C.sub R ⟨nx r,C9 J0.next n (Dn p.anc s.am) (Hh r)⟩ w) rfl rfl hsmall hem o hden K Q (fun R' w' x hx' hn' hrel' hv'=>?_)
          have hnle:nx r<=J4.next:=hn'
          refine mk R' (r+1) w' x (by omega) ?_ (hx.trans hx' (show J0.next<=nx r by omega)) (by rw[hnxn];omega) ?_ ?_ (hle0 hx') hv'
          · intro r' hr'
            rw[hLs]
            simp only[CB,decide_eq_true_eq]
            constructor
            · rintro(h | h)
              · rcases AFK r' r with h2 | h2 | h2
                · omega
                · omega
                · have:=kinc r r' h2 hr';omega
              · have:=(hpre r' hr').1 h;omega
            · intro h
              by_cases he:r'=r
              · subst he;exact .inl hkr
              · exact .inr ((hpre r' hr').2 (by omega))
          · refine hrel.regrow (Js:=⟨nx r,C9 J0.next n (Dn p.anc s.am) (Hh r)⟩) hsub hrel' hx' hnxn (fun id b hid=>?_)
            simp only at hid ⊢
            rw[D6]at hid
            split at hid
            · cases hid
            · rename_i hvis
              rw[hHn,OR,QA]at hid
              by_cases hcnd:J0.next<=id/\id<J0.next+n/\Dn p.anc s.am (id-J0.next)=false
              · rw[if_pos hcnd]at hid
                cases hlk:look (Hh r) id with
                | none=>rw[hlk]at hid;exact .inl hid
                | some b'=>
                  rw[hlk]at hid
                  cases hid
                  right
                  rw[D6,D6,if_pos hcnd]
                  refine⟨?_,rfl⟩
                  rw[if_neg (fun hh=>hvis ⟨hh.1,hh.2.1,by
                    have h3:=hh.2.2
                    simp only[vis]at h3 ⊢
                    rw[hLs]
                    by_cases he:id-J0.next=i
                    · rw[he,ham];simp
                    · simp only[he,decide_false,DL];exact h3⟩)]
                  exact hlk
              · rw[if_neg hcnd]at hid
                exact .inl hid
          · intro k hk hkl
            rw[hx' (J0.next+k) (by show J0.next+k<nx r;omega)]
            exact hres1 k hk hkl
    have hany:∀fuel listed a w,Inv listed a w->(Cj n).countP (fun k=>!listed.getD k false)<=fuel->wpAny P .any ops Q fuel listed a w:=by
      intro fuel
      induction fuel with
      | zero=>
        intro listed a w hI hcnt
        have hall:∀k,k<n->listed.getD k false=true:=by
          intro k hk
          have h0:(Cj n).countP (fun k=>!listed.getD k false)=0:=by omega
          have:=List.countP_eq_zero.1 h0 k (MC.2 hk)
          simpa using this
        refine⟨?_,hfin listed a w hI hall⟩
        apply Yi.2
        intro j hj
        obtain⟨h1,o,h2,_⟩:=mem_ready.1 hj
        have hjn:j<n:=by
          rcases Al j ops.size with h|h
          · omega
          · rw[CE h]at h2;cases h2
        rw[Di hI.1 hjn,hall j hjn]at h1
        cases h1
      | succ fuel ih=>
        intro listed a w hI hcnt
        refine⟨fun hr=>hfin listed a w hI (hready_nil listed hI.1 hr),fun i hi=>?_⟩
        have hin:i<n:=by
          obtain⟨_,o,h2,_⟩:=mem_ready.1 hi
          rcases Al i ops.size with h|h
          · omega
          · rw[CE h]at h2;cases h2
        have hnl:listed.getD i false=false:=by rw[<-Di hI.1 hin];exact(mem_ready.1 hi).1
        refine hstep listed a w hI i hi _ (fun a' w' hI'=>ih _ a' w' hI' ?_)
        have hsz':i<listed.size:=by rw[hI.1];exact hin
        have:=Wv (p:=fun k=>!(listed.setIfInBounds i true).getD k false) (q:=fun k=>!listed.getD k false) (fun k hk=>by
          simp only[C4]at hk ⊢
          rw[IX hsz']at hk
          simp only[B2]at hk
          exact hk.2) (i:=i) (by simp only[hnl];rfl) (by simp only[IX hsz'];simp) (Cj n) (MC.2 hin)
        omega
    refine wp_region_any hmix ?_
    rw[<-hnops]
    have hrepl:∀k,(HE n false).getD k false=false:=fun k=>by
      simp only[EF,AI5]
      split<;>rfl
    refine hany n _ a0 _ ⟨by simp,?_,hd0,R0,0,CH _,?_,G8.refl _ _,by rw[nx0];exact AN _,?_,?_,hnt0,?_,?_⟩ ?_
    · intro i o hi;rw[hrepl]at hi;cases hi
    · intro r hr;rw[hrepl];simp
    · refine(hrel0.drawn (w00.drawn+1)).congr (fun id hid=>hrel0.fresh id (by have h1:nx 0<=id:=hid;rw[nx0]at h1;omega)) (fun k b hk=>?_)
      simp only at hk
      rw[D6]at hk
      split at hk
      · cases hk
      · rename_i hc
        have hnr:¬(J0.next<=k/\k<J0.next+n):=fun h=>hc ⟨h.1,h.2,by simp only[vis,hrepl,Bool.false_and]⟩
        rw[hz k hnr]at hk
        exact hk
    · intro k hk _;exact hrel0.fresh _ (by omega)
    · intro i o t hi;rw[hrepl]at hi;cases hi
    · intro t v hv _;exact he0.at_ t v hv
    · refine Ae (List.countP_le_length) (by simp)
end Go.Og
namespace Go.Og
abbrev AH:=Option (V × H)
noncomputable section
def Ba {α:Type} (l:List (Nat × α)) (id:Nat):Option α:=
 List.rec none (fun p _ r=>Bool.rec r (some p.2) (Ax p.1 id)) l
def VQ {α:Type} (l:List (Nat × α)) (id:Nat):List (Nat × α):=
 List.rec [] (fun p l r=>Bool.rec (p::r) l (Ax p.1 id)) l
def ma (l:List V):Nat->Option V:=
 List.rec (fun _=>none) (fun a _ ih n=>Nat.rec (some a) (fun m _=>ih m) n) l
def Ti (l:EB) (id:Nat):(EB->AH)->AH:=
 List.rec (fun k=>k []) (fun p _ ih k=>ih fun l'=>Bool.rec (k (p::l')) (k l') (Ax p.1 id)) l
def AS (c:Bool) (a b:AH):AH:=match c with
 | true=>a
 | false=>b
def IT (c:Bool) (a:AH):AH:=match c with
 | true=>a
 | false=>none
def gK (x:Option V) (U:V->AH):AH:=match x with
 | some v=>U v
 | none=>none
def AW (x:AH) (U:V->H->AH):AH:=match x with
 | some (v,J)=>U v J
 | none=>none
def BR (f:Bool->H->AH) (g:(Bool->H->AH)->AH):AH:=g f
def Jd:IntKind->Nat
 | .i8=>127 | .i16=>32767 | .i32=>2147483647 | .i64=>9223372036854775807
 | .u8=>255 | .u16=>65535 | .u32=>4294967295 | .u64=>18446744073709551615
def zz:IntKind->Nat
 | .i8=>128 | .i16=>32768 | .i32=>2147483648 | .i64=>9223372036854775808
 | .u8=>0 | .u16=>0 | .u32=>0 | .u64=>0
def yl (k:IntKind) (n:Int):Bool:=match n with
 | .ofNat m=>A0 m (Jd k)
 | .negSucc m=>DQ m (zz k)
def BP (k:IntKind) (n:Int):Int:=match yl k n with
 | true=>n
 | false=>k.wrap n
def HL (a b:Int):Int:=if b<a then b else a
def GW (a b:Int):Int:=if b > a then b else a
def Ep (a b:Int):Bool:=match a,b with
 | .ofNat m,.ofNat n=>DQ m n
 | .negSucc m,.negSucc n=>DQ n m
 | .negSucc _,.ofNat _=>true
 | .ofNat _,.negSucc _=>false
def Hk (a b:Int):Bool:=match a,b with
 | .ofNat m,.ofNat n=>A0 m n
 | .negSucc m,.negSucc n=>A0 n m
 | .negSucc _,.ofNat _=>true
 | .ofNat _,.negSucc _=>false
def CU (k:IntKind) (a b:Int):Int:=BP k (Int.add a b)
def E6 (k:IntKind) (a b:Int):Int:=BP k (Int.sub a b)
def P8 (k:IntKind) (a b:Int):Int:=BP k (Int.mul a b)
def JX (k:IntKind) (a b:Int):Int:=BP k (Int.tdiv a b)
def MI (k:IntKind) (a:Int) (n:Nat):Int:=BP k (Int.mul a (AA (Nat.pow 2 (E9 n k.bits))))
def LA (k:IntKind) (a:Int) (n:Nat):Int:=match a with
 | .ofNat m => .ofNat (Nat.div m (Nat.pow 2 (E9 n k.bits)))
 | .negSucc m=>Int.fdiv (.negSucc m) (2 ^ (E9 n k.bits))
def Pe (k:IntKind) (a b:Int) (f:Nat->Nat->Nat) (g:Int):Int:=match a,b with
 | .ofNat m,.ofNat n=>match A0 m (Jd k)&&A0 n (Jd k)with
  | true => .ofNat (f m n)
  | false=>g
 | _,_=>g
def Je (k:IntKind) (a b:Int):Int:=Pe k a b Nat.land (k.wrap (BU k.bits a &&& BU k.bits b).toNat)
def Yz (k:IntKind) (a b:Int):Int:=Pe k a b Nat.lor (k.wrap (BU k.bits a ||| BU k.bits b).toNat)
def zH (k:IntKind) (a b:Int):Int:=Pe k a b Nat.xor (k.wrap (BU k.bits a ^^^ BU k.bits b).toNat)
def Mo (k:IntKind) (a b:Int):Int:=k.wrap (BU k.bits a &&& ~~~BU k.bits b).toNat
def z4 (k:IntKind) (a:Int):Int:=BP k (Int.sub 0 a)
def AF5 (k:IntKind) (a:Int):Int:=k.wrap (BU k.bits (if k.signed then -1 else k.max) ^^^ BU k.bits a).toNat
def Pz (b:Int) (U:Nat->AH):AH:=match b with
 | .ofNat n=>U n
 | .negSucc _=>none
def nzK (b:Int) (a:AH):AH:=match b with
 | .ofNat 0=>none
 | _=>a
def uL (op:BinOp) (k k':IntKind) (a b:Int) (U:V->AH):AH:=
 match op with
 | .shl=>Pz b fun n=>U (.int k (MI k a n))
 | .shr=>Pz b fun n=>U (.int k (LA k a n))
 | op=>if k=k' then
   match op with
   | .add=>U (.int k (CU k a b))
   | .sub=>U (.int k (E6 k a b))
   | .mul=>U (.int k (P8 k a b))
   | .quo=>nzK b (U (.int k (JX k a b)))
   | .rem=>nzK b (U (.int k (Fq a b)))
   | .and=>U (.int k (Je k a b))
   | .or=>U (.int k (Yz k a b))
   | .xor=>U (.int k (zH k a b))
   | .andNot=>U (.int k (Mo k a b))
   | .eql=>U (.bool (Cu a b))
   | .neq=>U (.bool (not (Cu a b)))
   | .lss=>U (.bool (Ep a b))
   | .leq=>U (.bool (Hk a b))
   | .gtr=>U (.bool (Ep b a))
   | .geq=>U (.bool (Hk b a))
   | _=>none
  else none
def nP (a b:BS) (U:BS->AH):AH:=match A0 (Ac a.len b.len) 1000000000000 with
 | true=>U (a.cat b)
 | false=>none
def ltS (a b:BS):Bool:=Op.bytesLess a.toList b.toList
def zi (op:BinOp) (a b:BS) (U:V->AH):AH:=
 match op with
 | .add=>nP a b fun s=>U (.str s)
 | .eql=>U (.bool (a.beq b))
 | .neq=>U (.bool (not (a.beq b)))
 | .lss=>U (.bool (ltS a b))
 | .leq=>U (.bool (ltS a b || a.beq b))
 | .gtr=>U (.bool (not (ltS a b || a.beq b)))
 | .geq=>U (.bool (not (ltS a b)))
 | _=>none
def SV (t:Fp) (x y:V) (U:Bool->AH):AH:=match LJ t x y with
 | some b=>U b
 | none=>none
def eqX (op:BinOp) (t:Fp) (x y:V) (U:V->AH):AH:=match op with
 | .eql=>SV t x y fun b=>U (.bool b)
 | .neq=>SV t x y fun b=>U (.bool (not b))
 | _=>none
def uk (op:BinOp) (t:Fp) (x y:V) (U:V->AH):AH:=
 match t with
 | .none=>match x,y with
  | .int k a,.int k' b=>uL op k k' a b U
  | .str a,.str b=>zi op a b U
  | _,_=>none
 | t=>eqX op t x y U
def unX (op:UnOp) (x:V) (U:V->AH):AH:=
 match op,x with
 | .neg,.int k n=>U (.int k (z4 k n))
 | .xor,.int k n=>U (.int k (AF5 k n))
 | .not,.bool b=>U (.bool (not b))
 | _,_=>none
inductive DM where
 | any | int (k:IntKind) | bool | str | ptr | one
 | agg (l:List DM)
 | tup (l:List DM)
 deriving Inhabited
def Ah (k:IntKind) (v:V) (U:Int->AH):AH:=match v with
 | .int k' n=>if k=k' then U n else none
 | _=>none
def An (v:V) (U:Bool->AH):AH:=match v with
 | .bool b=>U b
 | _=>none
def Jp (v:V) (U:BS->AH):AH:=match v with
 | .str s=>U s
 | _=>none
def Ar (v:V) (U:Nat->Nat->AH):AH:=match v with
 | .ptr b o=>U b o
 | _=>none
def Cw (v:V) (U:List V->AH):AH:=match v with
 | .agg l=>U l
 | _=>none
def Bc (v:V) (U:List V->AH):AH:=match v with
 | .tup l=>U l
 | _=>none
def AE (l:List V) (U:V->List V->AH):AH:=match l with
 | v::l=>U v l
 | []=>none
def AQ (l:List V) (a:AH):AH:=match l with
 | []=>a
 | _::_=>none
def Cm (v:V) (a:AH):AH:=match v.one with
 | true=>a
 | false=>none
mutual
def rt:DM->V->(V->AH)->AH
 | .any,v,U=>U v
 | .int k,v,U=>Ah k v fun n=>U (.int k n)
 | .bool,v,U=>An v fun b=>U (.bool b)
 | .str,v,U=>Jp v fun s=>U (.str s)
 | .ptr,v,U=>Ar v fun b o=>U (.ptr b o)
 | .one,v,U=>Cm v (U v)
 | .agg ts,v,U=>Cw v fun l=>qn ts l fun l'=>U (.agg l')
 | .tup ts,v,U=>Bc v fun l=>qn ts l fun l'=>U (.tup l')
def qn:List DM->List V->(List V->AH)->AH
 | [],l,U=>AQ l (U [])
 | t::ts,l,U=>AE l fun v l'=>rt t v fun v'=>qn ts l' fun l''=>U (v'::l'')
end
abbrev Qs:=List (Nat × (Nat × Nat))
abbrev Rg:=List (Nat × List V)
def CS (e:CF) (x:AO) (U:V->AH):AH:=match x with
 | .con v=>match v.live with
  | true=>U v
  | false=>none
 | .tmp t=>match look e t with
  | some v=>U v
  | none=>none
def Me (e:CF):List AO->(List V->AH)->AH
 | [],U=>U []
 | x::l,U=>CS e x fun v=>Me e l fun vs=>U (v::vs)
def Mf (e:CF) (x:Option AO) (U:Option V->AH):AH:=match x with
 | none=>U none
 | some x=>CS e x fun v=>U (some v)
def Pq (e:CF):List (Nat × Nat × AO)->(List (Nat × Nat × V)->AH)->AH
 | [],U=>U []
 | (o,s,x)::l,U=>CS e x fun v=>Pq e l fun r=>U ((o,s,v)::r)
def Fh (q:Qs):AO->Option (Nat × Nat)
 | .tmp t=>look q t
 | .con _=>none
def Tn (o:Option V) (d:Nat) (U:Nat->AH):AH:=match o with
 | none=>U d
 | some v=>match v with
  | .int _ n=>Pz n U
  | _=>none
def R9 (s:BS) (lo hi:Option V) (U:BS->AH):AH:=
 Tn hi s.len fun h=>Tn lo 0 fun l=>IT (A0 l h&&A0 h s.len) (U (s.sub l h))
def my (s:BS) (i:Int) (U:Int->AH):AH:=
 Pz i fun n=>IT (DQ n s.len) (U (AA (s.get n)))
def BA (v:V) (U:Nat->AH):AH:=match v with
 | .nils=>U 0
 | .sl _ _ n _=>U n
 | .sle _ _ _ _=>U 0
 | _=>none
def AT (esz:Nat) (v:V) (i:Int) (U:Nat->Nat->AH):AH:=match v with
 | .sl b off len _=>Pz i fun n=>IT (DQ n len) (U b (Ac off (Zz n esz)))
 | _=>none
def JZ (l:List V) (n:Nat) (U:V->AH):AH:=match ma l n with
 | some v=>U v
 | none=>none
def Gs (l:List V) (off n:Nat) (U:List V->AH):AH:=match A0 (Ac off n) l.length with
 | true=>U ((l.drop off).take n)
 | false=>none
def WW (E:EB) (J:H) (b:Nat) (U:List V->AH):AH:=match Ba J.bl b with
 | some (.cells l)=>U l
 | some _=>none
 | none=>match Ba E b with
  | some (.cells l)=>U l
  | _=>none
def BL (E:EB) (J:H) (b off:Nat) (U:V->AH):AH:=WW E J b fun l=>JZ l off U
def BQ (E:EB) (J:H) (b off n:Nat) (U:List V->AH):AH:=WW E J b fun l=>Gs l off n U
def DR (J:H) (b:GL):H:=⟨J.next+1,(J.next,b)::J.bl⟩
def EV (J:H) (b:Nat) (c:GL):H:=⟨J.next,(b,c)::VQ J.bl b⟩
def Dt (n b off:Nat) (v:V) (J:H) (U:H->AH):AH:=match Ba J.bl b with
 | some (.cells l)=>IT (Ax v.cells.length n&&A0 (Ac off n) l.length&&allOne v.cells) (U (EV J b (.cells (Hg l off v.cells))))
 | _=>none
def srcK (E:EB) (J:H) (esz:Nat) (v:V) (U:Nat->List V->AH):AH:=match v with
 | .nils=>U 0 []
 | .sle _ _ _ _=>U 0 []
 | .sl b off len _=>WW E J b fun l=>Gs l off (len*esz) fun l'=>U len l'
 | .str s=>match Ax esz 1 with
  | true=>U s.len (aO s.toList)
  | false=>none
 | _=>none
def Ee (E:EB) (esz bytes:Nat) (s x:V) (J:H) (U:V->H->AH):AH:=
 srcK E J esz x fun n new=>
  match s with
  | .sl b 0 len (.op e)=>match n with
   | 0=>U s J
   | n=>match Ba J.bl b with
    | some (.cells l)=>IT (Ax l.length (len*esz)&&Ax e esz&&CV (len+n) bytes&&allOne new)
      (Ti J.bl b fun bl'=>U (.sl J.next 0 (len+n) (.op esz)) ⟨J.next+1,(J.next,.cells (l++new))::bl'⟩)
    | _=>none
  | s=>AW (EE E esz bytes s x J) U
def NF (E:EB) (J:H) (v:V) (U:BS->AH):AH:=match v with
 | .str _=>none
 | v=>srcK E J 1 v fun _ l=>match FW l with
  | some s=>U (BS.ofList s)
  | none=>none
def HA (l:List (Nat × Nat × V)) (z:List V) (U:List V->AH):AH:=match FQ l z with
 | some l'=>U l'
 | none=>none
def rF (E:EB) (esz:Nat) (d s:V) (J:H):Option (V × H):=
 match d,Ch E J esz s with
  | .nils,some (_,_)=>some (.int .i64 0,J)
  | .sle _ _ _ _,some (_,_)=>some (.int .i64 0,J)
  | .sl b off len _,some (n,src)=>
   let m:=E9 n len
   if m=0 then some (.int .i64 0,J)else
   match look J.bl b with
   | some (.cells l)=>if A0 (off+m*esz) l.length&&allOne (src.take (m*esz))then some (.int .i64 m,J.set b (.cells (Hg l off (src.take (m*esz)))))else none
   | _=>none
  | _,_=>none
theorem ep (E:EB) (esz:Nat) (d s:AO) (e:CF) (J:H):Ef E (.copy esz d s) e J=rF E esz (CZ e d) (CZ e s) J:=rfl
def BW (e:CF) (t:Nat) (U:V->AH):AH:=match look e t with
 | some v=>IT v.live (U v)
 | none=>none
def Ed (D:Az) (fv:V) (vs:List V) (J:H) (U:V->H->AH):AH:=match fv with
 | .fn g first cap=>AW (D g (first++vs++cap) J) U
 | _=>none
def C5 (E:EB) (D:Az) (id nx:Nat) (o:Ej) (e:CF) (J:H) (U:V->H->AH):AH:=
 match o with
 | .mov x=>CS e x fun v=>U v J
 | .bin op t x y=>CS e x fun a=>CS e y fun b=>uk op t a b fun v=>U v J
 | .un op x=>CS e x fun a=>unX op a fun v=>U v J
 | .conv (.toInt k) x=>CS e x fun v=>match v with
  | .int _ n=>U (.int k (BP k n)) J
  | _=>none
 | .conv .same x=>CS e x fun v=>Jp v fun s=>U (.str s) J
 | .conv .toStr x=>CS e x fun v=>NF E J v fun u=>U (.str u) J
 | .conv (.toBytes _) x=>CS e x fun v=>Jp v fun s=>IT (A0 s.len 1000000000000) (U (.sl id 0 s.len (.op 1)) ⟨nx,(id,.cells (aO s.toList))::J.bl⟩)
 | .nilck x=>CS e x fun v=>Ar v fun b o=>U (.ptr b o) J
 | .faddr off x=>CS e x fun v=>Ar v fun b o=>U (.ptr b (Ac o off)) J
 | .field off none x=>CS e x fun v=>Cw v fun l=>JZ l off fun u=>U u J
 | .field off (some n) x=>CS e x fun v=>Cw v fun l=>Gs l off n fun l'=>U (.agg l') J
 | .extract i x=>CS e x fun v=>Bc v fun l=>JZ l i fun u=>U u J
 | .iaddrS esz x i=>CS e x fun v=>CS e i fun j=>match j with
  | .int _ n=>AT esz v n fun b o=>U (.ptr b o) J
  | _=>none
 | .iaddrA len esz x i=>CS e x fun v=>CS e i fun j=>match j with
  | .int _ n=>Ar v fun b o=>Pz n fun m=>IT (DQ m len) (U (.ptr b (Ac o (Zz m esz))) J)
  | _=>none
 | .idxStr x i=>CS e x fun v=>CS e i fun j=>Jp v fun s=>match j with
  | .int _ n=>my s n fun u=>U (.int .u8 u) J
  | _=>none
 | .len true x=>CS e x fun v=>Jp v fun s=>U (.int .i64 (AA s.len)) J
 | .len false x=>CS e x fun v=>BA v fun n=>U (.int .i64 (AA n)) J
 | .lenC n=>U (.int .i64 (AA n)) J
 | .sliceStr x lo hi=>CS e x fun v=>Mf e lo fun l=>Mf e hi fun h=>Jp v fun s=>R9 s l h fun u=>U (.str u) J
 | .sliceSl esz x lo hi mx=>CS e x fun v=>Mf e lo fun l=>Mf e hi fun h=>Mf e mx fun m=>gK (CP esz v l h m) fun u=>U u J
 | .sliceArr n esz x lo hi mx=>CS e x fun v=>Mf e lo fun l=>Mf e hi fun h=>Mf e mx fun m=>gK (IV n esz v l h m) fun u=>U u J
 | .mkifc t x=>CS e x fun v=>U (.ifc t v) J
 | .mkfn f a c=>Me e a fun xs=>Me e c fun ys=>U (.fn f xs ys) J
 | .build z ps=>Pq e ps fun l=>HA l z fun l'=>U (.agg l') J
 | .cap x=>CS e x fun v=>match v with
  | .nils=>U (.int .i64 0) J
  | .sl _ _ _ (.ex c)=>U (.int .i64 (AA c)) J
  | _=>none
 | .min x l=>CS e x fun v=>Me e l fun vs=>gK (VF v vs) fun u=>match u with
  | .int k n=>U (.int k n) J
  | _=>none
 | .max x l=>CS e x fun v=>Me e l fun vs=>gK (VG v vs) fun u=>match u with
  | .int k n=>U (.int k n) J
  | _=>none
 | .load none x=>CS e x fun v=>Ar v fun b o=>BL E J b o fun u=>U u J
 | .load (some n) x=>CS e x fun v=>Ar v fun b o=>BQ E J b o n fun u=>U (.agg u) J
 | .alloc _ z=>U (.ptr id 0) ⟨nx,(id,.cells z)::J.bl⟩
 | .box _ x=>CS e x fun v=>IT (allOne v.cells) (U (.ptr id 0) ⟨nx,(id,.cells v.cells)::J.bl⟩)
 | .buildSlice _ n z ps=>Pq e ps fun l=>HA l z fun l'=>IT (allOne l') (U (.sl id 0 n (.ex n)) ⟨nx,(id,.cells l')::J.bl⟩)
 | .mkslice _ _ bytes z len cap=>CS e len fun a=>CS e cap fun b=>match a,b with
  | .int .i64 n,.int .i64 c=>Pz n fun n=>Pz c fun c=>IT (A0 n c&&A0 (c*bytes) 281474976710656&&A0 c 1000000000000)
    (U (.sl id 0 n (.ex c)) ⟨nx,(id,.cells (Bj c z).flatten)::J.bl⟩)
  | _,_=>none
 | .store n x v=>CS e x fun p=>CS e v fun u=>Ar p fun b o=>Dt n b o u J fun J'=>U .dead J'
 | .append _ esz bytes s x=>CS e s fun a=>CS e x fun b=>Ee E esz bytes a b J U
 | .copy esz d s=>CS e d fun a=>CS e s fun b=>AW (rF E esz a b J) U
 | .call f args=>Me e args fun vs=>AW (D f vs J) U
 | .callv f args=>CS e f fun fv=>Me e args fun vs=>Ed D fv vs J U
 | .mkmap=>U (.mp id) ⟨nx,(id,.map [])::J.bl⟩
 | .lookup t z m x=>CS e m fun p=>CS e x fun k=>gK (MZ t z p k J) fun v=>U v J
 | .mapset t m k v=>CS e m fun p=>CS e k fun a=>CS e v fun b=>AW (TY t p a b J) U
 | .alloc0 el=>U (.ptr id 0) ⟨nx,(id,.unit el)::J.bl⟩
 | .box0 el x=>CS e x fun v=>match v with
  | .agg []=>U (.ptr id 0) ⟨nx,(id,.unit el)::J.bl⟩
  | _=>none
 | .load0 x=>CS e x fun v=>Ar v fun _ _=>U (.agg []) J
 | .store0 x v=>CS e x fun p=>CS e v fun u=>match p,u with
  | .ptr _ _,.agg []=>U .dead J
  | _,_=>none
 | .faddr0 t x=>CS e x fun v=>gK (O3 t v J) fun u=>U u J
 | .idxArr n esz none x i=>CS e x fun v=>CS e i fun j=>Cw v fun l=>match j with
  | .int _ k=>Pz k fun m=>IT (DQ m n) (JZ l (Zz m esz) fun u=>U u J)
  | _=>none
 | .idxArr n esz (some s) x i=>CS e x fun v=>CS e i fun j=>Cw v fun l=>match j with
  | .int _ k=>Pz k fun m=>IT (DQ m n) (Gs l (Zz m esz) s fun l'=>U (.agg l') J)
  | _=>none
 | _=>none
def Wx (ty:DM) (v:V) (U:List V->AH):AH:=match ty with
 | .agg _=>Cw v fun l=>IT (allOne l) (U l)
 | _=>Cm v (U [v])
def lD (E:EB) (D:Az) (pw:Bool) (id nx:Nat) (o:Ej) (ty:DM) (e:CF) (q:Qs) (r:Rg) (J:H) (U:V->Rg->H->AH) (Um:Nat->Nat->AH):AH:=
 match o with
 | .mov x=>match Fh q x with
  | some (m,off)=>Um m off
  | none=>C5 E D id nx o e J fun v J'=>rt ty v fun v'=>U v' r J'
 | .nilck x=>match Fh q x with
  | some (m,off)=>Um m off
  | none=>C5 E D id nx o e J fun v J'=>rt ty v fun v'=>U v' r J'
 | .faddr d x=>match Fh q x with
  | some (m,off)=>Um m (off+d)
  | none=>C5 E D id nx o e J fun v J'=>rt ty v fun v'=>U v' r J'
 | .load none x=>match Fh q x with
  | some (m,off)=>match look r m with
   | some l=>JZ l off fun v=>rt ty v fun v'=>U v' r J
   | none=>none
  | none=>C5 E D id nx o e J fun v J'=>rt ty v fun v'=>U v' r J'
 | .load (some n) x=>match Fh q x with
  | some (m,off)=>match look r m with
   | some l=>Gs l off n fun l'=>rt ty (.agg l') fun v'=>U v' r J
   | none=>none
  | none=>C5 E D id nx o e J fun v J'=>rt ty v fun v'=>U v' r J'
 | .store n x v=>match Fh q x with
  | some (m,off)=>match pw,look r m with
   | true,some l=>match Fh q v with
    | none=>CS e v fun u=>Wx ty u fun cs=>IT (Ax cs.length n&&A0 (off+n) l.length) (U .dead (LC r m (Hg l off cs)) J)
    | some _=>none
   | _,_=>none
  | none=>C5 E D id nx o e J fun v J'=>U v r J'
 | o=>C5 E D id nx o e J fun v J'=>rt ty v fun v'=>U v' r J'
inductive XL where
 | nil
 | op (dst:Option Nat) (ty:DM) (looks:List Nat) (o:Ej) (rest:XL)
 | pal (dst:Nat) (looks:List Nat) (el:TypeId) (z:List V) (rest:XL)
 | grp (t:Nat) (b:Bool) (l:XL) (dst:Nat) (looks:List Nat) (c x y:AO) (rest:XL)
 deriving Inhabited
def XL.size:XL->Nat
 | .nil=>0
 | .op _ _ _ _ r=>r.size+1
 | .pal _ _ _ _ r=>r.size+1
 | .grp _ _ l _ _ _ _ _ r=>l.size+(r.size+1)
def XL.flat (g:Option (Nat × Bool)):XL->List BY
 | .nil=>[]
 | .op d _ _ o r=>⟨d,o,g⟩::r.flat g
 | .pal d _ el z r=>⟨some d,.alloc el z,g⟩::r.flat g
 | .grp t b l d _ c x y r=>l.flat (some (t,b))++⟨some d,.pick c x y,g⟩::r.flat g
def XL.lks:XL->List (List Nat)
 | .nil=>[]
 | .op _ _ k _ r=>k::r.lks
 | .pal _ k _ _ r=>k::r.lks
 | .grp _ _ l _ k _ _ _ r=>l.lks++k::r.lks
def XL.dsts:XL->List Nat
 | .nil=>[]
 | .op d _ _ _ r=>(match d with | some d=>d::r.dsts | none=>r.dsts)
 | .pal d _ _ _ r=>d::r.dsts
 | .grp _ _ l d _ _ _ _ r=>l.dsts++d::r.dsts
def Bl {α:Type} (ds:List Nat):List (Nat × α)->List (Nat × α)
 | []=>[]
 | (k,v)::l=>match Bp ds k with
  | true=>Bl ds l
  | false=>(k,v)::Bl ds l
def CC {α:Type} (d:Option Nat) (l:List (Nat × α)):List (Nat × α):=match d with
 | none=>l
 | some d=>Bl [d] l
def ID (m:Nat):Qs->List Nat
 | []=>[]
 | (t,p)::l=>match Ax p.1 m with
  | true=>t::ID m l
  | false=>ID m l
def Jl (m:Nat) (q:Qs):Qs:=Bl (ID m q) q
def LX:List Nat->Qs->Qs
 | [],_=>[]
 | t::l,q=>match look q t with
  | some p=>(t,p)::LX l q
  | none=>LX l q
def D4 (dr:Bool) (ks:List Nat) (e:CF):CF:=match dr with
 | true=>restr ks e
 | false=>e
def LB (dr:Bool) (ks:List Nat) (q:Qs):Qs:=match dr with
 | true=>LX ks q
 | false=>q
def Ro (q:Qs) (d:Option Nat) (p:Nat × Nat):Qs:=match d with
 | some d=>(d,p)::q
 | none=>q
def Ih (E:EB) (D:Az) (dr pw:Bool) (_n0:Nat) (l:XL):Nat->CF->Qs->Rg->H->(CF->Qs->Rg->H->AH)->AH:=
 XL.rec (motive:=fun _=>Bool->Nat->CF->Qs->Rg->H->(CF->Qs->Rg->H->AH)->AH)
  (fun _ _ e q r J U=>U e q r J)
  (fun d ty ks o _ ih pw i e q r J U=>
   lD E D pw J.next (J.next+1) o ty (D4 dr ks e) (LB dr ks q) r J
    (fun v r' J'=>ih pw (i+1) (Cr e d v) (CC d q) r' J' U)
    (fun m off=>ih pw (i+1) (CC d e) (Ro (CC d q) d (m,off)) r J U))
  (fun d _ _ z _ ih pw i e q r J U=>match pw with
   | true=>ih true (i+1) (Bl [d] e) ((d,(d,0))::Jl d (Bl [d] q)) ((d,z)::Bl [d] r) J U
   | false=>none)
  (fun t b l d ks _ x y _ ihl ih pw i e q r J U=>
   CS (D4 dr [t] e) (.tmp t) fun c=>An c fun cb=>
    BR (fun v J'=>ih pw (i+l.size+1) ((d,.bool v)::Bl (d::l.dsts) e) (Bl (d::l.dsts) q) r J' U) fun k=>
     match b with
     | true=>AS cb
       (ihl false i e q r J fun e' _ _ J'=>CS (D4 dr ks e') x fun v=>An v fun v=>k v J')
       (CS (D4 dr ks e) y fun v=>An v fun v=>k v J)
     | false=>AS cb
       (CS (D4 dr ks e) x fun v=>An v fun v=>k v J)
       (ihl false i e q r J fun e' _ _ J'=>CS (D4 dr ks e') y fun v=>An v fun v=>k v J'))
  l pw
section
variable {E:EB} {D:Az} {dr:Bool} {n0 i:Nat} {e:CF} {q:Qs} {r:Rg} {J:H} {U:CF->Qs->Rg->H->AH}
theorem nL {pw:Bool} (d:Option Nat) (ty:DM) (ks:List Nat) (o:Ej) (rest:XL):Ih E D dr pw n0 (.op d ty ks o rest) i e q r J U=lD E D pw J.next (J.next+1) o ty (D4 dr ks e) (LB dr ks q) r J
      (fun v r' J'=>Ih E D dr pw n0 rest (i+1) (Cr e d v) (CC d q) r' J' U)
      (fun m off=>Ih E D dr pw n0 rest (i+1) (CC d e) (Ro (CC d q) d (m,off)) r J U):=rfl
theorem eZ (d:Nat) (ks:List Nat) (el:TypeId) (z:List V) (rest:XL):Ih E D dr true n0 (.pal d ks el z rest) i e q r J U=Ih E D dr true n0 rest (i+1) (Bl [d] e) ((d,(d,0))::Jl d (Bl [d] q)) ((d,z)::Bl [d] r) J U:=rfl
theorem bA (d:Nat) (ks:List Nat) (el:TypeId) (z:List V) (rest:XL):Ih E D dr false n0 (.pal d ks el z rest) i e q r J U=none:=rfl
theorem ea {pw:Bool} (t:Nat) (b:Bool) (l:XL) (d:Nat) (ks:List Nat) (c x y:AO) (rest:XL):Ih E D dr pw n0 (.grp t b l d ks c x y rest) i e q r J U =
      CS (D4 dr [t] e) (.tmp t) fun c=>An c fun cb=>
        BR (fun v J'=>Ih E D dr pw n0 rest (i+l.size+1) ((d,.bool v)::Bl (d::l.dsts) e) (Bl (d::l.dsts) q) r J' U) fun k=>
          match b with
          | true=>AS cb
              (Ih E D dr false n0 l i e q r J fun e' _ _ J'=>CS (D4 dr ks e') x fun v=>An v fun v=>k v J')
              (CS (D4 dr ks e) y fun v=>An v fun v=>k v J)
          | false=>AS cb
              (CS (D4 dr ks e) x fun v=>An v fun v=>k v J)
              (Ih E D dr false n0 l i e q r J fun e' _ _ J'=>CS (D4 dr ks e') y fun v=>An v fun v=>k v J'):=rfl
end
structure St where
 e:CF
 q:Qs
 r:Rg
 J:H
inductive XC where
 | skip
 | ops (l:XL)
 | draw (l:XL) (ancs:List Nat)
 | gdraw (ops:List BY) (plan:List DP) (ts:List (Nat × DM))
 | seq (a b:XC)
 | cond (c:AO) (a b:XC)
 | block (id:Nat) (c:XC)
 | loop (ts:List (Nat × DM)) (ms:List Nat) (rs:List (Nat × List DM)) (c:XC)
 | exit (id:Nat)
 | ret
 | keep (ts:List (Nat × DM)) (ms:List Nat) (rs:List (Nat × List DM)) (c:XC)
 | bad
 deriving Inhabited
def VH (e:CF):List (Nat × DM)->(CF->AH)->AH
 | [],U=>U []
 | (t,ty)::l,U=>BW e t fun v=>rt ty v fun v'=>VH e l fun e'=>U ((t,v')::e')
def QF (ms rs:List Nat) (q:Qs):Qs:=match ms with
 | []=>[]
 | t::l=>match look q t with
  | some p=>(match Bp rs p.1 with
   | true=>(t,p)::QF l rs q
   | false=>QF l rs q)
  | none=>QF l rs q
def Y8 (e:CF):List (Nat × DM)->(CF->AH)->AH
 | [],U=>U []
 | (t,ty)::l,U=>CS e (.tmp t) fun v=>rt ty v fun v'=>Y8 e l fun e'=>U ((t,v')::e')
def Y7 (r:Rg):List (Nat × List DM)->(Rg->AH)->AH
 | [],U=>U []
 | (m,tys)::l,U=>match look r m with
  | some cs=>qn tys cs fun cs'=>Y7 r l fun r'=>U ((m,cs')::r')
  | none=>none
def Aw (f:(St->AH)->St->AH) (N:Nat):St->AH:=Nat.rec (fun _=>none) (fun _ ih=>f ih) N
theorem BB (f:(St->AH)->St->AH) (n:Nat) (s:St):Aw f (n+1) s=f (Aw f n) s:=rfl
def XL.makes:XL->Bool
 | .nil=>false
 | .op _ _ _ o r=>(match o.cls with | .a=>true | _=>r.makes)
 | .pal _ _ _ _ r=>r.makes
 | .grp _ _ l _ _ _ _ _ r=>l.makes || r.makes
def XL.pals:XL->List Nat
 | .nil=>[]
 | .op _ _ _ _ r=>r.pals
 | .pal d _ _ _ r=>d::r.pals
 | .grp _ _ l _ _ _ _ _ r=>l.pals++r.pals
def Pu (q:Qs):List Nat->Bool
 | []=>true
 | d::l=>(ID d q).isEmpty&&Pu q l
def JR (ts:List (Nat × DM)) (ms:List Nat) (rs:List (Nat × List DM)) (s:St) (U:St->AH):AH:=
 Y8 s.e ts fun e'=>Y7 s.r rs fun r'=>U ⟨e',QF ms (rs.map Prod.fst) s.q,r',s.J⟩
def Bn (id:Nat) (kn:St->AH) (kx:Nat->St->AH):Nat->St->AH:=fun j s'=>match Ax j id with
 | true=>kn s'
 | false=>kx j s'
def eX (q:Qs) (ds:List Nat) (a:AH):AH:=match Pu q ds with
 | true=>a
 | false=>none
def DA (x:Option (CF × H)) (U:CF->H->AH):AH:=match x with
 | some (e,J)=>U e J
 | none=>none
def AU (E:EB) (D:Az) (W:AM) (N:Nat) (c:XC):St->(St->AH)->(Nat->St->AH)->(St->AH)->AH:=
 XC.rec (motive:=fun _=>St->(St->AH)->(Nat->St->AH)->(St->AH)->AH)
  (fun s kn _ _=>kn s)
  (fun l s kn _ _=>Ih E D false true 0 l 0 s.e s.q s.r s.J fun e q r J=>kn ⟨e,q,r,J⟩)
  (fun l _ s kn _ _=>eX s.q l.pals (Ih E D true true 0 l 0 s.e s.q s.r s.J fun e q r J=>kn ⟨e,q,r,J⟩))
  (fun ops pl ts s kn _ _=>DA (W ops pl s.e s.J) fun e' J'=>VH e' ts fun e''=>kn ⟨e'',[],[],J'⟩)
  (fun _ _ iha ihb s kn kx kr=>iha s (fun s'=>ihb s' kn kx kr) kx kr)
  (fun c _ _ iha ihb s kn kx kr=>CS s.e c fun v=>An v fun cb=>AS cb (iha s kn kx kr) (ihb s kn kx kr))
  (fun id _ ih s kn kx kr=>ih s kn (Bn id kn kx) kr)
  (fun ts ms rs _ ih s _ kx kr=>JR ts ms rs s fun s0=>Aw (fun rec s'=>ih s' (fun s''=>JR ts ms rs s'' rec) kx kr) N s0)
  (fun id s _ kx _=>kx id s)
  (fun s _ _ kr=>kr s)
  (fun ts ms rs _ ih s kn kx kr=>JR ts ms rs s fun s0=>ih s0 kn kx kr)
  (fun _ _ _ _=>none)
  c
section
variable {E:EB} {D:Az} {W:AM} {N:Nat} {s:St} {kn:St->AH} {kx:Nat->St->AH} {kr:St->AH}
theorem ei (l:XL):AU E D W N (.ops l) s kn kx kr=Ih E D false true 0 l 0 s.e s.q s.r s.J fun e q r J=>kn ⟨e,q,r,J⟩:=rfl
theorem bD (l:XL) (ancs:List Nat):AU E D W N (.draw l ancs) s kn kx kr=eX s.q l.pals (Ih E D true true 0 l 0 s.e s.q s.r s.J fun e q r J=>kn ⟨e,q,r,J⟩):=rfl
theorem Wp (ops:List BY) (pl:List DP) (ts:List (Nat × DM)):AU E D W N (.gdraw ops pl ts) s kn kx kr=DA (W ops pl s.e s.J) fun e' J'=>VH e' ts fun e''=>kn ⟨e'',[],[],J'⟩:=rfl
theorem ef (a b:XC):AU E D W N (.seq a b) s kn kx kr=AU E D W N a s (fun s'=>AU E D W N b s' kn kx kr) kx kr:=rfl
theorem bE (c:AO) (a b:XC):AU E D W N (.cond c a b) s kn kx kr=CS s.e c fun v=>An v fun cb=>AS cb (AU E D W N a s kn kx kr) (AU E D W N b s kn kx kr):=rfl
theorem Wq (id:Nat) (c:XC):AU E D W N (.block id c) s kn kx kr=AU E D W N c s kn (Bn id kn kx) kr:=rfl
theorem bB (ts:List (Nat × DM)) (ms:List Nat) (rs:List (Nat × List DM)) (c:XC):AU E D W N (.loop ts ms rs c) s kn kx kr=JR ts ms rs s fun s0=>Aw (fun rec s'=>AU E D W N c s' (fun s''=>JR ts ms rs s'' rec) kx kr) N s0:=rfl
theorem bC (ts:List (Nat × DM)) (ms:List Nat) (rs:List (Nat × List DM)) (c:XC):AU E D W N (.keep ts ms rs c) s kn kx kr=JR ts ms rs s fun s0=>AU E D W N c s0 kn kx kr:=rfl
end
structure DV where
 ntmps:Nat
 params:List DM
 results:List AR
 body:XC
 deriving Inhabited
def EA (E:EB) (s:St):List AR->(List V->AH)->AH
 | [],U=>U []
 | .tmp t::l,U=>CS s.e (.tmp t) fun v=>EA E s l fun r=>U (v::r)
 | .cell t n::l,U=>match look s.q t with
  | some (m,off)=>match look s.r m with
   | some cs=>match n with
    | none=>JZ cs off fun v=>EA E s l fun r=>U (v::r)
    | some n=>Gs cs off n fun l'=>EA E s l fun r=>U (.agg l'::r)
   | none=>none
  | none=>CS s.e (.tmp t) fun p=>Ar p fun b o=>match n with
   | none=>BL E s.J b o fun v=>EA E s l fun r=>U (v::r)
   | some n=>BQ E s.J b o n fun v=>EA E s l fun r=>U (.agg v::r)
def Br (E:EB) (D:Az) (W:AM) (N:Nat) (f:DV) (args:List V) (J:H):AH:=
 qn f.params args fun args'=>AU E D W N f.body ⟨Oj 0 args',[],[],J⟩ (fun s=>EA E s f.results fun l=>some (EW l,s.J)) (fun _ _=>none) (fun s=>EA E s f.results fun l=>some (EW l,s.J))
def XC.strip:XC->AC
 | .skip => .skip
 | .ops l => .region (l.flat none)
 | .draw l ancs => .draw (l.flat none) (List.zipWith DP.mk ancs l.lks)
 | .gdraw l pl _ => .draw l pl
 | .seq a b => .seq a.strip b.strip
 | .cond c a b => .cond c a.strip b.strip
 | .block id c => .block id c.strip
 | .loop _ _ _ c => .loop c.strip
 | .exit id => .exit id
 | .ret => .ret
 | .keep _ _ _ c=>c.strip
 | .bad => .bad
def DV.strip (f:DV):cB:=⟨f.ntmps,f.results,[],f.body.strip⟩
def DM.known:DM->Bool
 | .any=>false
 | _=>true
def okD (d:Option Nat) (ty:DM) (o:Ej):Bool:=match d,o with
 | none,_=>true
 | some _,.store _ _ _=>false
 | some _,o=>(match o.cls with
  | .k=>ty.known
  | _=>true)
def ly (gt:Option Nat) (ks:List Nat):Bool:=match gt with
 | none=>true
 | some t=>Bp ks t
def dI (t:Nat) (b:Bool) (ds:List Nat) (c x y:AO):Bool:=
 (match c with
  | .tmp u=>Ax u t
  | .con _=>false) &&
 (match (match b with | true=>y | false=>x)with
  | .tmp u=>!Bp ds u
  | .con _=>true)
def XL.okG:XL->Option (List Nat)->Option Nat->Bool
 | .nil,_,_=>true
 | .op d ty ks o r,ds,gt=>okD d ty o&&ly gt ks&&(match ds,d with
  | some l,some d=>r.okG (some (d::l)) gt
  | _,_=>r.okG ds gt)
 | .pal _ ks _ _ r,ds,gt=>ly gt ks&&(match ds with
  | some _=>false
  | none=>r.okG none gt)
 | .grp t b l d ks c x y r,ds,gt=>ly gt ks&&Bp ks t && !Bp l.dsts t&&dI t b l.dsts c x y&&(match ds with
  | some ds'=>Bp ds' t
  | none=>true)&&l.okG (some []) (some t)&&(match ds with
  | some ds'=>r.okG (some (d::l.dsts++ds')) gt
  | none=>r.okG none gt)
def eW (l:List BY) (ancs:List Nat):Bool:=
 W3 l.length fun k=>match l[k]? with
  | some ok=>(match ok.op.cls with
   | .k=>W3 l.length fun j=>match l[j]? with
    | some oj=>(match oj.op.cls with
     | .l=>(ancs.getD j 0).testBit k || (ancs.getD k 0).testBit j
     | .a=>!DQ j k || (ancs.getD k 0).testBit j
     | _=>true)
    | none=>false
   | _=>true)
  | none=>false
def VE:List BY->Bool
 | []=>true
 | o::l=>(match o.op with
  | .bad=>false
  | _=>true)&&VE l
def XC.ok:XC->Bool
 | .skip=>true
 | .ops l=>l.okG none none
 | .draw l ancs=>l.okG none none&&eW (l.flat none) ancs&&Ax ancs.length l.lks.length && !l.makes&&VE (l.flat none)
 | .gdraw _ _ _=>true
 | .seq a b=>a.ok&&b.ok
 | .cond _ a b=>a.ok&&b.ok
 | .block _ c=>c.ok
 | .loop _ _ _ c=>c.ok
 | .exit _=>true
 | .ret=>true
 | .keep _ _ _ c=>c.ok
 | .bad=>true
end
def AO.t (i:Nat):AO := .tmp i
def AO.i (n:Nat):AO := .con (.int .i64 (AA n))
def DM.i:DM := .int .i64
def XL.m (d s:Nat) (k:XL):XL := .op (some d) .any [s] (.mov (.tmp s)) k
def XL.p (d:Nat) (ks:List Nat) (o:Ej) (k:XL):XL := .op (some d) .any ks o k
def AO.ts:List AO->List Nat
 | []=>[]
 | .tmp i::l=>i::AO.ts l
 | .con _::l=>AO.ts l
def XL.f (d k s:Nat) (r:XL):XL := .op (some d) .any [s] (.faddr k (.tmp s)) r
def XL.n (d s:Nat) (r:XL):XL := .op (some d) .any [s] (.nilck (.tmp s)) r
def XL.u (d s:Nat) (r:XL):XL := .op (some d) .any [s] (.len false (.tmp s)) r
def XL.s (d e x i:Nat) (r:XL):XL := .op (some d) .any [x,i] (.iaddrS e (.tmp x) (.tmp i)) r
def XL.b (d:Nat) (o:BinOp) (t:Fp) (x y:AO) (r:XL):XL := .op (some d) .any (AO.ts [x,y]) (.bin o t x y) r
def XL.q (d n:Nat) (r:XL):XL := .op (some d) .any [] (.mov (.con (.int .i64 (AA n)))) r
def XL.c (d:Nat) (v:V) (r:XL):XL := .op (some d) .any [] (.mov (.con v)) r
def XL.l (d:Nat) (t:DM) (s:Nat) (r:XL):XL := .op (some d) t [s] (.load none (.tmp s)) r
def XL.k (d:Nat) (t:DM) (f:FuncId) (l:List AO) (r:XL):XL := .op (some d) t (AO.ts l) (.call f l) r
def XL.w (n x v:Nat) (r:XL):XL := .op none .any [x,v] (.store n (.tmp x) (.tmp v)) r
def Ej.ts:Ej->List Nat
 | .mov x | .box _ x | .load _ x | .nilck x | .un _ x | .conv _ x | .mkifc _ x | .faddr _ x | .field _ _ x | .extract _ x | .len _ x | .cap x=>AO.ts [x]
 | .bin _ _ x y | .iaddrS _ x y | .iaddrA _ _ x y | .idxStr x y | .idxArr _ _ _ x y | .append _ _ _ x y | .mkslice _ _ _ _ x y=>AO.ts [x,y]
 | .call _ l=>AO.ts l
 | .callv f l=>AO.ts (f::l)
 | _=>[]
def XL.P (d:Nat) (o:Ej) (r:XL):XL := .op (some d) .any o.ts o r
def XL.O (d:Nat) (t:DM) (o:Ej) (r:XL):XL := .op (some d) t o.ts o r
def XL.gA (t:Nat) (b:Bool) (l:XL) (d c x:Nat) (r:XL):XL := .grp t b l d [c,x] (.tmp c) (.tmp x) (.con (.bool false)) r
def XL.gO (t:Nat) (b:Bool) (l:XL) (d c x:Nat) (r:XL):XL := .grp t b l d [c,x] (.tmp c) (.con (.bool true)) (.tmp x) r
def XC.z (a:XL) (b:XC):XC := .seq (.ops a) b
def G9 (l:List V) (J:H) (U:H->AH):AH:=IT (allOne l) (U (DR J (.cells l)))
def A4 (k:IntKind) (l:List V) (U:Int->List V->AH):AH:=AE l fun v m=>Ah k v fun n=>U n m
def De (l:List V) (U:Bool->List V->AH):AH:=AE l fun v m=>An v fun b=>U b m
def Rx (l:List V) (U:BS->List V->AH):AH:=AE l fun v m=>Jp v fun s=>U s m
end Go.Og
namespace Go.Og
theorem BH {α:Type} (p:Nat × α) (l:List (Nat × α)) (id:Nat):Ba (p::l) id=if p.1=id then some p.2 else Ba l id:=by
 show (Bool.rec (motive:=fun _=>Option α) (Ba l id) (some p.2) (Ax p.1 id))=_
 by_cases h:p.1=id
 ·have hb:Ax p.1 id=true:=by rw[AV];exact h
  rw[if_pos h,hb]
 ·rw[if_neg h]
  have:Ax p.1 id=false:=HV.2 (by rw[ne_eq,AV];exact h)
  rw[this]
theorem BK {α:Type} (l:List (Nat × α)) (id:Nat):Ba l id=look l id:=by
 induction l with
 | nil=>rfl
 | cons p l ih=>
  obtain⟨k,b⟩:=p
  rw[BH,ih]
  simp only[look,AV]
theorem Wo {α:Type} (p:Nat × α) (l:List (Nat × α)) (id:Nat):VQ (p::l) id=if p.1=id then l else p::VQ l id:=by
 show (Bool.rec (motive:=fun _=>List (Nat × α)) (p::VQ l id) l (Ax p.1 id))=_
 by_cases h:p.1=id
 ·have hb:Ax p.1 id=true:=by rw[AV];exact h
  rw[if_pos h,hb]
 ·rw[if_neg h]
  have:Ax p.1 id=false:=HV.2 (by rw[ne_eq,AV];exact h)
  rw[this]
theorem Wd {α:Type} (l:List (Nat × α)) (id k:Nat) (h:id≠k):look (VQ l id) k=look l k:=by
 induction l with
 | nil=>rfl
 | cons p l ih=>
  obtain⟨m,b⟩:=p
  rw[Wo]
  by_cases hm:m=id
  ·rw[if_pos hm];simp only[look,AV];rw[if_neg (by omega)]
  ·rw[if_neg hm];simp only[look,AV,ih]
theorem MW (l:List V) (n:Nat):ma l n=l[n]? := by
 induction l generalizing n with
 | nil=>rfl
 | cons a l ih=>
  cases n with
  | zero=>rfl
  | succ n=>exact ih n
theorem SR (l:EB) (id:Nat) (U:EB->AH):Ti l id U=U (drop l id):=by
 induction l generalizing U with
 | nil=>rfl
 | cons p l ih=>
  obtain⟨k,b⟩:=p
  show Ti l id (fun l'=>Bool.rec (motive:=fun _=>AH) (U ((k,b)::l')) (U l') (Ax k id))=_
  rw[ih]
  simp only[drop]
  cases hb:Ax k id<;>simp[hb]
theorem Dp {c:Bool} {a:AH} {r:V × H} (h:IT c a=some r):c=true/\a=some r:=by
 cases c with
 | true=>exact⟨rfl,h⟩
 | false=>cases h
theorem I0 (a b:AH):AS true a b=a:=rfl
theorem Co (a b:AH):AS false a b=b:=rfl
theorem Kr {x:Option V} {U:V->AH} {r:V × H} (h:gK x U=some r):∃v,x=some v/\U v=some r:=by
 cases x with
 | none=>cases h
 | some v=>exact⟨v,rfl,h⟩
theorem Hr {x:AH} {U:V->H->AH} {r:V × H} (h:AW x U=some r):∃v J,x=some (v,J)/\U v J=some r:=by
 cases x with
 | none=>cases h
 | some p=>exact⟨p.1,p.2,rfl,h⟩
theorem TF {k:IntKind} {n:Int} (h:yl k n=true):k.wrap n=n:=by
 unfold IntKind.wrap
 cases n with
 | ofNat m=>
  simp only[yl,BC]at h
  cases k<;>simp only[Jd]at h<;>simp only[IntKind.signed,IntKind.bits,Int.ofNat_eq_natCast]<;>simp<;>omega
 | negSucc m=>
  simp only[yl,C1]at h
  cases k<;>simp only[zz]at h<;>(first | omega | skip)<;>simp only[IntKind.signed,IntKind.bits,Int.negSucc_eq]<;>simp<;>omega
theorem FO (k:IntKind) (n:Int):BP k n=k.wrap n:=by
 unfold BP
 cases h:yl k n with
 | true=>exact(TF h).symm
 | false=>rfl
theorem dZ (a b:Int):Ep a b=decide (a<b):=by
 cases a<;>cases b<;>simp only[Ep]<;>(rw[PQ];simp[C1])<;>omega
theorem dt (a b:Int):Hk a b=decide (a<=b):=by
 cases a<;>cases b<;>simp only[Hk]<;>(rw[PQ];simp[BC])<;>omega
theorem oI (k:IntKind) (a b:Int):CU k a b=k.wrap (a+b):=FO k _
theorem lg (k:IntKind) (a b:Int):E6 k a b=k.wrap (a-b):=FO k _
theorem Y2 (k:IntKind) (a b:Int):P8 k a b=k.wrap (a*b):=FO k _
theorem Yv (k:IntKind) (a b:Int):JX k a b=k.wrap (a.tdiv b):=FO k _
theorem me (k:IntKind) (a:Int):z4 k a=k.wrap (0-a):=FO k _
theorem Ov (k:IntKind) (a:Int) (n:Nat):MI k a n=k.wrap (a*2 ^ (E9 n k.bits)):=by
 unfold MI
 rw[FO]
 have h:(AA (Nat.pow 2 (E9 n k.bits)))=(2:Int) ^ (E9 n k.bits):=by
  show ((2 ^ (E9 n k.bits):Nat):Int)=_
  rw[PO];rfl
 rw[h];rfl
theorem Yo (k:IntKind) (a:Int) (n:Nat):LA k a n=a.fdiv (2 ^ (E9 n k.bits)):=by
 cases a with
 | ofNat m=>
  have h:(2:Int) ^ (E9 n k.bits)=((2 ^ (E9 n k.bits):Nat):Int):=by rw[PO];rfl
  rw[h]
  show ((m / 2 ^ (E9 n k.bits):Nat):Int)=Int.fdiv ((m:Nat):Int) _
  rw[yg _ (Rf _),Int.natCast_ediv]
 | negSucc m=>rfl
theorem P9 (k:IntKind):∃p,Jd k+1=2 ^ p/\p<=k.bits:=by
 cases k
 ·exact⟨7,rfl,by decide⟩
 ·exact⟨15,rfl,by decide⟩
 ·exact⟨31,rfl,by decide⟩
 ·exact⟨63,rfl,by decide⟩
 ·exact⟨8,rfl,by decide⟩
 ·exact⟨16,rfl,by decide⟩
 ·exact⟨32,rfl,by decide⟩
 ·exact⟨64,rfl,by decide⟩
theorem Ij {k:IntKind} {m:Nat} (h:m<=Jd k):(BU k.bits (AA m)).toNat=m:=by
 obtain⟨p,hp,hb⟩:=P9 k
 have h1:m<2 ^ k.bits:=Bg (by omega) (MB (by decide) hb)
 have:BU k.bits (AA m)=BitVec.ofNat k.bits m:=by
  show BU k.bits ((m:Nat):Int)=_
  rw[BitVec.ofInt_natCast]
 rw[this,BitVec.toNat_ofNat,Bw h1]
theorem Pd {k:IntKind} {a b:Int} {f:Nat->Nat->Nat} {g:Int} (h:∀m n,a = .ofNat m->b = .ofNat n->m<=Jd k->n<=Jd k->g = .ofNat (f m n)):Pe k a b f g=g:=by
 unfold Pe
 split
 ·rename_i m n
  cases hc:(A0 m (Jd k)&&A0 n (Jd k))with
  | true=>
   simp only[AK,BC]at hc
   exact(h m n rfl rfl hc.1 hc.2).symm
  | false=>rfl
 ·rfl
theorem PV {k:IntKind} {m:Nat} (h:m<=Jd k):k.wrap (m:Int) = .ofNat m:=TF (n := .ofNat m) (by simpa[yl]using h)
theorem O8 (k:IntKind) (a b:Int):Je k a b=k.wrap (BU k.bits a &&& BU k.bits b).toNat:=by
 refine Pd fun m n ha hb hm hn=>?_
 subst ha hb
 rw[Yj,Ij hm,Ij hn]
 exact PV (Ae Nat.and_le_left hm)
theorem Pv (k:IntKind) (a b:Int):Yz k a b=k.wrap (BU k.bits a ||| BU k.bits b).toNat:=by
 refine Pd fun m n ha hb hm hn=>?_
 subst ha hb
 obtain⟨p,hp,_⟩:=P9 k
 rw[PR,Ij hm,Ij hn]
 refine PV ?_
 have:=Nat.or_lt_two_pow (x:=m) (y:=n) (n:=p) (by omega) (by omega)
 omega
theorem lJ (k:IntKind) (a b:Int):zH k a b=k.wrap (BU k.bits a ^^^ BU k.bits b).toNat:=by
 refine Pd fun m n ha hb hm hn=>?_
 subst ha hb
 obtain⟨p,hp,_⟩:=P9 k
 rw[BitVec.toNat_xor,Ij hm,Ij hn]
 refine PV ?_
 have:=Nat.xor_lt_two_pow (x:=m) (y:=n) (n:=p) (by omega) (by omega)
 omega
theorem FP {b:Int} {U:Nat->AH} {r:V × H} (h:Pz b U=some r):0<=b/\U b.toNat=some r:=by
 cases b with
 | ofNat n=>exact⟨Rf n,h⟩
 | negSucc n=>cases h
theorem dS {b:Int} {a:AH} {r:V × H} (h:nzK b a=some r):b≠0/\a=some r:=by
 unfold nzK at h
 split at h
 ·cases h
 ·rename_i hb;exact⟨fun h0=>hb (by rw[h0];rfl),h⟩
theorem aP {op:BinOp} {t:Fp} {k k':IntKind} {a b:Int} {U:V->AH} {r:V × H} (h:uL op k k' a b U=some r):∃v,Ik op t (.int k a) (.int k' b)=some v/\U v=some r:=by
  cases op
  case shl=>
    obtain⟨h1,h2⟩:=FP h
    refine⟨_,?_,h2⟩
    simp only[Ik,Pg]
    rw[if_neg (by omega),Ov];rfl
  case shr=>
    obtain⟨h1,h2⟩:=FP h
    refine⟨_,?_,h2⟩
    simp only[Ik,Pg]
    rw[if_neg (by omega),Yo];rfl
  all_goals
    simp only[uL]at h
    split at h
    · rename_i hk
      simp only[Ik]
      rw[if_pos hk]
      first
        | (refine⟨_,?_,h⟩;simp only[ZO,Tl,oI,lg,Y2,O8,Pv,lJ,Mo,Lo,dZ,dt];rfl)
        | (obtain⟨h1,h2⟩:=dS h
           refine⟨_,?_,h2⟩
           simp only[ZO]
           rw[if_neg h1]
           first | rfl | (rw[Yv];rfl))
    · cases h
theorem bH {a b:BS} {U:BS->AH} {r:V × H} (h:nP a b U=some r):A0 (Ac a.len b.len) 1000000000000=true/\U (a.cat b)=some r:=by
 unfold nP at h
 split at h
 ·rename_i hc;exact⟨hc,h⟩
 ·cases h
theorem aC {op:BinOp} {t:Fp} {a b:BS} {U:V->AH} {r:V × H} (h:zi op a b U=some r):∃v,Ik op t (.str a) (.str b)=some v/\U v=some r:=by
 cases op
 case add=>
  have h':nP a b (fun s=>U (.str s))=some r:=h
  obtain⟨h1,h2⟩:=bH h'
  exact⟨_,by simp only[Ik,cU,h1],h2⟩
 all_goals first
  | exact⟨_,rfl,h⟩
  | cases h
theorem VP {t:Fp} {x y:V} {U:Bool->AH} {r:V × H} (h:SV t x y U=some r):∃b,LJ t x y=some b/\U b=some r:=by
 unfold SV at h
 split at h
 ·exact⟨_,‹_›,h⟩
 ·cases h
theorem OU {t:Fp} {x y:V} {b:Bool} (h:LJ t x y=some b):(∀k n k' m,x = .int k n->y = .int k' m->False)/\(∀l m,x = .str l->y = .str m->False):=by
 constructor
 ·rintro k n k' m rfl rfl;cases t<;>(first|cases h|(rename_i b;cases b<;>cases h))
 ·rintro l m rfl rfl;cases t<;>(first|cases h|(rename_i b;cases b<;>cases h))
theorem bJ {op:BinOp} {t:Fp} {x y:V} {U:V->AH} {r:V × H} (h:uk op t x y U=some r):∃v,Ik op t x y=some v/\U v=some r:=by
 have eqs:∀(t:Fp),eqX op t x y U=some r->∃v,Ik op t x y=some v/\U v=some r:=by
  intro t h
  unfold eqX at h
  split at h
  ·obtain⟨b,h1,h2⟩:=VP h
   obtain⟨h3,h4⟩:=OU h1
   refine⟨_,?_,h2⟩
   unfold Ik
   split
   ·exact(h3 _ _ _ _ rfl rfl).elim
   ·exact(h4 _ _ rfl rfl).elim
   ·simp only[h1];rfl
  ·obtain⟨b,h1,h2⟩:=VP h
   obtain⟨h3,h4⟩:=OU h1
   refine⟨_,?_,h2⟩
   unfold Ik
   split
   ·exact(h3 _ _ _ _ rfl rfl).elim
   ·exact(h4 _ _ rfl rfl).elim
   ·simp only[h1];rfl
  ·cases h
 cases t with
 | none=>
  simp only[uk]at h
  split at h
  ·exact aP h
  ·exact aC h
  ·cases h
 | bool=>exact eqs _ h
 | ptr=>exact eqs _ h
 | slice=>exact eqs _ h
 | map=>exact eqs _ h
 | func=>exact eqs _ h
 | iface b=>exact eqs _ h
 | flat l=>exact eqs _ h
theorem cS {op:UnOp} {x:V} {U:V->AH} {r:V × H} (h:unX op x U=some r):∃v,unV op x=some v/\U v=some r:=by
 unfold unX at h
 split at h
 ·exact⟨_,by simp only[unV,me],h⟩
 ·exact⟨_,rfl,h⟩
 ·exact⟨_,rfl,h⟩
 ·cases h
theorem Pk {k:IntKind} {v:V} {U:Int->AH} {r:V × H} (h:Ah k v U=some r):∃n,v = .int k n/\U n=some r:=by
 unfold Ah at h
 split at h
 ·split at h
  ·rename_i hk;subst hk;exact⟨_,rfl,h⟩
  ·cases h
 ·cases h
theorem Ff {v:V} {U:Bool->AH} {r:V × H} (h:An v U=some r):∃b,v = .bool b/\U b=some r:=by
 unfold An at h
 split at h
 ·exact⟨_,rfl,h⟩
 ·cases h
theorem FX {v:V} {U:BS->AH} {r:V × H} (h:Jp v U=some r):∃s,v = .str s/\U s=some r:=by
 unfold Jp at h
 split at h
 ·exact⟨_,rfl,h⟩
 ·cases h
theorem D5 {v:V} {U:Nat->Nat->AH} {r:V × H} (h:Ar v U=some r):∃b o,v = .ptr b o/\U b o=some r:=by
 unfold Ar at h
 split at h
 ·exact⟨_,_,rfl,h⟩
 ·cases h
theorem FY {v:V} {U:List V->AH} {r:V × H} (h:Cw v U=some r):∃l,v = .agg l/\U l=some r:=by
 unfold Cw at h
 split at h
 ·exact⟨_,rfl,h⟩
 ·cases h
theorem LS {v:V} {U:List V->AH} {r:V × H} (h:Bc v U=some r):∃l,v = .tup l/\U l=some r:=by
 unfold Bc at h
 split at h
 ·exact⟨_,rfl,h⟩
 ·cases h
theorem Ut {l:List V} {U:V->List V->AH} {r:V × H} (h:AE l U=some r):∃v m,l=v::m/\U v m=some r:=by
 unfold AE at h
 split at h
 ·exact⟨_,_,rfl,h⟩
 ·cases h
theorem WV {l:List V} {a:AH} {r:V × H} (h:AQ l a=some r):l=[]/\a=some r:=by
 unfold AQ at h
 split at h
 ·exact⟨rfl,h⟩
 ·cases h
theorem LU {v:V} {a:AH} {r:V × H} (h:Cm v a=some r):v.one=true/\a=some r:=by
 unfold Cm at h
 split at h
 ·exact⟨‹_›,h⟩
 ·cases h
mutual
theorem HG:∀(ty:DM) (v:V) (U:V->AH) (r:V × H),rt ty v U=some r->U v=some r
 | .any,v,U,r,h=>by simpa only [rt]using h
 | .int k,v,U,r,h=>by simp only[rt]at h;obtain⟨n,rfl,h2⟩:=Pk h;exact h2
 | .bool,v,U,r,h=>by simp only[rt]at h;obtain⟨n,rfl,h2⟩:=Ff h;exact h2
 | .str,v,U,r,h=>by simp only[rt]at h;obtain⟨n,rfl,h2⟩:=FX h;exact h2
 | .ptr,v,U,r,h=>by simp only[rt]at h;obtain⟨b,o,rfl,h2⟩:=D5 h;exact h2
 | .one,v,U,r,h=>by simp only[rt]at h;exact(LU h).2
 | .agg ts,v,U,r,h=>by simp only[rt]at h;obtain⟨l,rfl,h2⟩:=FY h;exact Jo ts l _ r h2
 | .tup ts,v,U,r,h=>by simp only[rt]at h;obtain⟨l,rfl,h2⟩:=LS h;exact Jo ts l _ r h2
theorem Jo:∀(ts:List DM) (l:List V) (U:List V->AH) (r:V × H),qn ts l U=some r->U l=some r
 | [],l,U,r,h=>by simp only[qn]at h;obtain⟨rfl,h2⟩:=WV h;exact h2
 | t::ts,l,U,r,h=>by
  simp only[qn]at h
  obtain⟨v,m,rfl,h⟩:=Ut h
  have:=HG t v _ r h
  exact Jo ts m _ r this
end
def FG (e:CF):Prop:=∀t v,look e t=some v->v.live=true
theorem Ak {e:CF} {x:AO} {U:V->AH} {r:V × H} (h:CS e x U=some r):∃v,CZ e x=v/\(FG e->v.live=true)/\U v=some r:=by
 unfold CS at h
 split at h
 ·rename_i v
  split at h
  ·exact⟨v,rfl,fun _=>‹_›,h⟩
  ·cases h
 ·rename_i t
  cases hl:look e t with
  | none=>rw[hl]at h;cases h
  | some v=>
   rw[hl]at h
   exact⟨v,by simp only[CZ,Gb,hl],fun he=>he t v hl,h⟩
theorem FZ {e:CF}:∀(l:List AO) (U:List V->AH) (r:V × H),Me e l U=some r->(FG e->(Fm e l).all V.live=true)/\U (Fm e l)=some r
 | [],U,r,h=>⟨fun _=>rfl,h⟩
 | x::l,U,r,h=>by
  simp only[Me]at h
  obtain⟨v,hv,hl,h⟩:=Ak h
  obtain⟨h1,h2⟩:=FZ l _ r h
  subst hv
  exact⟨fun he=>by simp only[Fm,B3,Ji,hl he,Hz];exact h1 he,h2⟩
theorem Eu {e:CF} {x:Option AO} {U:Option V->AH} {r:V × H} (h:Mf e x U=some r):U (Df e x)=some r:=by
 cases x with
 | none=>exact h
 | some x=>
  obtain⟨v,hv,_,h⟩:=Ak h
  subst hv;exact h
theorem Ju {e:CF}:∀(l:List (Nat × Nat × AO)) (U:List (Nat × Nat × V)->AH) (r:V × H),Pq e l U=some r->U (Jv e l)=some r
 | [],U,r,h=>h
 | (o,s,x)::l,U,r,h=>by
  simp only[Pq]at h
  obtain⟨v,hv,_,h⟩:=Ak h
  have:=Ju l _ r h
  subst hv;exact this
theorem GU {l:List V} {n:Nat} {U:V->AH} {r:V × H} (h:JZ l n U=some r):∃v,l[n]? = some v/\U v=some r:=by
 unfold JZ at h
 rw[MW]at h
 split at h
 ·exact⟨_,‹_›,h⟩
 ·cases h
theorem GP {l:List V} {off n:Nat} {U:List V->AH} {r:V × H} (h:Gs l off n U=some r):A0 (off+n) l.length=true/\U ((l.drop off).take n)=some r:=by
 unfold Gs at h
 split at h
 ·exact⟨‹_›,h⟩
 ·cases h
theorem Jt {E:EB} {J:H} {b:Nat} {U:List V->AH} {r:V × H} (h:WW E J b U=some r):∃l,rd E J b=some l/\U l=some r:=by
 unfold WW at h
 rw[BK]at h
 unfold rd
 split at h
 ·rename_i hb;rw[hb];exact⟨_,rfl,h⟩
 ·cases h
 ·rename_i hb
  rw[BK]at h
  rw[hb]
  split at h
  ·rename_i he;rw[he];exact⟨_,rfl,h⟩
  ·cases h
theorem OX {o:Option V} {d:Nat} {U:Nat->AH} {r:V × H} (h:Tn o d U=some r):∃n,G0 o d=some n/\U n=some r:=by
 unfold Tn at h
 split at h
 ·exact⟨d,rfl,h⟩
 ·split at h
  ·obtain⟨h1,h2⟩:=FP h
   exact⟨_,by simp only[G0,if_pos h1],h2⟩
  ·cases h
theorem WU {v:V} {U:Nat->AH} {r:V × H} (h:BA v U=some r):∃n:Nat,U n=some r/\∀e x,CZ e x=v->Be (.len false x) e=some (.int .i64 n):=by
 unfold BA at h
 split at h
 ·exact⟨0,h,fun e x hx=>by simp only[Be,hx];rfl⟩
 ·exact⟨_,h,fun e x hx=>by simp only[Be,hx]⟩
 ·exact⟨0,h,fun e x hx=>by simp only[Be,hx];rfl⟩
 ·cases h
theorem R7 {E:EB} {J:H} {esz:Nat} {v:V} {U:Nat->List V->AH} {r:V × H} (h:srcK E J esz v U=some r):∃n l,Ch E J esz v=some (n,l)/\U n l=some r:=by
 unfold srcK at h
 split at h
 ·exact⟨_,_,rfl,h⟩
 ·exact⟨_,_,rfl,h⟩
 ·obtain⟨l,h1,h2⟩:=Jt h
  obtain⟨h3,h4⟩:=GP h2
  exact⟨_,_,by simp only[Ch,NA,h1,h3,if_true];rfl,h4⟩
 ·split at h
  ·rename_i he
   rw[AV]at he
   exact⟨_,_,by simp only[Ch,if_pos he],h⟩
  ·cases h
 ·cases h
structure KO (J2 J1:H):Prop where
 next:J2.next=J1.next
 sub:∀k b,look J2.bl k=some b->look J1.bl k=some b
theorem KO.refl (J:H):KO J J:=⟨rfl,fun _ _ h=>h⟩
theorem SM (J:H) (b:Nat) (c:GL) (k:Nat):look (EV J b c).bl k=if b=k then some c else look J.bl k:=by
 simp only[EV,look,AV]
 by_cases h:b=k
 ·rw[if_pos h,if_pos h]
 ·rw[if_neg h,if_neg h,Wd _ _ _ h]
theorem cY {J:H} {b:Nat} {c d:GL} (h:look J.bl b=some d):KO (EV J b c) (J.set b c):=by
 refine⟨rfl,fun k u hk=>?_⟩
 rw[SM]at hk
 simp only[H.set,Ha]
 by_cases he:b=k
 ·subst he;rw[if_pos rfl]at hk;rw[if_pos rfl,h];exact hk
 ·rw[if_neg he]at hk;rw[if_neg he];exact hk
theorem cV {n b off:Nat} {v:V} {J:H} {U:H->AH} {r:V × H} (h:Dt n b off v J U=some r) :
  ∃J1 J2,U J2=some r/\KO J2 J1/\∀(E:EB) (e:CF) (x y:AO),CZ e x = .ptr b off->CZ e y=v->Ef E (.store n x y) e J=some (.dead,J1):=by
 unfold Dt at h
 rw[BK]at h
 split at h
 ·rename_i l hb
  obtain⟨hc,h⟩:=Dp h
  refine⟨_,_,h,cY hb,fun E e x y hx hy=>?_⟩
  have hc':(Ax v.cells.length n&&A0 (off+n) l.length&&allOne v.cells)=true:=hc
  simp only[Ef,hx,hy,hb]
  rw[if_pos hc']
 ·cases h
theorem Sg {E:EB} {esz bytes:Nat} {s x:V} {J:H} {U:V->H->AH} {r:V × H} (h:Ee E esz bytes s x J U=some r) :
  ∃v J1,EE E esz bytes s x J=some (v,J1)/\U v J1=some r:=by
 unfold Ee at h
 obtain⟨n,new,h1,h⟩:=R7 h
 split at h
 ·rename_i b len e
  split at h
  ·exact⟨_,_,by simp only[EE,h1];rfl,h⟩
  ·rename_i hn
   split at h
   ·rename_i l hb
    rw[BK]at hb
    obtain⟨hc,h⟩:=Dp h
    rw[SR]at h
    refine⟨_,_,?_,h⟩
    simp only[EE,h1]
    rw[if_neg (by omega),hb]
    simp only
    rw[if_pos hc]
    rfl
   ·cases h
 ·obtain⟨v,J1,h2,h3⟩:=Hr h
  exact⟨v,J1,h2,h3⟩
theorem QL {l:List (Nat × Nat × V)} {z:List V} {U:List V->AH} {r:V × H} (h:HA l z U=some r):∃l',FQ l z=some l'/\U l'=some r:=by
 unfold HA at h
 split at h
 ·exact⟨_,‹_›,h⟩
 ·cases h
theorem Ym {E:EB} {D:Az} {id nx:Nat} {o:Ej} {e:CF} {J:H} {U:V->H->AH} {r:V × H} (h:C5 E D id nx o e J U=some r) :
  (o.cls = .p/\∃v,(FG e->Be o e=some v)/\U v J=some r)\/(o.cls = .l/\∃v,(FG e->Cl E o e J=some v)/\U v J=some r) \/
  (o.cls = .a/\∃v b,(FG e->Ce o e id=some (v,b))/\U v ⟨nx,(id,b)::J.bl⟩=some r) \/
  (o.cls = .k/\∃v J1 J2,(FG e->EO E D o e J=some (v,J1))/\KO J2 J1/\U v J2=some r):=by
 have P:∀{v},o.cls = .p->(FG e->Be o e=some v)->U v J=some r->(o.cls = .p/\∃v,(FG e->Be o e=some v)/\U v J=some r)\/(o.cls = .l/\∃v,(FG e->Cl E o e J=some v)/\U v J=some r) \/
  (o.cls = .a/\∃v b,(FG e->Ce o e id=some (v,b))/\U v ⟨nx,(id,b)::J.bl⟩=some r) \/
  (o.cls = .k/\∃v J1 J2,(FG e->EO E D o e J=some (v,J1))/\KO J2 J1/\U v J2=some r):=fun h1 h2 h3 => .inl ⟨h1,_,h2,h3⟩
 have L:∀{v},o.cls = .l->(FG e->Cl E o e J=some v)->U v J=some r->(o.cls = .p/\∃v,(FG e->Be o e=some v)/\U v J=some r)\/(o.cls = .l/\∃v,(FG e->Cl E o e J=some v)/\U v J=some r) \/
  (o.cls = .a/\∃v b,(FG e->Ce o e id=some (v,b))/\U v ⟨nx,(id,b)::J.bl⟩=some r) \/
  (o.cls = .k/\∃v J1 J2,(FG e->EO E D o e J=some (v,J1))/\KO J2 J1/\U v J2=some r):=fun h1 h2 h3 => .inr (.inl ⟨h1,_,h2,h3⟩)
 have A:∀{v b},o.cls = .a->(FG e->Ce o e id=some (v,b))->U v ⟨nx,(id,b)::J.bl⟩=some r->(o.cls = .p/\∃v,(FG e->Be o e=some v)/\U v J=some r)\/(o.cls = .l/\∃v,(FG e->Cl E o e J=some v)/\U v J=some r) \/
  (o.cls = .a/\∃v b,(FG e->Ce o e id=some (v,b))/\U v ⟨nx,(id,b)::J.bl⟩=some r) \/
  (o.cls = .k/\∃v J1 J2,(FG e->EO E D o e J=some (v,J1))/\KO J2 J1/\U v J2=some r):=fun h1 h2 h3 => .inr (.inr (.inl ⟨h1,_,_,h2,h3⟩))
 have K:∀{v J1 J2},o.cls = .k->(FG e->EO E D o e J=some (v,J1))->KO J2 J1->U v J2=some r->(o.cls = .p/\∃v,(FG e->Be o e=some v)/\U v J=some r)\/(o.cls = .l/\∃v,(FG e->Cl E o e J=some v)/\U v J=some r) \/
  (o.cls = .a/\∃v b,(FG e->Ce o e id=some (v,b))/\U v ⟨nx,(id,b)::J.bl⟩=some r) \/
  (o.cls = .k/\∃v J1 J2,(FG e->EO E D o e J=some (v,J1))/\KO J2 J1/\U v J2=some r):=fun h1 h2 h3 h4 => .inr (.inr (.inr ⟨h1,_,_,_,h2,h3,h4⟩))
 cases o with
 | mov x=>
  simp only[C5]at h
  obtain⟨v,hv,hl,h⟩:=Ak h
  exact P rfl (fun he=>by simp only[Be,hv,hl he,if_true]) h
 | bin op t x y=>
  simp only[C5]at h
  obtain⟨v,hv,hl,h⟩:=Ak h
  obtain⟨u,hu,_,h⟩:=Ak h
  obtain⟨w,hw,h⟩:=bJ h
  exact P rfl (fun he=>by simp only[Be,hv,hu,hw]) h
 | un op x=>
  simp only[C5]at h
  obtain⟨v,hv,hl,h⟩:=Ak h
  obtain⟨w,hw,h⟩:=cS h
  exact P rfl (fun he=>by simp only[Be,hv,hw]) h
 | conv t x=>
  cases t with
  | toInt k=>
   simp only[C5]at h
   obtain⟨v,hv,hl,h⟩:=Ak h
   split at h
   ·rw[FO]at h;exact P rfl (fun he=>by simp only[Be,hv]) h
   ·cases h
  | same=>
   simp only[C5]at h
   obtain⟨v,hv,hl,h⟩:=Ak h
   obtain⟨s,rfl,h9⟩:=FX h
   replace h:=h9
   exact P rfl (fun he=>by simp only[Be,hv]) h
  | toBytes el=>
   simp only[C5]at h
   obtain⟨v,hv,hl,h⟩:=Ak h
   obtain⟨s,rfl,h9⟩:=FX h
   replace h:=h9
   obtain⟨hc,h⟩:=Dp h
   exact A rfl (fun he=>by simp only[Ce,hv,hc,if_true]) h
  | toStr=>
   simp only[C5]at h
   obtain⟨v,hv,hl,h⟩:=Ak h
   unfold NF at h
   split at h
   ·cases h
   ·rename_i hns
    obtain⟨n,l,h1,h2⟩:=R7 h
    split at h2
    ·rename_i s hs
     have hnot:(CZ e x).isStr=false:=by
      rw[hv]
      cases v<;>first | rfl | (exact(hns _ rfl).elim)
     refine L rfl (fun he=>?_) h2
     simp only[Cl,hnot]
     rw[hv,h1]
     simp[hs]
    ·cases h2
  | bad=>simp only[C5]at h;cases h
 | nilck x=>
  simp only[C5]at h
  obtain⟨v,hv,hl,h⟩:=Ak h
  obtain⟨b,o,rfl,h9⟩:=D5 h
  replace h:=h9
  exact P rfl (fun he=>by simp only[Be,hv]) h
 | faddr off x=>
  simp only[C5]at h
  obtain⟨v,hv,hl,h⟩:=Ak h
  obtain⟨b,o,rfl,h9⟩:=D5 h
  replace h:=h9
  exact P rfl (fun he=>by simp only[Be,hv];rfl) h
 | field off n x=>
  cases n with
  | none=>
   simp only[C5]at h
   obtain⟨v,hv,hl,h⟩:=Ak h
   obtain⟨l,rfl,h9⟩:=FY h
   replace h:=h9
   obtain⟨u,hu,h⟩:=GU h
   exact P rfl (fun he=>by simp only[Be,hv,hu]) h
  | some n=>
   simp only[C5]at h
   obtain⟨v,hv,hl,h⟩:=Ak h
   obtain⟨l,rfl,h9⟩:=FY h
   replace h:=h9
   obtain⟨hu,h⟩:=GP h
   exact P rfl (fun he=>by simp only[Be,hv,hu,if_true]) h
 | extract i x=>
  simp only[C5]at h
  obtain⟨v,hv,hl,h⟩:=Ak h
  obtain⟨l,rfl,h9⟩:=LS h
  replace h:=h9
  obtain⟨u,hu,h⟩:=GU h
  exact P rfl (fun he=>by simp only[Be,hv,hu]) h
 | iaddrS esz x i=>
  simp only[C5]at h
  obtain⟨v,hv,hl,h⟩:=Ak h
  obtain⟨u,hu,_,h⟩:=Ak h
  split at h
  ·unfold AT at h
   split at h
   ·obtain⟨h1,h⟩:=FP h
    obtain⟨h2,h⟩:=Dp h
    simp only[C1]at h2
    exact P rfl (fun he=>by simp only[Be,hv,hu];rw[if_pos ⟨h1,by omega⟩];rfl) h
   ·cases h
  ·cases h
 | iaddrA len esz x i=>
  simp only[C5]at h
  obtain⟨v,hv,hl,h⟩:=Ak h
  obtain⟨u,hu,_,h⟩:=Ak h
  split at h
  ·obtain⟨b,o,rfl,h9⟩:=D5 h
   replace h:=h9
   obtain⟨h1,h⟩:=FP h
   obtain⟨h2,h⟩:=Dp h
   simp only[C1]at h2
   exact P rfl (fun he=>by simp only[Be,hv,hu];rw[if_pos ⟨h1,by omega⟩];rfl) h
  ·cases h
 | idxStr x i=>
  simp only[C5]at h
  obtain⟨v,hv,hl,h⟩:=Ak h
  obtain⟨u,hu,_,h⟩:=Ak h
  obtain⟨s,rfl,h9⟩:=FX h
  replace h:=h9
  split at h
  ·obtain⟨h1,h⟩:=FP h
   obtain⟨h2,h⟩:=Dp h
   exact P rfl (fun he=>by simp only[Be,hv,hu];rw[if_pos h1,if_pos h2];rfl) h
  ·cases h
 | len b x=>
  cases b with
  | true=>
   simp only[C5]at h
   obtain⟨v,hv,hl,h⟩:=Ak h
   obtain⟨s,rfl,h9⟩:=FX h
   replace h:=h9
   exact P rfl (fun he=>by simp only[Be,hv];rfl) h
  | false=>
   simp only[C5]at h
   obtain⟨v,hv,hl,h⟩:=Ak h
   obtain⟨n,h1,h2⟩:=WU h
   exact P rfl (fun _=>h2 e x hv) h1
 | lenC n=>simp only[C5]at h;exact P rfl (fun he=>by simp only[Be];rfl) h
 | sliceStr x lo hi=>
  simp only[C5]at h
  obtain⟨v,hv,hl,h⟩:=Ak h
  have h:=Eu h
  have h:=Eu h
  obtain⟨s,rfl,h9⟩:=FX h
  replace h:=h9
  unfold R9 at h
  obtain⟨a,ha,h⟩:=OX h
  obtain⟨b,hb,h⟩:=OX h
  obtain⟨hc,h⟩:=Dp h
  exact P rfl (fun he=>by simp only[Be,hv,IU,ha,hb,hc,if_true]) h
 | sliceSl esz x lo hi mx=>
  simp only[C5]at h
  obtain⟨v,hv,hl,h⟩:=Ak h
  have h:=Eu h
  have h:=Eu h
  have h:=Eu h
  obtain⟨u,hu,h⟩:=Kr h
  exact P rfl (fun he=>by simp only[Be,hv,hu]) h
 | sliceArr n esz x lo hi mx=>
  simp only[C5]at h
  obtain⟨v,hv,hl,h⟩:=Ak h
  have h:=Eu h
  have h:=Eu h
  have h:=Eu h
  obtain⟨u,hu,h⟩:=Kr h
  exact P rfl (fun he=>by simp only[Be,hv,hu]) h
 | mkifc t x=>
  simp only[C5]at h
  obtain⟨v,hv,hl,h⟩:=Ak h
  exact P rfl (fun he=>by simp only[Be,hv,hl he,if_true]) h
 | mkfn f a c=>
  simp only[C5]at h
  obtain⟨h1,h⟩:=FZ _ _ _ h
  obtain⟨h2,h⟩:=FZ _ _ _ h
  exact P rfl (fun he=>by simp only[Be,h1 he,h2 he,Bool.and_self,if_true]) h
 | build z ps=>
  simp only[C5]at h
  have h:=Ju _ _ _ h
  obtain⟨l',hf,h⟩:=QL h
  exact P rfl (fun he=>by simp only[Be,hf]) h
 | cap x=>
  simp only[C5]at h
  obtain⟨v,hv,hl,h⟩:=Ak h
  split at h
  ·exact P rfl (fun he=>by simp only[Be,hv]) h
  ·exact P rfl (fun he=>by simp only[Be,hv];rfl) h
  ·cases h
 | min x l=>
  simp only[C5]at h
  obtain⟨v,hv,hl,h⟩:=Ak h
  obtain⟨_,h⟩:=FZ _ _ _ h
  obtain⟨u,hu,h⟩:=Kr h
  split at h
  ·exact P rfl (fun he=>by simp only[Be,hv,hu]) h
  ·cases h
 | max x l=>
  simp only[C5]at h
  obtain⟨v,hv,hl,h⟩:=Ak h
  obtain⟨_,h⟩:=FZ _ _ _ h
  obtain⟨u,hu,h⟩:=Kr h
  split at h
  ·exact P rfl (fun he=>by simp only[Be,hv,hu]) h
  ·cases h
 | load n x=>
  cases n with
  | none=>
   simp only[C5]at h
   obtain⟨v,hv,hl,h⟩:=Ak h
   obtain⟨b,o,rfl,h9⟩:=D5 h
   replace h:=h9
   obtain⟨l,hr,h⟩:=Jt h
   obtain⟨u,hu,h⟩:=GU h
   exact L rfl (fun he=>by simp only[Cl,hv,hr,hu]) h
  | some n=>
   simp only[C5]at h
   obtain⟨v,hv,hl,h⟩:=Ak h
   obtain⟨b,o,rfl,h9⟩:=D5 h
   replace h:=h9
   obtain⟨l,hr,h⟩:=Jt h
   obtain⟨hu,h⟩:=GP h
   exact L rfl (fun he=>by simp only[Cl,hv,NA,hr,hu,if_true]) h
 | alloc el z=>simp only[C5]at h;exact A rfl (fun he=>by simp only[Ce]) h
 | box el x=>
  simp only[C5]at h
  obtain⟨v,hv,hl,h⟩:=Ak h
  obtain⟨hc,h⟩:=Dp h
  exact A rfl (fun he=>by simp only[Ce,hv,hl he,hc,Bool.and_self,if_true]) h
 | buildSlice el n z ps=>
  simp only[C5]at h
  have h:=Ju _ _ _ h
  obtain⟨l',hf,h⟩:=QL h
  obtain⟨hc,h⟩:=Dp h
  exact A rfl (fun he=>by simp only[Ce,hf,hc,if_true]) h
 | mkslice el esz bytes z len cap=>
  simp only[C5]at h
  obtain⟨v,hv,_,h⟩:=Ak h
  obtain⟨u,hu,_,h⟩:=Ak h
  split at h
  ·obtain⟨h1,h⟩:=FP h
   obtain⟨h2,h⟩:=FP h
   obtain⟨hc,h⟩:=Dp h
   simp only[AK,BC]at hc
   obtain⟨⟨c1,c2⟩,c3⟩:=hc
   refine A rfl (fun he=>?_) h
   simp only[Ce,hv,hu]
   have hcb:∀c:Int,0<=c->c*bytes=((c.toNat*bytes:Nat):Int):=fun c h2=>by rw[Int.natCast_mul,Int.toNat_of_nonneg h2]
   rw[if_pos ⟨h1,by omega,by rw[hcb _ h2];omega,by omega⟩]
  ·cases h
 | store n x v=>
  simp only[C5]at h
  obtain⟨p,hp,_,h⟩:=Ak h
  obtain⟨u,hu,_,h⟩:=Ak h
  obtain⟨b,o,rfl,h9⟩:=D5 h
  replace h:=h9
  obtain⟨J1,J2,h1,h2,h3⟩:=cV h
  exact K rfl (fun he=>by simp only[EO,lF,Ej.cls];exact h3 E e x v hp hu) h2 h1
 | append el esz bytes s x=>
  simp only[C5]at h
  obtain⟨p,hp,_,h⟩:=Ak h
  obtain⟨u,hu,_,h⟩:=Ak h
  obtain⟨v,J1,h1,h2⟩:=Sg h
  exact K rfl (fun he=>by simp only[EO,lF,Ej.cls,Ef,hp,hu];exact h1) (KO.refl _) h2
 | copy esz d s=>
  simp only[C5]at h
  obtain⟨p,hp,_,h⟩:=Ak h
  obtain⟨u,hu,_,h⟩:=Ak h
  obtain⟨v,J1,h1,h2⟩:=Hr h
  exact K rfl (fun he=>by simp only[EO,lF,Ej.cls];rw[ep,hp,hu];exact h1) (KO.refl _) h2
 | call f args=>
  simp only[C5]at h
  obtain⟨h1,h⟩:=FZ _ _ _ h
  obtain⟨v,J1,h2,h3⟩:=Hr h
  exact K rfl (fun he=>by simp only[EO,h1 he,if_true];exact h2) (KO.refl _) h3
 | callv f args=>
  simp only[C5]at h
  obtain⟨p,hp,_,h⟩:=Ak h
  obtain⟨h1,h⟩:=FZ _ _ _ h
  unfold Ed at h
  split at h
  ·obtain⟨v,J1,h2,h3⟩:=Hr h
   exact K rfl (fun he=>by simp only[EO,hp,h1 he,if_true];exact h2) (KO.refl _) h3
  ·cases h
 | mkmap=>simp only[C5]at h;exact A rfl (fun he=>by simp only[Ce]) h
 | lookup t z m x=>
  simp only[C5]at h
  obtain⟨p,hp,_,h⟩:=Ak h
  obtain⟨u,hu,_,h⟩:=Ak h
  obtain⟨v,hv,h⟩:=Kr h
  exact L rfl (fun he=>by simp only[Cl,hp,hu];exact hv) h
 | mapset t m k v=>
  simp only[C5]at h
  obtain⟨p,hp,_,h⟩:=Ak h
  obtain⟨u,hu,_,h⟩:=Ak h
  obtain⟨x,hx,_,h⟩:=Ak h
  obtain⟨y,J1,h1,h2⟩:=Hr h
  exact K rfl (fun he=>by simp only[EO,lF,Ej.cls,Ef,hp,hu,hx];exact h1) (KO.refl _) h2
 | alloc0 el=>simp only[C5]at h;exact A rfl (fun he=>by simp only[Ce]) h
 | box0 el x=>
  simp only[C5]at h
  obtain⟨v,hv,hl,h⟩:=Ak h
  split at h
  ·exact A rfl (fun he=>by simp only[Ce,hv]) h
  ·cases h
 | load0 x=>
  simp only[C5]at h
  obtain⟨v,hv,hl,h⟩:=Ak h
  obtain⟨b,o,rfl,h9⟩:=D5 h
  replace h:=h9
  exact P rfl (fun he=>by simp only[Be,hv]) h
 | store0 x v=>
  simp only[C5]at h
  obtain⟨p,hp,_,h⟩:=Ak h
  obtain⟨u,hu,_,h⟩:=Ak h
  split at h
  ·exact K rfl (fun he=>by simp only[EO,lF,Ej.cls,Ef,hp,hu]) (KO.refl _) h
  ·cases h
 | faddr0 t x=>
  simp only[C5]at h
  obtain⟨p,hp,_,h⟩:=Ak h
  obtain⟨v,hv,h⟩:=Kr h
  exact L rfl (fun he=>by simp only[Cl,hp];exact hv) h
 | idxArr n esz s x i=>
  cases s with
  | none=>
   simp only[C5]at h
   obtain⟨p,hp,_,h⟩:=Ak h
   obtain⟨u,hu,_,h⟩:=Ak h
   obtain⟨l,rfl,h9⟩:=FY h
   replace h:=h9
   split at h
   ·obtain⟨h1,h⟩:=FP h
    obtain⟨hc,h⟩:=Dp h
    obtain⟨v,hv,h⟩:=GU h
    simp only[C1]at hc
    exact P rfl (fun he=>by simp only[Be,hp,hu,Lm];rw[if_pos ⟨h1,by omega⟩];exact hv) h
   ·cases h
  | some s=>
   simp only[C5]at h
   obtain⟨p,hp,_,h⟩:=Ak h
   obtain⟨u,hu,_,h⟩:=Ak h
   obtain⟨l,rfl,h9⟩:=FY h
   replace h:=h9
   split at h
   ·obtain⟨h1,h⟩:=FP h
    obtain⟨hc,h⟩:=Dp h
    obtain⟨hv,h⟩:=GP h
    simp only[C1]at hc
    exact P rfl (fun he=>by simp only[Be,hp,hu,Lm];rw[if_pos ⟨h1,by omega⟩];simp only[Nat.mul_eq]at hv ⊢;rw[if_pos hv]) h
   ·cases h
 | pick c a b=>simp only[C5]at h;cases h
 | bad=>simp only[C5]at h;cases h
inductive Out where
 | val (v:V) (r:Rg) (J:H)
 | mark (m off:Nat)
inductive GK (E:EB) (D:Az) (pw:Bool) (id nx:Nat) (o:Ej) (e:CF) (q:Qs) (r:Rg) (J:H):Out->Prop where
 | p (v:V) (hc:o.cls = .p) (h:FG e->Be o e=some v):GK E D pw id nx o e q r J (.val v r J)
 | l (v:V) (hc:o.cls = .l) (h:FG e->Cl E o e J=some v):GK E D pw id nx o e q r J (.val v r J)
 | a (v:V) (b:GL) (hc:o.cls = .a) (h:FG e->Ce o e id=some (v,b)):GK E D pw id nx o e q r J (.val v r ⟨nx,(id,b)::J.bl⟩)
 | k (v:V) (J1 J2:H) (hc:o.cls = .k) (h:FG e->EO E D o e J=some (v,J1)) (hs:KO J2 J1):GK E D pw id nx o e q r J (.val v r J2)
 | mv (x:AO) (m off:Nat) (ho:o = .mov x\/o = .nilck x) (hm:Fh q x=some (m,off)):GK E D pw id nx o e q r J (.mark m off)
 | fa (d:Nat) (x:AO) (m off:Nat) (ho:o = .faddr d x) (hm:Fh q x=some (m,off)):GK E D pw id nx o e q r J (.mark m (off+d))
 | ld (x:AO) (m off:Nat) (l:List V) (v:V) (ho:o = .load none x) (hm:Fh q x=some (m,off)) (hl:look r m=some l) (h:l[off]? = some v):GK E D pw id nx o e q r J (.val v r J)
 | ldn (n:Nat) (x:AO) (m off:Nat) (l:List V) (ho:o = .load (some n) x) (hm:Fh q x=some (m,off)) (hl:look r m=some l) (h:off+n<=l.length):GK E D pw id nx o e q r J (.val (.agg ((l.drop off).take n)) r J)
 | st (n:Nat) (x y:AO) (m off:Nat) (l cs:List V) (u:V) (hw:pw=true) (ho:o = .store n x y) (hm:Fh q x=some (m,off)) (hl:look r m=some l) (hn:Fh q y=none) (hu:CZ e y=u) (hlu:FG e->u.live=true)
   (hcs:cs=u.cells) (h1:allOne cs=true) (hlen:cs.length=n) (h:off+n<=l.length):GK E D pw id nx o e q r J (.val .dead (LC r m (Hg l off cs)) J)
theorem aJ {v:V} (h:v.one=true):v.cells=[v]:=by cases v<;>first | rfl | cases h
theorem VZ {ty:DM} {v:V} {U:List V->AH} {r:V × H} (h:Wx ty v U=some r):allOne v.cells=true/\U v.cells=some r:=by
 unfold Wx at h
 split at h
 ·obtain⟨l,rfl,h2⟩:=FY h
  obtain⟨hc,h2⟩:=Dp h2
  exact⟨hc,h2⟩
 ·obtain⟨h1,h2⟩:=LU h
  rw[aJ h1]
  exact⟨by simp[allOne,h1],h2⟩
theorem mD {ty:DM} {v:V} {U:V->AH} {r:V × H} (h:rt ty v U=some r) (hk:ty.known=true):v.live=true:=by
 cases ty with
 | any=>cases hk
 | int k=>simp only[rt]at h;obtain⟨n,rfl,_⟩:=Pk h;rfl
 | bool=>simp only[rt]at h;obtain⟨n,rfl,_⟩:=Ff h;rfl
 | str=>simp only[rt]at h;obtain⟨n,rfl,_⟩:=FX h;rfl
 | ptr=>simp only[rt]at h;obtain⟨b,o,rfl,_⟩:=D5 h;rfl
 | one=>simp only[rt]at h;have:=(LU h).1;cases v<;>first | rfl | cases this
 | agg ts=>simp only[rt]at h;obtain⟨l,rfl,_⟩:=FY h;rfl
 | tup ts=>simp only[rt]at h;obtain⟨l,rfl,_⟩:=LS h;rfl
theorem dO {E:EB} {D:Az} {pw:Bool} {id nx:Nat} {o:Ej} {ty:DM} {e:CF} {q:Qs} {r:Rg} {J:H} {U:V->Rg->H->AH} {Um:Nat->Nat->AH} {res:V × H}
  (h:lD E D pw id nx o ty e q r J U Um=some res) :
  ∃out,GK E D pw id nx o e q r J out/\(match out with
   | .val v r' J'=>U v r' J'=some res/\((∃n x y,o = .store n x y)\/o.cls ≠ .k\/ty.known=false\/v.live=true)
   | .mark m off=>Um m off=some res):=by
 have gen:(C5 E D id nx o e J fun v J'=>rt ty v fun v'=>U v' r J')=some res->∃out,GK E D pw id nx o e q r J out/\(match out with
   | .val v r' J'=>U v r' J'=some res/\((∃n x y,o = .store n x y)\/o.cls ≠ .k\/ty.known=false\/v.live=true)
   | .mark m off=>Um m off=some res):=by
  intro h
  rcases Ym h with ⟨hc,v,h1,h2⟩|⟨hc,v,h1,h2⟩|⟨hc,v,b,h1,h2⟩|⟨hc,v,J1,J2,h1,h2,h3⟩
  ·exact⟨_,.p v hc h1,HG _ _ _ _ h2,.inr (.inl (by rw[hc];intro h;cases h))⟩
  ·exact⟨_,.l v hc h1,HG _ _ _ _ h2,.inr (.inl (by rw[hc];intro h;cases h))⟩
  ·exact⟨_,.a v b hc h1,HG _ _ _ _ h2,.inr (.inl (by rw[hc];intro h;cases h))⟩
  ·refine⟨_,.k v J1 J2 hc h1 h2,HG _ _ _ _ h3,?_⟩
   cases hk:ty.known with
   | false=>exact .inr (.inr (.inl rfl))
   | true=>exact .inr (.inr (.inr (mD h3 hk)))
 have np:∀{c:Cls},c = .p\/c = .l->c ≠ .k:=by rintro c (rfl | rfl)<;>(intro h;cases h)
 cases o with
 | mov x=>
  simp only[lD]at h
  split at h
  ·rename_i m off hm;exact⟨_,.mv x m off (.inl rfl) hm,h⟩
  ·exact gen h
 | nilck x=>
  simp only[lD]at h
  split at h
  ·rename_i m off hm;exact⟨_,.mv x m off (.inr rfl) hm,h⟩
  ·exact gen h
 | faddr d x=>
  simp only[lD]at h
  split at h
  ·rename_i m off hm;exact⟨_,.fa d x m off rfl hm,h⟩
  ·exact gen h
 | load n x=>
  cases n with
  | none=>
   simp only[lD]at h
   split at h
   ·rename_i m off hm
    split at h
    ·rename_i l hl
     obtain⟨v,hv,h⟩:=GU h
     exact⟨_,.ld x m off l v rfl hm hl hv,HG _ _ _ _ h,.inr (.inl (by intro h;cases h))⟩
    ·cases h
   ·exact gen h
  | some n=>
   simp only[lD]at h
   split at h
   ·rename_i m off hm
    split at h
    ·rename_i l hl
     obtain⟨hv,h⟩:=GP h
     exact⟨_,.ldn n x m off l rfl hm hl (by simpa using hv),HG _ _ _ _ h,.inr (.inl (by intro h;cases h))⟩
    ·cases h
   ·exact gen h
 | store n x v=>
  simp only[lD]at h
  split at h
  ·rename_i m off hm
   split at h
   ·rename_i l hl
    split at h
    ·rename_i hn
     obtain⟨u,hu,hlu,h⟩:=Ak h
     obtain⟨h1,h⟩:=VZ h
     obtain⟨hc,h⟩:=Dp h
     simp only[AK,AV,BC]at hc
     exact⟨_,.st n x v m off l u.cells u rfl rfl hm hl hn hu hlu rfl h1 hc.1 hc.2,h,.inl ⟨n,x,v,rfl⟩⟩
    ·cases h
   ·cases h
  ·have h:(C5 E D id nx (.store n x v) e J fun v J'=>U v r J')=some res:=h
   rcases Ym h with ⟨hc,v,h1,h2⟩|⟨hc,v,h1,h2⟩|⟨hc,v,b,h1,h2⟩|⟨hc,v,J1,J2,h1,h2,h3⟩
   ·cases hc
   ·cases hc
   ·cases hc
   ·exact⟨_,.k v J1 J2 hc h1 h2,h3,.inl ⟨_,_,_,rfl⟩⟩
 | _=>exact gen (by simpa only [lD]using h)
variable {P:Program} {D:Az} {C:Cx} {R:Cz} {J:H} {w w':World}
abbrev Bs:=Nat->Option BI
structure V8 (C:Cx) (R:Cz) (B:Bs) (r:Rg) (J:H) (w:World):Prop where
 at_:∀m i,B m=some i->C.O i.blk/\∃l,look r m=some l/\FD R i (.cells l) w
 inj:∀m m' i i',B m=some i->B m'=some i'->i.blk=i'.blk->m=m'
 apart:∀m i,B m=some i->∀id b j,look J.bl id=some b->R id=some j->j.blk≠i.blk
structure HR (R:Cz) (e:CF) (tmps:Array Value):Prop where
 at_:∀(k:Nat) (v:V),look e k=some v->∃x,tmps[k]? = some x/\Au R v=some x
structure UU (B:Bs) (q:Qs) (tmps:Array Value):Prop where
 at_:∀(k m off:Nat),look q k=some (m,off)->∃i,B m=some i/\tmps[k]? = some (.pointer (some ⟨i.blk,i.shift+off,none⟩))
theorem Ma {v:V} {x:Value} (h:Au R v=some x):v.live=true:=by
 cases v<;>first | rfl | (simp[Au]at h)
theorem HR.env {e:CF} {tmps:Array Value} (h:HR R e tmps):B9 R e tmps:=⟨fun k v hk => .inr (h.at_ k v hk)⟩
theorem HR.live {e:CF} {tmps:Array Value} (h:HR R e tmps):FG e:=fun t v ht=>by
 obtain⟨x,_,hx⟩:=h.at_ t v ht
 exact Ma hx
theorem HR.mono {R':Cz} {e:CF} {tmps:Array Value} (h:HR R e tmps) (hle:Le R R'):HR R' e tmps:=
 ⟨fun k v hk=>by obtain⟨x,h1,h2⟩:=h.at_ k v hk;exact⟨x,h1,Cq hle v x h2⟩⟩
theorem Ds.frame (h:Ds C R J w) (hold:∀blk,blk<w.heap.size->((∃id b j,look J.bl id=some b/\R id=some j/\j.blk=blk)\/¬C.O blk)->w'.heap[blk]? = w.heap[blk]?)
  (hsz:w.heap.size<=w'.heap.size) (hos:w'.os=w.os) (htape:w'.tape=w.tape) (hout:w'.output=w.output):Ds C R J w':=by
 refine⟨h.fresh,?_,h.inj,?_,h.glob,?_,Ae h.size hsz,h.new,hos.trans h.os,htape.trans h.tape,hout.trans h.output⟩
 ·intro id b hb
  obtain⟨i,hi,hO,hok⟩:=h.own id b hb
  exact⟨i,hi,hO,hok.mono (Le.refl _) (hold _ hok.lt (.inl ⟨id,b,i,hb,hi,rfl⟩))⟩
 ·intro id b hb
  obtain⟨i,hi,hn,hok⟩:=h.ext id b hb
  refine⟨i,hi,hn,hok.mono (Le.refl _) (hold _ ?_ (.inr hn))⟩
  rcases Al i.blk w.heap.size with hl|hl
  ·exact hl
  ·exact absurd (h.new _ (Ae h.size hl)) hn
 ·intro blk hn
  rw[<-h.fr blk hn]
  rcases Al blk w.heap.size with hl|hl
  ·exact hold _ hl (.inr hn)
  ·exact absurd (h.new _ (Ae h.size hl)) hn
theorem V8.mono {R':Cz} {B:Bs} {r:Rg} {J':H} (h:V8 C R B r J w) (hle:Le R R') (hold:∀m i,B m=some i->w'.heap[i.blk]? = w.heap[i.blk]?)
  (hap:∀m i,B m=some i->∀id b j,look J'.bl id=some b->R' id=some j->j.blk≠i.blk):V8 C R' B r J' w' where
 at_ m i hm:=by
  obtain⟨hO,l,hl,hok⟩:=h.at_ m i hm
  exact⟨hO,l,hl,hok.mono hle (hold m i hm)⟩
 inj:=h.inj
 apart:=hap
theorem V8.lt {B:Bs} {r:Rg} (h:V8 C R B r J w) {m:Nat} {i:BI} (hm:B m=some i):i.blk<w.heap.size:=by
 obtain⟨_,l,_,hok⟩:=h.at_ m i hm
 exact hok.lt
theorem V8.one (h:Ds C R J w) {B:Bs} {r:Rg} (hp:V8 C R B r J w) {m:Nat} {i:BI} (hm:B m=some i) {l:List V} (hl:look r m=some l) :
  Ds { C with O:=fun blk=>blk=i.blk\/w.heap.size<=blk,w0:=w } (IS R J.next i) ⟨J.next+1,[(J.next,.cells l)]⟩ w:=by
 have hle:Le R (IS R J.next i):=(E5 R J.next i).le h.fresh
 obtain⟨hO,l',hl',hok⟩:=hp.at_ m i hm
 rw[hl]at hl';cases hl'
 have hsub:∀blk,(blk=i.blk\/w.heap.size<=blk)->C.O blk:=by
  rintro blk (rfl|hg)
  ·exact hO
  ·exact h.new _ (Ae h.size hg)
 have hlook:∀id b,look [(J.next,GL.cells l)] id=some b->id=J.next/\b = .cells l:=by
  intro id b hb
  simp only[look,AV]at hb
  split at hb
  ·rename_i he;cases hb;exact⟨he.symm,rfl⟩
  ·cases hb
 refine⟨?_,?_,?_,?_,?_,fun _ _=>rfl,AN _,fun _ hb => .inr hb,rfl,rfl,rfl⟩
 ·intro id hid
  have hid':J.next+1<=id:=hid
  rw[Bt (by omega)];exact h.fresh id (by omega)
 ·intro id b hb
  obtain⟨rfl,rfl⟩:=hlook id b hb
  exact⟨i,CL _ _ _,.inl rfl,hok.mono hle rfl⟩
 ·intro id id' b b' j j' hb hb' _ _ _
  rw[(hlook id b hb).1,(hlook id' b' hb').1]
 ·intro id b hb
  obtain⟨j,hj,hn,hk⟩:=h.ext id b hb
  exact⟨j,hle _ _ hj,fun ho=>hn (hsub _ ho),hk.mono hle rfl⟩
 ·intro g hg
  obtain⟨j,hj,hb⟩:=h.glob g hg
  exact⟨j,hle _ _ hj,hb⟩
theorem B9.cons {e:CF} {tmps:Array Value} (h:B9 R e tmps) {t:Nat} {v:V} {x:Value} (ht:tmps[t]? = some x) (hv:Au R v=some x):B9 R ((t,v)::e) tmps:=by
 refine⟨fun k u hk=>?_⟩
 simp only[look,AV]at hk
 split at hk
 ·rename_i he;subst he;cases hk;exact .inr ⟨x,ht,hv⟩
 ·exact h.at_ k u hk
theorem Hj {α:Type} {l:List (Nat × α)} {m:Nat} {a c:α} (h:look l m=some a) (k:Nat):look (LC l m c) k=if m=k then some c else look l k:=by
 rw[Ha]
 by_cases he:m=k
 ·subst he;rw[if_pos rfl,if_pos rfl,h];rfl
 ·rw[if_neg he,if_neg he]
structure UW (C:Cx) (R:Cz) (B:Bs) (r:Rg) (J:H) (w:World):Prop where
 rel:Ds C R J w
 priv:V8 C R B r J w
theorem MF (hD:∀f,Cb P C.E C.G f (D f)) {B:Bs} {r:Rg} (hm:UW C R B r J w) {a:Act} {e:CF} {q:Qs} (he:HR R e a.tmps) (hq:UU B q a.tmps)
    (o:Oper) {pw:Bool} {id nx:Nat} (hid:R id=none) (hlt:id<nx) (hnx:J.next<=nx) {out:Out} (h:GK C.E D pw id nx (Ag P C.G o.op) e q r J out) (K:Act->World->Prop) (Q:Exit->Act->World->Prop)
    (hV:∀v r' J',out = .val v r' J'->∀R' w' x,Le R R'->(∀k,k<J.next->k≠id->R' k=R k)->J.next<=J'.next->UW C R' B r' J' w'->((v = .dead/\(Ag P C.G o.op).cls = .k)\/Au R' v=some x)->K (a.put o.dst x) w')
    (hM:∀m off,out = .mark m off->∀i,B m=some i->K (a.put o.dst (.pointer (some ⟨i.blk,i.shift+off,none⟩))) w):o.wp P a w K Q:=by
  obtain⟨hrel,hpriv⟩:=hm
  have hg:=hrel.globOk
  have hmark:∀x m off,Fh q x=some (m,off)->∃t i,x = .tmp t/\B m=some i/\a.tmps[t]? = some (.pointer (some ⟨i.blk,i.shift+off,none⟩)):=by
    intro x m off hx
    cases x with
    | con v=>cases hx
    | tmp t=>
      obtain⟨i,h1,h2⟩:=hq.at_ t m off hx
      exact⟨t,i,rfl,h1,h2⟩
  have hle2:∀i,Le R (IS R J.next i):=fun i=>(E5 R J.next i).le hrel.fresh
  have hg2:∀i,Dw C.G (IS R J.next i):=fun i g hgg=>by
    obtain⟨j,hj,hb⟩:=hg g hgg
    exact⟨j,hle2 i _ _ hj,hb⟩
  have hcp:∀i off,Au (IS R J.next i) (.ptr J.next off)=some (.pointer (some ⟨i.blk,i.shift+off,none⟩)):=fun i off=>DG (CL _ _ _)
  cases h with
  | p v hc h=>
    replace h:=h he.live
    obtain⟨x,hx,hrun⟩:=Mm (a:=a) (P:=P) he.env hg o h w
    unfold Oper.wp;rw[hrun]
    exact hV v r J rfl R w x (Le.refl _) (fun _ _ _=>rfl) (AN _) ⟨hrel,hpriv⟩ (.inr hx)
  | l v hc h=>
    replace h:=h he.live
    obtain⟨x,hx,hrun⟩:=Mn (a:=a) (P:=P) hrel he.env o h
    unfold Oper.wp;rw[hrun]
    exact hV v r J rfl R w x (Le.refl _) (fun _ _ _=>rfl) (AN _) ⟨hrel,hpriv⟩ (.inr hx)
  | a v b hc h=>
    replace h:=h he.live
    obtain⟨x,w',i,hrun,hn,hi,hx,hok⟩:=O7 (a:=a) (P:=P) he.env hg o h hid w
    unfold Oper.wp;rw[hrun]
    have hle:Le R (IS R id i):=fun k j hk=>by
      by_cases hke:k=id
      · subst hke;rw[hid]at hk;cases hk
      · rw[Bt hke];exact hk
    have hrel1:Ds C R ⟨nx,J.bl⟩ w:=hrel.congr (fun k hk=>hrel.fresh k (Ae hnx hk)) (fun _ _ hb=>hb)
    have hrel2:Ds C (IS R id i) ⟨nx,(id,b)::J.bl⟩ w':=by
      refine hrel1.allocAt hid hlt hn b i hi hok rfl (fun k=>?_)
      simp only[look,AV]
      by_cases hk:k=id
      · subst hk;simp
      · rw[if_neg (Ne.symm hk),if_neg hk]
    refine hV v r _ rfl (IS R id i) w' x hle (fun k _ hk=>Bt hk) hnx ⟨hrel2,hpriv.mono hle (fun m j hj=>hn.old _ (hpriv.lt hj)) (fun m j hj k c j' hk hj'=>?_)⟩ (.inr hx)
    simp only[look,AV]at hk
    split at hk
    · rename_i he';subst he'
      rw[CL]at hj';cases hj'
      have:=hpriv.lt hj
      omega
    · rename_i he'
      rw[Bt (Ne.symm he')]at hj'
      exact hpriv.apart m j hj k c j' hk hj'
  | k v J1 J2 hc h hs=>
    replace h:=h he.live
    have hsh:Ds (C.sub R J w) R J w:=hrel.shrink (Js:=J) rfl (fun _ _ hb=>hb)
    refine O4 (C:=C.sub R J w) hD rfl rfl hsh he.env o h K Q (fun R' w' x hx hn hrel' hv=>?_)
    have hle:Le R R':=hx.le hrel.fresh
    have hno:∀m i,B m=some i->¬(C.sub R J w).O i.blk:=by
      rintro m i hm (hg|⟨k,b,j,hb,hj,hbl⟩)
      · have:=hpriv.lt hm;omega
      · exact hpriv.apart m i hm k b j hb hj hbl
    have hrel2:Ds C R' J1 w':=hrel.regrow (Js:=J) (fun _ _ hb=>hb) hrel' hx rfl (fun k b hk => .inl hk)
    have hrel3:Ds C R' J2 w':=hrel2.congr (fun k hk=>hrel2.fresh k (by rw[<-hs.next];exact hk)) hs.sub
    have hv:(v = .dead/\(Ag P C.G o.op).cls = .k)\/Au R' v=some x:=hv.imp (fun h=>⟨h,hc⟩) (fun h=>h)
    refine hV v r J2 rfl R' w' x hle (fun k hk _=>hx k hk) (by rw[hs.next];exact hn) ⟨hrel3,hpriv.mono hle (fun m i hm=>hrel'.fr _ (hno m i hm)) (fun m i hm k b j hk hj hbl=>?_)⟩ hv
    obtain⟨j',hj',hO,_⟩:=hrel'.own k b (hs.sub k b hk)
    rw[hj]at hj';cases hj'
    exact hno m i hm (hbl ▸ hO)
  | mv x m off ho hmx=>
    obtain⟨t,i,rfl,hB,ht⟩:=hmark x m off hmx
    have he2:B9 (IS R J.next i) [(t,.ptr J.next off)] a.tmps:=B9.cons ⟨fun k v hk=>by simp[look]at hk⟩ ht (hcp i off)
    have hap:Be (Ag P C.G o.op) [(t,.ptr J.next off)]=some (.ptr J.next off):=by
      have hop:CZ [(t,V.ptr J.next off)] (.tmp t) = .ptr J.next off:=by simp[CZ,Gb,look]
      rcases ho with ho|ho<;>rw[ho]<;>simp only[Be,hop,V.live,if_true]
    obtain⟨x,hx,hrun⟩:=Mm (a:=a) (P:=P) he2 (hg2 i) o hap w
    rw[hcp i off]at hx;cases hx
    unfold Oper.wp;rw[hrun]
    exact hM m off rfl i hB
  | fa d x m off ho hmx=>
    obtain⟨t,i,rfl,hB,ht⟩:=hmark x m off hmx
    have he2:B9 (IS R J.next i) [(t,.ptr J.next off)] a.tmps:=B9.cons ⟨fun k v hk=>by simp[look]at hk⟩ ht (hcp i off)
    have hap:Be (Ag P C.G o.op) [(t,.ptr J.next off)]=some (.ptr J.next (off+d)):=by
      have hop:CZ [(t,V.ptr J.next off)] (.tmp t) = .ptr J.next off:=by simp[CZ,Gb,look]
      rw[ho];simp only[Be,hop]
    obtain⟨x,hx,hrun⟩:=Mm (a:=a) (P:=P) he2 (hg2 i) o hap w
    rw[hcp i (off+d)]at hx;cases hx
    unfold Oper.wp;rw[hrun]
    exact hM m (off+d) rfl i hB
  | ld x m off l v ho hmx hl h=>
    obtain⟨t,i,rfl,hB,ht⟩:=hmark x m off hmx
    have hr2:=hpriv.one hrel hB hl
    have he2:B9 (IS R J.next i) [(t,.ptr J.next off)] a.tmps:=B9.cons ⟨fun k v hk=>by simp[look]at hk⟩ ht (hcp i off)
    have hap:Cl C.E (Ag P C.G o.op) [(t,.ptr J.next off)] ⟨J.next+1,[(J.next,.cells l)]⟩=some v:=by
      have hop:CZ [(t,V.ptr J.next off)] (.tmp t) = .ptr J.next off:=by simp[CZ,Gb,look]
      rw[ho];simp[Cl,hop,rd,look,h]
    obtain⟨x,hx,hrun⟩:=Mn (a:=a) (P:=P) hr2 he2 o hap
    unfold Oper.wp;rw[hrun]
    obtain⟨_,l',hl',hok⟩:=hpriv.at_ m i hB
    rw[hl]at hl';cases hl'
    obtain⟨arr,el,lo,hi,_,hh,_⟩:=hok
    obtain⟨y,hy,_⟩:=hh off v h
    have hyx:=Cq (hle2 i) v y hy
    rw[hx]at hyx;cases hyx
    exact hV v r J rfl R w x (Le.refl _) (fun _ _ _=>rfl) (AN _) ⟨hrel,hpriv⟩ (.inr hy)
  | ldn n x m off l ho hmx hl h=>
    obtain⟨t,i,rfl,hB,ht⟩:=hmark x m off hmx
    have hr2:=hpriv.one hrel hB hl
    have he2:B9 (IS R J.next i) [(t,.ptr J.next off)] a.tmps:=B9.cons ⟨fun k v hk=>by simp[look]at hk⟩ ht (hcp i off)
    have hap:Cl C.E (Ag P C.G o.op) [(t,.ptr J.next off)] ⟨J.next+1,[(J.next,.cells l)]⟩=some (.agg ((l.drop off).take n)):=by
      have hop:CZ [(t,V.ptr J.next off)] (.tmp t) = .ptr J.next off:=by simp[CZ,Gb,look]
      rw[ho];simp[Cl,hop,NA,rd,look,h]
    obtain⟨x,hx,hrun⟩:=Mn (a:=a) (P:=P) hr2 he2 o hap
    unfold Oper.wp;rw[hrun]
    obtain⟨_,l',hl',hok⟩:=hpriv.at_ m i hB
    rw[hl]at hl';cases hl'
    obtain⟨arr,el,lo,hi,_,hh,_⟩:=hok
    obtain⟨xs,hxs,_⟩:=hh.cells h
    have hy:Au R (.agg ((l.drop off).take n))=some (.agg xs.toArray):=Dj hxs
    have hyx:=Cq (hle2 i) _ _ hy
    rw[hx]at hyx;cases hyx
    exact hV _ r J rfl R w _ (Le.refl _) (fun _ _ _=>rfl) (AN _) ⟨hrel,hpriv⟩ (.inr hy)
  | st n x y m off l cs u hw ho hmx hl hn hu hlu hcs h1 hlen h=>
    replace hlu:=hlu he.live
    obtain⟨t,i,rfl,hB,ht⟩:=hmark x m off hmx
    have hr2:=hpriv.one hrel hB hl
    have he2:B9 (IS R J.next i) ((t,.ptr J.next off)::e) a.tmps:=B9.cons (he.env.mono (hle2 i)) ht (hcp i off)
    have hop:CZ ((t,V.ptr J.next off)::e) (.tmp t) = .ptr J.next off:=by simp[CZ,Gb,look]
    have hoy:CZ ((t,V.ptr J.next off)::e) y=u:=by
      rw[<-hu]
      cases y with
      | con v=>rfl
      | tmp s=>
        have hne:¬t=s:=fun hts=>by subst hts;simp only[Fh]at hn hmx;rw[hn]at hmx;cases hmx
        simp only[CZ,Gb,look,AV,hne,if_false]
    have hap:EO C.E D (Ag P C.G o.op) ((t,.ptr J.next off)::e) ⟨J.next+1,[(J.next,.cells l)]⟩=some (.dead,(⟨J.next+1,[(J.next,.cells l)]⟩:H).set J.next (.cells (Hg l off cs))):=by
      rw[ho]
      simp only[EO,lF,Ej.cls,Ef,hop,hoy]
      simp only[look,AV,if_true]
      rw[if_pos]
      · rw[hcs]
      · simp only[AK,AV,BC]
        exact⟨⟨by rw[<-hcs];exact hlen,h⟩,by rw[<-hcs];exact h1⟩
    refine O4 (C:={ C with O:=fun blk=>blk=i.blk\/w.heap.size<=blk,w0:=w }) hD rfl rfl hr2 he2 o hap K Q (fun R' w' x hx hn' hrel' hv=>?_)
    have hR'n:R' J.next=some i:=by rw[hx J.next (Bz _)];exact CL _ _ _
    obtain⟨j,hj,_,hok⟩:=hrel'.own J.next (.cells (Hg l off cs)) (by simp[H.set,LC,look])
    rw[hR'n]at hj;cases hj
    have hRR':Le R R':=(hle2 i).trans (hx.le (fun k hk=>by
      have hk':J.next+1<=k:=hk
      rw[Bt (by omega)];exact hrel.fresh k (by omega)))
    obtain⟨hOi,l',hl',hokl⟩:=hpriv.at_ m i hB
    rw[hl]at hl';cases hl'
    have hcell:∀u':V,(∃k:Nat,(Hg l off cs)[k]? = some u')->∃y,Au R u'=some y:=by
      rintro u' ⟨k,hk⟩
      rw[MG]at hk
      split at hk
      · split at hk
        · have huc:∃z,Au R u=some z:=by
            obtain⟨oy,rfl⟩:∃oy,y=Ap C.G oy:=by
              obtain⟨dst,op,ty,pos,after,guard⟩:=o
              simp only at ho
              cases op<;>simp only[Ag]at ho<;>(try (first | (cases ho;done) | ((repeat' split at ho)<;>(cases ho;done))))
              · split at ho
                · cases ho
                · simp only[Ej.store.injEq]at ho;exact⟨_,ho.2.2.symm⟩
                · cases ho
              · rename_i fn _ _;cases fn<;>cases ho
              · rename_i r;cases r<;>cases ho
              · rename_i ok;cases ok
                · cases ho
                · simp only at ho;split at ho<;>cases ho
              · rename_i c
                obtain⟨callee,cargs,argTypes⟩:=c
                simp only at ho
                split at ho
                · unfold LK at ho;(repeat' split at ho)<;>cases ho
                · cases ho
                · cases ho
                · cases ho
            exact⟨_,ev (a:=a) he.env hg hu hlu⟩
          obtain⟨z,hz⟩:=huc
          have hcc:=Hp hz
          rw[<-hcs]at hcc
          obtain⟨y',hy',_⟩:=EI hcc hk
          exact⟨y',hy'⟩
        · cases hk
      · obtain⟨arr,el,lo,hi,_,hh,_⟩:=hokl
        obtain⟨y',hy',_⟩:=hh k u' hk
        exact⟨y',hy'⟩
    have hokR:FD R i (.cells (Hg l off cs)) w':=by
      obtain⟨arr,el,lo,hi,h1',h2',h3',h4',h5'⟩:=hok
      refine⟨arr,el,lo,hi,h1',fun k v hk=>?_,h3',h4',h5'⟩
      obtain⟨y',hy',hone,harr⟩:=h2' k v hk
      obtain⟨y2,hy2⟩:=hcell v ⟨k,hk⟩
      have:=Cq hRR' v y2 hy2
      rw[hy']at this;cases this
      exact⟨_,hy2,hone,harr⟩
    have hfr:∀blk,blk<w.heap.size->blk≠i.blk->w'.heap[blk]? = w.heap[blk]? := fun blk hb hne=>hrel'.fr blk (by rintro(h | h);exact hne h;omega)
    have hrelw:Ds C R J w':=hrel.frame (fun blk hb hor=>by
      refine hfr blk hb ?_
      rcases hor with ⟨k,b,j,hk,hj,rfl⟩|hno
      · exact hpriv.apart m i hB k b j hk hj
      · intro he';exact hno (he' ▸ hOi)) hrel'.size hrel'.os hrel'.tape hrel'.output
    refine hV .dead _ J rfl R w' x (Le.refl _) (fun _ _ _=>rfl) (AN _) ⟨hrelw,⟨fun m' i' hm'=>?_,hpriv.inj,hpriv.apart⟩⟩ (.inl ⟨rfl,by rw[ho];rfl⟩)
    obtain⟨hO',l2,hl2,hok2⟩:=hpriv.at_ m' i' hm'
    refine⟨hO',?_⟩
    by_cases hmm:m=m'
    · subst hmm
      rw[hB]at hm';cases hm'
      exact⟨_,by rw[Hj hl,if_pos rfl],hokR⟩
    · refine⟨l2,by rw[Hj hl,if_neg hmm];exact hl2,hok2.mono (Le.refl _) (hfr _ hok2.lt (fun hbl=>hmm (hpriv.inj m m' i i' hB hm' hbl.symm)))⟩
end Go.Og
namespace Go.Og
variable {P:Program} {E:EB} {D:Az} {C:Cx} {R:Cz} {J:H} {w w':World}
inductive RF (E:EB) (D:Az) (dr:Bool) (n0:Nat):Nat->List (BY × List Nat)->St->St->Prop where
 | nil (i:Nat) (s:St):RF E D dr n0 i [] s s
 | skip (i:Nat) (o:BY) (ks:List Nat) (l:List (BY × List Nat)) (s s':St) (hw:Bv (D4 dr ks s.e) o.guard=some false)
   (h:RF E D dr n0 (i+1) l ⟨Cr s.e o.dst EG,CC o.dst s.q,s.r,s.J⟩ s'):RF E D dr n0 i ((o,ks)::l) s s'
 | val (i:Nat) (o:BY) (ks:List Nat) (l:List (BY × List Nat)) (s s':St) (pw:Bool) (v:V) (r':Rg) (J':H) (hw:Bv (D4 dr ks s.e) o.guard=some true)
   (hs:GK E D pw s.J.next (s.J.next+1) o.op (D4 dr ks s.e) (LB dr ks s.q) s.r s.J (.val v r' J'))
   (hl:o.dst=none\/v.live=true\/o.op.cls ≠ .k) (hna:dr=true->o.op.cls ≠ .a)
   (h:RF E D dr n0 (i+1) l ⟨Cr s.e o.dst v,CC o.dst s.q,r',J'⟩ s'):RF E D dr n0 i ((o,ks)::l) s s'
 | mark (i:Nat) (o:BY) (ks:List Nat) (l:List (BY × List Nat)) (s s':St) (pw:Bool) (id nx m off:Nat) (hw:Bv (D4 dr ks s.e) o.guard=some true)
   (hs:GK E D pw id nx o.op (D4 dr ks s.e) (LB dr ks s.q) s.r s.J (.mark m off))
   (h:RF E D dr n0 (i+1) l ⟨CC o.dst s.e,Ro (CC o.dst s.q) o.dst (m,off),s.r,s.J⟩ s'):RF E D dr n0 i ((o,ks)::l) s s'
 | pal (i:Nat) (o:BY) (ks:List Nat) (l:List (BY × List Nat)) (s s':St) (d:Nat) (el:TypeId) (z:List V) (hd:o.dst=some d) (ho:o.op = .alloc el z) (hw:Bv (D4 dr ks s.e) o.guard=some true)
   (h:RF E D dr n0 (i+1) l ⟨Bl [d] s.e,(d,(d,0))::Jl d (Bl [d] s.q),(d,z)::Bl [d] s.r,s.J⟩ s'):RF E D dr n0 i ((o,ks)::l) s s'
 | shrink (i:Nat) (l:List (BY × List Nat)) (s s':St) (e:CF) (q:Qs) (he:∀t v,look e t=some v->look s.e t=some v) (hq:∀t v,look q t=some v->look s.q t=some v)
   (h:RF E D dr n0 i l ⟨e,q,s.r,s.J⟩ s'):RF E D dr n0 i l s s'
theorem RF.append {dr:Bool} {n0:Nat}:∀{i:Nat} {l m:List (BY × List Nat)} {s s1 s2:St},RF E D dr n0 i l s s1->RF E D dr n0 (i+l.length) m s1 s2->RF E D dr n0 i (l++m) s s2:=by
 intro i l m s s1 s2 h
 induction h with
 | nil i s=>intro h2;simpa using h2
 | skip i o ks l s s' hw _ ih=>intro h2;exact .skip i o ks _ s s2 hw (ih (by rwa [Aj,show i+(l.length+1)=i+1+l.length by omega]at h2))
 | val i o ks l s s' pw v r' J' hw hs hl hna _ ih=>intro h2;exact .val i o ks _ s s2 pw v r' J' hw hs hl hna (ih (by rwa [Aj,show i+(l.length+1)=i+1+l.length by omega]at h2))
 | mark i o ks l s s' pw id nx m off hw hs _ ih=>intro h2;exact .mark i o ks _ s s2 pw id nx m off hw hs (ih (by rwa [Aj,show i+(l.length+1)=i+1+l.length by omega]at h2))
 | pal i o ks l s s' d el z hd ho hw _ ih=>intro h2;exact .pal i o ks _ s s2 d el z hd ho hw (ih (by rwa [Aj,show i+(l.length+1)=i+1+l.length by omega]at h2))
 | shrink i l s s' e q he hq _ ih=>intro h2;exact .shrink i _ s s2 e q he hq (ih h2)
theorem CQ {α:Type} (ds:List Nat) (l:List (Nat × α)) (t:Nat):look (Bl ds l) t=if Bp ds t=true then none else look l t:=by
 induction l with
 | nil=>simp[Bl,look]
 | cons p l ih=>
  obtain⟨k,v⟩:=p
  simp only[Bl]
  split
  ·rename_i hk
   rw[ih]
   by_cases ht:Bp ds t=true
   ·rw[if_pos ht,if_pos ht]
   ·rw[if_neg ht,if_neg ht]
    have hkt:¬k=t:=fun h=>ht (h ▸ hk)
    simp only[look,AV,hkt,if_false]
  ·rename_i hk
   simp only[look,AV]
   by_cases hkt:k=t
   ·subst hkt;rw[if_pos rfl,if_neg (by rw[hk];simp),if_pos rfl]
   ·rw[if_neg hkt,if_neg hkt,ih]
theorem Gv (d t:Nat):Bp [d] t=true↔d=t:=by simp[Bp]
theorem DE (d:Nat) (l:List Nat) (t:Nat):Bp (d::l) t=true↔d=t\/Bp l t=true:=by simp[Bp]
theorem Fg (l m:List Nat) (t:Nat):Bp (l++m) t=true↔Bp l t=true\/Bp m t=true:=by
 induction l with
 | nil=>simp[Bp]
 | cons a l ih=>simp only[Ez,Bp,CB,ih,or_assoc]
theorem CG {α:Type} (d:Option Nat) (l:List (Nat × α)) (t:Nat):look (CC d l) t=if d=some t then none else look l t:=by
 cases d with
 | none=>simp[CC]
 | some d=>
  simp only[CC,CQ,AP.injEq]
  by_cases h:d=t
  ·rw[if_pos ((Gv d t).2 h),if_pos h]
  ·rw[if_neg (fun hh=>h ((Gv d t).1 hh)),if_neg h]
theorem GY (e:CF) (d:Option Nat) (v:V) (t:Nat):look (Cr e d v) t=if d=some t then some v else look e t:=by
 cases d with
 | none=>simp[Cr]
 | some d=>
  simp only[Cr,look,AV,AP.injEq]
theorem Kn (q:Qs) (d:Option Nat) (p:Nat × Nat) (t:Nat):look (Ro q d p) t=if d=some t then some p else look q t:=by
 cases d with
 | none=>simp[Ro]
 | some d=>
  simp only[Ro,look,AV,AP.injEq]
theorem Jx {ks:List Nat} {e:CF} {t:Nat} (h:Bp ks t=true):look (restr ks e) t=look e t:=by
 induction ks with
 | nil=>simp[Bp]at h
 | cons a ks ih=>
  simp only[Bp,CB,AV]at h
  simp only[restr]
  cases ha:look e a with
  | none=>
   simp only
   by_cases hat:a=t
   ·subst hat
    rw[ha]
    cases hl:look (restr ks e) a with
    | none=>rfl
    | some v=>rw[(GX ks e a v hl).1]at ha;cases ha
   ·exact ih (h.resolve_left hat)
  | some u=>
   simp only[look,AV]
   by_cases hat:a=t
   ·subst hat;rw[if_pos rfl,ha]
   ·rw[if_neg hat];exact ih (h.resolve_left hat)
theorem Gw (ls:List Nat) (q:Qs) (t:Nat) (p:Nat × Nat) (h:look (LX ls q) t=some p):look q t=some p/\Bp ls t=true:=by
 induction ls with
 | nil=>simp[LX,look]at h
 | cons a ls ih=>
  simp only[LX]at h
  simp only[Bp,CB,AV]
  cases ha:look q a with
  | none=>rw[ha]at h;exact(ih h).imp id .inr
  | some u=>
   rw[ha]at h
   simp only[look,AV]at h
   by_cases hat:a=t
   ·subst hat
    rw[if_pos rfl]at h
    cases h
    exact⟨ha,.inl rfl⟩
   ·rw[if_neg hat]at h
    exact(ih h).imp id .inr
theorem Kl {dr:Bool} {ks:List Nat} {e:CF} {t:Nat} (h:Bp ks t=true):look (D4 dr ks e) t=look e t:=by
 cases dr with
 | true=>exact Jx h
 | false=>rfl
theorem Ur {dr:Bool} {ks:List Nat} {e:CF} {t:Nat} {v:V} (h:look (D4 dr ks e) t=some v):look e t=some v:=by
 cases dr with
 | true=>exact(GX _ _ _ _ h).1
 | false=>exact h
theorem Iv {m:Nat}:∀{q:Qs} {t:Nat} {p:Nat × Nat},Bp (ID m q) t=false->look q t=some p->p.1≠m
 | [],t,p,_,h=>by simp[look]at h
 | (k,b)::q,t,p,hm,h=>by
  simp only[ID]at hm
  simp only[look,AV]at h
  split at hm
  ·rename_i hb
   have hkt:¬k=t:=by
    intro he;subst he
    simp[Bp]at hm
   rw[if_neg hkt]at h
   have hm2:Bp (ID m q) t=false:=by
    cases h2:Bp (ID m q) t with
    | false=>rfl
    | true=>rw[(DE k _ t).2 (.inr h2)]at hm;cases hm
   exact Iv hm2 h
  ·rename_i hb
   by_cases hk:k=t
   ·rw[if_pos hk]at h;cases h
    intro he;rw[<-AV,hb]at he;cases he
   ·rw[if_neg hk]at h;exact Iv hm h
theorem Jw (m:Nat) (q:Qs) (t:Nat) (p:Nat × Nat) (h:look (Jl m q) t=some p):p.1≠m/\look q t=some p:=by
 unfold Jl at h
 rw[CQ]at h
 split at h
 ·cases h
 ·rename_i hm
  have hm2:Bp (ID m q) t=false:=by simpa using hm
  exact⟨Iv hm2 h,h⟩
theorem ND {dr:Bool} {ks:List Nat} {e:CF} {t:Nat} {b c:Bool} (hm:Bp ks t=true) (h:look e t=some (.bool c)):Bv (D4 dr ks e) (some (t,b))=some (c==b):=by
 simp only[Bv,Gb,Kl hm,h]
theorem ME {dr:Bool} {ks:List Nat} {e:CF} {t:Nat} {b:Bool} (hm:Bp ks t=true) (h:look e t=some EG):Bv (D4 dr ks e) (some (t,b))=some false:=by
 simp only[Bv,Gb,Kl hm,h,EG]
theorem Gz:∀(l:XL) (g:Option (Nat × Bool)),(l.flat g).length=l.size/\l.lks.length=l.size
 | .nil,g=>⟨rfl,rfl⟩
 | .op _ _ _ _ r,g=>by obtain⟨h1,h2⟩:=Gz r g;simp[XL.flat,XL.lks,XL.size,h1,h2]
 | .pal _ _ _ _ r,g=>by obtain⟨h1,h2⟩:=Gz r g;simp[XL.flat,XL.lks,XL.size,h1,h2]
 | .grp t b l _ _ _ _ _ r,g=>by
  obtain⟨h1,h2⟩:=Gz r g
  obtain⟨h3,h4⟩:=Gz l (some (t,b))
  simp[XL.flat,XL.lks,XL.size,h1,h2,h3,h4]
theorem Yk (l:XL) (g:Option (Nat × Bool)) (x:BY) (k:List Nat) (m:List BY) (n:List (List Nat)) :
  (l.flat g++x::m).zip (l.lks++k::n)=(l.flat g).zip l.lks++(x,k)::m.zip n:=by
 obtain⟨h1,h2⟩:=Gz l g
 rw[List.zip_append (by omega)]
 rfl
theorem TB (l:XL) (g:Option (Nat × Bool)):((l.flat g).zip l.lks).length=l.size:=by
 obtain⟨h1,h2⟩:=Gz l g
 simp[h1,h2]
theorem Jn {dr:Bool} {n0:Nat}:∀(l:XL) (ds:List Nat) (t:Nat) (b:Bool) (i:Nat) (s:St),l.okG (some ds) (some t)=true ->
    (look s.e t=some EG\/∃c,look s.e t=some (.bool c)/\(c==b)=false)->Bp l.dsts t=false->(∀u,Bp ds u=true->look s.e u=some EG) ->
    ∃s',RF E D dr n0 i ((l.flat (some (t,b))).zip l.lks) s s'/\s'.r=s.r/\s'.J=s.J/\(∀u,Bp l.dsts u=false->look s'.e u=look s.e u/\look s'.q u=look s.q u) /\
      (∀u,Bp l.dsts u=true->look s'.e u=some EG)
  | .nil,ds,t,b,i,s,hok,ht,hd,hds=>⟨s,.nil i s,rfl,rfl,fun _ _=>⟨rfl,rfl⟩,fun u hu=>by simp[XL.dsts,Bp]at hu⟩
  | .pal _ _ _ _ r,ds,t,b,i,s,hok,ht,hd,hds=>by simp[XL.okG]at hok
  | .op d ty ks o r,ds,t,b,i,s,hok,ht,hd,hds=>by
    simp only[XL.okG,AK]at hok
    obtain⟨⟨_,hks⟩,hr⟩:=hok
    have hks:Bp ks t=true:=hks
    have hw:Bv (D4 dr ks s.e) (some (t,b))=some false:=by
      rcases ht with ht|⟨c,ht,hc⟩
      · exact ME hks ht
      · rw[ND hks ht,hc]
    cases d with
    | none=>
      have hr:r.okG (some ds) (some t)=true:=hr
      obtain⟨s',h1,h2,h3,h4,h5⟩:=Jn (dr:=dr) (n0:=n0) r ds t b (i+1) s hr ht hd hds
      exact⟨s',.skip i ⟨none,o,some (t,b)⟩ ks _ s s' hw h1,h2,h3,h4,h5⟩
    | some d=>
      have hr:r.okG (some (d::ds)) (some t)=true:=hr
      simp only[XL.dsts]at hd
      have hdt:d≠t/\Bp r.dsts t=false:=by
        simp only[Bp,B2]at hd
        exact⟨(by intro h;rw[<-AV,hd.1]at h;cases h),hd.2⟩
      have hput:∀u,look (Cr s.e (some d) EG) u=if d=u then some EG else look s.e u:=fun u=>by rw[GY];simp
      obtain⟨s',h1,h2,h3,h4,h5⟩:=Jn (dr:=dr) (n0:=n0) r (d::ds) t b (i+1) ⟨Cr s.e (some d) EG,CC (some d) s.q,s.r,s.J⟩ hr
        (by simp only[hput,if_neg hdt.1];exact ht) hdt.2 (fun u hu=>by
          simp only[hput]
          rcases(DE d ds u).1 hu with h|h
          · rw[if_pos h]
          · by_cases hdu:d=u
            · rw[if_pos hdu]
            · rw[if_neg hdu];exact hds u h)
      refine⟨s',.skip i ⟨some d,o,some (t,b)⟩ ks _ s s' hw h1,h2,h3,fun u hu=>?_,fun u hu=>?_⟩
      · simp only[XL.dsts,Bp,B2]at hu
        have hdu:¬d=u:=by intro h;rw[<-AV,hu.1]at h;cases h
        obtain⟨h6,h7⟩:=h4 u hu.2
        refine⟨by rw[h6];simp only[hput,if_neg hdu],by rw[h7,CG];simp[hdu]⟩
      · simp only[XL.dsts]at hu
        cases hru:Bp r.dsts u with
        | true=>exact h5 u hru
        | false=>
          rcases(DE d r.dsts u).1 hu with h|h
          · rw[(h4 u hru).1];simp only[hput,if_pos h]
          · rw[hru]at h;cases h
  | .grp t2 b2 l d ks c x y r,ds,t,b,i,s,hok,ht,hd,hds=>by
    simp only[XL.okG,AK,C4]at hok
    obtain⟨⟨⟨⟨⟨⟨hks,_⟩,hlt⟩,_⟩,hdt2⟩,hl⟩,hr⟩:=hok
    have hks:Bp ks t=true:=hks
    simp only[XL.dsts]at hd
    have hdl:Bp l.dsts t=false/\d≠t/\Bp r.dsts t=false:=by
      have h0:¬(Bp (l.dsts++d::r.dsts) t=true):=by rw[hd];simp
      rw[Fg,DE]at h0
      refine⟨?_,fun h=>h0 (.inr (.inl h)),?_⟩
      · cases h:Bp l.dsts t with
        | false=>rfl
        | true=>exact(h0 (.inl h)).elim
      · cases h:Bp r.dsts t with
        | false=>rfl
        | true=>exact(h0 (.inr (.inr h))).elim
    obtain⟨s1,h1,h2,h3,h4,h5⟩:=Jn (dr:=dr) (n0:=n0) l [] t2 b2 i s hl (.inl (hds t2 hdt2)) hlt (fun u hu=>by simp[Bp]at hu)
    have ht1:look s1.e t=some EG\/∃c,look s1.e t=some (.bool c)/\(c==b)=false:=by rw[(h4 t hdl.1).1];exact ht
    have hw:Bv (D4 dr ks s1.e) (some (t,b))=some false:=by
      rcases ht1 with ht|⟨c,ht,hc⟩
      · exact ME hks ht
      · rw[ND hks ht,hc]
    have hput:∀u,look (Cr s1.e (some d) EG) u=if d=u then some EG else look s1.e u:=fun u=>by rw[GY];simp
    obtain⟨s',g1,g2,g3,g4,g5⟩:=Jn (dr:=dr) (n0:=n0) r (d::l.dsts++ds) t b (i+l.size+1) ⟨Cr s1.e (some d) EG,CC (some d) s1.q,s1.r,s1.J⟩ hr
      (by simp only[hput,if_neg hdl.2.1];exact ht1) hdl.2.2 (fun u hu=>by
        simp only[hput]
        by_cases hdu:d=u
        · rw[if_pos hdu]
        · rw[if_neg hdu]
          rw[Ez]at hu
          rcases(DE d _ u).1 hu with h|h
          · exact(hdu h).elim
          · cases hlu:Bp l.dsts u with
            | true=>exact h5 u hlu
            | false=>
              rcases(Fg _ _ u).1 h with h|h
              · rw[hlu]at h;cases h
              · rw[(h4 u hlu).1];exact hds u h)
    refine⟨s',?_,by rw[g2];exact h2,by rw[g3];exact h3,fun u hu=>?_,fun u hu=>?_⟩
    · simp only[XL.flat,XL.lks]
      rw[Yk]
      refine h1.append ?_
      rw[TB]
      exact .skip _ ⟨some d,.pick c x y,some (t,b)⟩ ks _ s1 s' hw g1
    · simp only[XL.dsts]at hu
      have h0:¬(Bp (l.dsts++d::r.dsts) u=true):=by rw[hu];simp
      rw[Fg,DE]at h0
      have hlu:Bp l.dsts u=false:=by
        cases h:Bp l.dsts u with
        | false=>rfl
        | true=>exact(h0 (.inl h)).elim
      have hru:Bp r.dsts u=false:=by
        cases h:Bp r.dsts u with
        | false=>rfl
        | true=>exact(h0 (.inr (.inr h))).elim
      have hdu:¬d=u:=fun h=>h0 (.inr (.inl h))
      obtain⟨k1,k2⟩:=g4 u hru
      obtain⟨k3,k4⟩:=h4 u hlu
      refine⟨by rw[k1];simp only[hput,if_neg hdu];exact k3,by rw[k2,CG];simp only[AP.injEq,if_neg hdu];exact k4⟩
    · simp only[XL.dsts]at hu
      cases hru:Bp r.dsts u with
      | true=>exact g5 u hru
      | false=>
        rw[(g4 u hru).1]
        simp only[hput]
        by_cases hdu:d=u
        · rw[if_pos hdu]
        · rw[if_neg hdu]
          rcases(Fg _ _ u).1 hu with h|h
          · exact h5 u h
          · rcases(DE d _ u).1 h with h | h
            · exact(hdu h).elim
            · rw[hru]at h;cases h
end Go.Og
namespace Go.Og
variable {E:EB} {D:Az}
def Gd (g:Option (Nat × Bool)) (gt:Option Nat) (e:CF) (ds:List Nat):Prop:=
 (g=none/\gt=none)\/∃t b,g=some (t,b)/\gt=some t/\look e t=some (.bool b)/\Bp ds t=false
theorem Gd.wanted {g:Option (Nat × Bool)} {gt:Option Nat} {e:CF} {ds:List Nat} (h:Gd g gt e ds) {dr:Bool} {ks:List Nat} (hs:ly gt ks=true):Bv (D4 dr ks e) g=some true:=by
 rcases h with ⟨rfl,rfl⟩|⟨t,b,rfl,rfl,hl,_⟩
 ·rfl
 ·rw[ND hs hl];simp
theorem Gd.next {g:Option (Nat × Bool)} {gt:Option Nat} {e e':CF} {ds ds':List Nat} (h:Gd g gt e ds) (hd:∀t,Bp ds t=false->Bp ds' t=false) (he:∀t,Bp ds t=false->look e' t=look e t):Gd g gt e' ds':=by
 rcases h with ⟨rfl,rfl⟩|⟨t,b,rfl,rfl,hl,hm⟩
 ·exact .inl ⟨rfl,rfl⟩
 ·exact .inr ⟨t,b,rfl,rfl,by rw[he t hm];exact hl,hd t hm⟩
theorem lh {id nx:Nat} {o:Ej} {e:CF} {q:Qs} {r r':Rg} {J J':H} {v:V} (h:GK E D false id nx o e q r J (.val v r' J')):r'=r:=by
 cases h<;>first | rfl | (rename_i hw _ _ _ _ _ _ _ _ _ _;cases hw)
theorem GV {ds:List Nat} {t:Nat}:Bp ds t=false↔¬Bp ds t=true:=by cases Bp ds t<;>simp
theorem EX {d:Nat} {l:List Nat} {t:Nat} (h:Bp (d::l) t=false):d≠t/\Bp l t=false:=by
 rw[GV,DE]at h
 exact⟨fun hh=>h (.inl hh),GV.2 fun hh=>h (.inr hh)⟩
theorem MX {l m:List Nat} {t:Nat} (h:Bp (l++m) t=false):Bp l t=false/\Bp m t=false:=by
 rw[GV,Fg]at h
 exact⟨GV.2 fun hh=>h (.inl hh),GV.2 fun hh=>h (.inr hh)⟩
theorem Y3 {d:Option Nat} {ty:DM} {ks:List Nat} {o:Ej} {r:XL} (h:(XL.op d ty ks o r).makes=false):o.cls ≠ .a/\r.makes=false:=by
 simp only[XL.makes]at h
 split at h
 ·cases h
 ·rename_i hc;exact⟨hc,h⟩
theorem Wc {t:Nat} {b:Bool} {l:XL} {d:Nat} {ks:List Nat} {c x y:AO} {r:XL} (h:(XL.grp t b l d ks c x y r).makes=false):l.makes=false/\r.makes=false:=by
 simpa only [XL.makes,B2]using h
theorem VB {d:Nat} {ty:DM} {o:Ej} (h:okD (some d) ty o=true):(∀n x y,o = .store n x y->False)/\(o.cls = .k->ty.known=true):=by
 constructor
 ·rintro n x y rfl;cases h
 ·intro hc
  cases o<;>(first | (cases hc;done) | (cases h;done) | exact h | (rename_i t x;cases t<;>cases hc))
theorem Hn {dr:Bool} {n0:Nat}:∀(l:XL) (ds:Option (List Nat)) (gt:Option Nat) (g:Option (Nat × Bool)) (pw:Bool) (i:Nat) (s:St) (U:CF->Qs->Rg->H->AH) (res:V × H),
  Ih E D dr pw n0 l i s.e s.q s.r s.J U=some res->l.okG ds gt=true->Gd g gt s.e l.dsts->(dr=true->l.makes=false) ->
  ∃s',RF E D dr n0 i ((l.flat g).zip l.lks) s s'/\U s'.e s'.q s'.r s'.J=some res/\(pw=false->s'.r=s.r) /\
   (∀u,Bp l.dsts u=false->look s'.e u=look s.e u)/\(pw=false->∀u,Bp l.dsts u=false->look s'.q u=look s.q u)
 | .nil,ds,gt,g,pw,i,s,U,res,h,hok,hg,hmk=>⟨s,.nil i s,h,fun _=>rfl,fun _ _=>rfl,fun _ _ _=>rfl⟩
 | .op d ty ks o r,ds,gt,g,pw,i,s,U,res,h,hok,hg,hmk=>by
  rw[nL]at h
  simp only[XL.okG,AK]at hok
  obtain⟨⟨hkd,hks⟩,hr⟩:=hok
  have hr':∃ds',r.okG ds' gt=true:=by
   split at hr
   ·exact⟨_,hr⟩
   ·exact⟨_,hr⟩
  obtain⟨ds',hr'⟩:=hr'
  have hw:=hg.wanted (dr:=dr) hks
  have hdst:∀t,Bp (XL.op d ty ks o r).dsts t=false->d≠some t/\Bp r.dsts t=false:=by
   intro t ht
   cases d with
   | none=>exact⟨by simp,ht⟩
   | some d=>obtain⟨h1,h2⟩:=EX ht;exact⟨by simpa using h1,h2⟩
  obtain⟨out,hs,hout⟩:=dO h
  cases out with
  | val v r' J'=>
   obtain⟨hk,hlv⟩:=hout
   have hput:∀t,Bp (XL.op d ty ks o r).dsts t=false->look (Cr s.e d v) t=look s.e t:=fun t ht=>by
    rw[GY,if_neg (hdst t ht).1]
   obtain⟨s',h1,h2,h3,h4,h5⟩:=Hn r ds' gt g pw (i+1) ⟨Cr s.e d v,CC d s.q,r',J'⟩ U res hk hr'
    (hg.next (fun t ht=>(hdst t ht).2) hput) (fun hd=>(Y3 (hmk hd)).2)
   refine⟨s',.val i ⟨d,o,g⟩ ks _ s s' pw v r' J' hw hs ?_ (fun hd=>(Y3 (hmk hd)).1) h1,h2,fun hpw=>?_,fun u hu=>?_,fun hpw u hu=>?_⟩
   ·cases d with
    | none=>exact .inl rfl
    | some d=>
     right
     rcases hlv with ⟨n,x,y,rfl⟩|hlv|hlv|hlv
     ·exact((VB hkd).1 _ _ _ rfl).elim
     ·exact .inr hlv
     ·right
      intro hc
      have:=(VB hkd).2 hc
      rw[hlv]at this;cases this
     ·exact .inl hlv
   ·subst hpw;rw[h3 rfl];exact lh hs
   ·rw[h4 u (hdst u hu).2];exact hput u hu
   ·rw[h5 hpw u (hdst u hu).2]
    show look (CC d s.q) u=_
    rw[CG,if_neg (hdst u hu).1]
  | mark m off=>
   have hput:∀t,Bp (XL.op d ty ks o r).dsts t=false->look (CC d s.e) t=look s.e t:=fun t ht=>by
    rw[CG,if_neg (hdst t ht).1]
   obtain⟨s',h1,h2,h3,h4,h5⟩:=Hn r ds' gt g pw (i+1) ⟨CC d s.e,Ro (CC d s.q) d (m,off),s.r,s.J⟩ U res hout hr'
    (hg.next (fun t ht=>(hdst t ht).2) hput) (fun hd=>(Y3 (hmk hd)).2)
   refine⟨s',.mark i ⟨d,o,g⟩ ks _ s s' pw _ _ m off hw hs h1,h2,h3,fun u hu=>?_,fun hpw u hu=>?_⟩
   ·rw[h4 u (hdst u hu).2];exact hput u hu
   ·rw[h5 hpw u (hdst u hu).2]
    show look (Ro (CC d s.q) d (m,off)) u=_
    rw[Kn,if_neg (hdst u hu).1,CG,if_neg (hdst u hu).1]
 | .pal d ks el z r,ds,gt,g,pw,i,s,U,res,h,hok,hg,hmk=>by
  cases pw with
  | false=>rw[bA]at h;cases h
  | true=>
   rw[eZ]at h
   simp only[XL.okG,AK]at hok
   obtain⟨hks,hr⟩:=hok
   have hr':r.okG none gt=true:=by
    split at hr
    ·cases hr
    ·exact hr
   have hw:=hg.wanted (dr:=dr) hks
   have hput:∀t,Bp (XL.pal d ks el z r).dsts t=false->look (Bl [d] s.e) t=look s.e t:=fun t ht=>by
    have:=(EX ht).1
    rw[CQ,if_neg (fun hh=>this ((Gv d t).1 hh))]
   obtain⟨s',h1,h2,h3,h4,h5⟩:=Hn r none gt g true (i+1) ⟨Bl [d] s.e,(d,(d,0))::Jl d (Bl [d] s.q),(d,z)::Bl [d] s.r,s.J⟩ U res h hr'
    (hg.next (fun t ht=>(EX ht).2) hput) hmk
   refine⟨s',.pal i ⟨some d,.alloc el z,g⟩ ks _ s s' d el z rfl rfl hw h1,h2,(fun hpw=>by cases hpw),fun u hu=>?_,(fun hpw=>by cases hpw)⟩
   rw[h4 u (EX hu).2];exact hput u hu
 | .grp t b l d ks c x y r,ds,gt,g,pw,i,s,U,res,h,hok,hg,hmk=>by
  rw[ea]at h
  simp only[XL.okG,AK,C4]at hok
  obtain⟨⟨⟨⟨⟨⟨hks,hkt⟩,hlt⟩,hpk⟩,_⟩,hl⟩,hr⟩:=hok
  have hr':∃ds',r.okG ds' gt=true:=by
   split at hr
   ·exact⟨_,hr⟩
   ·exact⟨_,hr⟩
  obtain⟨ds',hr'⟩:=hr'
  have hdst:∀u,Bp (XL.grp t b l d ks c x y r).dsts u=false->Bp l.dsts u=false/\d≠u/\Bp r.dsts u=false:=by
   intro u hu
   obtain⟨h1,h2⟩:=MX hu
   obtain⟨h3,h4⟩:=EX h2
   exact⟨h1,h3,h4⟩
  unfold dI at hpk
  simp only[AK]at hpk
  obtain⟨hct,hother⟩:=hpk
  have hct:c = .tmp t:=by
   cases c with
   | con v=>cases hct
   | tmp u=>simp only[AV]at hct;rw[hct]
  subst hct
  obtain⟨v,hv,_,h⟩:=Ak h
  obtain⟨cb,rfl,h9⟩:=Ff h
  replace h:=h9
  have hte:look s.e t=some (.bool cb):=by
   simp only[CZ,Gb]at hv
   cases hq:look (D4 dr [t] s.e) t with
   | none=>rw[hq]at hv;cases hv
   | some u=>rw[hq]at hv;simp only at hv;subst hv;exact Ur hq
  have fin:∀(s1:St) (vb:Bool),RF E D dr n0 i ((l.flat (some (t,b))).zip l.lks) s s1->s1.r=s.r->(∀u,Bp l.dsts u=false->look s1.e u=look s.e u)->(∀u,Bp l.dsts u=false->look s1.q u=look s.q u) ->
    Be (.pick (.tmp t) x y) (D4 dr ks s1.e)=some (.bool vb) ->
    Ih E D dr pw n0 r (i+l.size+1) ((d,.bool vb)::Bl (d::l.dsts) s.e) (Bl (d::l.dsts) s.q) s.r s1.J U=some res ->
    ∃s',RF E D dr n0 i (((XL.grp t b l d ks (.tmp t) x y r).flat g).zip (XL.grp t b l d ks (.tmp t) x y r).lks) s s'/\U s'.e s'.q s'.r s'.J=some res/\(pw=false->s'.r=s.r) /\
     (∀u,Bp (XL.grp t b l d ks (.tmp t) x y r).dsts u=false->look s'.e u=look s.e u)/\(pw=false->∀u,Bp (XL.grp t b l d ks (.tmp t) x y r).dsts u=false->look s'.q u=look s.q u):=by
   intro s1 vb hrun hr1 he1 hq1 hp hrest
   have hput:∀u,d≠u->Bp l.dsts u=false->look ((d,V.bool vb)::Bl (d::l.dsts) s.e) u=look s.e u:=by
    intro u h1 h2
    simp only[look,AV,h1,if_false]
    rw[CQ,if_neg (fun hh=>by rcases(DE d _ u).1 hh with hh | hh;exact h1 hh;rw[h2]at hh;cases hh)]
   obtain⟨s',h1,h2,h3,h4,h5⟩:=Hn r ds' gt g pw (i+l.size+1) ⟨(d,.bool vb)::Bl (d::l.dsts) s.e,Bl (d::l.dsts) s.q,s.r,s1.J⟩ U res hrest hr'
    (hg.next (fun u hu=>(hdst u hu).2.2) (fun u hu=>hput u (hdst u hu).2.1 (hdst u hu).1)) (fun hd=>(Wc (hmk hd)).2)
   have hg1:Gd g gt s1.e (XL.grp t b l d ks (.tmp t) x y r).dsts:=hg.next (fun _ hu=>hu) (fun u hu=>he1 u (hdst u hu).1)
   refine⟨s',?_,h2,h3,fun u hu=>?_,fun hpw u hu=>?_⟩
   ·simp only[XL.flat,XL.lks]
    rw[Yk]
    refine hrun.append ?_
    rw[TB]
    refine .val _ ⟨some d,.pick (.tmp t) x y,g⟩ ks _ s1 s' true (.bool vb) s1.r s1.J (hg1.wanted hks) (.p _ rfl fun _=>hp) (.inr (.inl rfl)) (fun _ h=>by cases h) ?_
    refine .shrink _ _ _ s' ((d,.bool vb)::Bl (d::l.dsts) s.e) (Bl (d::l.dsts) s.q) (fun u w hu=>?_) (fun u w hu=>?_) (by rw[hr1];exact h1)
    ·simp only[look,AV]at hu
     rw[GY]
     by_cases hdu:d=u
     ·rw[if_pos hdu]at hu;rw[if_pos (by rw[hdu])];exact hu
     ·rw[if_neg hdu,CQ]at hu
      rw[if_neg (by simpa using hdu)]
      split at hu
      ·cases hu
      ·rename_i hm
       rw[he1 u (GV.2 fun hh=>hm ((DE d _ u).2 (.inr hh)))]
       exact hu
    ·rw[CQ]at hu
     split at hu
     ·cases hu
     ·rename_i hm
      show look (CC (some d) s1.q) u=some w
      rw[CG,if_neg (fun hh=>hm ((DE d _ u).2 (.inl (by simpa using hh)))),hq1 u (GV.2 fun hh=>hm ((DE d _ u).2 (.inr hh)))]
      exact hu
   ·rw[h4 u (hdst u hu).2.2];exact hput u (hdst u hu).2.1 (hdst u hu).1
   ·rw[h5 hpw u (hdst u hu).2.2]
    show look (Bl (d::l.dsts) s.q) u=_
    rw[CQ,if_neg (fun hh=>by rcases(DE d _ u).1 hh with hh | hh;exact(hdst u hu).2.1 hh;rw[(hdst u hu).1]at hh;cases hh)]
  have taken:cb=b->∀(z:AO),(∀e,CZ e (.tmp t) = .bool cb->∀vb,CZ e z = .bool vb->Be (.pick (.tmp t) x y) e=some (.bool vb)) ->
    (Ih E D dr false n0 l i s.e s.q s.r s.J fun e' _ _ J'=>CS (D4 dr ks e') z fun v=>An v fun v=>
     Ih E D dr pw n0 r (i+l.size+1) ((d,.bool v)::Bl (d::l.dsts) s.e) (Bl (d::l.dsts) s.q) s.r J' U)=some res ->
    ∃s',RF E D dr n0 i (((XL.grp t b l d ks (.tmp t) x y r).flat g).zip (XL.grp t b l d ks (.tmp t) x y r).lks) s s'/\U s'.e s'.q s'.r s'.J=some res/\(pw=false->s'.r=s.r) /\
     (∀u,Bp (XL.grp t b l d ks (.tmp t) x y r).dsts u=false->look s'.e u=look s.e u)/\(pw=false->∀u,Bp (XL.grp t b l d ks (.tmp t) x y r).dsts u=false->look s'.q u=look s.q u):=by
   intro hcb z hz hh
   subst hcb
   obtain⟨s1,h1,h2,h3,h4,h5⟩:=Hn l (some []) (some t) (some (t,cb)) false i s _ res hh hl (.inr ⟨t,cb,rfl,rfl,hte,hlt⟩) (fun hd=>(Wc (hmk hd)).1)
   obtain⟨v,hv,_,h2⟩:=Ak h2
   obtain⟨vb,rfl,h9⟩:=Ff h2
   replace h2:=h9
   refine fin s1 vb h1 (h3 rfl) h4 (h5 rfl) (hz _ ?_ vb hv) h2
   simp only[CZ,Gb,Kl hkt,h4 t hlt,hte]
  have left:(cb==b)=false->∀(z:AO),(match z with | .tmp u=>!Bp l.dsts u | .con _=>true)=true->(∀e,CZ e (.tmp t) = .bool cb->∀vb,CZ e z = .bool vb->Be (.pick (.tmp t) x y) e=some (.bool vb)) ->
    (CS (D4 dr ks s.e) z fun v=>An v fun v=>
     Ih E D dr pw n0 r (i+l.size+1) ((d,.bool v)::Bl (d::l.dsts) s.e) (Bl (d::l.dsts) s.q) s.r s.J U)=some res ->
    ∃s',RF E D dr n0 i (((XL.grp t b l d ks (.tmp t) x y r).flat g).zip (XL.grp t b l d ks (.tmp t) x y r).lks) s s'/\U s'.e s'.q s'.r s'.J=some res/\(pw=false->s'.r=s.r) /\
     (∀u,Bp (XL.grp t b l d ks (.tmp t) x y r).dsts u=false->look s'.e u=look s.e u)/\(pw=false->∀u,Bp (XL.grp t b l d ks (.tmp t) x y r).dsts u=false->look s'.q u=look s.q u):=by
   intro hcb z hz0 hz h
   obtain⟨s1,h1,h2,h3,h4,_⟩:=Jn (E:=E) (D:=D) (dr:=dr) (n0:=n0) l [] t b i s hl (.inr ⟨cb,hte,hcb⟩) hlt (fun u hu=>by simp[Bp]at hu)
   obtain⟨v,hv,_,h5⟩:=Ak h
   obtain⟨vb,rfl,h9⟩:=Ff h5
   replace h5:=h9
   refine fin s1 vb h1 h2 (fun u hu=>(h4 u hu).1) (fun u hu=>(h4 u hu).2) (hz _ ?_ vb ?_) (by rw[h3];exact h5)
   ·simp only[CZ,Gb,Kl hkt,(h4 t hlt).1,hte]
   ·cases z with
    | con v=>exact hv
    | tmp u=>
     simp only[C4]at hz0
     simp only[CZ,Gb]at hv ⊢
     cases hq:look (D4 dr ks s.e) u with
     | none=>rw[hq]at hv;cases hv
     | some u2=>
      rw[hq]at hv
      have hq1:look (D4 dr ks s1.e) u=some u2:=by
       cases dr with
       | true=>
        obtain⟨h6,h7⟩:=GX _ _ _ _ hq
        show look (restr ks s1.e) u=_
        rw[Jx h7,(h4 u hz0).1];exact h6
       | false=>
        show look s1.e u=_
        rw[(h4 u hz0).1];exact hq
      rw[hq1];exact hv
  have hpt:∀e,CZ e (.tmp t) = .bool true->∀vb,CZ e x = .bool vb->Be (.pick (.tmp t) x y) e=some (.bool vb):=by
   intro e h1 vb h2
   simp only[Be,h1,h2,V.live,if_true]
  have hpf:∀e,CZ e (.tmp t) = .bool false->∀vb,CZ e y = .bool vb->Be (.pick (.tmp t) x y) e=some (.bool vb):=by
   intro e h1 vb h2
   simp only[Be,h1,h2,V.live,if_true]
  unfold BR at h
  cases b with
  | true=>
   simp only at h hother
   cases cb with
   | true=>exact taken rfl x hpt h
   | false=>exact left rfl y hother hpf h
  | false=>
   simp only at h hother
   cases cb with
   | true=>exact left rfl x hother hpt h
   | false=>exact taken rfl y hpf h
end Go.Og
namespace Go.Og
variable {P:Program} {D:Az} {C:Cx} {R:Cz} {J:H} {w w':World}
theorem HR.put {e:CF} {a:Act} (h:HR R e a.tmps) {dst:Option Nat} (hd:GN a.tmps.size dst=true) {v:V} {x:Value} (hv:dst=none\/Au R v=some x):HR R (Cr e dst v) (a.put dst x).tmps:=by
 cases dst with
 | none=>exact h
 | some d=>
  simp only[GN,C1]at hd
  refine⟨fun k u hk=>?_⟩
  rw[GY]at hk
  simp only[Act.put,BE]
  by_cases hdk:d=k
  ·rw[if_pos (by rw[hdk])]at hk
   cases hk
   rw[if_pos hdk,if_pos hd]
   exact⟨x,rfl,hv.resolve_left (by simp)⟩
  ·rw[if_neg (by simpa using hdk)]at hk
   rw[if_neg hdk]
   exact h.at_ k u hk
theorem HR.del {e:CF} {a:Act} (h:HR R e a.tmps) (dst:Option Nat) (x:Value):HR R (CC dst e) (a.put dst x).tmps:=by
 refine⟨fun k u hk=>?_⟩
 rw[CG]at hk
 split at hk
 ·cases hk
 ·rename_i hne
  obtain⟨y,h1,h2⟩:=h.at_ k u hk
  refine⟨y,?_,h2⟩
  cases dst with
  | none=>exact h1
  | some d=>
   simp only[Act.put,BE]
   rw[if_neg (by simpa using hne)];exact h1
theorem UU.del {B:Bs} {q:Qs} {a:Act} (h:UU B q a.tmps) (dst:Option Nat) (x:Value):UU B (CC dst q) (a.put dst x).tmps:=by
 refine⟨fun k m off hk=>?_⟩
 rw[CG]at hk
 split at hk
 ·cases hk
 ·rename_i hne
  obtain⟨i,h1,h2⟩:=h.at_ k m off hk
  refine⟨i,h1,?_⟩
  cases dst with
  | none=>exact h2
  | some d=>
   simp only[Act.put,BE]
   rw[if_neg (by simpa using hne)];exact h2
theorem UU.mark {B:Bs} {q:Qs} {a:Act} (h:UU B q a.tmps) {dst:Option Nat} (hd:GN a.tmps.size dst=true) {m off:Nat} {i:BI} (hB:B m=some i) :
  UU B (Ro (CC dst q) dst (m,off)) (a.put dst (.pointer (some ⟨i.blk,i.shift+off,none⟩))).tmps:=by
 refine⟨fun k m' off' hk=>?_⟩
 rw[Kn]at hk
 by_cases hdk:dst=some k
 ·rw[if_pos hdk]at hk
  cases hk
  subst hdk
  simp only[GN,C1]at hd
  exact⟨i,hB,by simp[Act.put,BE,hd]⟩
 ·rw[if_neg hdk]at hk
  exact(h.del dst _).at_ k m' off' hk
theorem HR.sub {e e':CF} {tmps:Array Value} (h:HR R e tmps) (hs:∀t v,look e' t=some v->look e t=some v):HR R e' tmps:=
 ⟨fun k v hk=>h.at_ k v (hs k v hk)⟩
theorem UU.sub {B:Bs} {q q':Qs} {tmps:Array Value} (h:UU B q tmps) (hs:∀t v,look q' t=some v->look q t=some v):UU B q' tmps:=
 ⟨fun k m off hk=>h.at_ k m off (hs k _ hk)⟩
theorem HR.sel {e:CF} {tmps:Array Value} (h:HR R e tmps) (dr:Bool) (ks:List Nat):HR R (D4 dr ks e) tmps:=h.sub fun _ _ hk=>Ur hk
theorem UU.sel {B:Bs} {q:Qs} {tmps:Array Value} (h:UU B q tmps) (dr:Bool) (ks:List Nat):UU B (LB dr ks q) tmps:=h.sub fun t v hk=>by
 cases dr with
 | true=>exact(Gw _ _ _ _ hk).1
 | false=>exact hk
theorem dJ {B:Bs} {r:Rg} (hm:UW C R B r J w) {a:Act} (o:Oper) {d:Nat} {el:TypeId} {z:List V} (ho:Ag P C.G o.op = .alloc el z) (K:Act->World->Prop) (Q:Exit->Act->World->Prop)
  (hK:∀i w',UW C R (fun m=>if m=d then some i else B m) ((d,z)::Bl [d] r) J w'->K (a.put o.dst (.pointer (some ⟨i.blk,i.shift+0,none⟩))) w'):o.wp P a w K Q:=by
 obtain⟨hrel,hpriv⟩:=hm
 have hg:=hrel.globOk
 have ha:Ce (Ag P C.G o.op) [] J.next=some (.ptr J.next 0,.cells z):=by rw[ho];rfl
 have he0:B9 R [] a.tmps:=⟨fun k v hk=>by simp[look]at hk⟩
 obtain⟨x,w',i,hrun,hn,hi,hx,hok⟩:=O7 (a:=a) (P:=P) he0 hg o ha (hrel.fresh _ (AN _)) w
 have hcp:Au (IS R J.next i) (.ptr J.next 0)=some (.pointer (some ⟨i.blk,i.shift+0,none⟩)):=DG (CL _ _ _)
 rw[hcp]at hx;cases hx
 unfold Oper.wp;rw[hrun]
 have hle:Le R (IS R J.next i):=(E5 R J.next i).le hrel.fresh
 have hzc:∃zs,A5 R z=some zs:=by
  obtain⟨dst,op,ty,pos,after,guard⟩:=o
  simp only at ho
  cases op<;>simp only[Ag]at ho<;>(try (first | (cases ho;done) | ((repeat' split at ho)<;>(cases ho;done))))
  ·rename_i el'
   split at ho
   ·cases ho
   ·rename_i z' _ hz
    simp only[Ej.alloc.injEq]at ho
    rw[<-ho.2]
    unfold Jk at hz
    split at hz
    ·split at hz
     ·exact⟨_,ZR R hz⟩
     ·cases hz
    ·cases hz
   ·cases ho
  ·rename_i fn _ _;cases fn<;>cases ho
  ·rename_i r;cases r<;>cases ho
  ·rename_i ok;cases ok
   ·cases ho
   ·simp only at ho;split at ho<;>cases ho
  ·rename_i c
   obtain⟨callee,cargs,argTypes⟩:=c
   simp only at ho
   split at ho
   ·unfold LK at ho;(repeat' split at ho)<;>cases ho
   ·cases ho
   ·cases ho
   ·cases ho
 obtain⟨zs,hzs⟩:=hzc
 have hokR:FD R i (.cells z) w':=by
  obtain⟨arr,el',lo,hi',h1,h2,h3,h4,h5⟩:=hok
  refine⟨arr,el',lo,hi',h1,fun k v hk=>?_,h3,h4,h5⟩
  obtain⟨y,hy,hone,harr⟩:=h2 k v hk
  obtain⟨y2,hy2,_⟩:=EI hzs hk
  have:=Cq hle v y2 hy2
  rw[hy]at this;cases this
  exact⟨_,hy2,hone,harr⟩
 have hO:C.O i.blk:=by rw[hi];exact hrel.new _ hrel.size
 have hrelw:Ds C R J w':=hrel.frame (fun blk hb _=>hn.old blk hb) (by rw[hn.size];omega) hn.os hn.tape hn.output
 refine hK i w' ⟨hrelw,⟨fun m j hm=>?_,fun m m' j j' hm hm' hbl=>?_,fun m j hm k b j' hk hj' hbl=>?_⟩⟩
 ·by_cases hmd:m=d
  ·subst hmd
   rw[if_pos rfl]at hm;cases hm
   exact⟨hO,z,by simp[look],hokR⟩
  ·rw[if_neg hmd]at hm
   obtain⟨hO',l,hl,hok'⟩:=hpriv.at_ m j hm
   refine⟨hO',l,?_,hok'.mono (Le.refl _) (hn.old _ hok'.lt)⟩
   simp only[look,AV]
   rw[if_neg (Ne.symm hmd),CQ,if_neg (fun h=>hmd ((Gv d m).1 h).symm)]
   exact hl
 ·by_cases hmd:m=d
  ·by_cases hmd':m'=d
   ·rw[hmd,hmd']
   ·exfalso
    rw[if_pos hmd]at hm;rw[if_neg hmd']at hm';cases hm
    have:=hpriv.lt hm';omega
  ·by_cases hmd':m'=d
   ·exfalso
    rw[if_neg hmd]at hm;rw[if_pos hmd']at hm';cases hm'
    have:=hpriv.lt hm;omega
   ·rw[if_neg hmd]at hm;rw[if_neg hmd']at hm'
    exact hpriv.inj m m' j j' hm hm' hbl
 ·by_cases hmd:m=d
  ·rw[if_pos hmd]at hm;cases hm
   obtain⟨j2,hj2,_,hok2⟩:=hrel.own k b hk
   rw[hj']at hj2;cases hj2
   have:=hok2.lt;omega
  ·rw[if_neg hmd]at hm
   exact hpriv.apart m j hm k b j' hk hj' hbl
def Ok (C:Cx) (nR:Nat) (R0:Cz) (nt:Nat) (s:St) (a:Act) (w:World):Prop:=
 ∃R B,G8 nR R0 R/\nR<=s.J.next/\UW C R B s.r s.J w/\HR R s.e a.tmps/\UU B s.q a.tmps/\nt<=a.tmps.size/\a.defers=[]
theorem UU.pal {B:Bs} {q:Qs} {a:Act} (h:UU B q a.tmps) {d:Nat} (hd:GN a.tmps.size (some d)=true) (i:BI) :
  UU (fun m=>if m=d then some i else B m) ((d,(d,0))::Jl d (Bl [d] q)) (a.put (some d) (.pointer (some ⟨i.blk,i.shift+0,none⟩))).tmps:=by
 refine⟨fun k m off hk=>?_⟩
 simp only[look,AV]at hk
 simp only[GN,C1]at hd
 by_cases hdk:d=k
 ·rw[if_pos hdk]at hk
  cases hk
  exact⟨i,by simp,by simp[Act.put,BE,hdk,hdk ▸ hd]⟩
 ·rw[if_neg hdk]at hk
  obtain⟨h1,h2⟩:=Jw _ _ _ _ hk
  rw[CQ]at h2
  split at h2
  ·cases h2
  ·obtain⟨j,h3,h4⟩:=h.at_ k m off h2
   refine⟨j,by rw[if_neg h1];exact h3,?_⟩
   simp only[Act.put,BE]
   rw[if_neg hdk];exact h4
theorem mB (hD:∀f,Cb P C.E C.G f (D f)) {nR:Nat} {R0:Cz} {nt n0:Nat} {ops:Array Oper} {Q:Exit->Act->World->Prop} :
  ∀{i:Nat} {fl:List (BY × List Nat)} {s s':St},RF C.E D false n0 i fl s s'->∀(l:List Oper) (a:Act) (w:World),l.map (BN P C.G nt ops)=fl.map Prod.fst->Ok C nR R0 nt s a w ->
   (∀a' w',Ok C nR R0 nt s' a' w'->Q .normal a' w')->wpList P ops Q l a w:=by
 intro i fl s s' h
 have good:∀(o:Oper) (l:List Oper) (ao:BY) (fl:List BY),(o::l).map (BN P C.G nt ops)=ao::fl->(∃e,∃(b:Bool),Bv e ao.guard=some b/\(b=true->ao.op ≠ .bad)) ->
   ao.dst=o.dst/\ao.op=Ag P C.G o.op/\GN nt o.dst=true/\QT ops o.guard=some ao.guard/\l.map (BN P C.G nt ops)=fl:=by
  intro o l ao fl hm ⟨e,b,hw,hb⟩
  simp only[B3,List.cons.injEq]at hm
  obtain⟨h1,h2⟩:=hm
  unfold BN at h1
  split at h1
  ·rename_i g hg hd
   subst h1
   exact⟨rfl,rfl,hd,hg,h2⟩
  ·exfalso
   subst h1
   simp only[Bv,AP.injEq]at hw
   exact hb hw.symm rfl
 have nostep:∀{pw id nx e q r J out},FG e->¬GK C.E D pw id nx .bad e q r J out:=by
  intro pw id nx e q r J out hlive h
  cases h with
  | p v hc h=>
   have:=h hlive
   cases this
  | l v hc h=>cases hc
  | a v b hc h=>cases hc
  | k v J1 J2 hc h hs=>cases hc
  | mv x m off ho hm=>rcases ho with ho | ho<;>cases ho
  | fa d x m off ho hm=>cases ho
  | ld x m off l v ho hm hl h=>cases ho
  | ldn n x m off l ho hm hl h=>cases ho
  | st n x y m off l cs u hw ho hm hl hn hu hlu hcs h1 hlen h=>cases ho
 induction h with
 | nil i s=>
  intro l a w hl hI hQ
  cases l with
  | nil=>exact hQ a w hI
  | cons o l=>simp at hl
 | shrink i fl s s' e q he hq _ ih=>
  intro l a w hl hI hQ
  obtain⟨R,B,h1,h2,h3,h4,h5,h6,h7⟩:=hI
  exact ih l a w hl ⟨R,B,h1,h2,h3,h4.sub he,h5.sub hq,h6,h7⟩ hQ
 | skip i o ks fl s s' hw _ ih=>
  intro l a w hl hI hQ
  cases l with
  | nil=>simp at hl
  | cons oo l=>
   obtain⟨g1,g2,g3,g4,g5⟩:=good oo l o _ hl ⟨_,false,hw,fun h=>by cases h⟩
   obtain⟨R,B,h1,h2,h3,h4,h5,h6,h7⟩:=hI
   have hdst:=Hl g3 h6
   unfold wpList
   rw[if_neg (by rw[DW (h4.sel false ks).env g4 hw];simp)]
   refine ih l _ w g5 ⟨R,B,h1,h2,h3,?_,?_,by rw[IW];exact h6,by rw[Ev];exact h7⟩ hQ
   ·rw[g1];exact h4.put hdst (.inr rfl)
   ·rw[g1];exact h5.del _ _
 | val i o ks fl s s' pw v r' J' hw hs hlv _ _ ih=>
  intro l a w hl hI hQ
  cases l with
  | nil=>simp at hl
  | cons oo l=>
   obtain⟨R,B,h1,h2,h3,h4,h5,h6,h7⟩:=hI
   obtain⟨g1,g2,g3,g4,g5⟩:=good oo l o _ hl ⟨_,true,hw,fun _ hb=>nostep (h4.sel false ks).live (hb ▸ hs)⟩
   have hdst:=Hl g3 h6
   unfold wpList
   rw[if_pos (DW (h4.sel false ks).env g4 hw)]
   left
   rw[g2]at hs
   refine MF hD h3 (h4.sel false ks) (h5.sel false ks) oo (h3.rel.fresh _ (AN _)) (Bz _) (Ec _) hs _ Q (fun v2 r2 J2 heq R' w' x hle hk hn hmem hv=>?_) (fun m off heq=>by cases heq)
   cases heq
   have hx:G8 s.J.next R R':=fun k hk1=>hk k hk1 (by intro he;subst he;exact CD _ hk1)
   refine ih l _ w' g5 ⟨R',B,h1.trans hx h2,Ae h2 hn,hmem,?_,?_,by rw[IW];exact h6,by rw[Ev];exact h7⟩ hQ
   ·rw[g1]at hlv ⊢
    refine(h4.mono hle).put hdst ?_
    rcases hv with ⟨rfl,hc⟩|hv
    ·rcases hlv with h|h|h
     ·exact .inl h
     ·cases h
     ·rw[g2]at h;exact(h hc).elim
    ·exact .inr hv
   ·rw[g1];exact h5.del _ _
 | mark i o ks fl s s' pw id nx m off hw hs _ ih=>
  intro l a w hl hI hQ
  cases l with
  | nil=>simp at hl
  | cons oo l=>
   obtain⟨R,B,h1,h2,h3,h4,h5,h6,h7⟩:=hI
   obtain⟨g1,g2,g3,g4,g5⟩:=good oo l o _ hl ⟨_,true,hw,fun _ hb=>nostep (h4.sel false ks).live (hb ▸ hs)⟩
   have hdst:=Hl g3 h6
   unfold wpList
   rw[if_pos (DW (h4.sel false ks).env g4 hw)]
   left
   rw[g2]at hs
   have hs2:GK C.E D pw s.J.next (s.J.next+1) (Ag P C.G oo.op) (D4 false ks s.e) (LB false ks s.q) s.r s.J (.mark m off):=by
    cases hs with
    | mv x m off ho hm=>exact .mv x m off ho hm
    | fa d x m off ho hm=>exact .fa d x m off ho hm
   refine MF hD h3 (h4.sel false ks) (h5.sel false ks) oo (h3.rel.fresh _ (AN _)) (Bz _) (Ec _) hs2 _ Q (fun v2 r2 J2 heq=>by cases heq) (fun m2 off2 heq ii hB=>?_)
   cases heq
   refine ih l _ w g5 ⟨R,B,h1,h2,h3,?_,?_,by rw[IW];exact h6,by rw[Ev];exact h7⟩ hQ
   ·rw[g1];exact h4.del _ _
   ·rw[g1];exact h5.mark hdst hB
 | pal i o ks fl s s' d el z hd ho hw _ ih=>
  intro l a w hl hI hQ
  cases l with
  | nil=>simp at hl
  | cons oo l=>
   obtain⟨g1,g2,g3,g4,g5⟩:=good oo l o _ hl ⟨_,true,hw,fun _ hb=>by rw[ho]at hb;cases hb⟩
   obtain⟨R,B,h1,h2,h3,h4,h5,h6,h7⟩:=hI
   have hdst:=Hl g3 h6
   unfold wpList
   rw[if_pos (DW (h4.sel false ks).env g4 hw)]
   left
   rw[g2]at ho
   rw[hd]at g1
   refine dJ h3 oo (d:=d) ho _ Q (fun ii w' hmem=>?_)
   rw[<-g1]at hdst ⊢
   refine ih l _ w' g5 ⟨R,_,h1,h2,hmem,?_,?_,by rw[IW];exact h6,by rw[Ev];exact h7⟩ hQ
   ·exact h4.del (some d) _
   ·exact h5.pal hdst ii
end Go.Og
namespace Go.Og
variable {P:Program} {E:EB} {D:Az} {C:Cx} {R:Cz} {J:H} {w w':World}
inductive Oc where
 | val (v:V)
 | mark (m off:Nat)
 | pal (d:Nat) (z:List V)
def JS (s2 s1:St):Prop:=(∀t v,look s2.e t=some v->look s1.e t=some v)/\(∀t v,look s2.q t=some v->look s1.q t=some v)/\s2.r=s1.r/\s2.J=s1.J
theorem JS.refl (s:St):JS s s:=⟨fun _ _ h=>h,fun _ _ h=>h,rfl,rfl⟩
inductive At (E:EB) (D:Az) (s:St) (o:BY) (ks:List Nat):Oc->Bool->St->Prop where
 | skip (s2:St) (hw:Bv (D4 true ks s.e) o.guard=some false) (h:JS s2 ⟨Cr s.e o.dst EG,CC o.dst s.q,s.r,s.J⟩):At E D s o ks (.val EG) false s2
 | val (s2:St) (pw:Bool) (v:V) (r':Rg) (J':H) (hw:Bv (D4 true ks s.e) o.guard=some true) (hs:GK E D pw s.J.next (s.J.next+1) o.op (D4 true ks s.e) (LB true ks s.q) s.r s.J (.val v r' J'))
   (hl:o.dst=none\/v.live=true\/o.op.cls ≠ .k) (hna:o.op.cls ≠ .a) (h:JS s2 ⟨Cr s.e o.dst v,CC o.dst s.q,r',J'⟩):At E D s o ks (.val v) true s2
 | mark (s2:St) (pw:Bool) (id nx m off:Nat) (hw:Bv (D4 true ks s.e) o.guard=some true) (hs:GK E D pw id nx o.op (D4 true ks s.e) (LB true ks s.q) s.r s.J (.mark m off))
   (h:JS s2 ⟨CC o.dst s.e,Ro (CC o.dst s.q) o.dst (m,off),s.r,s.J⟩):At E D s o ks (.mark m off) true s2
 | pal (s2:St) (d:Nat) (el:TypeId) (z:List V) (hd:o.dst=some d) (ho:o.op = .alloc el z) (hw:Bv (D4 true ks s.e) o.guard=some true)
   (h:JS s2 ⟨Bl [d] s.e,(d,(d,0))::Jl d (Bl [d] s.q),(d,z)::Bl [d] s.r,s.J⟩):At E D s o ks (.pal d z) true s2
theorem aE {n0:Nat}:∀{i:Nat} {fl:List (BY × List Nat)} {s s':St},RF E D true n0 i fl s s' ->
  ∃(sts:Nat->St) (oc:Nat->Oc) (ex:Nat->Bool),JS (sts 0) s/\s'=sts fl.length/\∀(k:Nat) (o:BY) (ks:List Nat),fl[k]? = some (o,ks)->At E D (sts k) o ks (oc k) (ex k) (sts (k+1)):=by
 intro i fl s s' h
 have cons:∀(s s1:St) (o:BY) (ks:List Nat) (l:List (BY × List Nat)) (c:Oc) (x:Bool),(∀s2,JS s2 s1->At E D s o ks c x s2) ->
   (∃(sts:Nat->St) (oc:Nat->Oc) (ex:Nat->Bool),JS (sts 0) s1/\s'=sts l.length/\∀(k:Nat) (o:BY) (ks:List Nat),l[k]? = some (o,ks)->At E D (sts k) o ks (oc k) (ex k) (sts (k+1))) ->
   ∃(sts:Nat->St) (oc:Nat->Oc) (ex:Nat->Bool),JS (sts 0) s/\s'=sts ((o,ks)::l).length/\∀(k:Nat) (o':BY) (ks':List Nat),((o,ks)::l)[k]? = some (o',ks')->At E D (sts k) o' ks' (oc k) (ex k) (sts (k+1)):=by
  rintro s s1 o ks l c x hat ⟨sts,oc,ex,h1,h2,h3⟩
  refine⟨fun k=>Nat.casesOn k s sts,fun k=>Nat.casesOn k c oc,fun k=>Nat.casesOn k x ex,JS.refl s,h2,fun k o' ks' hk=>?_⟩
  cases k with
  | zero=>
   simp only[IN,AP.injEq,Prod.mk.injEq]at hk
   obtain⟨rfl,rfl⟩:=hk
   exact hat _ h1
  | succ k=>
   simp only[CK]at hk
   exact h3 k o' ks' hk
 induction h with
 | nil i s=>exact⟨fun _=>s,fun _ => .val .dead,fun _=>false,JS.refl s,rfl,fun k o ks hk=>by simp at hk⟩
 | skip i o ks l s s' hw _ ih=>exact cons s _ o ks l _ _ (fun s2 hs => .skip s2 hw hs) (ih (cons:=cons))
 | val i o ks l s s' pw v r' J' hw hs hl hna _ ih=>exact cons s _ o ks l _ _ (fun s2 h2 => .val s2 pw v r' J' hw hs hl (hna rfl) h2) (ih (cons:=cons))
 | mark i o ks l s s' pw id nx m off hw hs _ ih=>exact cons s _ o ks l _ _ (fun s2 h2 => .mark s2 pw id nx m off hw hs h2) (ih (cons:=cons))
 | pal i o ks l s s' d el z hd ho hw _ ih=>exact cons s _ o ks l _ _ (fun s2 h2 => .pal s2 d el z hd ho hw h2) (ih (cons:=cons))
 | shrink i l s s' e q he hq _ ih=>
  obtain⟨sts,oc,ex,h1,h2,h3⟩:=ih (cons:=cons)
  exact⟨sts,oc,ex,⟨fun t v hv=>he t v (h1.1 t v hv),fun t v hv=>hq t v (h1.2.1 t v hv),h1.2.2.1,h1.2.2.2⟩,h2,h3⟩
theorem Rz {pw:Bool} {id nx:Nat} {o:Ej} {e:CF} {q:Qs} {r r' rL:Rg} {J':H} {v:V} (h:GK E D pw id nx o e q r J (.val v r' J')) (hr:∀x m off,Fh q x=some (m,off)->look rL m=look r m) :
  ∃rL',GK E D pw id nx o e q rL J (.val v rL' J')/\((r'=r/\rL'=rL)\/∃x m off c l,Fh q x=some (m,off)/\look r m=some l/\r'=LC r m c/\rL'=LC rL m c):=by
 cases h with
 | p _ hc h=>exact⟨rL,.p v hc h,.inl ⟨rfl,rfl⟩⟩
 | l _ hc h=>exact⟨rL,.l v hc h,.inl ⟨rfl,rfl⟩⟩
 | a _ b hc h=>exact⟨rL,.a v b hc h,.inl ⟨rfl,rfl⟩⟩
 | k _ J1 _ hc h hs=>exact⟨rL,.k v J1 J' hc h hs,.inl ⟨rfl,rfl⟩⟩
 | ld x m off l _ ho hm hl h=>exact⟨rL,.ld x m off l v ho hm (by rw[hr x m off hm];exact hl) h,.inl ⟨rfl,rfl⟩⟩
 | ldn n x m off l ho hm hl h=>exact⟨rL,.ldn n x m off l ho hm (by rw[hr x m off hm];exact hl) h,.inl ⟨rfl,rfl⟩⟩
 | st n x y m off l cs u hw ho hm hl hn hu hlu hcs h1 hlen h=>exact⟨_,.st n x y m off l cs u hw ho hm (by rw[hr x m off hm];exact hl) hn hu hlu hcs h1 hlen h,.inr ⟨x,m,off,_,l,hm,hl,rfl,rfl⟩⟩
theorem Pb {pw:Bool} {id nx:Nat} {o:Ej} {e:CF} {q:Qs} {r r':Rg} {J':H} {v:V} (h:GK E D pw id nx o e q r J (.val v r' J')) (hk:o.cls ≠ .k) (ha:o.cls ≠ .a):r'=r/\J'=J:=by
 cases h with
 | p _ hc h=>exact⟨rfl,rfl⟩
 | l _ hc h=>exact⟨rfl,rfl⟩
 | a _ b hc h=>exact(ha hc).elim
 | k _ J1 _ hc h hs=>exact(hk hc).elim
 | ld x m off l _ ho hm hl h=>exact⟨rfl,rfl⟩
 | ldn n x m off l ho hm hl h=>exact⟨rfl,rfl⟩
 | st n x y m off l cs u hw ho hm hl hn hu hlu hcs h1 hlen h=>exact(hk (by rw[ho];rfl)).elim
theorem dW {pw:Bool} {id nx id' nx':Nat} {o:Ej} {e:CF} {q:Qs} {r rL:Rg} {J JL:H} {m off:Nat} (h:GK E D pw id nx o e q r J (.mark m off)):GK E D pw id' nx' o e q rL JL (.mark m off):=by
 cases h with
 | mv x _ _ ho hm=>exact .mv x m off ho hm
 | fa d x _ off ho hm=>exact .fa d x m off ho hm
theorem aK {pw:Bool} {id nx:Nat} {o:Ej} {e:CF} {q:Qs} {r:Rg} {m off:Nat} (h:GK E D pw id nx o e q r J (.mark m off)):∃x off',Fh q x=some (m,off'):=by
 cases h with
 | mv x _ _ ho hm=>exact⟨x,off,hm⟩
 | fa d x _ off ho hm=>exact⟨x,off,hm⟩
theorem IY:∀(l:XL) (g:Option (Nat × Bool)),l.makes=false->∀o∈l.flat g,∀d,o.op.cls = .a->o.dst=some d->Bp l.pals d=true
 | .nil,g,h,o,ho,d,hc,hd=>by simp[XL.flat]at ho
 | .op dd ty ks op r,g,h,o,ho,d,hc,hd=>by
  obtain⟨h1,h2⟩:=Y3 h
  simp only[XL.flat,BJ]at ho
  rcases ho with rfl|ho
  ·exact(h1 hc).elim
  ·exact IY r g h2 o ho d hc hd
 | .pal dd ks el z r,g,h,o,ho,d,hc,hd=>by
  simp only[XL.flat,BJ]at ho
  simp only[XL.pals]
  rw[DE]
  rcases ho with rfl|ho
  ·left;simpa using hd
  ·right;exact IY r g h o ho d hc hd
 | .grp t b l dd ks c x y r,g,h,o,ho,d,hc,hd=>by
  obtain⟨h1,h2⟩:=Wc h
  simp only[XL.flat,Fe,BJ]at ho
  simp only[XL.pals]
  rw[Fg]
  rcases ho with ho|rfl|ho
  ·left;exact IY l _ h1 o ho d hc hd
  ·cases hc
  ·right;exact IY r g h2 o ho d hc hd
theorem Lb {q:Qs}:∀{l:List Nat},Pu q l=true->∀d,Bp l d=true->∀t off,look q t≠some (d,off)
 | [],_,d,hd=>by simp[Bp]at hd
 | a::l,h,d,hd=>by
  simp only[Pu,AK]at h
  intro t off hl
  rcases(DE a l d).1 hd with rfl|hd
  ·have hm:ID a q=[]:=by simpa using h.1
   have:=Iv (m:=a) (q:=q) (t:=t) (p:=(a,off)) (by rw[hm];rfl) hl
   exact this rfl
  ·exact Lb h.2 d hd t off hl
end Go.Og
