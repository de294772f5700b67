/- What the last text leans on, part 2 of 7: merged out of smaller texts. No condition. -/
import Derived.Orders
import Derived.Test.YtnpcmeaplmfdlaaDoorQ0
open Int renaming ofNat -> AA
open Nat renaming le_refl -> AG,le_trans -> AN,beq_eq -> AQ,add -> AU,ble -> Ab,lt_or_ge -> Ad,beq -> Ag,ble_eq -> Ai,zero_add -> B2,zero_le -> CD,blt_eq -> CK,blt -> Cf,lt_of_lt_of_le -> Cz,le_succ -> D3,mod_eq_of_lt -> Ew,min -> Fz,mul -> GY,lt_succ_self -> IJ,strongRecOn -> NQ,testBit_or -> RX,lt_succ_of_lt -> RY,pow_le_pow_right -> Ww,sub_self -> eJ,lt_trichotomy -> wR
open Bool renaming and_eq_true -> AF,or_eq_false_iff -> BN,or_eq_true -> Bg,true_and -> CQ,not_eq_true' -> Cq,false_and -> EW,false_or -> E1,eq_false_iff -> FP,not_true -> Hj,eq_iff_iff -> NR
open Option renaming some -> AK,map_eq_some_iff -> Ao
open List renaming length_cons -> AM,getElem?_eq_getElem -> AY,getElem?_eq_none -> Af,mem_cons_of_mem -> Ah,mem_cons_self -> As,getD_eq_getElem?_getD -> BA,mem_cons -> BF,replicate -> BT,getElem?_map -> Bk,map_cons -> B3,getElem?_drop -> CL,getElem?_cons_succ -> CN,drop_drop -> C5,append_assoc -> DD,getElem?_take -> DN,all_eq_true -> D6,drop_zero -> EV,append_nil -> Eb,mem_append -> G1,range -> Hi,countP_cons_of_pos -> IK,nil_append -> JI,cons_append -> L8,getElem?_cons_zero -> PK,countP_cons_of_neg -> PL,mem_iff_getElem? -> TS,eq_nil_iff_forall_not_mem -> UL,all_cons -> Vp,drop_succ_cons -> bE,mem_range -> nL
open Array renaming getElem?_setIfInBounds -> A1,getElem?_eq_none -> Bq,getElem?_eq_getElem -> DY,size_setIfInBounds -> Dq,getD_eq_getD_getElem? -> D8,getElem?_toList -> GZ,replicate -> G2,getElem?_replicate -> ABj
open BitVec renaming ofInt -> BL
set_option linter.unusedSimpArgs false
namespace Go.Og
variable {P:Program} {G:Nat->Bool} {E:EB} {D:BB} {C:Cx}
theorem Mb {α:Type} (l m:List (Nat × α)) (id:Nat):look (l++m) id=match look l id with
  | some b=>some b
  | none=>look m id:=by
 induction l with
 | nil=>rfl
 | cons p l ih=>
  obtain⟨k,b⟩:=p
  by_cases h:k=id
  ·simp[look,h]
  ·simp only[L8,look,AQ,h,if_false,ih]
theorem J9 {n0 n id:Nat} {p:Nat->Bool}:(Ab n0 id&&Cf id (n0+n) && !p (id-n0))=true↔(n0<=id/\id<n0+n/\p (id-n0)=false):=by
 simp only[AF,Ai,CK,Cq,and_assoc]
theorem Dx (n0 n:Nat) (p:Nat->Bool) (l:EB) (id:Nat) :
  look (Cy n0 n p l) id=if n0<=id/\id<n0+n/\p (id-n0)=false then none else look l id:=by
 induction l with
 | nil=>simp[Cy,look]
 | cons q l ih=>
  obtain⟨k,b⟩:=q
  unfold Cy
  by_cases hk:n0<=k/\k<n0+n/\p (k-n0)=false
  ·rw[if_pos (J9.2 hk),ih]
   by_cases h:k=id
   ·subst h;rw[if_pos hk,if_pos hk]
   ·simp only[look,AQ,h,if_false]
  ·rw[if_neg (fun hh=>hk (J9.1 hh))]
   by_cases h:k=id
   ·subst h;rw[if_neg hk];simp[look]
   ·simp only[look,AQ,h,if_false,ih]
theorem Nz (n0 n:Nat) (p:Nat->Bool) (l:EB) (id:Nat) :
  look (E2 n0 n p l) id=if n0<=id/\id<n0+n/\p (id-n0)=false then look l id else none:=by
 induction l with
 | nil=>simp[E2,look]
 | cons q l ih=>
  obtain⟨k,b⟩:=q
  unfold E2
  by_cases hk:n0<=k/\k<n0+n/\p (k-n0)=false
  ·rw[if_pos (J9.2 hk)]
   by_cases h:k=id
   ·subst h;rw[if_pos hk];simp[look]
   ·simp only[look,AQ,h,if_false,ih]
  ·rw[if_neg (fun hh=>hk (J9.1 hh)),ih]
   by_cases h:k=id
   ·subst h;rw[if_neg hk,if_neg hk]
   ·simp only[look,AQ,h,if_false]
theorem Jj {n0 n:Nat} {p q:Nat->Bool} (h:∀k,k<n->p k=q k):∀l,Cy n0 n p l=Cy n0 n q l
 | []=>rfl
 | (id,b)::l=>by
  unfold Cy
  rw[Jj h l]
  by_cases hk:n0<=id/\id<n0+n
  ·rw[h (id-n0) (by omega)]
  ·have:(Ab n0 id&&Cf id (n0+n))=false:=by
    cases hb:(Ab n0 id&&Cf id (n0+n))with
    | false=>rfl
    | true=>simp only[AF,Ai,CK]at hb;exact(hk hb).elim
   rw[this];simp
theorem Mc {n0 n:Nat} {p q:Nat->Bool} (h:∀k,k<n->p k=q k):∀l,E2 n0 n p l=E2 n0 n q l
 | []=>rfl
 | (id,b)::l=>by
  unfold E2
  rw[Mc h l]
  by_cases hk:n0<=id/\id<n0+n
  ·rw[h (id-n0) (by omega)]
  ·have:(Ab n0 id&&Cf id (n0+n))=false:=by
    cases hb:(Ab n0 id&&Cf id (n0+n))with
    | false=>rfl
    | true=>simp only[AF,Ai,CK]at hb;exact(hk hb).elim
   rw[this];simp
mutual
theorem MS:∀(a b:V),V.beq a b=true->a=b
 | .dead,b,h=>by cases b<;>simp[V.beq]at h
 | .bool a,b,h=>by cases b<;>simp[V.beq]at h;subst h;rfl
 | .int k a,b,h=>by cases b<;>simp[V.beq]at h;obtain⟨rfl,rfl⟩:=h;rfl
 | .str a,b,h=>by cases b<;>simp[V.beq]at h;subst h;rfl
 | .nilp,b,h=>by cases b<;>simp[V.beq]at h;rfl
 | .ptr _ _,b,h=>by cases b<;>simp[V.beq]at h;obtain⟨rfl,rfl⟩:=h;rfl
 | .nils,b,h=>by cases b<;>simp[V.beq]at h;rfl
 | .sl _ _ _ _,b,h=>by cases b<;>simp[V.beq]at h;obtain⟨⟨⟨rfl,rfl⟩,rfl⟩,rfl⟩:=h;rfl
 | .sle _ _ _ _,b,h=>by cases b<;>simp[V.beq]at h;obtain⟨⟨⟨rfl,rfl⟩,rfl⟩,rfl⟩:=h;rfl
 | .nilm,b,h=>by cases b<;>simp[V.beq]at h;rfl
 | .mp _,b,h=>by cases b<;>simp[V.beq]at h;subst h;rfl
 | .fn f x y,b,h=>by
  cases b with
  | fn g u v=>
   simp only[V.beq,AF,AQ]at h
   obtain⟨⟨rfl,h1⟩,h2⟩:=h
   rw[KE x u h1,KE y v h2]
  | _=>simp[V.beq]at h
 | .nilf,b,h=>by cases b<;>simp[V.beq]at h;rfl
 | .ifc t x,b,h=>by
  cases b with
  | ifc u y=>
   simp only[V.beq,AF,AQ]at h
   obtain⟨rfl,h1⟩:=h
   rw[MS x y h1]
  | _=>simp[V.beq]at h
 | .nili,b,h=>by cases b<;>simp[V.beq]at h;rfl
 | .agg l,b,h=>by
  cases b with
  | agg m=>simp only[V.beq]at h;rw[KE l m h]
  | _=>simp[V.beq]at h
 | .tup l,b,h=>by
  cases b with
  | tup m=>simp only[V.beq]at h;rw[KE l m h]
  | _=>simp[V.beq]at h
theorem KE:∀(l m:List V),M3 l m=true->l=m
 | [],m,h=>by cases m<;>simp[M3]at h;rfl
 | a::l,m,h=>by
  cases m with
  | nil=>simp[M3]at h
  | cons b m=>
   simp only[M3,AF]at h
   rw[MS a b h.1,KE l m h.2]
end
def Cx.sub (C:Cx) (R:Ren) (Zs:H) (w:World):Cx:=
 { C with O:=fun blk=>w.heap.size<=blk\/∃id b j,look Zs.bl id=some b/\R id=some j/\j.blk=blk,w0:=w }
theorem fB {R:Ren} {Z Zs:H} {w:World} (h:DL C R Z w) (hsub:∀id b,look Zs.bl id=some b->look Z.bl id=some b) {blk:Nat} (hO:(C.sub R Zs w).O blk):C.O blk:=by
 rcases hO with hge|⟨id,b,j,hb,hj,rfl⟩
 ·exact h.new _ (AN h.size hge)
 ·obtain⟨j',hj',hO',_⟩:=h.own id b (hsub id b hb)
  rw[hj]at hj';cases hj';exact hO'
theorem DL.shrink {R:Ren} {Z Zs:H} {w:World} (h:DL C R Z w) (hn:Zs.next=Z.next) (hsub:∀id b,look Zs.bl id=some b->look Z.bl id=some b):DL (C.sub R Zs w) R Zs w where
 fresh id hid:=h.fresh id (hn ▸ hid)
 own id b hb:=by
  obtain⟨j,hj,_,hok⟩:=h.own id b (hsub id b hb)
  exact⟨j,hj,.inr ⟨id,b,j,hb,hj,rfl⟩,hok⟩
 inj id id' b b' i i' hb hb' hi hi' hbl:=h.inj id id' b b' i i' (hsub _ _ hb) (hsub _ _ hb') hi hi' hbl
 ext id b hb:=by
  obtain⟨j,hj,hno,hok⟩:=h.ext id b hb
  exact⟨j,hj,fun hO=>hno (fB h hsub hO),hok⟩
 glob:=h.glob
 fr _ _:=rfl
 size:=AG _
 new _ hblk := .inl hblk
 os:=rfl
 tape:=rfl
 output:=rfl
theorem DL.regrow {R R':Ren} {Z Zs Z' Z2:H} {w w':World} (h:DL C R Z w) (hsub:∀id b,look Zs.bl id=some b->look Z.bl id=some b)
  (hs:DL (C.sub R Zs w) R' Z' w') (hx:Gw Z.next R R') (h2:Z2.next=Z'.next)
  (hl:∀id b,look Z2.bl id=some b->look Z'.bl id=some b\/(look Z.bl id=some b/\look Zs.bl id=none)):DL C R' Z2 w':=by
 have hle:Le R R':=hx.le h.fresh
 have hOO:∀blk,(C.sub R Zs w).O blk->C.O blk:=fun blk hO=>fB h hsub hO
 have hno:∀id b j,look Z.bl id=some b->look Zs.bl id=none->R id=some j->¬(C.sub R Zs w).O j.blk:=by
  intro id b j hb hnone hj hO
  rcases hO with hge|⟨id2,b2,j2,hb2,hj2,hbl⟩
  ·obtain⟨j',hj',_,hok⟩:=h.own id b hb
   rw[hj]at hj';cases hj'
   have:=hok.lt
   omega
  ·have:=h.inj id2 id b2 b j2 j (hsub _ _ hb2) hb hj2 hj hbl
   subst this
   rw[hnone]at hb2;cases hb2
 have hR:∀id b,look Z.bl id=some b->R' id=R id:=fun id b hb=>hx id (h.next_of_own hb)
 refine⟨fun id hid=>hs.fresh id (h2 ▸ hid),?_,?_,?_,?_,?_,?_,h.new,hs.os.trans h.os,hs.tape.trans h.tape,hs.output.trans h.output⟩
 ·intro id b hb
  rcases hl id b hb with h1|⟨h1,h1n⟩
  ·obtain⟨j,hj,hO,hok⟩:=hs.own id b h1
   exact⟨j,hj,hOO _ hO,hok⟩
  ·obtain⟨j,hj,hO,hok⟩:=h.own id b h1
   exact⟨j,by rw[hR id b h1];exact hj,hO,hok.mono hle (hs.fr _ (hno id b j h1 h1n hj))⟩
 ·intro id id' b b' i i' hb hb' hi hi' hbl
  rcases hl id b hb with h1|⟨h1,h1n⟩
  ·rcases hl id' b' hb' with h1'|⟨h1',h1n'⟩
   ·exact hs.inj id id' b b' i i' h1 h1' hi hi' hbl
   ·exfalso
    obtain⟨j,hj,hO,_⟩:=hs.own id b h1
    rw[hi]at hj;cases hj
    rw[hR id' b' h1']at hi'
    exact hno id' b' i' h1' h1n' hi' (hbl ▸ hO)
  ·rcases hl id' b' hb' with h1'|⟨h1',h1n'⟩
   ·exfalso
    obtain⟨j,hj,hO,_⟩:=hs.own id' b' h1'
    rw[hi']at hj;cases hj
    rw[hR id b h1]at hi
    exact hno id b i h1 h1n hi (hbl ▸ hO)
   ·rw[hR id b h1]at hi;rw[hR id' b' h1']at hi'
    exact h.inj id id' b b' i i' h1 h1' hi hi' hbl
 ·intro id b hb
  obtain⟨j,hj,hn,hok⟩:=h.ext id b hb
  exact⟨j,hle _ _ hj,hn,hok.mono hle (hs.fr _ fun hO=>hn (hOO _ hO))⟩
 ·intro g hg
  obtain⟨j,hj,hb⟩:=h.glob g hg
  exact⟨j,hle _ _ hj,hb⟩
 ·intro blk hn
  rw[<-h.fr blk hn]
  exact hs.fr blk fun hO=>hn (hOO _ hO)
 ·exact AN h.size hs.size
theorem DL.allocAt {R:Ren} {Z Z2:H} {w w':World} (h:DL C R Z w) {id:Nat} (hid:R id=none) (hlt:id<Z.next) (hn:FA w w') (b:Gv) (i:BI) (hi:i.blk=w.heap.size)
  (hb:E4 (Hl R id i) i b w') (h2:Z2.next=Z.next) (hl:∀k,look Z2.bl k=if k=id then some b else look Z.bl k):DL C (Hl R id i) Z2 w':=by
 have hle:Le R (Hl R id i):=fun k j hk=>by
  by_cases he:k=id
  ·subst he;rw[hid]at hk;cases hk
  ·rw[Bb he];exact hk
 have hold:=hn.old
 have hO:C.O w.heap.size:=h.new _ h.size
 refine⟨?_,?_,?_,?_,?_,?_,?_,h.new,hn.os.trans h.os,hn.tape.trans h.tape,hn.output.trans h.output⟩
 ·intro k hk
  rw[Bb (by omega)];exact h.fresh k (by omega)
 ·intro k c hc
  rw[hl]at hc
  by_cases he:k=id
  ·subst he
   rw[if_pos rfl]at hc;cases hc
   exact⟨i,Bv _ _ _,hi ▸ hO,hb⟩
  ·rw[if_neg he]at hc
   obtain⟨j,hj,hOj,hok⟩:=h.own k c hc
   exact⟨j,by rw[Bb he];exact hj,hOj,hok.mono hle (hold _ hok.lt)⟩
 ·intro k k' c c' j j' hc hc' hj hj' hbl
  rw[hl]at hc hc'
  by_cases he:k=id
  ·by_cases he':k'=id
   ·rw[he,he']
   ·exfalso
    subst he
    rw[Bv]at hj;cases hj
    rw[if_neg he']at hc'
    rw[Bb he']at hj'
    obtain⟨q,hq,_,hok⟩:=h.own k' c' hc'
    rw[hq]at hj';cases hj'
    have:=hok.lt
    omega
  ·by_cases he':k'=id
   ·exfalso
    subst he'
    rw[Bv]at hj';cases hj'
    rw[if_neg he]at hc
    rw[Bb he]at hj
    obtain⟨q,hq,_,hok⟩:=h.own k c hc
    rw[hq]at hj;cases hj
    have:=hok.lt
    omega
   ·rw[if_neg he]at hc;rw[if_neg he']at hc'
    rw[Bb he]at hj;rw[Bb he']at hj'
    exact h.inj k k' c c' j j' hc hc' hj hj' hbl
 ·intro k c hc
  obtain⟨j,hj,hno,hok⟩:=h.ext k c hc
  refine⟨j,hle _ _ hj,hno,hok.mono hle (hold _ ?_)⟩
  rcases Ad j.blk w.heap.size with hl|hl
  ·exact hl
  ·exact absurd (h.new _ (AN h.size hl)) hno
 ·intro g hg
  obtain⟨j,hj,hb⟩:=h.glob g hg
  exact⟨j,hle _ _ hj,hb⟩
 ·intro blk hno
  rw[<-h.fr blk hno]
  refine hold _ ?_
  rcases Ad blk w.heap.size with hl|hl
  ·exact hl
  ·exact absurd (h.new _ (AN h.size hl)) hno
 ·rw[hn.size];have:=h.size;omega
theorem DL.congr {R:Ren} {Z Z2:H} {w:World} (h:DL C R Z w) (hn:∀id,Z2.next<=id->R id=none) (hl:∀k b,look Z2.bl k=some b->look Z.bl k=some b):DL C R Z2 w:=
 ⟨hn,fun k c hk=>h.own k c (hl k c hk),fun k k' c c' i i' hk hk'=>h.inj k k' c c' i i' (hl k c hk) (hl k' c' hk'),h.ext,h.glob,h.fr,h.size,h.new,h.os,h.tape,h.output⟩
theorem UY {R:Ren} {Z Zs:H} {w:World} (h:DL C R Z w) (hsub:∀id b,look Zs.bl id=some b->look Z.bl id=some b) {id:Nat} {l:List V} (hr:rd C.E Zs id=some l):rd C.E Z id=some l:=by
 unfold rd at hr ⊢
 cases hs:look Zs.bl id with
 | some b=>rw[hs]at hr;rw[hsub id b hs];exact hr
 | none=>
  rw[hs]at hr
  cases he:look C.E id with
  | none=>rw[he]at hr;cases hr
  | some b=>
   rw[he]at hr
   cases ho:look Z.bl id with
   | none=>exact hr
   | some c=>
    exfalso
    obtain⟨j,hj,hO,_⟩:=h.own id c ho
    obtain⟨j',hj',hno,_⟩:=h.ext id b he
    rw[hj]at hj';cases hj'
    exact hno hO
theorem Rv {R:Ren} {Z Zs:H} {w:World} (h:DL C R Z w) (hsub:∀id b,look Zs.bl id=some b->look Z.bl id=some b) {id off n:Nat} {l:List V} (hr:PM C.E Zs id off n=some l):PM C.E Z id off n=some l:=by
 unfold PM at hr ⊢
 cases hs:rd C.E Zs id with
 | none=>rw[hs]at hr;cases hr
 | some m=>rw[hs]at hr;rw[UY h hsub hs];exact hr
theorem Xb {R:Ren} {Z Zs:H} {w:World} (h:DL C R Z w) (hsub:∀id b,look Zs.bl id=some b->look Z.bl id=some b) {esz:Nat} {x:V} {q:Nat × List V} (hr:CY C.E Zs esz x=some q):CY C.E Z esz x=some q:=by
 unfold CY at hr ⊢
 split at hr
 ·exact hr
 ·exact hr
 ·simp only[Ao]at hr ⊢
  obtain⟨m,hm,rfl⟩:=hr
  exact⟨m,Rv h hsub hm,rfl⟩
 ·exact hr
 ·cases hr
theorem We {R:Ren} {Z Zs:H} {w:World} (h:DL C R Z w) (hsub:∀id b,look Zs.bl id=some b->look Z.bl id=some b) {op:EK} {e:Bt} {v:V} (hr:CU C.E op e Zs=some v):CU C.E op e Z=some v:=by
 unfold CU at hr ⊢
 split at hr
 ·split at hr
  ·split at hr
   ·rename_i hq;rw[UY h hsub hq];exact hr
   ·cases hr
  ·cases hr
 ·split at hr
  ·split at hr
   ·rename_i hq;rw[Rv h hsub hq];exact hr
   ·cases hr
  ·cases hr
 ·split at hr
  ·cases hr
  ·rename_i hns
   rw[if_neg hns]
   split at hr
   ·rename_i hq;rw[Xb h hsub hq];exact hr
   ·cases hr
 ·unfold LZ at hr ⊢
  split at hr
  ·split at hr
   ·rename_i hq;rw[hsub _ _ hq];exact hr
   ·cases hr
  ·cases hr
 ·unfold NK at hr ⊢
  split at hr
  ·split at hr
   ·rename_i hq;rw[hsub _ _ hq];exact hr
   ·cases hr
  ·cases hr
 ·cases hr
end Go.Og
namespace Go.Og
variable {P:Program} {G:Nat->Bool} {E:EB} {D:BB} {C:Cx}
theorem HA:∀{n:Nat} {p:Nat->Bool},T5 n p=true->∀k,k<n->p k=true
 | n+1,p,h,k,hk=>by
  simp only[T5,AF]at h
  by_cases he:k=n
  ·subst he;exact h.1
  ·exact HA h.2 k (by omega)
structure QR (ops:Array Oper) (l:List BR) (pl:List DP):Prop where
 len:pl.length=ops.size
 llen:l.length=ops.size
 edges:∀(i:Nat) (o:Oper),ops[i]? = some o->∀e∈o.after,Region.binds .any e=true->e.on<i
 anc:∀(i:Nat) (o:Oper) (p:DP),ops[i]? = some o->pl[i]? = some p->∀k,k<ops.size->p.anc.testBit k=true->∃e∈o.after,Region.binds .any e=true/\(e.on=k\/(Gp pl e.on).testBit k=true)
 dsts:∀(i k:Nat) (o o':Oper) (p p':DP),i≠k->ops[i]? = some o->ops[k]? = some o'->pl[i]? = some p->pl[k]? = some p'->∀(t:Nat),o.dst=some t ->
  o'.dst≠some t/\(Bd p'.looks t=true->p'.anc.testBit i=true\/p.anc.testBit k=true)
 kk:∀(i k:Nat) (ao ao':BR) (p':DP),i<k->l[i]? = some ao->l[k]? = some ao'->pl[k]? = some p'->ao.op.cls = .k->ao'.op.cls = .k->p'.anc.testBit i=true
theorem Pr {ops:Array Oper} {l:List BR} {pl:List DP} (hl:l.length=ops.size) (h:Ns ops l pl=true):QR ops l pl:=by
 unfold Ns at h
 simp only[AF,AQ]at h
 obtain⟨hlen,h⟩:=h
 have hlt:∀{i:Nat} {o:Oper},ops[i]? = some o->i<ops.size:=fun {i o} ho=>by
  rcases Ad i ops.size with h|h
  ·exact h
  ·rw[Bq h]at ho;cases ho
 have hmain:=HA h
 have hl_lt:∀{i:Nat} {o:BR},l[i]? = some o->i<ops.size:=fun {i o} ho=>by
  rcases Ad i l.length with h|h
  ·omega
  ·rw[Af h]at ho;cases ho
 have some3:∀i,i<ops.size->∃o ao p,ops[i]? = some o/\l[i]? = some ao/\pl[i]? = some p:=fun i hi=>
  ⟨_,_,_,DY hi,AY (by omega),AY (by omega)⟩
 refine⟨hlen,hl,?_,?_,?_,?_⟩
 ·intro i o ho e he hb
  obtain⟨o1,ao,p,h1,h2,h3⟩:=some3 i (hlt ho)
  have hm:=hmain i (hlt ho)
  rw[h1,h2,h3]at hm
  rw[ho]at h1;cases h1
  simp only[AF]at hm
  have:=D6.1 hm.1 e (by simpa using he)
  simp only[hb,Hj,E1,CK]at this
  exact this
 ·intro i o p ho hp k hk hbit
  obtain⟨o1,ao,p1,h1,h2,h3⟩:=some3 i (hlt ho)
  have hm:=hmain i (hlt ho)
  rw[h1,h2,h3]at hm
  rw[ho]at h1;cases h1
  rw[hp]at h3;cases h3
  simp only[AF]at hm
  have hk2:=HA hm.2 k hk
  simp only[AF]at hk2
  have:=hk2.1
  rw[hbit]at this
  simp only[Hj,E1,List.any_eq_true,AF,Bg,AQ]at this
  obtain⟨e,he,hb,hr⟩:=this
  exact⟨e,by simpa using he,hb,hr⟩
 ·intro i k o o' p p' hne ho ho' hp hp' t ht
  obtain⟨o1,ao,p1,h1,h2,h3⟩:=some3 i (hlt ho)
  obtain⟨o2,ao2,p2,h1',h2',h3'⟩:=some3 k (hlt ho')
  have hm:=hmain i (hlt ho)
  rw[h1,h2,h3]at hm
  rw[ho]at h1;cases h1
  rw[hp]at h3;cases h3
  rw[ho']at h1';cases h1'
  rw[hp']at h3';cases h3'
  simp only[AF]at hm
  have hk2:=HA hm.2 k (hlt ho')
  have hik:Ag i k=false:=FP.2 (by rw[ne_eq,AQ];exact hne)
  simp only[AF,hik,E1]at hk2
  have:=hk2.2
  rw[ho',h2',hp']at this
  simp only[ht,AF]at this
  obtain⟨⟨h4,h5⟩,_⟩:=this
  constructor
  ·intro heq
   rw[heq]at h4
   simp at h4
  ·intro hmem
   rw[hmem]at h5
   simpa using h5
 ·intro i k ao ao' p' hik ha ha' hp' hc hc'
  obtain⟨o1,ao1,p1,h1,h2,h3⟩:=some3 i (hl_lt ha)
  obtain⟨o2,ao2,p2,h1',h2',h3'⟩:=some3 k (hl_lt ha')
  have hm:=hmain i (hl_lt ha)
  rw[h1,h2,h3]at hm
  rw[ha]at h2;cases h2
  rw[ha']at h2';cases h2'
  rw[hp']at h3';cases h3'
  simp only[AF]at hm
  have hk2:=HA hm.2 k (hl_lt ha')
  have hne:Ag i k=false:=FP.2 (by rw[ne_eq,AQ];omega)
  simp only[AF,hne,E1]at hk2
  have:=hk2.2
  rw[h1',ha',hp']at this
  simp only[AF,hc,hc']at this
  have:=this.2
  have hb:Cf i k=true:=by simpa using hik
  rw[hb]at this
  simpa using this
theorem QR.ancLt {ops:Array Oper} {l:List BR} {pl:List DP} (h:QR ops l pl):∀(i:Nat) (p:DP),pl[i]? = some p->∀(k:Nat),k<ops.size->p.anc.testBit k=true->k<i:=by
 intro i
 induction i using NQ with
 | _ i ih=>
  intro p hp k hk hb
  have hi:i<ops.size:=by
   rcases Ad i pl.length with h1|h1
   ·have:=h.len;omega
   ·rw[Af h1]at hp;cases hp
  obtain⟨e,he,hbe,hr⟩:=h.anc i ops[i] p (DY hi) hp k hk hb
  have hlt:=h.edges i ops[i] (DY hi) e he hbe
  rcases hr with rfl|hr
  ·exact hlt
  ·have hel:e.on<pl.length:=by have:=h.len;omega
   have hp':pl[e.on]? = some pl[e.on]:=AY hel
   have:(pl[e.on]).anc.testBit k=true:=by
    simpa[Gp,BA,hp']using hr
   have:=ih e.on hlt _ hp' k hk this
   omega
structure Tr (E:EB) (D:BB) (l:List BR) (pl:List DP) (n0 n:Nat) (e0:Bt) (h0:EB) (i:Nat) (s:DS) where
 vals:Nat->V
 envs:Nat->Bt
 Hh:Nat->EB
 nx:Nat->Nat
 ks:Nat->Nat
 M:Nat
 ssl:s.ss.length=M+1
 ssg:∀(m:Nat),m<=M->s.ss[M-m]? = some (Hh m)
 ksl:s.ks.length=M
 ksg:∀(r:Nat),r<M->s.ks[M-1-r]? = some (ks r)
 ke:s.e=envs i
 ez:envs 0=e0
 es:∀(k:Nat),k<i->∀(o:BR),l[k]? = some o->envs (k+1)=Cb (envs k) o.dst (vals k)
 nx0:nx 0=n0+n
 nxs:s.nx=nx M
 hz:∀id,¬(n0<=id/\id<n0+n)->look (Hh 0) id=look h0 id
 ops:∀(k:Nat),k<i->∀(o:BR) (p:DP),l[k]? = some o->pl[k]? = some p ->
  (BZ (restr p.looks (envs k)) o.guard=some false/\vals k=Dn/\s.am.testBit k=false/\∀r,r<M->ks r≠k) \/
  (BZ (restr p.looks (envs k)) o.guard=some true /\
   ((o.op.cls = .p/\BU o.op (restr p.looks (envs k))=some (vals k)/\s.am.testBit k=false/\∀r,r<M->ks r≠k) \/
    (o.op.cls = .l/\(k,o.op,restr p.looks (envs k),vals k)∈s.ls/\s.am.testBit k=false/\∀r,r<M->ks r≠k) \/
    (o.op.cls = .a/\s.am.testBit k=true/\(∀r,r<M->ks r≠k)/\∃b,CX o.op (restr p.looks (envs k)) (n0+k)=some (vals k,b) /\
     ∀m,m<=M->(∀r,r<m->(Gp pl (ks r)).testBit k=false)->look (Hh m) (n0+k)=some b) \/
    (o.op.cls = .k/\s.am.testBit k=false/\∃r,r<M/\ks r=k)))
 amlt:∀k,s.am.testBit k=true->k<i
 kst:∀r,r<M->ks r<i/\∃(o:BR) (p:DP) (Z':H),l[ks r]? = some o/\pl[ks r]? = some p/\o.op.cls = .k/\BZ (restr p.looks (envs (ks r))) o.guard=some true /\
  EO E D o.op (restr p.looks (envs (ks r))) ⟨nx r,Cy n0 n (Dj p.anc s.am) (Hh r)⟩=some (vals (ks r),Z') /\
  Hh (r+1)=E2 n0 n (Dj p.anc s.am) (Hh r)++Z'.bl/\nx (r+1)=Z'.next
 kinc:∀r r',r<r'->r'<M->ks r<ks r'
theorem HM {a i k:Nat}:(a ||| 2 ^ i).testBit k=(a.testBit k || decide (i=k)):=by
 rw[RX,Nat.testBit_two_pow]
theorem Tr.start (E : EB) (D : BB) (l : List BR) (pl : List DP) (n0 n : Nat) (e0 : Bt) (h0 : EB) : Nonempty (Tr E D l pl n0 n e0 h0 0 ⟨e0, n0 + n, [h0], [], 0, []⟩) :=
  ⟨{ vals := fun _ => .dead, envs := fun _ => e0, Hh := fun _ => h0, nx := fun _ => n0 + n, ks := fun _ => 0, M := 0,
     ssl := rfl, ssg := fun m hm => by have : m = 0 := by omega
                                       subst this; rfl
     ksl := rfl, ksg := fun r hr => by omega
     ke := rfl, ez := rfl, es := fun k hk => by omega
     nx0 := rfl, nxs := rfl, hz := fun _ _ => rfl
     ops := fun k hk => by omega
     amlt := fun k hk => by simp at hk
     kst := fun r hr => by omega
     kinc := fun r r' h h' => by omega }⟩
def PT {α:Type} (f:Nat->α) (i:Nat) (v:α) (k:Nat):α:=if k=i then v else f k
theorem CM {α:Type} (f:Nat->α) (i:Nat) (v:α):PT f i v i=v:=if_pos rfl
theorem Iq {α:Type} (f:Nat->α) {i k:Nat} (v:α) (h:k≠i):PT f i v k=f k:=if_neg h
theorem Tr.quiet {l:List BR} {pl:List DP} {n0 n:Nat} {e0:Bt} {h0:EB} {i:Nat} {s:DS} (T:Tr E D l pl n0 n e0 h0 i s) {o:BR} {p:DP} (ho:l[i]? = some o) (hp:pl[i]? = some p) (v:V) (ls:List (Nat × EK × Bt × V))
    (hls:∀x,x∈s.ls->x∈ls)
    (hcase:(BZ (restr p.looks s.e) o.guard=some false/\v=Dn)\/(BZ (restr p.looks s.e) o.guard=some true /\
      ((o.op.cls = .p/\BU o.op (restr p.looks s.e)=some v)\/(o.op.cls = .l/\(i,o.op,restr p.looks s.e,v)∈ls)))) :
    Nonempty (Tr E D l pl n0 n e0 h0 (i+1) { s with e:=Cb s.e o.dst v,ls:=ls }):=by
  obtain⟨vals,envs,Hh,nx,ks,M,ssl,ssg,ksl,ksg,ke,ez,es,nx0,nxs,hz,ops,amlt,kst,kinc⟩:=T
  have hne:∀r,r<M->ks r≠i:=fun r hr=>by have:=(kst r hr).1;omega
  have ham:s.am.testBit i=false:=by
    cases hb:s.am.testBit i with
    | false=>rfl
    | true=>have:=amlt i hb;omega
  have hval:∀k,k<i->PT vals i v k=vals k:=fun k hk=>Iq _ _ (by omega)
  have henv:∀k,k<i+1->PT envs (i+1) (Cb s.e o.dst v) k=envs k:=fun k hk=>Iq _ _ (by omega)
  refine⟨{ vals:=PT vals i v,envs:=PT envs (i+1) (Cb s.e o.dst v),Hh:=Hh,nx:=nx,ks:=ks,M:=M,
            ssl:=ssl,ssg:=ssg,ksl:=ksl,ksg:=ksg,ke:=(CM _ _ _).symm,ez:=by rw[henv 0 (by omega)];exact ez,es:=?_,nx0:=nx0,nxs:=nxs,hz:=hz,ops:=?_,amlt:=fun k hk=>RY (amlt k hk),kst:=?_,kinc:=kinc }⟩
  · intro k hk o' ho'
    by_cases he:k=i
    · subst he
      rw[ho]at ho';cases ho'
      rw[CM,CM,henv k (by omega),ke]
    · rw[henv k (by omega),hval k (by omega),henv (k+1) (by omega)]
      exact es k (by omega) o' ho'
  · intro k hk o' p' ho' hp'
    by_cases he:k=i
    · subst he
      rw[ho]at ho';cases ho'
      rw[hp]at hp';cases hp'
      rw[henv k (by omega),<-ke,CM]
      rcases hcase with ⟨h1,h2⟩|⟨h1,h2⟩
      · exact .inl ⟨h1,h2,ham,hne⟩
      · refine .inr ⟨h1,?_⟩
        rcases h2 with ⟨h2,h3⟩|⟨h2,h3⟩
        · exact .inl ⟨h2,h3,ham,hne⟩
        · exact .inr (.inl ⟨h2,h3,ham,hne⟩)
    · rw[henv k (by omega),hval k (by omega)]
      rcases ops k (by omega) o' p' ho' hp' with h1|⟨h1,h2|⟨h2,h3,h4⟩|h2|h2⟩
      · exact .inl h1
      · exact .inr ⟨h1,.inl h2⟩
      · exact .inr ⟨h1,.inr (.inl ⟨h2,hls _ h3,h4⟩)⟩
      · exact .inr ⟨h1,.inr (.inr (.inl h2))⟩
      · exact .inr ⟨h1,.inr (.inr (.inr h2))⟩
  · intro r hr
    obtain⟨h1,o',p',Z',h2,h3,h4,h5,h6,h7,h8⟩:=kst r hr
    refine⟨by omega,o',p',Z',h2,h3,h4,?_,?_,h7,h8⟩
    · rw[henv _ (by omega)];exact h5
    · rw[henv _ (by omega),hval _ h1];exact h6
end Go.Og
namespace Go.Og
variable {P:Program} {G:Nat->Bool} {E:EB} {D:BB} {C:Cx}
theorem Ie {pl:List DP} {i:Nat} {p:DP} (h:pl[i]? = some p):Gp pl i=p.anc:=by simp[Gp,BA,h]
theorem Tr.make {ops' : Array Oper} {l : List BR} {pl : List DP} (F : QR ops' l pl) {n0 n : Nat} (hn : n = ops'.size) {e0 : Bt} {h0 : EB} {i : Nat} {s : DS} (T : Tr E D l pl n0 n e0 h0 i s) {o : BR} {p : DP}
    (ho : l[i]? = some o) (hp : pl[i]? = some p) (v : V) (b : Gv) (hw : BZ (restr p.looks s.e) o.guard = some true) (hc : o.op.cls = .a) (ha : CX o.op (restr p.looks s.e) (n0 + i) = some (v, b)) :
    Nonempty (Tr E D l pl n0 n e0 h0 (i + 1) { s with e := Cb s.e o.dst v, ss := s.ss.map ((n0 + i, b) :: ·), am := s.am ||| 2 ^ i }) := by
  obtain ⟨vals, envs, Hh, nx, ks, M, ssl, ssg, ksl, ksg, ke, ez, es, nx0, nxs, hz, ops, amlt, kst, kinc⟩ := T
  have hin : i < n := by
    rcases Ad i l.length with h | h
    · have := F.llen; omega
    · rw [Af h] at ho; cases ho
  have hne : ∀ r, r < M → ks r ≠ i := fun r hr => by have := (kst r hr).1; omega
  have hval : ∀ k, k < i → PT vals i v k = vals k := fun k hk => Iq _ _ (by omega)
  have henv : ∀ k, k < i + 1 → PT envs (i + 1) (Cb s.e o.dst v) k = envs k := fun k hk => Iq _ _ (by omega)
  have hlk : ∀ m k, k ≠ i → look ((n0 + i, b) :: Hh m) (n0 + k) = look (Hh m) (n0 + k) := fun m k hk => by
    simp only [look, AQ]
    rw [if_neg (by omega)]
  have ham : ∀ k, k ≠ i → (s.am ||| 2 ^ i).testBit k = s.am.testBit k := fun k hk => by
    rw [HM]; simp [Ne.symm hk]
  refine ⟨{ vals := PT vals i v, envs := PT envs (i + 1) (Cb s.e o.dst v), Hh := fun m => (n0 + i, b) :: Hh m, nx := nx, ks := ks, M := M,
            ssl := by simp [ssl], ssg := fun m hm => by rw [Bk, ssg m hm]; rfl
            ksl := ksl, ksg := ksg, ke := (CM _ _ _).symm, ez := by rw [henv 0 (by omega)]; exact ez, es := ?_, nx0 := nx0, nxs := nxs, hz := ?_, ops := ?_, amlt := ?_, kst := ?_, kinc := kinc }⟩
  · intro k hk o' ho'
    by_cases he : k = i
    · subst he
      rw [ho] at ho'; cases ho'
      rw [CM, CM, henv k (by omega), ke]
    · rw [henv k (by omega), hval k (by omega), henv (k + 1) (by omega)]
      exact es k (by omega) o' ho'
  · intro id hid
    simp only [look, AQ]
    rw [if_neg (by omega)]
    exact hz id hid
  · intro k hk o' p' ho' hp'
    by_cases he : k = i
    · subst he
      rw [ho] at ho'; cases ho'
      rw [hp] at hp'; cases hp'
      rw [henv k (by omega), ← ke, CM]
      refine .inr ⟨hw, .inr (.inr (.inl ⟨hc, by rw [HM]; simp, hne, b, ha, fun m _ _ => by simp [look]⟩))⟩
    · rw [henv k (by omega), hval k (by omega)]
      simp only [ham k he]
      rcases ops k (by omega) o' p' ho' hp' with h1 | ⟨h1, h2 | h2 | ⟨h2, h3, h4, b', h5, h6⟩ | h2⟩
      · exact .inl h1
      · exact .inr ⟨h1, .inl h2⟩
      · exact .inr ⟨h1, .inr (.inl h2)⟩
      · exact .inr ⟨h1, .inr (.inr (.inl ⟨h2, h3, h4, b', h5, fun m hm hr => by rw [hlk m k he]; exact h6 m hm hr⟩))⟩
      · exact .inr ⟨h1, .inr (.inr (.inr h2))⟩
  · intro k hk
    rw [HM] at hk
    simp only [Bg, decide_eq_true_eq] at hk
    rcases hk with hk | hk
    · have := amlt k hk; omega
    · omega
  · intro r hr
    obtain ⟨h1, o', p', Z', h2, h3, h4, h5, h6, h7, h8⟩ := kst r hr
    have hanc : p'.anc.testBit i = false := by
      cases hb : p'.anc.testBit i with
      | false => rfl
      | true => have := F.ancLt _ p' h3 i (by omega) hb; omega
    have hcong : ∀ k, k < n → Dj p'.anc (s.am ||| 2 ^ i) k = Dj p'.anc s.am k := fun k _ => by
      unfold Dj
      by_cases he : k = i
      · subst he; rw [hanc]; simp
      · rw [ham k he]
    have hvi : Dj p'.anc (s.am ||| 2 ^ i) (n0 + i - n0) = false := by
      rw [show n0 + i - n0 = i by omega]; unfold Dj; rw [hanc]; rfl
    have hhide : Cy n0 n (Dj p'.anc (s.am ||| 2 ^ i)) ((n0 + i, b) :: Hh r) = Cy n0 n (Dj p'.anc s.am) (Hh r) := by
      rw [Cy, if_pos (J9.2 ⟨by omega, by omega, hvi⟩)]
      exact Jj hcong _
    have hkeep : E2 n0 n (Dj p'.anc (s.am ||| 2 ^ i)) ((n0 + i, b) :: Hh r) = (n0 + i, b) :: E2 n0 n (Dj p'.anc s.am) (Hh r) := by
      rw [E2, if_pos (J9.2 ⟨by omega, by omega, hvi⟩)]
      rw [Mc hcong]
    refine ⟨by omega, o', p', Z', h2, h3, h4, ?_, ?_, ?_, h8⟩
    · rw [henv _ (by omega)]; exact h5
    · rw [henv _ (by omega), hval _ h1, hhide]; exact h6
    · rw [hkeep, h7]; rfl
theorem Tr.writes {ops':Array Oper} {l:List BR} {pl:List DP} (F:QR ops' l pl) {n0 n:Nat} (hn:n=ops'.size) {e0:Bt} {h0:EB} {i:Nat} {s:DS} (T:Tr E D l pl n0 n e0 h0 i s) {o:BR} {p:DP}
    (ho:l[i]? = some o) (hp:pl[i]? = some p) (v:V) (Z':H) {h:EB} {ss':List (EB)} (hss:s.ss=h::ss') (hw:BZ (restr p.looks s.e) o.guard=some true) (hc:o.op.cls = .k)
    (hd:EO E D o.op (restr p.looks s.e) ⟨s.nx,Cy n0 n (Dj p.anc s.am) h⟩=some (v,Z')) :
    Nonempty (Tr E D l pl n0 n e0 h0 (i+1) { s with e:=Cb s.e o.dst v,nx:=Z'.next,ss:=(E2 n0 n (Dj p.anc s.am) h++Z'.bl)::s.ss,ks:=i::s.ks }):=by
  obtain⟨vals,envs,Hh,nx,ks,M,ssl,ssg,ksl,ksg,ke,ez,es,nx0,nxs,hz,ops,amlt,kst,kinc⟩:=T
  have hin:i<n:=by
    rcases Ad i l.length with h|h
    · have:=F.llen;omega
    · rw[Af h]at ho;cases ho
  have hne:∀r,r<M->ks r≠i:=fun r hr=>by have:=(kst r hr).1;omega
  have hhead:h=Hh M:=by
    have:=ssg M (AG _)
    rw[eJ,hss]at this
    simpa using this
  have ham:s.am.testBit i=false:=by
    cases hb:s.am.testBit i with
    | false=>rfl
    | true=>have:=amlt i hb;omega
  have hval:∀k,k<i->PT vals i v k=vals k:=fun k hk=>Iq _ _ (by omega)
  have henv:∀k,k<i+1->PT envs (i+1) (Cb s.e o.dst v) k=envs k:=fun k hk=>Iq _ _ (by omega)
  have hH:∀m,m<=M->PT Hh (M+1) (E2 n0 n (Dj p.anc s.am) h++Z'.bl) m=Hh m:=fun m hm=>Iq _ _ (by omega)
  have hnx:∀m,m<=M->PT nx (M+1) Z'.next m=nx m:=fun m hm=>Iq _ _ (by omega)
  have hks:∀r,r<M->PT ks M i r=ks r:=fun r hr=>Iq _ _ (by omega)
  refine⟨{ vals:=PT vals i v,envs:=PT envs (i+1) (Cb s.e o.dst v),Hh:=PT Hh (M+1) (E2 n0 n (Dj p.anc s.am) h++Z'.bl),nx:=PT nx (M+1) Z'.next,ks:=PT ks M i,M:=M+1,
            ssl:=by simp[ssl],ssg:=?_,ksl:=by simp[ksl],ksg:=?_,ke:=(CM _ _ _).symm,ez:=by rw[henv 0 (by omega)];exact ez,es:=?_,nx0:=by rw[hnx 0 (by omega)];exact nx0,
            nxs:=(CM _ _ _).symm,hz:=fun id hid=>by rw[hH 0 (by omega)];exact hz id hid,ops:=?_,amlt:=fun k hk=>RY (amlt k hk),kst:=?_,kinc:=?_ }⟩
  · intro m hm
    by_cases he:m=M+1
    · subst he;rw[eJ,CM];rfl
    · rw[hH m (by omega),show M+1-m=(M-m)+1 by omega,CN]
      exact ssg m (by omega)
  · intro r hr
    by_cases he:r=M
    · subst he;rw[CM,show r+1-1-r=0 by omega];rfl
    · rw[hks r (by omega),show M+1-1-r=(M-1-r)+1 by omega,CN]
      exact ksg r (by omega)
  · intro k hk o' ho'
    by_cases he:k=i
    · subst he
      rw[ho]at ho';cases ho'
      rw[CM,CM,henv k (by omega),ke]
    · rw[henv k (by omega),hval k (by omega),henv (k+1) (by omega)]
      exact es k (by omega) o' ho'
  · intro k hk o' p' ho' hp'
    by_cases he:k=i
    · subst he
      rw[ho]at ho';cases ho'
      rw[hp]at hp';cases hp'
      rw[henv k (by omega),<-ke,CM]
      exact .inr ⟨hw,.inr (.inr (.inr ⟨hc,ham,M,by omega,CM _ _ _⟩))⟩
    · rw[henv k (by omega),hval k (by omega)]
      have hnk:(∀r,r<M->ks r≠k)->∀r,r<M+1->PT ks M i r≠k:=fun hh r hr=>by
        by_cases hrm:r=M
        · subst hrm;rw[CM];omega
        · rw[hks r (by omega)];exact hh r (by omega)
      rcases ops k (by omega) o' p' ho' hp' with ⟨h1,h2,h3,h4⟩|⟨h1,⟨h2,h3,h4,h5⟩|⟨h2,h3,h4,h5⟩|⟨h2,h3,h4,b',h5,h6⟩|⟨h2,h3,r,h4,h5⟩⟩
      · exact .inl ⟨h1,h2,h3,hnk h4⟩
      · exact .inr ⟨h1,.inl ⟨h2,h3,h4,hnk h5⟩⟩
      · exact .inr ⟨h1,.inr (.inl ⟨h2,h3,h4,hnk h5⟩)⟩
      · refine .inr ⟨h1,.inr (.inr (.inl ⟨h2,h3,hnk h4,b',h5,fun m hm hr=>?_⟩))⟩
        by_cases hmm:m=M+1
        · subst hmm
          rw[CM,Mb,Nz,hhead]
          have hanc:p.anc.testBit k=false:=by
            have:=hr M (by omega)
            rw[CM,Ie hp]at this
            exact this
          have hv:Dj p.anc s.am (n0+k-n0)=false:=by
            rw[show n0+k-n0=k by omega];unfold Dj;rw[hanc];rfl
          rw[if_pos ⟨by omega,by omega,hv⟩]
          have:=h6 M (AG _) (fun r hrM=>by have:=hr r (by omega);rw[hks r hrM]at this;exact this)
          rw[this]
        · rw[hH m (by omega)]
          exact h6 m (by omega) (fun r hrm=>by have:=hr r hrm;rw[hks r (by omega)]at this;exact this)
      · exact .inr ⟨h1,.inr (.inr (.inr ⟨h2,h3,r,by omega,by rw[hks r h4];exact h5⟩))⟩
  · intro r hr
    by_cases he:r=M
    · subst he
      rw[CM]
      refine⟨by omega,o,p,Z',ho,hp,hc,?_,?_,?_,?_⟩
      · rw[henv i (by omega),<-ke];exact hw
      · rw[henv i (by omega),<-ke,CM,hnx r (by omega),hH r (by omega),<-hhead,<-nxs];exact hd
      · rw[CM,hH r (by omega),hhead]
      · rw[CM]
    · obtain⟨h1,o',p',Z2,h2,h3,h4,h5,h6,h7,h8⟩:=kst r (by omega)
      rw[hks r (by omega)]
      refine⟨by omega,o',p',Z2,h2,h3,h4,?_,?_,?_,?_⟩
      · rw[henv _ (by omega)];exact h5
      · rw[henv _ (by omega),hval _ h1,hnx r (by omega),hH r (by omega)];exact h6
      · rw[hH (r+1) (by omega),hH r (by omega)];exact h7
      · rw[hnx (r+1) (by omega)];exact h8
  · intro r r' hrr hr'
    by_cases he:r'=M
    · subst he
      rw[CM,hks r (by omega)]
      exact(kst r (by omega)).1
    · rw[hks r' (by omega),hks r (by omega)]
      exact kinc r r' hrr (by omega)
theorem P8 {ops':Array Oper} {l:List BR} {pl:List DP} (F:QR ops' l pl) {n0 n:Nat} (hn:n=ops'.size) {e0:Bt} {h0:EB} :
  ∀(rest:List BR) (prest:List DP) (i:Nat) (s s':DS),l.drop i=rest->pl.drop i=prest->Nonempty (Tr E D l pl n0 n e0 h0 i s)->B6 E D n0 n i rest prest s=some s' ->
   Nonempty (Tr E D l pl n0 n e0 h0 (i+rest.length) s')
 | [],prest,i,s,s',hl,hp,hT,h=>by
  cases prest<;>(simp only[B6,AK.injEq]at h;subst h;exact hT)
 | o::rest,[],i,s,s',hl,hp,hT,h=>by simp only[B6]at h;cases h
 | o::rest,p::prest,i,s,s',hl,hp,hT,h=>by
  have ho:l[i]? = some o:=by
   have:=congrArg (·[0]?) hl
   simpa[CL]using this
  have hpp:pl[i]? = some p:=by
   have:=congrArg (·[0]?) hp
   simpa[CL]using this
  have hl':l.drop (i+1)=rest:=by rw[<-C5,hl];rfl
  have hp':pl.drop (i+1)=prest:=by rw[<-C5,hp];rfl
  simp only[B6]at h
  cases hs:Dd E D n0 n i o p s with
  | none=>rw[hs]at h;cases h
  | some s1=>
   rw[hs]at h
   obtain⟨T⟩:=hT
   have hT1:Nonempty (Tr E D l pl n0 n e0 h0 (i+1) s1):=by
    unfold Dd at hs
    split at hs
    ·cases hs
    ·rename_i hw;cases hs
     exact T.quiet ho hpp Dn s.ls (fun _ h=>h) (.inl ⟨hw,rfl⟩)
    ·rename_i hw
     split at hs
     ·rename_i hc
      split at hs
      ·cases hs
      ·rename_i v hv;cases hs
       exact T.quiet ho hpp v s.ls (fun _ h=>h) (.inr ⟨hw,.inl ⟨hc,hv⟩⟩)
     ·rename_i hc
      split at hs
      ·cases hs
      ·split at hs
       ·cases hs
       ·rename_i v hv;cases hs
        exact T.quiet ho hpp v _ (fun _ h=>Ah _ h) (.inr ⟨hw,.inr ⟨hc,As⟩⟩)
     ·rename_i hc
      split at hs
      ·cases hs
      ·rename_i v b hv;cases hs
       exact T.make F hn ho hpp v b hw hc hv
     ·rename_i hc
      split at hs
      ·cases hs
      ·rename_i hh hss
       split at hs
       ·cases hs
       ·rename_i v Z' hv;cases hs
        exact T.writes F hn ho hpp v Z' hss hw hc hv
   have:=P8 F hn rest prest (i+1) s1 s' hl' hp' hT1 h
   rwa [show i+(o::rest).length=i+1+rest.length by simp;omega]
end Go.Og
namespace Go.Og
variable {P:Program} {G:Nat->Bool} {E:EB} {D:BB} {C:Cx}
theorem QA {n0 n:Nat} {pl:List DP} {am j:Nat} {op:EK} {em:Bt} {v:V}:∀(ss:List (EB)) (ks more:List Nat),E9 E n0 n pl am j op em v ss ks more=true->ss.length=ks.length+1 ->
  ∀(q:Nat) (h:EB),ss[q]? = some h->I2 pl j (ks.drop q) ((ks.take q).reverse++more)=true->CU E op em ⟨0,Cy n0 n (Dj (Gp pl j) am) h⟩=some v
 | [],ks,more,_,hl,q,h,hq,_=>by simp at hq
 | h'::ss,ks,more,hc,hl,0,h,hq,hleg=>by
  simp only[PK,AK.injEq]at hq
  subst hq
  simp only[EV,List.take_zero,List.reverse_nil,JI]at hleg
  simp only[E9,hleg,Hj,E1,AF]at hc
  have:=hc.1
  unfold Gp
  split at this
  ·rename_i u hu
   rw[hu,MS _ _ this]
  ·cases this
 | h'::ss,[],more,hc,hl,q+1,h,hq,hleg=>by
  simp at hl
  subst hl
  simp at hq
 | h'::ss,k::ks,more,hc,hl,q+1,h,hq,hleg=>by
  simp only[E9,AF]at hc
  refine QA ss ks (k::more) hc.2 (by simpa using hl) q h (by simpa using hq) ?_
  simp only[bE,List.take_succ_cons,List.reverse_cons,DD,List.singleton_append]at hleg
  exact hleg
theorem DW {listed:Array Bool} {k n:Nat} (hs:listed.size=n) (hk:k<n):listed.getD k true=listed.getD k false:=by
 have h:k<listed.size:=by omega
 simp[Array.getD,h]
theorem IQ {listed:Array Bool} {i k:Nat} (hi:i<listed.size):(listed.setIfInBounds i true).getD k false=(decide (k=i) || listed.getD k false):=by
 simp only[D8,A1]
 by_cases h:i=k
 ·subst h;simp[hi]
 ·rw[if_neg h];simp[Ne.symm h]
theorem Tz {p q:Nat->Bool} (h:∀k,p k=true->q k=true) {i:Nat} (hq:q i=true) (hp:p i=false):∀(l:List Nat),i∈l->l.countP p<l.countP q
 | [],hm=>by cases hm
 | x::l,hm=>by
  have hmono:∀l:List Nat,l.countP p<=l.countP q:=fun l=>List.countP_mono_left fun x _ hx=>h x hx
  rcases BF.1 hm with rfl|hm
  ·rw[IK hq,PL (by simp[hp])]
   have:=hmono l;omega
  ·have ih:=Tz h hq hp l hm
   by_cases hx:p x=true
   ·rw[IK hx,IK (h x hx)];omega
   ·rw[PL hx]
    by_cases hqx:q x=true
    ·rw[IK hqx];omega
    ·rw[PL hqx];exact ih
set_option maxHeartbeats 1000000 in
theorem SV (hD:∀f,B5 P E G f (D f)) (hmix:P.follows .mixedOrders=true):Ok P E G (A2 E D):=by
  intro C hE hG nt id ops e0 Z0 e' Z' hplan hW R0 a0 w00 Q hrel0 he0 hnt0 hd0 hQ
  subst hE hG
  generalize hl:ops.toList.map (BC P C.G nt ops)=l at hplan hW
  generalize hpl:GK ops=pl at hplan hW
  have hlen:l.length=ops.size:=by rw[<-hl];simp
  have F:=Pr hlen hplan
  unfold A2 at hW
  have hn:l.length=ops.size:=hlen
  generalize hnn:l.length=n at hW
  have hnops:n=ops.size:=by omega
  cases hds:B6 C.E D Z0.next n 0 l pl ⟨e0,Z0.next+n,[Z0.bl],[],0,[]⟩with
  | none=>rw[hds]at hW;cases hW
  | some s=>
    rw[hds]at hW
    simp only at hW
    split at hW
    case isFalse=>cases hW
    rename_i hchk
    obtain⟨T⟩:=P8 F hnops l pl 0 _ s rfl rfl (Tr.start C.E D l pl Z0.next n e0 Z0.bl) hds
    rw[B2,hnn]at T
    obtain⟨vals,envs,Hh,nx,ks,M,ssl,ssg,ksl,ksg,ke,ez,es,nx0,nxs,hz,hops,amlt,kst,kinc⟩:=T
    have hans:e'=envs n/\Z'=⟨nx M,Cy Z0.next n (fun k=>s.am.testBit k) (Hh M)⟩:=by
      have hh:=ssg M (AG _)
      rw[eJ]at hh
      split at hW
      · rename_i h ss' hss
        rw[hss]at hh
        simp only[PK,AK.injEq]at hh
        cases hW
        exact⟨ke,by rw[nxs,hh]⟩
      · cases hW
    obtain⟨rfl,rfl⟩:=hans
    clear hW hds
    have some3:∀i,i<n->∃o p,ops[i]? = some o/\l[i]? = some (BC P C.G nt ops o)/\pl[i]? = some p:=fun i hi=>by
      have h1:i<ops.size:=by omega
      refine⟨ops[i],pl[i]'(by have:=F.len;omega),DY h1,?_,AY _⟩
      rw[<-hl,Bk,GZ,DY h1];rfl
    have hdlt:∀(i:Nat) (o:Oper) (t:Nat),i<n->ops[i]? = some o->o.dst=some t->t<nt:=by
      intro i o t hin ho ht
      obtain⟨o2,p,ho2,hlo,hp⟩:=some3 i hin
      rw[ho]at ho2;cases ho2
      cases hdo:GG nt o.dst with
      | true=>rw[ht]at hdo;simpa[GG]using hdo
      | false=>
        exfalso
        have hco:BC P C.G nt ops o=⟨o.dst,.bad,none⟩:=by
          unfold BC
          rw[hdo]
          split
          · rename_i h;cases h
          · rfl
        have:=hops i hin _ p hlo hp
        rw[hco]at this
        simp[BZ,EK.cls,BU]at this
    have hload:∀j op em v,(j,op,em,v)∈s.ls->∀m,m<=M->(∀r,m<=r->r<M->(Gp pl j).testBit (ks r)=false)->(∀r,r<m->(Gp pl (ks r)).testBit j=false) ->
        CU C.E op em ⟨0,Cy Z0.next n (Dj (Gp pl j) s.am) (Hh m)⟩=some v:=by
      intro j op em v hmem m hm h1 h2
      have hc:=D6.1 hchk _ hmem
      refine QA s.ss s.ks [] hc (by omega) (M-m) (Hh m) (ssg m hm) ?_
      unfold I2
      simp only[Eb,AF,D6,Cq,List.mem_reverse]
      constructor
      · intro x hx
        obtain⟨q,hq⟩:=TS.1 hx
        rw[DN]at hq
        split at hq
        · rename_i hqm
          have:=ksg (M-1-q) (by omega)
          rw[show M-1-(M-1-q)=q by omega,hq]at this
          cases this
          exact h1 _ (by omega) (by omega)
        · cases hq
      · intro x hx
        obtain⟨q,hq⟩:=TS.1 hx
        rw[CL]at hq
        have hql:M-m+q<s.ks.length:=by
          rcases Ad (M-m+q) s.ks.length with h|h
          · exact h
          · rw[Af h]at hq;cases hq
        have:=ksg (M-1-(M-m+q)) (by omega)
        rw[show M-1-(M-1-(M-m+q))=M-m+q by omega,hq]at this
        cases this
        exact h2 _ (by omega)
    let Lf:Array Bool->Nat->Bool:=fun listed k=>listed.getD k false
    let vis:Array Bool->Nat->Bool:=fun listed k=>listed.getD k false&&s.am.testBit k
    let Inv:Array Bool->Act->World->Prop:=fun listed a w=>
      listed.size=n/\(∀i o,listed.getD i false=true->ops[i]? = some o->∀ed∈o.after,Region.binds .any ed=true->listed.getD ed.on false=true)/\a.defers=[] /\
      ∃R m,m<=M/\(∀r,r<M->(listed.getD (ks r) false=true↔r<m))/\Gw Z0.next R0 R/\Z0.next+n<=nx m/\DL C R ⟨nx m,Cy Z0.next n (vis listed) (Hh m)⟩ w /\
        (∀k,k<n->listed.getD k false=false->R (Z0.next+k)=none)/\nt<=a.tmps.size /\
        (∀i o t,listed.getD i false=true->ops[i]? = some o->o.dst=some t->t<a.tmps.size->vals i = .dead\/∃x,a.tmps[t]? = some x/\Ar R (vals i)=some x) /\
        (∀t v,look e0 t=some v->(∀i o,listed.getD i false=true->ops[i]? = some o->o.dst≠some t)->v = .dead\/∃x,a.tmps[t]? = some x/\Ar R v=some x)
    have hanc:∀(listed:Array Bool),(∀i o,listed.getD i false=true->ops[i]? = some o->∀ed∈o.after,Region.binds .any ed=true->listed.getD ed.on false=true) ->
        ∀(i:Nat) (o:Oper) (p:DP),ops[i]? = some o->pl[i]? = some p->(∀ed∈o.after,Region.binds .any ed=true->listed.getD ed.on false=true)->∀(k:Nat),k<n->p.anc.testBit k=true->listed.getD k false=true:=by
      intro listed hcl i
      induction i using NQ with
      | _ i ih=>
        intro o p ho hp hed k hk hb
        obtain⟨ed,hem,hbe,hr⟩:=F.anc i o p ho hp k (by omega) hb
        have hlt:=F.edges i o ho ed hem hbe
        have hli:=hed ed hem hbe
        rcases hr with rfl|hr
        · exact hli
        · have hin:i<n:=by
            rcases Ad i ops.size with h|h
            · omega
            · rw[Bq h]at ho;cases ho
          obtain⟨o2,p2,h1,_,h3⟩:=some3 ed.on (by omega)
          exact ih ed.on hlt o2 p2 h1 h3 (fun ed2 hm2 hb2=>hcl ed.on o2 hli h1 ed2 hm2 hb2) k hk (by rw[<-Ie h3];exact hr)
    have hready_nil:∀listed:Array Bool,listed.size=n->Region.ready .any ops listed=[]->∀k,k<n->listed.getD k false=true:=by
      intro listed hsz hr k
      induction k using NQ with
      | _ k ih=>
        intro hk
        cases hb:listed.getD k false with
        | true=>rfl
        | false=>
          exfalso
          obtain⟨o,p,h1,_,_⟩:=some3 k hk
          have:k∈Region.ready .any ops listed:=mem_ready.2 ⟨by rw[DW hsz hk];exact hb,o,h1,fun ed hm hbd=>ih ed.on (F.edges k o h1 ed hm hbd) (by have:=F.edges k o h1 ed hm hbd;omega)⟩
          rw[hr]at this;cases this
    have henv:∀(listed:Array Bool) (a:Act) (R:Ren),
        (∀i o,listed.getD i false=true->ops[i]? = some o->∀ed∈o.after,Region.binds .any ed=true->listed.getD ed.on false=true) ->
        nt<=a.tmps.size ->
        (∀i o t,listed.getD i false=true->ops[i]? = some o->o.dst=some t->t<a.tmps.size->vals i = .dead\/∃x,a.tmps[t]? = some x/\Ar R (vals i)=some x) ->
        (∀t v,look e0 t=some v->(∀i o,listed.getD i false=true->ops[i]? = some o->o.dst≠some t)->v = .dead\/∃x,a.tmps[t]? = some x/\Ar R v=some x) ->
        ∀(j:Nat) (o:Oper) (p:DP),j<=n->(j=n->∀k,k<n->listed.getD k false=true) ->
          (j<n->ops[j]? = some o/\pl[j]? = some p/\listed.getD j false=false/\(∀ed∈o.after,Region.binds .any ed=true->listed.getD ed.on false=true)) ->
          ∀(t:Nat) (v:V),look (envs j) t=some v->(j<n->Bd p.looks t=true)->v = .dead\/∃x,a.tmps[t]? = some x/\Ar R v=some x:=by
      intro listed a R hcl hsz hw hu j o p hj hall hrd
      have hshape:∀j,j<=n->∀t v,look (envs j) t=some v ->
          (∃k o',k<j/\ops[k]? = some o'/\o'.dst=some t/\v=vals k)\/(look e0 t=some v/\∀k o',k<j->ops[k]? = some o'->o'.dst≠some t):=by
        intro j
        induction j with
        | zero=>intro _;rw[ez];exact fun t v hv => .inr ⟨hv,fun k o' hk=>by omega⟩
        | succ j ih=>
          intro hj
          have h2:=ih (by omega)
          obtain⟨oj,pj,ho1,hl1,_⟩:=some3 j (by omega)
          have hes:=es j (by omega) _ hl1
          have hdst:(BC P C.G nt ops oj).dst=oj.dst:=by unfold BC;split<;>rfl
          rw[hdst]at hes
          rw[hes]
          intro t v hv
          cases hd:oj.dst with
          | none=>
            rw[hd]at hv
            simp only[Cb]at hv
            rcases h2 t v hv with ⟨k,o',hk,hk2,hk3,hk4⟩|⟨hk,hk2⟩
            · exact .inl ⟨k,o',by omega,hk2,hk3,hk4⟩
            · refine .inr ⟨hk,fun k o' hkj hko=>?_⟩
              by_cases he:k=j
              · subst he;rw[ho1]at hko;cases hko;rw[hd];simp
              · exact hk2 k o' (by omega) hko
          | some d=>
            rw[hd]at hv
            simp only[Cb,look]at hv
            by_cases hdt:d=t
            · subst hdt
              rw[if_pos (by simp)]at hv
              cases hv
              exact .inl ⟨j,oj,by omega,ho1,hd,rfl⟩
            · rw[if_neg (by simpa using hdt)]at hv
              rcases h2 t v hv with ⟨k,o',hk,hk2,hk3,hk4⟩|⟨hk,hk2⟩
              · exact .inl ⟨k,o',by omega,hk2,hk3,hk4⟩
              · refine .inr ⟨hk,fun k o' hkj hko=>?_⟩
                by_cases he:k=j
                · subst he;rw[ho1]at hko;cases hko;rw[hd];simpa using hdt
                · exact hk2 k o' (by omega) hko
      have hsh:=hshape j hj
      intro t v hv hlook
      rcases hsh t v hv with ⟨k,ok,hk,hk2,hk3,rfl⟩|⟨hk,hk2⟩
      ·
        refine hw k ok t ?_ hk2 hk3 (Cz (hdlt k ok t (by omega) hk2 hk3) hsz)
        by_cases hjn:j<n
        · obtain⟨ho,hp,_,hed⟩:=hrd hjn
          obtain⟨o3,p3,h1,_,h3⟩:=some3 k (by omega)
          rw[hk2]at h1;cases h1
          have hd:=(F.dsts k j ok o p3 p (by omega) hk2 ho h3 hp t hk3).2 (hlook hjn)
          rcases hd with hd|hd
          · exact hanc listed hcl j o p ho hp hed k (by omega) hd
          · have:=F.ancLt k p3 h3 j (by omega) hd;omega
        · exact hall (by omega) k (by omega)
      ·
        refine hu t v hk (fun i oi hli hoi hdst=>?_)
        have hin:i<n:=by
          rcases Ad i ops.size with h|h
          · omega
          · rw[Bq h]at hoi;cases hoi
        by_cases hij:i<j
        · exact hk2 i oi hij hoi hdst
        · have hjn:j<n:=by omega
          obtain⟨ho,hp,hnl,_⟩:=hrd hjn
          by_cases hie:i=j
          · subst hie;rw[hnl]at hli;cases hli
          · obtain⟨o3,p3,h1,_,h3⟩:=some3 i hin
            rw[hoi]at h1;cases h1
            have hd:=(F.dsts i j oi o p3 p hie hoi ho h3 hp t hdst).2 (hlook hjn)
            rcases hd with hd|hd
            · have:=F.ancLt j p hp i (by omega) hd;omega
            · have:=hanc listed hcl i oi p3 hoi h3 (fun ed hm hb=>hcl i oi hli hoi ed hm hb) j hjn hd
              rw[hnl]at this;cases this
    have hput:∀(a:Act) (d:Option Nat) (x:Value) (t:Nat),d≠some t->(a.put d x).tmps[t]? = a.tmps[t]? := by
      intro a d x t hne
      cases d with
      | none=>rfl
      | some d=>
        simp only[Act.put,A1]
        rw[if_neg (fun h=>hne (by rw[h]))]
    have hputsz:∀(a:Act) (d:Option Nat) (x:Value),(a.put d x).tmps.size=a.tmps.size:=by
      intro a d x;cases d<;>simp[Act.put]
    have hfin:∀listed a w,Inv listed a w->(∀k,k<n->listed.getD k false=true)->Q .normal a w:=by
      intro listed a w hI hall
      obtain⟨hsz,hcl,hd,R,m,hm,hpre,hx,hnxm,hrel,hres,htsz,hwc,huc⟩:=hI
      have hmM:m=M:=by
        rcases Ad m M with h|h
        · have:=(hpre m h).1 (hall _ (by have:=(kst m h).1;omega));omega
        · omega
      subst hmM
      refine hQ R a w hx (by show Z0.next<=nx m;omega) ?_ ?_ htsz hd
      · refine hrel.congr (fun id hid=>hrel.fresh id hid) (fun k b hk=>?_)
        rw[Dx]at hk ⊢
        by_cases hc:Z0.next<=k/\k<Z0.next+n/\s.am.testBit (k-Z0.next)=false
        · rw[if_pos hc]at hk;cases hk
        · rw[if_neg hc]at hk
          rw[if_neg (fun h=>hc ⟨h.1,h.2.1,by have:=h.2.2;simp only[vis,hall (k-Z0.next) (by omega),CQ]at this;exact this⟩)]
          exact hk
      · refine⟨fun t v hv=>?_⟩
        exact henv listed a R hcl htsz hwc huc n default default (AG _) (fun _=>hall) (fun h=>by omega) t v hv (fun h=>by omega)
    have hstep:∀listed a w,Inv listed a w->∀i,i∈Region.ready .any ops listed->∀K:Act->World->Prop,(∀a' w',Inv (listed.setIfInBounds i true) a' w'->K a' w')->wpOp P ops Q i K a w:=by
      intro listed a w hI i hi K hK
      obtain⟨hsz,hcl,hd,R,m,hm,hpre,hx,hnxm,hrel,hres,htsz,hwc,huc⟩:=hI
      obtain⟨hli,o,ho,hed⟩:=mem_ready.1 hi
      have hin:i<n:=by
        rcases Ad i ops.size with h|h
        · omega
        · rw[Bq h]at ho;cases ho
      have hnl:listed.getD i false=false:=by rw[<-DW hsz hin];exact hli
      obtain⟨o2,p,ho2,hlo,hp⟩:=some3 i hin
      rw[ho]at ho2;cases ho2
      have hsz':i<listed.size:=by omega
      have hLs:∀k,(listed.setIfInBounds i true).getD k false=(decide (k=i) || listed.getD k false):=fun k=>IQ hsz'
      have hancl:∀k,k<n->p.anc.testBit k=true->listed.getD k false=true:=hanc listed hcl i o p ho hp hed
      have hgl:=hrel.globOk
      have hle0:∀{R'},Gw (nx m) R R'->Le R R':=fun h=>h.le hrel.fresh
      have hem:Bn R (restr p.looks (envs i)) a.tmps:=by
        refine⟨fun t v hv=>?_⟩
        obtain⟨ht,hmem⟩:=GN _ _ _ _ hv
        exact henv listed a R hcl htsz hwc huc i o p (by omega) (fun h=>by omega) (fun _=>⟨ho,hp,hnl,hed⟩) t v ht (fun _=>hmem)
      have mk:∀(R':Ren) (m':Nat) (w':World) (x:Value),m'<=M->(∀r,r<M->((listed.setIfInBounds i true).getD (ks r) false=true↔r<m'))->Gw Z0.next R0 R'->Z0.next+n<=nx m' ->
          DL C R' ⟨nx m',Cy Z0.next n (vis (listed.setIfInBounds i true)) (Hh m')⟩ w'->(∀k,k<n->(listed.setIfInBounds i true).getD k false=false->R' (Z0.next+k)=none)->Le R R' ->
          (vals i = .dead\/Ar R' (vals i)=some x)->K (a.put o.dst x) w':=by
        intro R' m' w' x h1 h2 h3 h4 h5 h6 h7 h8
        refine hK _ _ ⟨by rw[Dq];exact hsz,?_,by rw[Es];exact hd,R',m',h1,h2,h3,h4,h5,h6,by rw[hputsz];exact htsz,?_,?_⟩
        · intro i' o' hi' ho' ed hm' hb'
          rw[hLs]at hi' ⊢
          simp only[Bg,decide_eq_true_eq]at hi' ⊢
          rcases hi' with rfl|hi'
          · rw[ho]at ho';cases ho'
            exact .inr (hed ed hm' hb')
          · exact .inr (hcl i' o' hi' ho' ed hm' hb')
        · intro i' o' t hi' ho' hdt htl
          rw[hputsz]at htl
          rw[hLs]at hi'
          simp only[Bg,decide_eq_true_eq]at hi'
          by_cases he:i'=i
          · subst he
            rw[ho]at ho';cases ho'
            rcases h8 with h8|h8
            · exact .inl h8
            · refine .inr ⟨x,?_,h8⟩
              rw[hdt]
              simp[Act.put,A1,htl]
          · have hi'':=hi'.resolve_left he
            have hi'n:i'<n:=by
              rcases Ad i' ops.size with h|h
              · omega
              · rw[Bq h]at ho';cases ho'
            obtain⟨o3,p3,h1',_,h3'⟩:=some3 i' hi'n
            rw[ho']at h1';cases h1'
            rw[hput a o.dst x t ((F.dsts i' i o' o p3 p he ho' ho h3' hp t hdt).1)]
            rcases hwc i' o' t hi'' ho' hdt htl with h|⟨y,hy,hc⟩
            · exact .inl h
            · exact .inr ⟨y,hy,Ch h7 _ _ hc⟩
        · intro t v hv hno
          have hot:o.dst≠some t:=hno i o (by rw[hLs];simp) ho
          rw[hput a o.dst x t hot]
          rcases huc t v hv (fun i' o' hi' ho'=>hno i' o' (by rw[hLs,hi'];simp) ho')with h|⟨y,hy,hc⟩
          · exact .inl h
          · exact .inr ⟨y,hy,Ch h7 _ _ hc⟩
      have hsame:s.am.testBit i=false->DL C R ⟨nx m,Cy Z0.next n (vis (listed.setIfInBounds i true)) (Hh m)⟩ w:=by
        intro ham
        rw[Jj (q:=vis listed) (fun k hk=>by
          simp only[vis]
          rw[hLs]
          by_cases he:k=i
          · subst he;simp[ham]
          · simp[he])]
        exact hrel
      have hpre1:(∀r,r<M->ks r≠i)->∀r,r<M->((listed.setIfInBounds i true).getD (ks r) false=true↔r<m):=by
        intro hne r hr
        rw[hLs]
        simp only[hne r hr,decide_false,E1]
        exact hpre r hr
      have hres1:∀k,k<n->(listed.setIfInBounds i true).getD k false=false->R (Z0.next+k)=none:=by
        intro k hk hkl
        rw[hLs]at hkl
        simp only[BN]at hkl
        exact hres k hk hkl.2
      have hkbefore:∀r,r<m->(Gp pl (ks r)).testBit i=false:=by
        intro r hr
        cases hb:(Gp pl (ks r)).testBit i with
        | false=>rfl
        | true=>
          exfalso
          obtain⟨hkn,_⟩:=kst r (by omega)
          obtain⟨o3,p3,h1',_,h3'⟩:=some3 (ks r) hkn
          have hlr:=(hpre r (by omega)).2 hr
          have:=hanc listed hcl (ks r) o3 p3 h1' h3' (fun ed hm hb=>hcl (ks r) o3 hlr h1' ed hm hb) i hin (by rw[<-Ie h3'];exact hb)
          rw[hnl]at this;cases this
      unfold wpOp
      rw[ho]
      simp only
      have hco:BC P C.G nt ops o=⟨o.dst,.bad,none⟩\/∃g,OJ ops o.guard=some g/\BC P C.G nt ops o=⟨o.dst,Ac P C.G o.op,g⟩:=by
        unfold BC
        split
        · rename_i g hg _;exact .inr ⟨g,hg,rfl⟩
        · exact .inl rfl
      rcases hco with hco|⟨g,hcg,hco⟩
      · exfalso
        have:=hops i hin _ p hlo hp
        rw[hco]at this
        simp[BZ,EK.cls,BU]at this
      · have hF:=hops i hin _ p hlo hp
        rw[hco]at hF
        simp only at hF
        rcases hF with ⟨hw,hv,ham,hne⟩|⟨hw,⟨hc,hv,ham,hne⟩|⟨hc,hmem,ham,hne⟩|⟨hc,ham,hne,b,hv,hb⟩|⟨hc,ham,r,hr,hkr⟩⟩
        · rw[if_neg (by rw[DI hem hcg hw];simp)]
          exact mk R m w undef hm (hpre1 hne) hx hnxm (hsame ham) hres1 (Le.refl _) (.inr (by rw[hv];rfl))
        · rw[if_pos (DI hem hcg hw)]
          left
          obtain⟨x,hxv,hrun⟩:=Ls (a:=a) (P:=P) hem hgl o hv w
          unfold Oper.wp
          rw[hrun]
          exact mk R m w x hm (hpre1 hne) hx hnxm (hsame ham) hres1 (Le.refl _) (.inr hxv)
        · rw[if_pos (DI hem hcg hw)]
          left
          have hl1:=hload i _ _ _ hmem m hm (fun r hr1 hr2=>by
            cases hbt:(Gp pl i).testBit (ks r)with
            | false=>rfl
            | true=>
              exfalso
              have:=hancl (ks r) (kst r hr2).1 (by rw[<-Ie hp];exact hbt)
              have:=(hpre r hr2).1 this
              omega) hkbefore
          have hl2:=We hrel (Zs:=⟨0,Cy Z0.next n (Dj (Gp pl i) s.am) (Hh m)⟩) (fun id b hid=>by
            simp only at hid ⊢
            rw[Dx]at hid ⊢
            by_cases hcnd:Z0.next<=id/\id<Z0.next+n/\Dj (Gp pl i) s.am (id-Z0.next)=false
            · rw[if_pos hcnd]at hid;cases hid
            · rw[if_neg hcnd]at hid
              rw[if_neg (fun hh=>hcnd ⟨hh.1,hh.2.1,by
                have h3:=hh.2.2
                unfold Dj
                cases hbt:(Gp pl i).testBit (id-Z0.next)with
                | false=>rfl
                | true=>
                  have:=hancl (id-Z0.next) (by omega) (by rw[<-Ie hp];exact hbt)
                  simp only[vis,this,CQ]at h3
                  rw[h3];rfl⟩)]
              exact hid) hl1
          obtain⟨x,hxv,hrun⟩:=Lt (P:=P) hrel hem o hl2
          unfold Oper.wp
          rw[hrun]
          exact mk R m w x hm (hpre1 hne) hx hnxm (hsame ham) hres1 (Le.refl _) (.inr hxv)
        · rw[if_pos (DI hem hcg hw)]
          left
          have hRi:R (Z0.next+i)=none:=hres i hin hnl
          obtain⟨x,w',inf,hrun,hnew,hblk,hxv,hok⟩:=NO (a:=a) (P:=P) hem hgl o hv hRi w
          unfold Oper.wp
          rw[hrun]
          have hle:Le R (Hl R (Z0.next+i) inf):=fun k j hk=>by
            by_cases he:k=Z0.next+i
            · subst he;rw[hRi]at hk;cases hk
            · rw[Bb he];exact hk
          refine mk (Hl R (Z0.next+i) inf) m w' x hm (hpre1 hne) (hx.trans (fun id hid=>Bb (by omega)) (AG Z0.next)) hnxm ?_ ?_ hle (.inr hxv)
          · refine hrel.allocAt hRi (by show Z0.next+i<nx m;omega) hnew b inf hblk hok rfl (fun k=>?_)
            simp only
            rw[Dx,Dx]
            by_cases he:k=Z0.next+i
            · subst he
              rw[if_pos rfl,if_neg (by
                intro h
                have h3:=h.2.2
                rw[show Z0.next+i-Z0.next=i by omega]at h3
                simp only[vis]at h3
                rw[hLs,ham]at h3
                simp at h3)]
              exact hb m hm hkbefore
            · rw[if_neg he]
              by_cases hrg:Z0.next<=k/\k<Z0.next+n
              · have:vis (listed.setIfInBounds i true) (k-Z0.next)=vis listed (k-Z0.next):=by
                  simp only[vis]
                  rw[hLs]
                  have:k-Z0.next≠i:=by omega
                  simp[this]
                rw[this]
              · rw[if_neg (fun h=>hrg ⟨h.1,h.2.1⟩),if_neg (fun h=>hrg ⟨h.1,h.2.1⟩)]
          · intro k hk hkl
            rw[hLs]at hkl
            simp only[BN,decide_eq_false_iff_not]at hkl
            rw[Bb (by omega)]
            exact hres k hk hkl.2
        · rw[if_pos (DI hem hcg hw)]
          left
          have hrm:r=m:=by
            have h1:¬r<m:=fun h=>by
              have:=(hpre r hr).2 h
              rw[hkr,hnl]at this;cases this
            rcases Ad m r with h2|h2
            · exfalso
              obtain⟨hkn,o4,p4,Z4,hl4,hp4,hc4,_⟩:=kst m (by omega)
              have hlt:=kinc m r h2 hr
              rw[hkr]at hlt
              have:=F.kk (ks m) i o4 _ p hlt hl4 hlo hp hc4 (by rw[hco];exact hc)
              have:=hancl (ks m) hkn this
              have:=(hpre m (by omega)).1 this
              omega
            · omega
          subst hrm
          obtain⟨_,o4,p4,Z4,hl4,hp4,hc4,hw4,hden,hHn,hnxn⟩:=kst r hr
          rw[hkr]at hl4 hp4 hw4 hden
          rw[hlo]at hl4;cases hl4
          rw[hp]at hp4;cases hp4
          rw[hco]at hden
          simp only at hden
          have hsub:∀id b,look (Cy Z0.next n (Dj p.anc s.am) (Hh r)) id=some b->look (Cy Z0.next n (vis listed) (Hh r)) id=some b:=by
            intro id b hid
            rw[Dx]at hid ⊢
            by_cases hcnd:Z0.next<=id/\id<Z0.next+n/\Dj p.anc s.am (id-Z0.next)=false
            · rw[if_pos hcnd]at hid;cases hid
            · rw[if_neg hcnd]at hid
              rw[if_neg (fun hh=>hcnd ⟨hh.1,hh.2.1,by
                have h3:=hh.2.2
                unfold Dj
                cases hbt:p.anc.testBit (id-Z0.next)with
                | false=>rfl
                | true=>
                  have:=hancl (id-Z0.next) (by omega) hbt
                  simp only[vis,this,CQ]at h3
                  rw[h3];rfl⟩)]
              exact hid
          have hsmall:=hrel.shrink (Zs:=⟨nx r,Cy Z0.next n (Dj p.anc s.am) (Hh r)⟩) rfl hsub
          refine NL hD (C:=C.sub R ⟨nx r,Cy Z0.next n (Dj p.anc s.am) (Hh r)⟩ w) rfl rfl hsmall hem o hden K Q (fun R' w' x hx' hn' hrel' hv'=>?_)
          have hnle:nx r<=Z4.next:=hn'
          refine mk R' (r+1) w' x (by omega) ?_ (hx.trans hx' (show Z0.next<=nx r by omega)) (by rw[hnxn];omega) ?_ ?_ (hle0 hx') hv'
          · intro r' hr'
            rw[hLs]
            simp only[Bg,decide_eq_true_eq]
            constructor
            · rintro(h | h)
              · rcases wR r' r with h2 | h2 | h2
                · omega
                · omega
                · have:=kinc r r' h2 hr';omega
              · have:=(hpre r' hr').1 h;omega
            · intro h
              by_cases he:r'=r
              · subst he;exact .inl hkr
              · exact .inr ((hpre r' hr').2 (by omega))
          · refine hrel.regrow (Zs:=⟨nx r,Cy Z0.next n (Dj p.anc s.am) (Hh r)⟩) hsub hrel' hx' hnxn (fun id b hid=>?_)
            simp only at hid ⊢
            rw[Dx]at hid
            split at hid
            · cases hid
            · rename_i hvis
              rw[hHn,Mb,Nz]at hid
              by_cases hcnd:Z0.next<=id/\id<Z0.next+n/\Dj p.anc s.am (id-Z0.next)=false
              · rw[if_pos hcnd]at hid
                cases hlk:look (Hh r) id with
                | none=>rw[hlk]at hid;exact .inl hid
                | some b'=>
                  rw[hlk]at hid
                  cases hid
                  right
                  rw[Dx,Dx,if_pos hcnd]
                  refine⟨?_,rfl⟩
                  rw[if_neg (fun hh=>hvis ⟨hh.1,hh.2.1,by
                    have h3:=hh.2.2
                    simp only[vis]at h3 ⊢
                    rw[hLs]
                    by_cases he:id-Z0.next=i
                    · rw[he,ham];simp
                    · simp only[he,decide_false,E1];exact h3⟩)]
                  exact hlk
              · rw[if_neg hcnd]at hid
                exact .inl hid
          · intro k hk hkl
            rw[hx' (Z0.next+k) (by show Z0.next+k<nx r;omega)]
            exact hres1 k hk hkl
    have hany:∀fuel listed a w,Inv listed a w->(Hi n).countP (fun k=>!listed.getD k false)<=fuel->wpAny P .any ops Q fuel listed a w:=by
      intro fuel
      induction fuel with
      | zero=>
        intro listed a w hI hcnt
        have hall:∀k,k<n->listed.getD k false=true:=by
          intro k hk
          have h0:(Hi n).countP (fun k=>!listed.getD k false)=0:=by omega
          have:=List.countP_eq_zero.1 h0 k (nL.2 hk)
          simpa using this
        refine⟨?_,hfin listed a w hI hall⟩
        apply UL.2
        intro j hj
        obtain⟨h1,o,h2,_⟩:=mem_ready.1 hj
        have hjn:j<n:=by
          rcases Ad j ops.size with h|h
          · omega
          · rw[Bq h]at h2;cases h2
        rw[DW hI.1 hjn,hall j hjn]at h1
        cases h1
      | succ fuel ih=>
        intro listed a w hI hcnt
        refine⟨fun hr=>hfin listed a w hI (hready_nil listed hI.1 hr),fun i hi=>?_⟩
        have hin:i<n:=by
          obtain⟨_,o,h2,_⟩:=mem_ready.1 hi
          rcases Ad i ops.size with h|h
          · omega
          · rw[Bq h]at h2;cases h2
        have hnl:listed.getD i false=false:=by rw[<-DW hI.1 hin];exact(mem_ready.1 hi).1
        refine hstep listed a w hI i hi _ (fun a' w' hI'=>ih _ a' w' hI' ?_)
        have hsz':i<listed.size:=by rw[hI.1];exact hin
        have:=Tz (p:=fun k=>!(listed.setIfInBounds i true).getD k false) (q:=fun k=>!listed.getD k false) (fun k hk=>by
          simp only[Cq]at hk ⊢
          rw[IQ hsz']at hk
          simp only[BN]at hk
          exact hk.2) (i:=i) (by simp only[hnl];rfl) (by simp only[IQ hsz'];simp) (Hi n) (nL.2 hin)
        omega
    refine wp_region_any hmix ?_
    rw[<-hnops]
    have hrepl:∀k,(G2 n false).getD k false=false:=fun k=>by
      simp only[D8,ABj]
      split<;>rfl
    refine hany n _ a0 _ ⟨by simp,?_,hd0,R0,0,CD _,?_,Gw.refl _ _,by rw[nx0];exact AG _,?_,?_,hnt0,?_,?_⟩ ?_
    · intro i o hi;rw[hrepl]at hi;cases hi
    · intro r hr;rw[hrepl];simp
    · refine(hrel0.drawn (w00.drawn+1)).congr (fun id hid=>hrel0.fresh id (by have h1:nx 0<=id:=hid;rw[nx0]at h1;omega)) (fun k b hk=>?_)
      simp only at hk
      rw[Dx]at hk
      split at hk
      · cases hk
      · rename_i hc
        have hnr:¬(Z0.next<=k/\k<Z0.next+n):=fun h=>hc ⟨h.1,h.2,by simp only[vis,hrepl,EW]⟩
        rw[hz k hnr]at hk
        exact hk
    · intro k hk _;exact hrel0.fresh _ (by omega)
    · intro i o t hi;rw[hrepl]at hi;cases hi
    · intro t v hv _;exact he0.at_ t v hv
    · refine AN (List.countP_le_length) (by simp)
end Go.Og
namespace Go.Og
abbrev AH:=Option (V × H)
noncomputable section
def Bl {α:Type} (l:List (Nat × α)) (id:Nat):Option α:=
 List.rec none (fun p _ r=>Bool.rec r (some p.2) (Ag p.1 id)) l
def SU {α:Type} (l:List (Nat × α)) (id:Nat):List (Nat × α):=
 List.rec [] (fun p l r=>Bool.rec (p::r) l (Ag p.1 id)) l
def X8 (l:List V):Nat->Option V:=
 List.rec (fun _=>none) (fun a _ ih n=>Nat.rec (some a) (fun m _=>ih m) n) l
def RE (l:EB) (id:Nat):(EB->AH)->AH:=
 List.rec (fun k=>k []) (fun p _ ih k=>ih fun l'=>Bool.rec (k (p::l')) (k l') (Ag p.1 id)) l
def AI (c:Bool) (a b:AH):AH:=match c with
 | true=>a
 | false=>b
def I5 (c:Bool) (a:AH):AH:=match c with
 | true=>a
 | false=>none
def gK (x:Option V) (J:V->AH):AH:=match x with
 | some v=>J v
 | none=>none
def AV (x:AH) (J:V->H->AH):AH:=match x with
 | some (v,Z)=>J v Z
 | none=>none
def Ax (f:Bool->H->AH) (g:(Bool->H->AH)->AH):AH:=g f
def IE:IntKind->Nat
 | .i8=>127 | .i16=>32767 | .i32=>2147483647 | .i64=>9223372036854775807
 | .u8=>255 | .u16=>65535 | .u32=>4294967295 | .u64=>18446744073709551615
def pq:IntKind->Nat
 | .i8=>128 | .i16=>32768 | .i32=>2147483648 | .i64=>9223372036854775808
 | .u8=>0 | .u16=>0 | .u32=>0 | .u64=>0
def nS (k:IntKind) (n:Int):Bool:=match n with
 | .ofNat m=>Ab m (IE k)
 | .negSucc m=>Cf m (pq k)
def B4 (k:IntKind) (n:Int):Int:=match nS k n with
 | true=>n
 | false=>k.wrap n
def cG (a b:Int):Int:=if b > a then b else a
def Dt (a b:Int):Bool:=match a,b with
 | .ofNat m,.ofNat n=>Cf m n
 | .negSucc m,.negSucc n=>Cf n m
 | .negSucc _,.ofNat _=>true
 | .ofNat _,.negSucc _=>false
def Ip (a b:Int):Bool:=match a,b with
 | .ofNat m,.ofNat n=>Ab m n
 | .negSucc m,.negSucc n=>Ab n m
 | .negSucc _,.ofNat _=>true
 | .ofNat _,.negSucc _=>false
def CJ (k:IntKind) (a b:Int):Int:=B4 k (Int.add a b)
def JQ (k:IntKind) (a b:Int):Int:=B4 k (Int.sub a b)
def Te (k:IntKind) (a b:Int):Int:=B4 k (Int.mul a b)
def jz (k:IntKind) (a b:Int):Int:=B4 k (Int.tdiv a b)
def G3 (k:IntKind) (a:Int) (n:Nat):Int:=B4 k (Int.mul a (AA (Nat.pow 2 (Fz n k.bits))))
def bX (k:IntKind) (a:Int) (n:Nat):Int:=match a with
 | .ofNat m => .ofNat (Nat.div m (Nat.pow 2 (Fz n k.bits)))
 | .negSucc m=>Int.fdiv (.negSucc m) (2 ^ (Fz n k.bits))
def JS (k:IntKind) (a b:Int) (f:Nat->Nat->Nat) (g:Int):Int:=match a,b with
 | .ofNat m,.ofNat n=>match Ab m (IE k)&&Ab n (IE k)with
  | true => .ofNat (f m n)
  | false=>g
 | _,_=>g
def KH (k:IntKind) (a b:Int):Int:=JS k a b Nat.land (k.wrap (BL k.bits a &&& BL k.bits b).toNat)
def J4 (k:IntKind) (a b:Int):Int:=JS k a b Nat.lor (k.wrap (BL k.bits a ||| BL k.bits b).toNat)
def oJ (k:IntKind) (a b:Int):Int:=JS k a b Nat.xor (k.wrap (BL k.bits a ^^^ BL k.bits b).toNat)
def U3 (k:IntKind) (a b:Int):Int:=k.wrap (BL k.bits a &&& ~~~BL k.bits b).toNat
def pr (k:IntKind) (a:Int):Int:=B4 k (Int.sub 0 a)
def xy (k:IntKind) (a:Int):Int:=k.wrap (BL k.bits (if k.signed then -1 else k.max) ^^^ BL k.bits a).toNat
def Td (b:Int) (J:Nat->AH):AH:=match b with
 | .ofNat n=>J n
 | .negSucc _=>none
def po (b:Int) (a:AH):AH:=match b with
 | .ofNat 0=>none
 | _=>a
def kL (op:BinOp) (k k':IntKind) (a b:Int) (J:V->AH):AH:=
 match op with
 | .shl=>Td b fun n=>J (.int k (G3 k a n))
 | .shr=>Td b fun n=>J (.int k (bX k a n))
 | op=>if k=k' then
   match op with
   | .add=>J (.int k (CJ k a b))
   | .sub=>J (.int k (JQ k a b))
   | .mul=>J (.int k (Te k a b))
   | .quo=>po b (J (.int k (jz k a b)))
   | .rem=>po b (J (.int k (Int.tmod a b)))
   | .and=>J (.int k (KH k a b))
   | .or=>J (.int k (J4 k a b))
   | .xor=>J (.int k (oJ k a b))
   | .andNot=>J (.int k (U3 k a b))
   | .eql=>J (.bool (D0 a b))
   | .neq=>J (.bool (not (D0 a b)))
   | .lss=>J (.bool (Dt a b))
   | .leq=>J (.bool (Ip a b))
   | .gtr=>J (.bool (Dt b a))
   | .geq=>J (.bool (Ip b a))
   | _=>none
  else none
def cq (a b:BS) (J:BS->AH):AH:=match Ab (AU a.len b.len) 1000000000000 with
 | true=>J (a.cat b)
 | false=>none
def wD (a b:BS):Bool:=Op.bytesLess a.toList b.toList
def pX (op:BinOp) (a b:BS) (J:V->AH):AH:=
 match op with
 | .add=>cq a b fun s=>J (.str s)
 | .eql=>J (.bool (a.beq b))
 | .neq=>J (.bool (not (a.beq b)))
 | .lss=>J (.bool (wD a b))
 | .leq=>J (.bool (wD a b || a.beq b))
 | .gtr=>J (.bool (not (wD a b || a.beq b)))
 | .geq=>J (.bool (not (wD a b)))
 | _=>none
def TQ (t:Fg) (x y:V) (J:Bool->AH):AH:=match KL t x y with
 | some b=>J b
 | none=>none
def yE (op:BinOp) (t:Fg) (x y:V) (J:V->AH):AH:=match op with
 | .eql=>TQ t x y fun b=>J (.bool b)
 | .neq=>TQ t x y fun b=>J (.bool (not b))
 | _=>none
def kY (op:BinOp) (t:Fg) (x y:V) (J:V->AH):AH:=
 match t with
 | .none=>match x,y with
  | .int k a,.int k' b=>kL op k k' a b J
  | .str a,.str b=>pX op a b J
  | _,_=>none
 | t=>yE op t x y J
def xm (op:UnOp) (x:V) (J:V->AH):AH:=
 match op,x with
 | .neg,.int k n=>J (.int k (pr k n))
 | .xor,.int k n=>J (.int k (xy k n))
 | .not,.bool b=>J (.bool (not b))
 | _,_=>none
inductive EH where
 | any | int (k:IntKind) | bool | str | ptr | one
 | agg (l:List EH)
 | tup (l:List EH)
 deriving Inhabited
def Al (k:IntKind) (v:V) (J:Int->AH):AH:=match v with
 | .int k' n=>if k=k' then J n else none
 | _=>none
def AT (v:V) (J:Bool->AH):AH:=match v with
 | .bool b=>J b
 | _=>none
def DE (v:V) (J:BS->AH):AH:=match v with
 | .str s=>J s
 | _=>none
def Br (v:V) (J:Nat->Nat->AH):AH:=match v with
 | .ptr b o=>J b o
 | _=>none
def B7 (v:V) (J:List V->AH):AH:=match v with
 | .agg l=>J l
 | _=>none
def Cw (v:V) (J:List V->AH):AH:=match v with
 | .tup l=>J l
 | _=>none
def AP (l:List V) (J:V->List V->AH):AH:=match l with
 | v::l=>J v l
 | []=>none
def AZ (l:List V) (a:AH):AH:=match l with
 | []=>a
 | _::_=>none
def Fk (v:V) (a:AH):AH:=match v.one with
 | true=>a
 | false=>none
mutual
def rt:EH->V->(V->AH)->AH
 | .any,v,J=>J v
 | .int k,v,J=>Al k v fun n=>J (.int k n)
 | .bool,v,J=>AT v fun b=>J (.bool b)
 | .str,v,J=>DE v fun s=>J (.str s)
 | .ptr,v,J=>Br v fun b o=>J (.ptr b o)
 | .one,v,J=>Fk v (J v)
 | .agg ts,v,J=>B7 v fun l=>fH ts l fun l'=>J (.agg l')
 | .tup ts,v,J=>Cw v fun l=>fH ts l fun l'=>J (.tup l')
def fH:List EH->List V->(List V->AH)->AH
 | [],l,J=>AZ l (J [])
 | t::ts,l,J=>AP l fun v l'=>rt t v fun v'=>fH ts l' fun l''=>J (v'::l'')
end
abbrev Qs:=List (Nat × (Nat × Nat))
abbrev Rg:=List (Nat × List V)
def CA (e:Bt) (x:AO) (J:V->AH):AH:=match x with
 | .con v=>match v.live with
  | true=>J v
  | false=>none
 | .tmp t=>match look e t with
  | some v=>J v
  | none=>none
def Lg (e:Bt):List AO->(List V->AH)->AH
 | [],J=>J []
 | x::l,J=>CA e x fun v=>Lg e l fun vs=>J (v::vs)
def Lh (e:Bt) (x:Option AO) (J:Option V->AH):AH:=match x with
 | none=>J none
 | some x=>CA e x fun v=>J (some v)
def Nt (e:Bt):List (Nat × Nat × AO)->(List (Nat × Nat × V)->AH)->AH
 | [],J=>J []
 | (o,s,x)::l,J=>CA e x fun v=>Nt e l fun r=>J ((o,s,v)::r)
def Fb (q:Qs):AO->Option (Nat × Nat)
 | .tmp t=>look q t
 | .con _=>none
def RI (o:Option V) (d:Nat) (J:Nat->AH):AH:=match o with
 | none=>J d
 | some v=>match v with
  | .int _ n=>Td n J
  | _=>none
def CW (s:BS) (lo hi:Option V) (J:BS->AH):AH:=
 RI hi s.len fun h=>RI lo 0 fun l=>I5 (Ab l h&&Ab h s.len) (J (s.sub l h))
def Ei (s:BS) (i:Int) (J:Int->AH):AH:=
 Td i fun n=>I5 (Cf n s.len) (J (AA (s.get n)))
def BG (v:V) (J:Nat->AH):AH:=match v with
 | .nils=>J 0
 | .sl _ _ n _=>J n
 | .sle _ _ _ _=>J 0
 | _=>none
def Am (esz:Nat) (v:V) (i:Int) (J:Nat->Nat->AH):AH:=match v with
 | .sl b off len _=>Td i fun n=>I5 (Cf n len) (J b (AU off (GY n esz)))
 | _=>none
def Jd (l:List V) (n:Nat) (J:V->AH):AH:=match X8 l n with
 | some v=>J v
 | none=>none
def HN (l:List V) (off n:Nat) (J:List V->AH):AH:=match Ab (AU off n) l.length with
 | true=>J ((l.drop off).take n)
 | false=>none
def bn (E:EB) (Z:H) (b:Nat) (J:List V->AH):AH:=match Bl Z.bl b with
 | some (.cells l)=>J l
 | some _=>none
 | none=>match Bl E b with
  | some (.cells l)=>J l
  | _=>none
def Bm (E:EB) (Z:H) (b off:Nat) (J:V->AH):AH:=bn E Z b fun l=>Jd l off J
def DB (E:EB) (Z:H) (b off n:Nat) (J:List V->AH):AH:=bn E Z b fun l=>HN l off n J
def CO (Z:H) (b:Gv):H:=⟨Z.next+1,(Z.next,b)::Z.bl⟩
def Ke (Z:H) (b:Nat) (c:Gv):H:=⟨Z.next,(b,c)::SU Z.bl b⟩
def Dk (n b off:Nat) (v:V) (Z:H) (J:H->AH):AH:=match Bl Z.bl b with
 | some (.cells l)=>I5 (Ag v.cells.length n&&Ab (AU off n) l.length&&BJ v.cells) (J (Ke Z b (.cells (F0 l off v.cells))))
 | _=>none
def srcK (E:EB) (Z:H) (esz:Nat) (v:V) (J:Nat->List V->AH):AH:=match v with
 | .nils=>J 0 []
 | .sle _ _ _ _=>J 0 []
 | .sl b off len _=>bn E Z b fun l=>HN l off (len*esz) fun l'=>J len l'
 | .str s=>match Ag esz 1 with
  | true=>J s.len (PS s.toList)
  | false=>none
 | _=>none
def Ix (E:EB) (esz bytes:Nat) (s x:V) (Z:H) (J:V->H->AH):AH:=
 srcK E Z esz x fun n new=>
  match s with
  | .sl b 0 len (.op e)=>match n with
   | 0=>J s Z
   | n=>match Bl Z.bl b with
    | some (.cells l)=>I5 (Ag l.length (len*esz)&&Ag e esz&&Cn (len+n) bytes&&BJ new)
      (RE Z.bl b fun bl'=>J (.sl Z.next 0 (len+n) (.op esz)) ⟨Z.next+1,(Z.next,.cells (l++new))::bl'⟩)
    | _=>none
  | s=>AV (D7 E esz bytes s x Z) J
def Kd (E:EB) (Z:H) (v:V) (J:BS->AH):AH:=match v with
 | .str _=>none
 | v=>srcK E Z 1 v fun _ l=>match FN l with
  | some s=>J (BS.ofList s)
  | none=>none
def Lk (l:List (Nat × Nat × V)) (z:List V) (J:List V->AH):AH:=match Hq l z with
 | some l'=>J l'
 | none=>none
def fO (E:EB) (esz:Nat) (d s:V) (Z:H):Option (V × H):=
 match d,CY E Z esz s with
  | .nils,some (_,_)=>some (.int .i64 0,Z)
  | .sle _ _ _ _,some (_,_)=>some (.int .i64 0,Z)
  | .sl b off len _,some (n,src)=>
   let m:=Fz n len
   if m=0 then some (.int .i64 0,Z)else
   match look Z.bl b with
   | some (.cells l)=>if Ab (off+m*esz) l.length&&BJ (src.take (m*esz))then some (.int .i64 m,Z.set b (.cells (F0 l off (src.take (m*esz)))))else none
   | _=>none
  | _,_=>none
theorem Yz (E:EB) (esz:Nat) (d s:AO) (e:Bt) (Z:H):Ef E (.copy esz d s) e Z=fO E esz (CV e d) (CV e s) Z:=rfl
def E0 (e:Bt) (t:Nat) (J:V->AH):AH:=match look e t with
 | some v=>I5 v.live (J v)
 | none=>none
def Iv (D:BB) (fv:V) (vs:List V) (Z:H) (J:V->H->AH):AH:=match fv with
 | .fn g first cap=>AV (D g (first++vs++cap) Z) J
 | _=>none
def Cr (E:EB) (D:BB) (id nx:Nat) (o:EK) (e:Bt) (Z:H) (J:V->H->AH):AH:=
 match o with
 | .mov x=>CA e x fun v=>J v Z
 | .bin op t x y=>CA e x fun a=>CA e y fun b=>kY op t a b fun v=>J v Z
 | .un op x=>CA e x fun a=>xm op a fun v=>J v Z
 | .conv (.toInt k) x=>CA e x fun v=>match v with
  | .int _ n=>J (.int k (B4 k n)) Z
  | _=>none
 | .conv .same x=>CA e x fun v=>DE v fun s=>J (.str s) Z
 | .conv .toStr x=>CA e x fun v=>Kd E Z v fun u=>J (.str u) Z
 | .conv (.toBytes _) x=>CA e x fun v=>DE v fun s=>I5 (Ab s.len 1000000000000) (J (.sl id 0 s.len (.op 1)) ⟨nx,(id,.cells (PS s.toList))::Z.bl⟩)
 | .nilck x=>CA e x fun v=>Br v fun b o=>J (.ptr b o) Z
 | .faddr off x=>CA e x fun v=>Br v fun b o=>J (.ptr b (AU o off)) Z
 | .field off none x=>CA e x fun v=>B7 v fun l=>Jd l off fun u=>J u Z
 | .field off (some n) x=>CA e x fun v=>B7 v fun l=>HN l off n fun l'=>J (.agg l') Z
 | .extract i x=>CA e x fun v=>Cw v fun l=>Jd l i fun u=>J u Z
 | .iaddrS esz x i=>CA e x fun v=>CA e i fun j=>match j with
  | .int _ n=>Am esz v n fun b o=>J (.ptr b o) Z
  | _=>none
 | .iaddrA len esz x i=>CA e x fun v=>CA e i fun j=>match j with
  | .int _ n=>Br v fun b o=>Td n fun m=>I5 (Cf m len) (J (.ptr b (AU o (GY m esz))) Z)
  | _=>none
 | .idxStr x i=>CA e x fun v=>CA e i fun j=>DE v fun s=>match j with
  | .int _ n=>Ei s n fun u=>J (.int .u8 u) Z
  | _=>none
 | .len true x=>CA e x fun v=>DE v fun s=>J (.int .i64 (AA s.len)) Z
 | .len false x=>CA e x fun v=>BG v fun n=>J (.int .i64 (AA n)) Z
 | .lenC n=>J (.int .i64 (AA n)) Z
 | .sliceStr x lo hi=>CA e x fun v=>Lh e lo fun l=>Lh e hi fun h=>DE v fun s=>CW s l h fun u=>J (.str u) Z
 | .sliceSl esz x lo hi mx=>CA e x fun v=>Lh e lo fun l=>Lh e hi fun h=>Lh e mx fun m=>gK (DA esz v l h m) fun u=>J u Z
 | .sliceArr n esz x lo hi mx=>CA e x fun v=>Lh e lo fun l=>Lh e hi fun h=>Lh e mx fun m=>gK (IN n esz v l h m) fun u=>J u Z
 | .mkifc t x=>CA e x fun v=>J (.ifc t v) Z
 | .mkfn f a c=>Lg e a fun xs=>Lg e c fun ys=>J (.fn f xs ys) Z
 | .build z ps=>Nt e ps fun l=>Lk l z fun l'=>J (.agg l') Z
 | .cap x=>CA e x fun v=>match v with
  | .nils=>J (.int .i64 0) Z
  | .sl _ _ _ (.ex c)=>J (.int .i64 (AA c)) Z
  | _=>none
 | .min x l=>CA e x fun v=>Lg e l fun vs=>gK (SI v vs) fun u=>match u with
  | .int k n=>J (.int k n) Z
  | _=>none
 | .max x l=>CA e x fun v=>Lg e l fun vs=>gK (SJ v vs) fun u=>match u with
  | .int k n=>J (.int k n) Z
  | _=>none
 | .load none x=>CA e x fun v=>Br v fun b o=>Bm E Z b o fun u=>J u Z
 | .load (some n) x=>CA e x fun v=>Br v fun b o=>DB E Z b o n fun u=>J (.agg u) Z
 | .alloc _ z=>J (.ptr id 0) ⟨nx,(id,.cells z)::Z.bl⟩
 | .box _ x=>CA e x fun v=>I5 (BJ v.cells) (J (.ptr id 0) ⟨nx,(id,.cells v.cells)::Z.bl⟩)
 | .buildSlice _ n z ps=>Nt e ps fun l=>Lk l z fun l'=>I5 (BJ l') (J (.sl id 0 n (.ex n)) ⟨nx,(id,.cells l')::Z.bl⟩)
 | .mkslice _ _ bytes z len cap=>CA e len fun a=>CA e cap fun b=>match a,b with
  | .int .i64 n,.int .i64 c=>Td n fun n=>Td c fun c=>I5 (Ab n c&&Ab (c*bytes) 281474976710656&&Ab c 1000000000000)
    (J (.sl id 0 n (.ex c)) ⟨nx,(id,.cells (BT c z).flatten)::Z.bl⟩)
  | _,_=>none
 | .store n x v=>CA e x fun p=>CA e v fun u=>Br p fun b o=>Dk n b o u Z fun Z'=>J .dead Z'
 | .append _ esz bytes s x=>CA e s fun a=>CA e x fun b=>Ix E esz bytes a b Z J
 | .copy esz d s=>CA e d fun a=>CA e s fun b=>AV (fO E esz a b Z) J
 | .call f args=>Lg e args fun vs=>AV (D f vs Z) J
 | .callv f args=>CA e f fun fv=>Lg e args fun vs=>Iv D fv vs Z J
 | .mkmap=>J (.mp id) ⟨nx,(id,.map [])::Z.bl⟩
 | .lookup t z m x=>CA e m fun p=>CA e x fun k=>gK (LZ t z p k Z) fun v=>J v Z
 | .mapset t m k v=>CA e m fun p=>CA e k fun a=>CA e v fun b=>AV (Q9 t p a b Z) J
 | .alloc0 el=>J (.ptr id 0) ⟨nx,(id,.unit el)::Z.bl⟩
 | .box0 el x=>CA e x fun v=>match v with
  | .agg []=>J (.ptr id 0) ⟨nx,(id,.unit el)::Z.bl⟩
  | _=>none
 | .load0 x=>CA e x fun v=>Br v fun _ _=>J (.agg []) Z
 | .store0 x v=>CA e x fun p=>CA e v fun u=>match p,u with
  | .ptr _ _,.agg []=>J .dead Z
  | _,_=>none
 | .faddr0 t x=>CA e x fun v=>gK (NK t v Z) fun u=>J u Z
 | .idxArr n esz none x i=>CA e x fun v=>CA e i fun j=>B7 v fun l=>match j with
  | .int _ k=>Td k fun m=>I5 (Cf m n) (Jd l (GY m esz) fun u=>J u Z)
  | _=>none
 | .idxArr n esz (some s) x i=>CA e x fun v=>CA e i fun j=>B7 v fun l=>match j with
  | .int _ k=>Td k fun m=>I5 (Cf m n) (HN l (GY m esz) s fun l'=>J (.agg l') Z)
  | _=>none
 | _=>none
def T0 (ty:EH) (v:V) (J:List V->AH):AH:=match ty with
 | .agg _=>B7 v fun l=>I5 (BJ l) (J l)
 | _=>Fk v (J [v])
def ax (E:EB) (D:BB) (pw:Bool) (id nx:Nat) (o:EK) (ty:EH) (e:Bt) (q:Qs) (r:Rg) (Z:H) (J:V->Rg->H->AH) (Jm:Nat->Nat->AH):AH:=
 match o with
 | .mov x=>match Fb q x with
  | some (m,off)=>Jm m off
  | none=>Cr E D id nx o e Z fun v Z'=>rt ty v fun v'=>J v' r Z'
 | .nilck x=>match Fb q x with
  | some (m,off)=>Jm m off
  | none=>Cr E D id nx o e Z fun v Z'=>rt ty v fun v'=>J v' r Z'
 | .faddr d x=>match Fb q x with
  | some (m,off)=>Jm m (off+d)
  | none=>Cr E D id nx o e Z fun v Z'=>rt ty v fun v'=>J v' r Z'
 | .load none x=>match Fb q x with
  | some (m,off)=>match look r m with
   | some l=>Jd l off fun v=>rt ty v fun v'=>J v' r Z
   | none=>none
  | none=>Cr E D id nx o e Z fun v Z'=>rt ty v fun v'=>J v' r Z'
 | .load (some n) x=>match Fb q x with
  | some (m,off)=>match look r m with
   | some l=>HN l off n fun l'=>rt ty (.agg l') fun v'=>J v' r Z
   | none=>none
  | none=>Cr E D id nx o e Z fun v Z'=>rt ty v fun v'=>J v' r Z'
 | .store n x v=>match Fb q x with
  | some (m,off)=>match pw,look r m with
   | true,some l=>match Fb q v with
    | none=>CA e v fun u=>T0 ty u fun cs=>I5 (Ag cs.length n&&Ab (off+n) l.length) (J .dead (KG r m (F0 l off cs)) Z)
    | some _=>none
   | _,_=>none
  | none=>Cr E D id nx o e Z fun v Z'=>J v r Z'
 | o=>Cr E D id nx o e Z fun v Z'=>rt ty v fun v'=>J v' r Z'
inductive XL where
 | nil
 | op (dst:Option Nat) (ty:EH) (looks:List Nat) (o:EK) (rest:XL)
 | pal (dst:Nat) (looks:List Nat) (el:TypeId) (z:List V) (rest:XL)
 | grp (t:Nat) (b:Bool) (l:XL) (dst:Nat) (looks:List Nat) (c x y:AO) (rest:XL)
 deriving Inhabited
def XL.size:XL->Nat
 | .nil=>0
 | .op _ _ _ _ r=>r.size+1
 | .pal _ _ _ _ r=>r.size+1
 | .grp _ _ l _ _ _ _ _ r=>l.size+(r.size+1)
def XL.flat (g:Option (Nat × Bool)):XL->List BR
 | .nil=>[]
 | .op d _ _ o r=>⟨d,o,g⟩::r.flat g
 | .pal d _ el z r=>⟨some d,.alloc el z,g⟩::r.flat g
 | .grp t b l d _ c x y r=>l.flat (some (t,b))++⟨some d,.pick c x y,g⟩::r.flat g
def XL.lks:XL->List (List Nat)
 | .nil=>[]
 | .op _ _ k _ r=>k::r.lks
 | .pal _ k _ _ r=>k::r.lks
 | .grp _ _ l _ k _ _ _ r=>l.lks++k::r.lks
def XL.dsts:XL->List Nat
 | .nil=>[]
 | .op d _ _ _ r=>(match d with | some d=>d::r.dsts | none=>r.dsts)
 | .pal d _ _ _ r=>d::r.dsts
 | .grp _ _ l d _ _ _ _ r=>l.dsts++d::r.dsts
def BY {α:Type} (ds:List Nat):List (Nat × α)->List (Nat × α)
 | []=>[]
 | (k,v)::l=>match Bd ds k with
  | true=>BY ds l
  | false=>(k,v)::BY ds l
def Bp {α:Type} (d:Option Nat) (l:List (Nat × α)):List (Nat × α):=match d with
 | none=>l
 | some d=>BY [d] l
def IF (m:Nat):Qs->List Nat
 | []=>[]
 | (t,p)::l=>match Ag p.1 m with
  | true=>t::IF m l
  | false=>IF m l
def JO (m:Nat) (q:Qs):Qs:=BY (IF m q) q
def Ki:List Nat->Qs->Qs
 | [],_=>[]
 | t::l,q=>match look q t with
  | some p=>(t,p)::Ki l q
  | none=>Ki l q
def Dv (dr:Bool) (ks:List Nat) (e:Bt):Bt:=match dr with
 | true=>restr ks e
 | false=>e
def KF (dr:Bool) (ks:List Nat) (q:Qs):Qs:=match dr with
 | true=>Ki ks q
 | false=>q
def PN (q:Qs) (d:Option Nat) (p:Nat × Nat):Qs:=match d with
 | some d=>(d,p)::q
 | none=>q
def GB (E:EB) (D:BB) (dr pw:Bool) (_n0:Nat) (l:XL):Nat->Bt->Qs->Rg->H->(Bt->Qs->Rg->H->AH)->AH:=
 XL.rec (motive:=fun _=>Bool->Nat->Bt->Qs->Rg->H->(Bt->Qs->Rg->H->AH)->AH)
  (fun _ _ e q r Z J=>J e q r Z)
  (fun d ty ks o _ ih pw i e q r Z J=>
   ax E D pw Z.next (Z.next+1) o ty (Dv dr ks e) (KF dr ks q) r Z
    (fun v r' Z'=>ih pw (i+1) (Cb e d v) (Bp d q) r' Z' J)
    (fun m off=>ih pw (i+1) (Bp d e) (PN (Bp d q) d (m,off)) r Z J))
  (fun d _ _ z _ ih pw i e q r Z J=>match pw with
   | true=>ih true (i+1) (BY [d] e) ((d,(d,0))::JO d (BY [d] q)) ((d,z)::BY [d] r) Z J
   | false=>none)
  (fun t b l d ks _ x y _ ihl ih pw i e q r Z J=>
   CA (Dv dr [t] e) (.tmp t) fun c=>AT c fun cb=>
    Ax (fun v Z'=>ih pw (i+l.size+1) ((d,.bool v)::BY (d::l.dsts) e) (BY (d::l.dsts) q) r Z' J) fun k=>
     match b with
     | true=>AI cb
       (ihl false i e q r Z fun e' _ _ Z'=>CA (Dv dr ks e') x fun v=>AT v fun v=>k v Z')
       (CA (Dv dr ks e) y fun v=>AT v fun v=>k v Z)
     | false=>AI cb
       (CA (Dv dr ks e) x fun v=>AT v fun v=>k v Z)
       (ihl false i e q r Z fun e' _ _ Z'=>CA (Dv dr ks e') y fun v=>AT v fun v=>k v Z'))
  l pw
section
variable {E:EB} {D:BB} {dr:Bool} {n0 i:Nat} {e:Bt} {q:Qs} {r:Rg} {Z:H} {J:Bt->Qs->Rg->H->AH}
theorem cj {pw:Bool} (d:Option Nat) (ty:EH) (ks:List Nat) (o:EK) (rest:XL):GB E D dr pw n0 (.op d ty ks o rest) i e q r Z J=ax E D pw Z.next (Z.next+1) o ty (Dv dr ks e) (KF dr ks q) r Z
      (fun v r' Z'=>GB E D dr pw n0 rest (i+1) (Cb e d v) (Bp d q) r' Z' J)
      (fun m off=>GB E D dr pw n0 rest (i+1) (Bp d e) (PN (Bp d q) d (m,off)) r Z J):=rfl
theorem Yt (d:Nat) (ks:List Nat) (el:TypeId) (z:List V) (rest:XL):GB E D dr true n0 (.pal d ks el z rest) i e q r Z J=GB E D dr true n0 rest (i+1) (BY [d] e) ((d,(d,0))::JO d (BY [d] q)) ((d,z)::BY [d] r) Z J:=rfl
theorem WO (d:Nat) (ks:List Nat) (el:TypeId) (z:List V) (rest:XL):GB E D dr false n0 (.pal d ks el z rest) i e q r Z J=none:=rfl
theorem Yu {pw:Bool} (t:Nat) (b:Bool) (l:XL) (d:Nat) (ks:List Nat) (c x y:AO) (rest:XL):GB E D dr pw n0 (.grp t b l d ks c x y rest) i e q r Z J =
      CA (Dv dr [t] e) (.tmp t) fun c=>AT c fun cb=>
        Ax (fun v Z'=>GB E D dr pw n0 rest (i+l.size+1) ((d,.bool v)::BY (d::l.dsts) e) (BY (d::l.dsts) q) r Z' J) fun k=>
          match b with
          | true=>AI cb
              (GB E D dr false n0 l i e q r Z fun e' _ _ Z'=>CA (Dv dr ks e') x fun v=>AT v fun v=>k v Z')
              (CA (Dv dr ks e) y fun v=>AT v fun v=>k v Z)
          | false=>AI cb
              (CA (Dv dr ks e) x fun v=>AT v fun v=>k v Z)
              (GB E D dr false n0 l i e q r Z fun e' _ _ Z'=>CA (Dv dr ks e') y fun v=>AT v fun v=>k v Z'):=rfl
end
structure St where
 e:Bt
 q:Qs
 r:Rg
 Z:H
inductive XC where
 | skip
 | ops (l:XL)
 | draw (l:XL) (ancs:List Nat)
 | gdraw (ops:List BR) (plan:List DP) (ts:List (Nat × EH))
 | seq (a b:XC)
 | cond (c:AO) (a b:XC)
 | block (id:Nat) (c:XC)
 | loop (ts:List (Nat × EH)) (ms:List Nat) (rs:List (Nat × List EH)) (c:XC)
 | exit (id:Nat)
 | ret
 | keep (ts:List (Nat × EH)) (ms:List Nat) (rs:List (Nat × List EH)) (c:XC)
 | bad
 deriving Inhabited
def SL (e:Bt):List (Nat × EH)->(Bt->AH)->AH
 | [],J=>J []
 | (t,ty)::l,J=>E0 e t fun v=>rt ty v fun v'=>SL e l fun e'=>J ((t,v')::e')
def N4 (ms rs:List Nat) (q:Qs):Qs:=match ms with
 | []=>[]
 | t::l=>match look q t with
  | some p=>(match Bd rs p.1 with
   | true=>(t,p)::N4 l rs q
   | false=>N4 l rs q)
  | none=>N4 l rs q
def Um (e:Bt):List (Nat × EH)->(Bt->AH)->AH
 | [],J=>J []
 | (t,ty)::l,J=>CA e (.tmp t) fun v=>rt ty v fun v'=>Um e l fun e'=>J ((t,v')::e')
def Ul (r:Rg):List (Nat × List EH)->(Rg->AH)->AH
 | [],J=>J []
 | (m,tys)::l,J=>match look r m with
  | some cs=>fH tys cs fun cs'=>Ul r l fun r'=>J ((m,cs')::r')
  | none=>none
def BE (f:(St->AH)->St->AH) (N:Nat):St->AH:=Nat.rec (fun _=>none) (fun _ ih=>f ih) N
theorem BP (f:(St->AH)->St->AH) (n:Nat) (s:St):BE f (n+1) s=f (BE f n) s:=rfl
def XL.makes:XL->Bool
 | .nil=>false
 | .op _ _ _ o r=>(match o.cls with | .a=>true | _=>r.makes)
 | .pal _ _ _ _ r=>r.makes
 | .grp _ _ l _ _ _ _ _ r=>l.makes || r.makes
def XL.pals:XL->List Nat
 | .nil=>[]
 | .op _ _ _ _ r=>r.pals
 | .pal d _ _ _ r=>d::r.pals
 | .grp _ _ l _ _ _ _ _ r=>l.pals++r.pals
def Il (q:Qs):List Nat->Bool
 | []=>true
 | d::l=>(IF d q).isEmpty&&Il q l
def I3 (ts:List (Nat × EH)) (ms:List Nat) (rs:List (Nat × List EH)) (s:St) (J:St->AH):AH:=
 Um s.e ts fun e'=>Ul s.r rs fun r'=>J ⟨e',N4 ms (rs.map Prod.fst) s.q,r',s.Z⟩
def CC (id:Nat) (kn:St->AH) (kx:Nat->St->AH):Nat->St->AH:=fun j s'=>match Ag j id with
 | true=>kn s'
 | false=>kx j s'
def OF (q:Qs) (ds:List Nat) (a:AH):AH:=match Il q ds with
 | true=>a
 | false=>none
def Ee (x:Option (Bt × H)) (J:Bt->H->AH):AH:=match x with
 | some (e,Z)=>J e Z
 | none=>none
def AW (E:EB) (D:BB) (W:AJ) (N:Nat) (c:XC):St->(St->AH)->(Nat->St->AH)->(St->AH)->AH:=
 XC.rec (motive:=fun _=>St->(St->AH)->(Nat->St->AH)->(St->AH)->AH)
  (fun s kn _ _=>kn s)
  (fun l s kn _ _=>GB E D false true 0 l 0 s.e s.q s.r s.Z fun e q r Z=>kn ⟨e,q,r,Z⟩)
  (fun l _ s kn _ _=>OF s.q l.pals (GB E D true true 0 l 0 s.e s.q s.r s.Z fun e q r Z=>kn ⟨e,q,r,Z⟩))
  (fun ops pl ts s kn _ _=>Ee (W ops pl s.e s.Z) fun e' Z'=>SL e' ts fun e''=>kn ⟨e'',[],[],Z'⟩)
  (fun _ _ iha ihb s kn kx kr=>iha s (fun s'=>ihb s' kn kx kr) kx kr)
  (fun c _ _ iha ihb s kn kx kr=>CA s.e c fun v=>AT v fun cb=>AI cb (iha s kn kx kr) (ihb s kn kx kr))
  (fun id _ ih s kn kx kr=>ih s kn (CC id kn kx) kr)
  (fun ts ms rs _ ih s _ kx kr=>I3 ts ms rs s fun s0=>BE (fun rec s'=>ih s' (fun s''=>I3 ts ms rs s'' rec) kx kr) N s0)
  (fun id s _ kx _=>kx id s)
  (fun s _ _ kr=>kr s)
  (fun ts ms rs _ ih s kn kx kr=>I3 ts ms rs s fun s0=>ih s0 kn kx kr)
  (fun _ _ _ _=>none)
  c
section
variable {E:EB} {D:BB} {W:AJ} {N:Nat} {s:St} {kn:St->AH} {kx:Nat->St->AH} {kr:St->AH}
theorem Yw (l:XL):AW E D W N (.ops l) s kn kx kr=GB E D false true 0 l 0 s.e s.q s.r s.Z fun e q r Z=>kn ⟨e,q,r,Z⟩:=rfl
theorem WS (l:XL) (ancs:List Nat):AW E D W N (.draw l ancs) s kn kx kr=OF s.q l.pals (GB E D true true 0 l 0 s.e s.q s.r s.Z fun e q r Z=>kn ⟨e,q,r,Z⟩):=rfl
theorem Tv (ops:List BR) (pl:List DP) (ts:List (Nat × EH)):AW E D W N (.gdraw ops pl ts) s kn kx kr=Ee (W ops pl s.e s.Z) fun e' Z'=>SL e' ts fun e''=>kn ⟨e'',[],[],Z'⟩:=rfl
theorem Yv (a b:XC):AW E D W N (.seq a b) s kn kx kr=AW E D W N a s (fun s'=>AW E D W N b s' kn kx kr) kx kr:=rfl
theorem WT (c:AO) (a b:XC):AW E D W N (.cond c a b) s kn kx kr=CA s.e c fun v=>AT v fun cb=>AI cb (AW E D W N a s kn kx kr) (AW E D W N b s kn kx kr):=rfl
theorem Tw (id:Nat) (c:XC):AW E D W N (.block id c) s kn kx kr=AW E D W N c s kn (CC id kn kx) kr:=rfl
theorem WQ (ts:List (Nat × EH)) (ms:List Nat) (rs:List (Nat × List EH)) (c:XC):AW E D W N (.loop ts ms rs c) s kn kx kr=I3 ts ms rs s fun s0=>BE (fun rec s'=>AW E D W N c s' (fun s''=>I3 ts ms rs s'' rec) kx kr) N s0:=rfl
theorem WR (ts:List (Nat × EH)) (ms:List Nat) (rs:List (Nat × List EH)) (c:XC):AW E D W N (.keep ts ms rs c) s kn kx kr=I3 ts ms rs s fun s0=>AW E D W N c s0 kn kx kr:=rfl
end
structure Eg where
 ntmps:Nat
 params:List EH
 results:List AR
 body:XC
 deriving Inhabited
def Ek (E:EB) (s:St):List AR->(List V->AH)->AH
 | [],J=>J []
 | .tmp t::l,J=>CA s.e (.tmp t) fun v=>Ek E s l fun r=>J (v::r)
 | .cell t n::l,J=>match look s.q t with
  | some (m,off)=>match look s.r m with
   | some cs=>match n with
    | none=>Jd cs off fun v=>Ek E s l fun r=>J (v::r)
    | some n=>HN cs off n fun l'=>Ek E s l fun r=>J (.agg l'::r)
   | none=>none
  | none=>CA s.e (.tmp t) fun p=>Br p fun b o=>match n with
   | none=>Bm E s.Z b o fun v=>Ek E s l fun r=>J (v::r)
   | some n=>DB E s.Z b o n fun v=>Ek E s l fun r=>J (.agg v::r)
def CR (E:EB) (D:BB) (W:AJ) (N:Nat) (f:Eg) (args:List V) (Z:H):AH:=
 fH f.params args fun args'=>AW E D W N f.body ⟨M5 0 args',[],[],Z⟩ (fun s=>Ek E s f.results fun l=>some (FF l,s.Z)) (fun _ _=>none) (fun s=>Ek E s f.results fun l=>some (FF l,s.Z))
def XC.strip:XC->AC
 | .skip => .skip
 | .ops l => .region (l.flat none)
 | .draw l ancs => .draw (l.flat none) (List.zipWith DP.mk ancs l.lks)
 | .gdraw l pl _ => .draw l pl
 | .seq a b => .seq a.strip b.strip
 | .cond c a b => .cond c a.strip b.strip
 | .block id c => .block id c.strip
 | .loop _ _ _ c => .loop c.strip
 | .exit id => .exit id
 | .ret => .ret
 | .keep _ _ _ c=>c.strip
 | .bad => .bad
def Eg.strip (f:Eg):Wv:=⟨f.ntmps,f.results,[],f.body.strip⟩
def EH.known:EH->Bool
 | .any=>false
 | _=>true
def okD (d:Option Nat) (ty:EH) (o:EK):Bool:=match d,o with
 | none,_=>true
 | some _,.store _ _ _=>false
 | some _,o=>(match o.cls with
  | .k=>ty.known
  | _=>true)
def be (gt:Option Nat) (ks:List Nat):Bool:=match gt with
 | none=>true
 | some t=>Bd ks t
def X1 (t:Nat) (b:Bool) (ds:List Nat) (c x y:AO):Bool:=
 (match c with
  | .tmp u=>Ag u t
  | .con _=>false) &&
 (match (match b with | true=>y | false=>x)with
  | .tmp u=>!Bd ds u
  | .con _=>true)
def XL.okG:XL->Option (List Nat)->Option Nat->Bool
 | .nil,_,_=>true
 | .op d ty ks o r,ds,gt=>okD d ty o&&be gt ks&&(match ds,d with
  | some l,some d=>r.okG (some (d::l)) gt
  | _,_=>r.okG ds gt)
 | .pal _ ks _ _ r,ds,gt=>be gt ks&&(match ds with
  | some _=>false
  | none=>r.okG none gt)
 | .grp t b l d ks c x y r,ds,gt=>be gt ks&&Bd ks t && !Bd l.dsts t&&X1 t b l.dsts c x y&&(match ds with
  | some ds'=>Bd ds' t
  | none=>true)&&l.okG (some []) (some t)&&(match ds with
  | some ds'=>r.okG (some (d::l.dsts++ds')) gt
  | none=>r.okG none gt)
def Yp (l:List BR) (ancs:List Nat):Bool:=
 T5 l.length fun k=>match l[k]? with
  | some ok=>(match ok.op.cls with
   | .k=>T5 l.length fun j=>match l[j]? with
    | some oj=>(match oj.op.cls with
     | .l=>(ancs.getD j 0).testBit k || (ancs.getD k 0).testBit j
     | .a=>!Cf j k || (ancs.getD k 0).testBit j
     | _=>true)
    | none=>false
   | _=>true)
  | none=>false
def SA:List BR->Bool
 | []=>true
 | o::l=>(match o.op with
  | .bad=>false
  | _=>true)&&SA l
def XC.ok:XC->Bool
 | .skip=>true
 | .ops l=>l.okG none none
 | .draw l ancs=>l.okG none none&&Yp (l.flat none) ancs&&Ag ancs.length l.lks.length && !l.makes&&SA (l.flat none)
 | .gdraw _ _ _=>true
 | .seq a b=>a.ok&&b.ok
 | .cond _ a b=>a.ok&&b.ok
 | .block _ c=>c.ok
 | .loop _ _ _ c=>c.ok
 | .exit _=>true
 | .ret=>true
 | .keep _ _ _ c=>c.ok
 | .bad=>true
end
def AO.t (i:Nat):AO := .tmp i
def AO.i (n:Nat):AO := .con (.int .i64 (AA n))
def EH.i:EH := .int .i64
def XL.m (d s:Nat) (k:XL):XL := .op (some d) .any [s] (.mov (.tmp s)) k
def XL.p (d:Nat) (ks:List Nat) (o:EK) (k:XL):XL := .op (some d) .any ks o k
def AO.ts:List AO->List Nat
 | []=>[]
 | .tmp i::l=>i::AO.ts l
 | .con _::l=>AO.ts l
def XL.f (d k s:Nat) (r:XL):XL := .op (some d) .any [s] (.faddr k (.tmp s)) r
def XL.n (d s:Nat) (r:XL):XL := .op (some d) .any [s] (.nilck (.tmp s)) r
def XL.u (d s:Nat) (r:XL):XL := .op (some d) .any [s] (.len false (.tmp s)) r
def XL.s (d e x i:Nat) (r:XL):XL := .op (some d) .any [x,i] (.iaddrS e (.tmp x) (.tmp i)) r
def XL.b (d:Nat) (o:BinOp) (t:Fg) (x y:AO) (r:XL):XL := .op (some d) .any (AO.ts [x,y]) (.bin o t x y) r
def XL.q (d n:Nat) (r:XL):XL := .op (some d) .any [] (.mov (.con (.int .i64 (AA n)))) r
def XL.c (d:Nat) (v:V) (r:XL):XL := .op (some d) .any [] (.mov (.con v)) r
def XL.l (d:Nat) (t:EH) (s:Nat) (r:XL):XL := .op (some d) t [s] (.load none (.tmp s)) r
def XL.k (d:Nat) (t:EH) (f:FuncId) (l:List AO) (r:XL):XL := .op (some d) t (AO.ts l) (.call f l) r
def XL.w (n x v:Nat) (r:XL):XL := .op none .any [x,v] (.store n (.tmp x) (.tmp v)) r
def EK.ts:EK->List Nat
 | .mov x | .box _ x | .load _ x | .nilck x | .un _ x | .conv _ x | .mkifc _ x | .faddr _ x | .field _ _ x | .extract _ x | .len _ x | .cap x=>AO.ts [x]
 | .bin _ _ x y | .iaddrS _ x y | .iaddrA _ _ x y | .idxStr x y | .idxArr _ _ _ x y | .append _ _ _ x y | .mkslice _ _ _ _ x y=>AO.ts [x,y]
 | .call _ l=>AO.ts l
 | .callv f l=>AO.ts (f::l)
 | _=>[]
def XL.P (d:Nat) (o:EK) (r:XL):XL := .op (some d) .any o.ts o r
def XL.O (d:Nat) (t:EH) (o:EK) (r:XL):XL := .op (some d) t o.ts o r
def XL.gA (t:Nat) (b:Bool) (l:XL) (d c x:Nat) (r:XL):XL := .grp t b l d [c,x] (.tmp c) (.tmp x) (.con (.bool false)) r
def XL.gO (t:Nat) (b:Bool) (l:XL) (d c x:Nat) (r:XL):XL := .grp t b l d [c,x] (.tmp c) (.con (.bool true)) (.tmp x) r
def XC.z (a:XL) (b:XC):XC := .seq (.ops a) b
def PO (l:List V) (Z:H) (J:H->AH):AH:=I5 (BJ l) (J (CO Z (.cells l)))
def BV (k:IntKind) (l:List V) (J:Int->List V->AH):AH:=AP l fun v m=>Al k v fun n=>J n m
def DQ (l:List V) (J:Bool->List V->AH):AH:=AP l fun v m=>AT v fun b=>J b m
def EY (l:List V) (J:BS->List V->AH):AH:=AP l fun v m=>DE v fun s=>J s m
end Go.Og
namespace Go.Og
theorem Bc {α:Type} (p:Nat × α) (l:List (Nat × α)) (id:Nat):Bl (p::l) id=if p.1=id then some p.2 else Bl l id:=by
 show (Bool.rec (motive:=fun _=>Option α) (Bl l id) (some p.2) (Ag p.1 id))=_
 by_cases h:p.1=id
 ·have hb:Ag p.1 id=true:=by rw[AQ];exact h
  rw[if_pos h,hb]
 ·rw[if_neg h]
  have:Ag p.1 id=false:=FP.2 (by rw[ne_eq,AQ];exact h)
  rw[this]
theorem BH {α:Type} (l:List (Nat × α)) (id:Nat):Bl l id=look l id:=by
 induction l with
 | nil=>rfl
 | cons p l ih=>
  obtain⟨k,b⟩:=p
  rw[Bc,ih]
  simp only[look,AQ]
theorem Tu {α:Type} (p:Nat × α) (l:List (Nat × α)) (id:Nat):SU (p::l) id=if p.1=id then l else p::SU l id:=by
 show (Bool.rec (motive:=fun _=>List (Nat × α)) (p::SU l id) l (Ag p.1 id))=_
 by_cases h:p.1=id
 ·have hb:Ag p.1 id=true:=by rw[AQ];exact h
  rw[if_pos h,hb]
 ·rw[if_neg h]
  have:Ag p.1 id=false:=FP.2 (by rw[ne_eq,AQ];exact h)
  rw[this]
theorem Tg {α:Type} (l:List (Nat × α)) (id k:Nat) (h:id≠k):look (SU l id) k=look l k:=by
 induction l with
 | nil=>rfl
 | cons p l ih=>
  obtain⟨m,b⟩:=p
  rw[Tu]
  by_cases hm:m=id
  ·rw[if_pos hm];simp only[look,AQ];rw[if_neg (by omega)]
  ·rw[if_neg hm];simp only[look,AQ,ih]
theorem LW (l:List V) (n:Nat):X8 l n=l[n]? := by
 induction l generalizing n with
 | nil=>rfl
 | cons a l ih=>
  cases n with
  | zero=>rfl
  | succ n=>exact ih n
theorem P4 (l:EB) (id:Nat) (J:EB->AH):RE l id J=J (drop l id):=by
 induction l generalizing J with
 | nil=>rfl
 | cons p l ih=>
  obtain⟨k,b⟩:=p
  show RE l id (fun l'=>Bool.rec (motive:=fun _=>AH) (J ((k,b)::l')) (J l') (Ag k id))=_
  rw[ih]
  simp only[drop]
  cases hb:Ag k id<;>simp[hb]
theorem Df {c:Bool} {a:AH} {r:V × H} (h:I5 c a=some r):c=true/\a=some r:=by
 cases c with
 | true=>exact⟨rfl,h⟩
 | false=>cases h
theorem De (a b:AH):AI true a b=a:=rfl
theorem DG (a b:AH):AI false a b=b:=rfl
theorem KA {x:Option V} {J:V->AH} {r:V × H} (h:gK x J=some r):∃v,x=some v/\J v=some r:=by
 cases x with
 | none=>cases h
 | some v=>exact⟨v,rfl,h⟩
theorem Hc {x:AH} {J:V->H->AH} {r:V × H} (h:AV x J=some r):∃v Z,x=some (v,Z)/\J v Z=some r:=by
 cases x with
 | none=>cases h
 | some p=>exact⟨p.1,p.2,rfl,h⟩
theorem Qw {k:IntKind} {n:Int} (h:nS k n=true):k.wrap n=n:=by
 unfold IntKind.wrap
 cases n with
 | ofNat m=>
  simp only[nS,Ai]at h
  cases k<;>simp only[IE]at h<;>simp only[IntKind.signed,IntKind.bits,Int.ofNat_eq_natCast]<;>simp<;>omega
 | negSucc m=>
  simp only[nS,CK]at h
  cases k<;>simp only[pq]at h<;>(first | omega | skip)<;>simp only[IntKind.signed,IntKind.bits,Int.negSucc_eq]<;>simp<;>omega
theorem Gb (k:IntKind) (n:Int):B4 k n=k.wrap n:=by
 unfold B4
 cases h:nS k n with
 | true=>exact(Qw h).symm
 | false=>rfl
theorem YJ (a b:Int):Dt a b=decide (a<b):=by
 cases a<;>cases b<;>simp only[Dt]<;>(rw[NR];simp[CK])<;>omega
theorem YQ (a b:Int):Ip a b=decide (a<=b):=by
 cases a<;>cases b<;>simp only[Ip]<;>(rw[NR];simp[Ai])<;>omega
theorem dW (k:IntKind) (a b:Int):CJ k a b=k.wrap (a+b):=Gb k _
theorem bS (k:IntKind) (a b:Int):JQ k a b=k.wrap (a-b):=Gb k _
theorem cE (k:IntKind) (a b:Int):Te k a b=k.wrap (a*b):=Gb k _
theorem bp (k:IntKind) (a b:Int):jz k a b=k.wrap (a.tdiv b):=Gb k _
theorem cC (k:IntKind) (a:Int):pr k a=k.wrap (0-a):=Gb k _
theorem bY (k:IntKind) (a:Int) (n:Nat):G3 k a n=k.wrap (a*2 ^ (Fz n k.bits)):=by
 unfold G3
 rw[Gb]
 have h:(AA (Nat.pow 2 (Fz n k.bits)))=(2:Int) ^ (Fz n k.bits):=by
  show ((2 ^ (Fz n k.bits):Nat):Int)=_
  rw[Int.natCast_pow];rfl
 rw[h];rfl
theorem bW (k:IntKind) (a:Int) (n:Nat):bX k a n=a.fdiv (2 ^ (Fz n k.bits)):=by
 cases a with
 | ofNat m=>
  have h:(2:Int) ^ (Fz n k.bits)=((2 ^ (Fz n k.bits):Nat):Int):=by rw[Int.natCast_pow];rfl
  rw[h]
  show ((m / 2 ^ (Fz n k.bits):Nat):Int)=Int.fdiv ((m:Nat):Int) _
  rw[Int.fdiv_eq_ediv_of_nonneg _ (Int.natCast_nonneg _),Int.natCast_ediv]
 | negSucc m=>rfl
theorem Ny (k:IntKind):∃p,IE k+1=2 ^ p/\p<=k.bits:=by
 cases k
 ·exact⟨7,rfl,by decide⟩
 ·exact⟨15,rfl,by decide⟩
 ·exact⟨31,rfl,by decide⟩
 ·exact⟨63,rfl,by decide⟩
 ·exact⟨8,rfl,by decide⟩
 ·exact⟨16,rfl,by decide⟩
 ·exact⟨32,rfl,by decide⟩
 ·exact⟨64,rfl,by decide⟩
theorem Ia {k:IntKind} {m:Nat} (h:m<=IE k):(BL k.bits (AA m)).toNat=m:=by
 obtain⟨p,hp,hb⟩:=Ny k
 have h1:m<2 ^ k.bits:=Cz (by omega) (Ww (by decide) hb)
 have:BL k.bits (AA m)=BitVec.ofNat k.bits m:=by
  show BL k.bits ((m:Nat):Int)=_
  rw[BitVec.ofInt_natCast]
 rw[this,BitVec.toNat_ofNat,Ew h1]
theorem Nf {k:IntKind} {a b:Int} {f:Nat->Nat->Nat} {g:Int} (h:∀m n,a = .ofNat m->b = .ofNat n->m<=IE k->n<=IE k->g = .ofNat (f m n)):JS k a b f g=g:=by
 unfold JS
 split
 ·rename_i m n
  cases hc:(Ab m (IE k)&&Ab n (IE k))with
  | true=>
   simp only[AF,Ai]at hc
   exact(h m n rfl rfl hc.1 hc.2).symm
  | false=>rfl
 ·rfl
theorem NV {k:IntKind} {m:Nat} (h:m<=IE k):k.wrap (m:Int) = .ofNat m:=Qw (n := .ofNat m) (by simpa[nS]using h)
theorem dU (k:IntKind) (a b:Int):KH k a b=k.wrap (BL k.bits a &&& BL k.bits b).toNat:=by
 refine Nf fun m n ha hb hm hn=>?_
 subst ha hb
 rw[BitVec.toNat_and,Ia hm,Ia hn]
 exact NV (AN Nat.and_le_left hm)
theorem j4 (k:IntKind) (a b:Int):J4 k a b=k.wrap (BL k.bits a ||| BL k.bits b).toNat:=by
 refine Nf fun m n ha hb hm hn=>?_
 subst ha hb
 obtain⟨p,hp,_⟩:=Ny k
 rw[BitVec.toNat_or,Ia hm,Ia hn]
 refine NV ?_
 have:=Nat.or_lt_two_pow (x:=m) (y:=n) (n:=p) (by omega) (by omega)
 omega
theorem bF (k:IntKind) (a b:Int):oJ k a b=k.wrap (BL k.bits a ^^^ BL k.bits b).toNat:=by
 refine Nf fun m n ha hb hm hn=>?_
 subst ha hb
 obtain⟨p,hp,_⟩:=Ny k
 rw[BitVec.toNat_xor,Ia hm,Ia hn]
 refine NV ?_
 have:=Nat.xor_lt_two_pow (x:=m) (y:=n) (n:=p) (by omega) (by omega)
 omega
theorem FG {b:Int} {J:Nat->AH} {r:V × H} (h:Td b J=some r):0<=b/\J b.toNat=some r:=by
 cases b with
 | ofNat n=>exact⟨Int.natCast_nonneg n,h⟩
 | negSucc n=>cases h
theorem X7 {b:Int} {a:AH} {r:V × H} (h:po b a=some r):b≠0/\a=some r:=by
 unfold po at h
 split at h
 ·cases h
 ·rename_i hb;exact⟨fun h0=>hb (by rw[h0];rfl),h⟩
theorem WB {op:BinOp} {t:Fg} {k k':IntKind} {a b:Int} {J:V->AH} {r:V × H} (h:kL op k k' a b J=some r):∃v,Ib op t (.int k a) (.int k' b)=some v/\J v=some r:=by
  cases op
  case shl=>
    obtain⟨h1,h2⟩:=FG h
    refine⟨_,?_,h2⟩
    simp only[Ib,Nn]
    rw[if_neg (by omega),bY];rfl
  case shr=>
    obtain⟨h1,h2⟩:=FG h
    refine⟨_,?_,h2⟩
    simp only[Ib,Nn]
    rw[if_neg (by omega),bW];rfl
  all_goals
    simp only[kL]at h
    split at h
    · rename_i hk
      simp only[Ib]
      rw[if_pos hk]
      first
        | (refine⟨_,?_,h⟩;simp only[U2,RG,dW,bS,cE,dU,j4,bF,U3,Tt,YJ,YQ];rfl)
        | (obtain⟨h1,h2⟩:=X7 h
           refine⟨_,?_,h2⟩
           simp only[U2]
           rw[if_neg h1]
           first | rfl | (rw[bp];rfl))
    · cases h
theorem WX {a b:BS} {J:BS->AH} {r:V × H} (h:cq a b J=some r):Ab (AU a.len b.len) 1000000000000=true/\J (a.cat b)=some r:=by
 unfold cq at h
 split at h
 ·rename_i hc;exact⟨hc,h⟩
 ·cases h
theorem Vt {op:BinOp} {t:Fg} {a b:BS} {J:V->AH} {r:V × H} (h:pX op a b J=some r):∃v,Ib op t (.str a) (.str b)=some v/\J v=some r:=by
 cases op
 case add=>
  have h':cq a b (fun s=>J (.str s))=some r:=h
  obtain⟨h1,h2⟩:=WX h'
  exact⟨_,by simp only[Ib,XZ,h1],h2⟩
 all_goals first
  | exact⟨_,rfl,h⟩
  | cases h
theorem SS {t:Fg} {x y:V} {J:Bool->AH} {r:V × H} (h:TQ t x y J=some r):∃b,KL t x y=some b/\J b=some r:=by
 unfold TQ at h
 split at h
 ·exact⟨_,‹_›,h⟩
 ·cases h
theorem Md {t:Fg} {x y:V} {b:Bool} (h:KL t x y=some b):(∀k n k' m,x = .int k n->y = .int k' m->False)/\(∀l m,x = .str l->y = .str m->False):=by
 constructor
 ·rintro k n k' m rfl rfl;cases t<;>(first|cases h|(rename_i b;cases b<;>cases h))
 ·rintro l m rfl rfl;cases t<;>(first|cases h|(rename_i b;cases b<;>cases h))
theorem WY {op:BinOp} {t:Fg} {x y:V} {J:V->AH} {r:V × H} (h:kY op t x y J=some r):∃v,Ib op t x y=some v/\J v=some r:=by
 have eqs:∀(t:Fg),yE op t x y J=some r->∃v,Ib op t x y=some v/\J v=some r:=by
  intro t h
  unfold yE at h
  split at h
  ·obtain⟨b,h1,h2⟩:=SS h
   obtain⟨h3,h4⟩:=Md h1
   refine⟨_,?_,h2⟩
   unfold Ib
   split
   ·exact(h3 _ _ _ _ rfl rfl).elim
   ·exact(h4 _ _ rfl rfl).elim
   ·simp only[h1];rfl
  ·obtain⟨b,h1,h2⟩:=SS h
   obtain⟨h3,h4⟩:=Md h1
   refine⟨_,?_,h2⟩
   unfold Ib
   split
   ·exact(h3 _ _ _ _ rfl rfl).elim
   ·exact(h4 _ _ rfl rfl).elim
   ·simp only[h1];rfl
  ·cases h
 cases t with
 | none=>
  simp only[kY]at h
  split at h
  ·exact WB h
  ·exact Vt h
  ·cases h
 | bool=>exact eqs _ h
 | ptr=>exact eqs _ h
 | slice=>exact eqs _ h
 | map=>exact eqs _ h
 | func=>exact eqs _ h
 | iface b=>exact eqs _ h
 | flat l=>exact eqs _ h
theorem XO {op:UnOp} {x:V} {J:V->AH} {r:V × H} (h:xm op x J=some r):∃v,wB op x=some v/\J v=some r:=by
 unfold xm at h
 split at h
 ·exact⟨_,by simp only[wB,cC],h⟩
 ·exact⟨_,rfl,h⟩
 ·exact⟨_,rfl,h⟩
 ·cases h
theorem Np {k:IntKind} {v:V} {J:Int->AH} {r:V × H} (h:Al k v J=some r):∃n,v = .int k n/\J n=some r:=by
 unfold Al at h
 split at h
 ·split at h
  ·rename_i hk;subst hk;exact⟨_,rfl,h⟩
  ·cases h
 ·cases h
theorem FY {v:V} {J:Bool->AH} {r:V × H} (h:AT v J=some r):∃b,v = .bool b/\J b=some r:=by
 unfold AT at h
 split at h
 ·exact⟨_,rfl,h⟩
 ·cases h
theorem FQ {v:V} {J:BS->AH} {r:V × H} (h:DE v J=some r):∃s,v = .str s/\J s=some r:=by
 unfold DE at h
 split at h
 ·exact⟨_,rfl,h⟩
 ·cases h
theorem Dw {v:V} {J:Nat->Nat->AH} {r:V × H} (h:Br v J=some r):∃b o,v = .ptr b o/\J b o=some r:=by
 unfold Br at h
 split at h
 ·exact⟨_,_,rfl,h⟩
 ·cases h
theorem FR {v:V} {J:List V->AH} {r:V × H} (h:B7 v J=some r):∃l,v = .agg l/\J l=some r:=by
 unfold B7 at h
 split at h
 ·exact⟨_,rfl,h⟩
 ·cases h
theorem Kf {v:V} {J:List V->AH} {r:V × H} (h:Cw v J=some r):∃l,v = .tup l/\J l=some r:=by
 unfold Cw at h
 split at h
 ·exact⟨_,rfl,h⟩
 ·cases h
theorem Ru {l:List V} {J:V->List V->AH} {r:V × H} (h:AP l J=some r):∃v m,l=v::m/\J v m=some r:=by
 unfold AP at h
 split at h
 ·exact⟨_,_,rfl,h⟩
 ·cases h
theorem TY {l:List V} {a:AH} {r:V × H} (h:AZ l a=some r):l=[]/\a=some r:=by
 unfold AZ at h
 split at h
 ·exact⟨rfl,h⟩
 ·cases h
theorem Kg {v:V} {a:AH} {r:V × H} (h:Fk v a=some r):v.one=true/\a=some r:=by
 unfold Fk at h
 split at h
 ·exact⟨‹_›,h⟩
 ·cases h
mutual
theorem G4:∀(ty:EH) (v:V) (J:V->AH) (r:V × H),rt ty v J=some r->J v=some r
 | .any,v,J,r,h=>by simpa only [rt]using h
 | .int k,v,J,r,h=>by simp only[rt]at h;obtain⟨n,rfl,h2⟩:=Np h;exact h2
 | .bool,v,J,r,h=>by simp only[rt]at h;obtain⟨n,rfl,h2⟩:=FY h;exact h2
 | .str,v,J,r,h=>by simp only[rt]at h;obtain⟨n,rfl,h2⟩:=FQ h;exact h2
 | .ptr,v,J,r,h=>by simp only[rt]at h;obtain⟨b,o,rfl,h2⟩:=Dw h;exact h2
 | .one,v,J,r,h=>by simp only[rt]at h;exact(Kg h).2
 | .agg ts,v,J,r,h=>by simp only[rt]at h;obtain⟨l,rfl,h2⟩:=FR h;exact JV ts l _ r h2
 | .tup ts,v,J,r,h=>by simp only[rt]at h;obtain⟨l,rfl,h2⟩:=Kf h;exact JV ts l _ r h2
theorem JV:∀(ts:List EH) (l:List V) (J:List V->AH) (r:V × H),fH ts l J=some r->J l=some r
 | [],l,J,r,h=>by simp only[fH]at h;obtain⟨rfl,h2⟩:=TY h;exact h2
 | t::ts,l,J,r,h=>by
  simp only[fH]at h
  obtain⟨v,m,rfl,h⟩:=Ru h
  have:=G4 t v _ r h
  exact JV ts m _ r this
end
def FB (e:Bt):Prop:=∀t v,look e t=some v->v.live=true
theorem Ae {e:Bt} {x:AO} {J:V->AH} {r:V × H} (h:CA e x J=some r):∃v,CV e x=v/\(FB e->v.live=true)/\J v=some r:=by
 unfold CA at h
 split at h
 ·rename_i v
  split at h
  ·exact⟨v,rfl,fun _=>‹_›,h⟩
  ·cases h
 ·rename_i t
  cases hl:look e t with
  | none=>rw[hl]at h;cases h
  | some v=>
   rw[hl]at h
   exact⟨v,by simp only[CV,GQ,hl],fun he=>he t v hl,h⟩
theorem FU {e:Bt}:∀(l:List AO) (J:List V->AH) (r:V × H),Lg e l J=some r->(FB e->(Fe e l).all V.live=true)/\J (Fe e l)=some r
 | [],J,r,h=>⟨fun _=>rfl,h⟩
 | x::l,J,r,h=>by
  simp only[Lg]at h
  obtain⟨v,hv,hl,h⟩:=Ae h
  obtain⟨h1,h2⟩:=FU l _ r h
  subst hv
  exact⟨fun he=>by simp only[Fe,B3,Vp,hl he,CQ];exact h1 he,h2⟩
theorem Ep {e:Bt} {x:Option AO} {J:Option V->AH} {r:V × H} (h:Lh e x J=some r):J (DR e x)=some r:=by
 cases x with
 | none=>exact h
 | some x=>
  obtain⟨v,hv,_,h⟩:=Ae h
  subst hv;exact h
theorem JX {e:Bt}:∀(l:List (Nat × Nat × AO)) (J:List (Nat × Nat × V)->AH) (r:V × H),Nt e l J=some r->J (JY e l)=some r
 | [],J,r,h=>h
 | (o,s,x)::l,J,r,h=>by
  simp only[Nt]at h
  obtain⟨v,hv,_,h⟩:=Ae h
  have:=JX l _ r h
  subst hv;exact this
theorem GL {l:List V} {n:Nat} {J:V->AH} {r:V × H} (h:Jd l n J=some r):∃v,l[n]? = some v/\J v=some r:=by
 unfold Jd at h
 rw[LW]at h
 split at h
 ·exact⟨_,‹_›,h⟩
 ·cases h
theorem GI {l:List V} {off n:Nat} {J:List V->AH} {r:V × H} (h:HN l off n J=some r):Ab (off+n) l.length=true/\J ((l.drop off).take n)=some r:=by
 unfold HN at h
 split at h
 ·exact⟨‹_›,h⟩
 ·cases h
theorem JW {E:EB} {Z:H} {b:Nat} {J:List V->AH} {r:V × H} (h:bn E Z b J=some r):∃l,rd E Z b=some l/\J l=some r:=by
 unfold bn at h
 rw[BH]at h
 unfold rd
 split at h
 ·rename_i hb;rw[hb];exact⟨_,rfl,h⟩
 ·cases h
 ·rename_i hb
  rw[BH]at h
  rw[hb]
  split at h
  ·rename_i he;rw[he];exact⟨_,rfl,h⟩
  ·cases h
theorem Mh {o:Option V} {d:Nat} {J:Nat->AH} {r:V × H} (h:RI o d J=some r):∃n,Hk o d=some n/\J n=some r:=by
 unfold RI at h
 split at h
 ·exact⟨d,rfl,h⟩
 ·split at h
  ·obtain⟨h1,h2⟩:=FG h
   exact⟨_,by simp only[Hk,if_pos h1],h2⟩
  ·cases h
theorem TX {v:V} {J:Nat->AH} {r:V × H} (h:BG v J=some r):∃n:Nat,J n=some r/\∀e x,CV e x=v->BU (.len false x) e=some (.int .i64 n):=by
 unfold BG at h
 split at h
 ·exact⟨0,h,fun e x hx=>by simp only[BU,hx];rfl⟩
 ·exact⟨_,h,fun e x hx=>by simp only[BU,hx]⟩
 ·exact⟨0,h,fun e x hx=>by simp only[BU,hx];rfl⟩
 ·cases h
theorem Pd {E:EB} {Z:H} {esz:Nat} {v:V} {J:Nat->List V->AH} {r:V × H} (h:srcK E Z esz v J=some r):∃n l,CY E Z esz v=some (n,l)/\J n l=some r:=by
 unfold srcK at h
 split at h
 ·exact⟨_,_,rfl,h⟩
 ·exact⟨_,_,rfl,h⟩
 ·obtain⟨l,h1,h2⟩:=JW h
  obtain⟨h3,h4⟩:=GI h2
  exact⟨_,_,by simp only[CY,PM,h1,h3,if_true];rfl,h4⟩
 ·split at h
  ·rename_i he
   rw[AQ]at he
   exact⟨_,_,by simp only[CY,if_pos he],h⟩
  ·cases h
 ·cases h
structure Jo (Z2 Z1:H):Prop where
 next:Z2.next=Z1.next
 sub:∀k b,look Z2.bl k=some b->look Z1.bl k=some b
theorem Jo.refl (Z:H):Jo Z Z:=⟨rfl,fun _ _ h=>h⟩
theorem Py (Z:H) (b:Nat) (c:Gv) (k:Nat):look (Ke Z b c).bl k=if b=k then some c else look Z.bl k:=by
 simp only[Ke,look,AQ]
 by_cases h:b=k
 ·rw[if_pos h,if_pos h]
 ·rw[if_neg h,if_neg h,Tg _ _ _ h]
theorem Xf {Z:H} {b:Nat} {c d:Gv} (h:look Z.bl b=some d):Jo (Ke Z b c) (Z.set b c):=by
 refine⟨rfl,fun k u hk=>?_⟩
 rw[Py]at hk
 simp only[H.set,HJ]
 by_cases he:b=k
 ·subst he;rw[if_pos rfl]at hk;rw[if_pos rfl,h];exact hk
 ·rw[if_neg he]at hk;rw[if_neg he];exact hk
theorem Xa {n b off:Nat} {v:V} {Z:H} {J:H->AH} {r:V × H} (h:Dk n b off v Z J=some r) :
  ∃Z1 Z2,J Z2=some r/\Jo Z2 Z1/\∀(E:EB) (e:Bt) (x y:AO),CV e x = .ptr b off->CV e y=v->Ef E (.store n x y) e Z=some (.dead,Z1):=by
 unfold Dk at h
 rw[BH]at h
 split at h
 ·rename_i l hb
  obtain⟨hc,h⟩:=Df h
  refine⟨_,_,h,Xf hb,fun E e x y hx hy=>?_⟩
  have hc':(Ag v.cells.length n&&Ab (off+n) l.length&&BJ v.cells)=true:=hc
  simp only[Ef,hx,hy,hb]
  rw[if_pos hc']
 ·cases h
theorem QD {E:EB} {esz bytes:Nat} {s x:V} {Z:H} {J:V->H->AH} {r:V × H} (h:Ix E esz bytes s x Z J=some r) :
  ∃v Z1,D7 E esz bytes s x Z=some (v,Z1)/\J v Z1=some r:=by
 unfold Ix at h
 obtain⟨n,new,h1,h⟩:=Pd h
 split at h
 ·rename_i b len e
  split at h
  ·exact⟨_,_,by simp only[D7,h1];rfl,h⟩
  ·rename_i hn
   split at h
   ·rename_i l hb
    rw[BH]at hb
    obtain⟨hc,h⟩:=Df h
    rw[P4]at h
    refine⟨_,_,?_,h⟩
    simp only[D7,h1]
    rw[if_neg (by omega),hb]
    simp only
    rw[if_pos hc]
    rfl
   ·cases h
 ·obtain⟨v,Z1,h2,h3⟩:=Hc h
  exact⟨v,Z1,h2,h3⟩
theorem OB {l:List (Nat × Nat × V)} {z:List V} {J:List V->AH} {r:V × H} (h:Lk l z J=some r):∃l',Hq l z=some l'/\J l'=some r:=by
 unfold Lk at h
 split at h
 ·exact⟨_,‹_›,h⟩
 ·cases h
theorem UP {E:EB} {D:BB} {id nx:Nat} {o:EK} {e:Bt} {Z:H} {J:V->H->AH} {r:V × H} (h:Cr E D id nx o e Z J=some r) :
  (o.cls = .p/\∃v,(FB e->BU o e=some v)/\J v Z=some r)\/(o.cls = .l/\∃v,(FB e->CU E o e Z=some v)/\J v Z=some r) \/
  (o.cls = .a/\∃v b,(FB e->CX o e id=some (v,b))/\J v ⟨nx,(id,b)::Z.bl⟩=some r) \/
  (o.cls = .k/\∃v Z1 Z2,(FB e->EO E D o e Z=some (v,Z1))/\Jo Z2 Z1/\J v Z2=some r):=by
 have P:∀{v},o.cls = .p->(FB e->BU o e=some v)->J v Z=some r->(o.cls = .p/\∃v,(FB e->BU o e=some v)/\J v Z=some r)\/(o.cls = .l/\∃v,(FB e->CU E o e Z=some v)/\J v Z=some r) \/
  (o.cls = .a/\∃v b,(FB e->CX o e id=some (v,b))/\J v ⟨nx,(id,b)::Z.bl⟩=some r) \/
  (o.cls = .k/\∃v Z1 Z2,(FB e->EO E D o e Z=some (v,Z1))/\Jo Z2 Z1/\J v Z2=some r):=fun h1 h2 h3 => .inl ⟨h1,_,h2,h3⟩
 have L:∀{v},o.cls = .l->(FB e->CU E o e Z=some v)->J v Z=some r->(o.cls = .p/\∃v,(FB e->BU o e=some v)/\J v Z=some r)\/(o.cls = .l/\∃v,(FB e->CU E o e Z=some v)/\J v Z=some r) \/
  (o.cls = .a/\∃v b,(FB e->CX o e id=some (v,b))/\J v ⟨nx,(id,b)::Z.bl⟩=some r) \/
  (o.cls = .k/\∃v Z1 Z2,(FB e->EO E D o e Z=some (v,Z1))/\Jo Z2 Z1/\J v Z2=some r):=fun h1 h2 h3 => .inr (.inl ⟨h1,_,h2,h3⟩)
 have A:∀{v b},o.cls = .a->(FB e->CX o e id=some (v,b))->J v ⟨nx,(id,b)::Z.bl⟩=some r->(o.cls = .p/\∃v,(FB e->BU o e=some v)/\J v Z=some r)\/(o.cls = .l/\∃v,(FB e->CU E o e Z=some v)/\J v Z=some r) \/
  (o.cls = .a/\∃v b,(FB e->CX o e id=some (v,b))/\J v ⟨nx,(id,b)::Z.bl⟩=some r) \/
  (o.cls = .k/\∃v Z1 Z2,(FB e->EO E D o e Z=some (v,Z1))/\Jo Z2 Z1/\J v Z2=some r):=fun h1 h2 h3 => .inr (.inr (.inl ⟨h1,_,_,h2,h3⟩))
 have K:∀{v Z1 Z2},o.cls = .k->(FB e->EO E D o e Z=some (v,Z1))->Jo Z2 Z1->J v Z2=some r->(o.cls = .p/\∃v,(FB e->BU o e=some v)/\J v Z=some r)\/(o.cls = .l/\∃v,(FB e->CU E o e Z=some v)/\J v Z=some r) \/
  (o.cls = .a/\∃v b,(FB e->CX o e id=some (v,b))/\J v ⟨nx,(id,b)::Z.bl⟩=some r) \/
  (o.cls = .k/\∃v Z1 Z2,(FB e->EO E D o e Z=some (v,Z1))/\Jo Z2 Z1/\J v Z2=some r):=fun h1 h2 h3 h4 => .inr (.inr (.inr ⟨h1,_,_,_,h2,h3,h4⟩))
 cases o with
 | mov x=>
  simp only[Cr]at h
  obtain⟨v,hv,hl,h⟩:=Ae h
  exact P rfl (fun he=>by simp only[BU,hv,hl he,if_true]) h
 | bin op t x y=>
  simp only[Cr]at h
  obtain⟨v,hv,hl,h⟩:=Ae h
  obtain⟨u,hu,_,h⟩:=Ae h
  obtain⟨w,hw,h⟩:=WY h
  exact P rfl (fun he=>by simp only[BU,hv,hu,hw]) h
 | un op x=>
  simp only[Cr]at h
  obtain⟨v,hv,hl,h⟩:=Ae h
  obtain⟨w,hw,h⟩:=XO h
  exact P rfl (fun he=>by simp only[BU,hv,hw]) h
 | conv t x=>
  cases t with
  | toInt k=>
   simp only[Cr]at h
   obtain⟨v,hv,hl,h⟩:=Ae h
   split at h
   ·rw[Gb]at h;exact P rfl (fun he=>by simp only[BU,hv]) h
   ·cases h
  | same=>
   simp only[Cr]at h
   obtain⟨v,hv,hl,h⟩:=Ae h
   obtain⟨s,rfl,h9⟩:=FQ h
   replace h:=h9
   exact P rfl (fun he=>by simp only[BU,hv]) h
  | toBytes el=>
   simp only[Cr]at h
   obtain⟨v,hv,hl,h⟩:=Ae h
   obtain⟨s,rfl,h9⟩:=FQ h
   replace h:=h9
   obtain⟨hc,h⟩:=Df h
   exact A rfl (fun he=>by simp only[CX,hv,hc,if_true]) h
  | toStr=>
   simp only[Cr]at h
   obtain⟨v,hv,hl,h⟩:=Ae h
   unfold Kd at h
   split at h
   ·cases h
   ·rename_i hns
    obtain⟨n,l,h1,h2⟩:=Pd h
    split at h2
    ·rename_i s hs
     have hnot:(CV e x).isStr=false:=by
      rw[hv]
      cases v<;>first | rfl | (exact(hns _ rfl).elim)
     refine L rfl (fun he=>?_) h2
     simp only[CU,hnot]
     rw[hv,h1]
     simp[hs]
    ·cases h2
  | bad=>simp only[Cr]at h;cases h
 | nilck x=>
  simp only[Cr]at h
  obtain⟨v,hv,hl,h⟩:=Ae h
  obtain⟨b,o,rfl,h9⟩:=Dw h
  replace h:=h9
  exact P rfl (fun he=>by simp only[BU,hv]) h
 | faddr off x=>
  simp only[Cr]at h
  obtain⟨v,hv,hl,h⟩:=Ae h
  obtain⟨b,o,rfl,h9⟩:=Dw h
  replace h:=h9
  exact P rfl (fun he=>by simp only[BU,hv];rfl) h
 | field off n x=>
  cases n with
  | none=>
   simp only[Cr]at h
   obtain⟨v,hv,hl,h⟩:=Ae h
   obtain⟨l,rfl,h9⟩:=FR h
   replace h:=h9
   obtain⟨u,hu,h⟩:=GL h
   exact P rfl (fun he=>by simp only[BU,hv,hu]) h
  | some n=>
   simp only[Cr]at h
   obtain⟨v,hv,hl,h⟩:=Ae h
   obtain⟨l,rfl,h9⟩:=FR h
   replace h:=h9
   obtain⟨hu,h⟩:=GI h
   exact P rfl (fun he=>by simp only[BU,hv,hu,if_true]) h
 | extract i x=>
  simp only[Cr]at h
  obtain⟨v,hv,hl,h⟩:=Ae h
  obtain⟨l,rfl,h9⟩:=Kf h
  replace h:=h9
  obtain⟨u,hu,h⟩:=GL h
  exact P rfl (fun he=>by simp only[BU,hv,hu]) h
 | iaddrS esz x i=>
  simp only[Cr]at h
  obtain⟨v,hv,hl,h⟩:=Ae h
  obtain⟨u,hu,_,h⟩:=Ae h
  split at h
  ·unfold Am at h
   split at h
   ·obtain⟨h1,h⟩:=FG h
    obtain⟨h2,h⟩:=Df h
    simp only[CK]at h2
    exact P rfl (fun he=>by simp only[BU,hv,hu];rw[if_pos ⟨h1,by omega⟩];rfl) h
   ·cases h
  ·cases h
 | iaddrA len esz x i=>
  simp only[Cr]at h
  obtain⟨v,hv,hl,h⟩:=Ae h
  obtain⟨u,hu,_,h⟩:=Ae h
  split at h
  ·obtain⟨b,o,rfl,h9⟩:=Dw h
   replace h:=h9
   obtain⟨h1,h⟩:=FG h
   obtain⟨h2,h⟩:=Df h
   simp only[CK]at h2
   exact P rfl (fun he=>by simp only[BU,hv,hu];rw[if_pos ⟨h1,by omega⟩];rfl) h
  ·cases h
 | idxStr x i=>
  simp only[Cr]at h
  obtain⟨v,hv,hl,h⟩:=Ae h
  obtain⟨u,hu,_,h⟩:=Ae h
  obtain⟨s,rfl,h9⟩:=FQ h
  replace h:=h9
  split at h
  ·obtain⟨h1,h⟩:=FG h
   obtain⟨h2,h⟩:=Df h
   exact P rfl (fun he=>by simp only[BU,hv,hu];rw[if_pos h1,if_pos h2];rfl) h
  ·cases h
 | len b x=>
  cases b with
  | true=>
   simp only[Cr]at h
   obtain⟨v,hv,hl,h⟩:=Ae h
   obtain⟨s,rfl,h9⟩:=FQ h
   replace h:=h9
   exact P rfl (fun he=>by simp only[BU,hv];rfl) h
  | false=>
   simp only[Cr]at h
   obtain⟨v,hv,hl,h⟩:=Ae h
   obtain⟨n,h1,h2⟩:=TX h
   exact P rfl (fun _=>h2 e x hv) h1
 | lenC n=>simp only[Cr]at h;exact P rfl (fun he=>by simp only[BU];rfl) h
 | sliceStr x lo hi=>
  simp only[Cr]at h
  obtain⟨v,hv,hl,h⟩:=Ae h
  have h:=Ep h
  have h:=Ep h
  obtain⟨s,rfl,h9⟩:=FQ h
  replace h:=h9
  unfold CW at h
  obtain⟨a,ha,h⟩:=Mh h
  obtain⟨b,hb,h⟩:=Mh h
  obtain⟨hc,h⟩:=Df h
  exact P rfl (fun he=>by simp only[BU,hv,IM,ha,hb,hc,if_true]) h
 | sliceSl esz x lo hi mx=>
  simp only[Cr]at h
  obtain⟨v,hv,hl,h⟩:=Ae h
  have h:=Ep h
  have h:=Ep h
  have h:=Ep h
  obtain⟨u,hu,h⟩:=KA h
  exact P rfl (fun he=>by simp only[BU,hv,hu]) h
 | sliceArr n esz x lo hi mx=>
  simp only[Cr]at h
  obtain⟨v,hv,hl,h⟩:=Ae h
  have h:=Ep h
  have h:=Ep h
  have h:=Ep h
  obtain⟨u,hu,h⟩:=KA h
  exact P rfl (fun he=>by simp only[BU,hv,hu]) h
 | mkifc t x=>
  simp only[Cr]at h
  obtain⟨v,hv,hl,h⟩:=Ae h
  exact P rfl (fun he=>by simp only[BU,hv,hl he,if_true]) h
 | mkfn f a c=>
  simp only[Cr]at h
  obtain⟨h1,h⟩:=FU _ _ _ h
  obtain⟨h2,h⟩:=FU _ _ _ h
  exact P rfl (fun he=>by simp only[BU,h1 he,h2 he,Bool.and_self,if_true]) h
 | build z ps=>
  simp only[Cr]at h
  have h:=JX _ _ _ h
  obtain⟨l',hf,h⟩:=OB h
  exact P rfl (fun he=>by simp only[BU,hf]) h
 | cap x=>
  simp only[Cr]at h
  obtain⟨v,hv,hl,h⟩:=Ae h
  split at h
  ·exact P rfl (fun he=>by simp only[BU,hv]) h
  ·exact P rfl (fun he=>by simp only[BU,hv];rfl) h
  ·cases h
 | min x l=>
  simp only[Cr]at h
  obtain⟨v,hv,hl,h⟩:=Ae h
  obtain⟨_,h⟩:=FU _ _ _ h
  obtain⟨u,hu,h⟩:=KA h
  split at h
  ·exact P rfl (fun he=>by simp only[BU,hv,hu]) h
  ·cases h
 | max x l=>
  simp only[Cr]at h
  obtain⟨v,hv,hl,h⟩:=Ae h
  obtain⟨_,h⟩:=FU _ _ _ h
  obtain⟨u,hu,h⟩:=KA h
  split at h
  ·exact P rfl (fun he=>by simp only[BU,hv,hu]) h
  ·cases h
 | load n x=>
  cases n with
  | none=>
   simp only[Cr]at h
   obtain⟨v,hv,hl,h⟩:=Ae h
   obtain⟨b,o,rfl,h9⟩:=Dw h
   replace h:=h9
   obtain⟨l,hr,h⟩:=JW h
   obtain⟨u,hu,h⟩:=GL h
   exact L rfl (fun he=>by simp only[CU,hv,hr,hu]) h
  | some n=>
   simp only[Cr]at h
   obtain⟨v,hv,hl,h⟩:=Ae h
   obtain⟨b,o,rfl,h9⟩:=Dw h
   replace h:=h9
   obtain⟨l,hr,h⟩:=JW h
   obtain⟨hu,h⟩:=GI h
   exact L rfl (fun he=>by simp only[CU,hv,PM,hr,hu,if_true]) h
 | alloc el z=>simp only[Cr]at h;exact A rfl (fun he=>by simp only[CX]) h
 | box el x=>
  simp only[Cr]at h
  obtain⟨v,hv,hl,h⟩:=Ae h
  obtain⟨hc,h⟩:=Df h
  exact A rfl (fun he=>by simp only[CX,hv,hl he,hc,Bool.and_self,if_true]) h
 | buildSlice el n z ps=>
  simp only[Cr]at h
  have h:=JX _ _ _ h
  obtain⟨l',hf,h⟩:=OB h
  obtain⟨hc,h⟩:=Df h
  exact A rfl (fun he=>by simp only[CX,hf,hc,if_true]) h
 | mkslice el esz bytes z len cap=>
  simp only[Cr]at h
  obtain⟨v,hv,_,h⟩:=Ae h
  obtain⟨u,hu,_,h⟩:=Ae h
  split at h
  ·obtain⟨h1,h⟩:=FG h
   obtain⟨h2,h⟩:=FG h
   obtain⟨hc,h⟩:=Df h
   simp only[AF,Ai]at hc
   obtain⟨⟨c1,c2⟩,c3⟩:=hc
   refine A rfl (fun he=>?_) h
   simp only[CX,hv,hu]
   have hcb:∀c:Int,0<=c->c*bytes=((c.toNat*bytes:Nat):Int):=fun c h2=>by rw[Int.natCast_mul,Int.toNat_of_nonneg h2]
   rw[if_pos ⟨h1,by omega,by rw[hcb _ h2];omega,by omega⟩]
  ·cases h
 | store n x v=>
  simp only[Cr]at h
  obtain⟨p,hp,_,h⟩:=Ae h
  obtain⟨u,hu,_,h⟩:=Ae h
  obtain⟨b,o,rfl,h9⟩:=Dw h
  replace h:=h9
  obtain⟨Z1,Z2,h1,h2,h3⟩:=Xa h
  exact K rfl (fun he=>by simp only[EO,bA,EK.cls];exact h3 E e x v hp hu) h2 h1
 | append el esz bytes s x=>
  simp only[Cr]at h
  obtain⟨p,hp,_,h⟩:=Ae h
  obtain⟨u,hu,_,h⟩:=Ae h
  obtain⟨v,Z1,h1,h2⟩:=QD h
  exact K rfl (fun he=>by simp only[EO,bA,EK.cls,Ef,hp,hu];exact h1) (Jo.refl _) h2
 | copy esz d s=>
  simp only[Cr]at h
  obtain⟨p,hp,_,h⟩:=Ae h
  obtain⟨u,hu,_,h⟩:=Ae h
  obtain⟨v,Z1,h1,h2⟩:=Hc h
  exact K rfl (fun he=>by simp only[EO,bA,EK.cls];rw[Yz,hp,hu];exact h1) (Jo.refl _) h2
 | call f args=>
  simp only[Cr]at h
  obtain⟨h1,h⟩:=FU _ _ _ h
  obtain⟨v,Z1,h2,h3⟩:=Hc h
  exact K rfl (fun he=>by simp only[EO,h1 he,if_true];exact h2) (Jo.refl _) h3
 | callv f args=>
  simp only[Cr]at h
  obtain⟨p,hp,_,h⟩:=Ae h
  obtain⟨h1,h⟩:=FU _ _ _ h
  unfold Iv at h
  split at h
  ·obtain⟨v,Z1,h2,h3⟩:=Hc h
   exact K rfl (fun he=>by simp only[EO,hp,h1 he,if_true];exact h2) (Jo.refl _) h3
  ·cases h
 | mkmap=>simp only[Cr]at h;exact A rfl (fun he=>by simp only[CX]) h
 | lookup t z m x=>
  simp only[Cr]at h
  obtain⟨p,hp,_,h⟩:=Ae h
  obtain⟨u,hu,_,h⟩:=Ae h
  obtain⟨v,hv,h⟩:=KA h
  exact L rfl (fun he=>by simp only[CU,hp,hu];exact hv) h
 | mapset t m k v=>
  simp only[Cr]at h
  obtain⟨p,hp,_,h⟩:=Ae h
  obtain⟨u,hu,_,h⟩:=Ae h
  obtain⟨x,hx,_,h⟩:=Ae h
  obtain⟨y,Z1,h1,h2⟩:=Hc h
  exact K rfl (fun he=>by simp only[EO,bA,EK.cls,Ef,hp,hu,hx];exact h1) (Jo.refl _) h2
 | alloc0 el=>simp only[Cr]at h;exact A rfl (fun he=>by simp only[CX]) h
 | box0 el x=>
  simp only[Cr]at h
  obtain⟨v,hv,hl,h⟩:=Ae h
  split at h
  ·exact A rfl (fun he=>by simp only[CX,hv]) h
  ·cases h
 | load0 x=>
  simp only[Cr]at h
  obtain⟨v,hv,hl,h⟩:=Ae h
  obtain⟨b,o,rfl,h9⟩:=Dw h
  replace h:=h9
  exact P rfl (fun he=>by simp only[BU,hv]) h
 | store0 x v=>
  simp only[Cr]at h
  obtain⟨p,hp,_,h⟩:=Ae h
  obtain⟨u,hu,_,h⟩:=Ae h
  split at h
  ·exact K rfl (fun he=>by simp only[EO,bA,EK.cls,Ef,hp,hu]) (Jo.refl _) h
  ·cases h
 | faddr0 t x=>
  simp only[Cr]at h
  obtain⟨p,hp,_,h⟩:=Ae h
  obtain⟨v,hv,h⟩:=KA h
  exact L rfl (fun he=>by simp only[CU,hp];exact hv) h
 | idxArr n esz s x i=>
  cases s with
  | none=>
   simp only[Cr]at h
   obtain⟨p,hp,_,h⟩:=Ae h
   obtain⟨u,hu,_,h⟩:=Ae h
   obtain⟨l,rfl,h9⟩:=FR h
   replace h:=h9
   split at h
   ·obtain⟨h1,h⟩:=FG h
    obtain⟨hc,h⟩:=Df h
    obtain⟨v,hv,h⟩:=GL h
    simp only[CK]at hc
    exact P rfl (fun he=>by simp only[BU,hp,hu,Kw];rw[if_pos ⟨h1,by omega⟩];exact hv) h
   ·cases h
  | some s=>
   simp only[Cr]at h
   obtain⟨p,hp,_,h⟩:=Ae h
   obtain⟨u,hu,_,h⟩:=Ae h
   obtain⟨l,rfl,h9⟩:=FR h
   replace h:=h9
   split at h
   ·obtain⟨h1,h⟩:=FG h
    obtain⟨hc,h⟩:=Df h
    obtain⟨hv,h⟩:=GI h
    simp only[CK]at hc
    exact P rfl (fun he=>by simp only[BU,hp,hu,Kw];rw[if_pos ⟨h1,by omega⟩];simp only[Nat.mul_eq]at hv ⊢;rw[if_pos hv]) h
   ·cases h
 | pick c a b=>simp only[Cr]at h;cases h
 | bad=>simp only[Cr]at h;cases h
inductive Out where
 | val (v:V) (r:Rg) (Z:H)
 | mark (m off:Nat)
inductive GC (E:EB) (D:BB) (pw:Bool) (id nx:Nat) (o:EK) (e:Bt) (q:Qs) (r:Rg) (Z:H):Out->Prop where
 | p (v:V) (hc:o.cls = .p) (h:FB e->BU o e=some v):GC E D pw id nx o e q r Z (.val v r Z)
 | l (v:V) (hc:o.cls = .l) (h:FB e->CU E o e Z=some v):GC E D pw id nx o e q r Z (.val v r Z)
 | a (v:V) (b:Gv) (hc:o.cls = .a) (h:FB e->CX o e id=some (v,b)):GC E D pw id nx o e q r Z (.val v r ⟨nx,(id,b)::Z.bl⟩)
 | k (v:V) (Z1 Z2:H) (hc:o.cls = .k) (h:FB e->EO E D o e Z=some (v,Z1)) (hs:Jo Z2 Z1):GC E D pw id nx o e q r Z (.val v r Z2)
 | mv (x:AO) (m off:Nat) (ho:o = .mov x\/o = .nilck x) (hm:Fb q x=some (m,off)):GC E D pw id nx o e q r Z (.mark m off)
 | fa (d:Nat) (x:AO) (m off:Nat) (ho:o = .faddr d x) (hm:Fb q x=some (m,off)):GC E D pw id nx o e q r Z (.mark m (off+d))
 | ld (x:AO) (m off:Nat) (l:List V) (v:V) (ho:o = .load none x) (hm:Fb q x=some (m,off)) (hl:look r m=some l) (h:l[off]? = some v):GC E D pw id nx o e q r Z (.val v r Z)
 | ldn (n:Nat) (x:AO) (m off:Nat) (l:List V) (ho:o = .load (some n) x) (hm:Fb q x=some (m,off)) (hl:look r m=some l) (h:off+n<=l.length):GC E D pw id nx o e q r Z (.val (.agg ((l.drop off).take n)) r Z)
 | st (n:Nat) (x y:AO) (m off:Nat) (l cs:List V) (u:V) (hw:pw=true) (ho:o = .store n x y) (hm:Fb q x=some (m,off)) (hl:look r m=some l) (hn:Fb q y=none) (hu:CV e y=u) (hlu:FB e->u.live=true)
   (hcs:cs=u.cells) (h1:BJ cs=true) (hlen:cs.length=n) (h:off+n<=l.length):GC E D pw id nx o e q r Z (.val .dead (KG r m (F0 l off cs)) Z)
theorem V4 {v:V} (h:v.one=true):v.cells=[v]:=by cases v<;>first | rfl | cases h
theorem Sb {ty:EH} {v:V} {J:List V->AH} {r:V × H} (h:T0 ty v J=some r):BJ v.cells=true/\J v.cells=some r:=by
 unfold T0 at h
 split at h
 ·obtain⟨l,rfl,h2⟩:=FR h
  obtain⟨hc,h2⟩:=Df h2
  exact⟨hc,h2⟩
 ·obtain⟨h1,h2⟩:=Kg h
  rw[V4 h1]
  exact⟨by simp[BJ,h1],h2⟩
theorem bh {ty:EH} {v:V} {J:V->AH} {r:V × H} (h:rt ty v J=some r) (hk:ty.known=true):v.live=true:=by
 cases ty with
 | any=>cases hk
 | int k=>simp only[rt]at h;obtain⟨n,rfl,_⟩:=Np h;rfl
 | bool=>simp only[rt]at h;obtain⟨n,rfl,_⟩:=FY h;rfl
 | str=>simp only[rt]at h;obtain⟨n,rfl,_⟩:=FQ h;rfl
 | ptr=>simp only[rt]at h;obtain⟨b,o,rfl,_⟩:=Dw h;rfl
 | one=>simp only[rt]at h;have:=(Kg h).1;cases v<;>first | rfl | cases this
 | agg ts=>simp only[rt]at h;obtain⟨l,rfl,_⟩:=FR h;rfl
 | tup ts=>simp only[rt]at h;obtain⟨l,rfl,_⟩:=Kf h;rfl
theorem X4 {E:EB} {D:BB} {pw:Bool} {id nx:Nat} {o:EK} {ty:EH} {e:Bt} {q:Qs} {r:Rg} {Z:H} {J:V->Rg->H->AH} {Jm:Nat->Nat->AH} {res:V × H}
  (h:ax E D pw id nx o ty e q r Z J Jm=some res) :
  ∃out,GC E D pw id nx o e q r Z out/\(match out with
   | .val v r' Z'=>J v r' Z'=some res/\((∃n x y,o = .store n x y)\/o.cls ≠ .k\/ty.known=false\/v.live=true)
   | .mark m off=>Jm m off=some res):=by
 have gen:(Cr E D id nx o e Z fun v Z'=>rt ty v fun v'=>J v' r Z')=some res->∃out,GC E D pw id nx o e q r Z out/\(match out with
   | .val v r' Z'=>J v r' Z'=some res/\((∃n x y,o = .store n x y)\/o.cls ≠ .k\/ty.known=false\/v.live=true)
   | .mark m off=>Jm m off=some res):=by
  intro h
  rcases UP h with ⟨hc,v,h1,h2⟩|⟨hc,v,h1,h2⟩|⟨hc,v,b,h1,h2⟩|⟨hc,v,Z1,Z2,h1,h2,h3⟩
  ·exact⟨_,.p v hc h1,G4 _ _ _ _ h2,.inr (.inl (by rw[hc];intro h;cases h))⟩
  ·exact⟨_,.l v hc h1,G4 _ _ _ _ h2,.inr (.inl (by rw[hc];intro h;cases h))⟩
  ·exact⟨_,.a v b hc h1,G4 _ _ _ _ h2,.inr (.inl (by rw[hc];intro h;cases h))⟩
  ·refine⟨_,.k v Z1 Z2 hc h1 h2,G4 _ _ _ _ h3,?_⟩
   cases hk:ty.known with
   | false=>exact .inr (.inr (.inl rfl))
   | true=>exact .inr (.inr (.inr (bh h3 hk)))
 have np:∀{c:Cls},c = .p\/c = .l->c ≠ .k:=by rintro c (rfl | rfl)<;>(intro h;cases h)
 cases o with
 | mov x=>
  simp only[ax]at h
  split at h
  ·rename_i m off hm;exact⟨_,.mv x m off (.inl rfl) hm,h⟩
  ·exact gen h
 | nilck x=>
  simp only[ax]at h
  split at h
  ·rename_i m off hm;exact⟨_,.mv x m off (.inr rfl) hm,h⟩
  ·exact gen h
 | faddr d x=>
  simp only[ax]at h
  split at h
  ·rename_i m off hm;exact⟨_,.fa d x m off rfl hm,h⟩
  ·exact gen h
 | load n x=>
  cases n with
  | none=>
   simp only[ax]at h
   split at h
   ·rename_i m off hm
    split at h
    ·rename_i l hl
     obtain⟨v,hv,h⟩:=GL h
     exact⟨_,.ld x m off l v rfl hm hl hv,G4 _ _ _ _ h,.inr (.inl (by intro h;cases h))⟩
    ·cases h
   ·exact gen h
  | some n=>
   simp only[ax]at h
   split at h
   ·rename_i m off hm
    split at h
    ·rename_i l hl
     obtain⟨hv,h⟩:=GI h
     exact⟨_,.ldn n x m off l rfl hm hl (by simpa using hv),G4 _ _ _ _ h,.inr (.inl (by intro h;cases h))⟩
    ·cases h
   ·exact gen h
 | store n x v=>
  simp only[ax]at h
  split at h
  ·rename_i m off hm
   split at h
   ·rename_i l hl
    split at h
    ·rename_i hn
     obtain⟨u,hu,hlu,h⟩:=Ae h
     obtain⟨h1,h⟩:=Sb h
     obtain⟨hc,h⟩:=Df h
     simp only[AF,AQ,Ai]at hc
     exact⟨_,.st n x v m off l u.cells u rfl rfl hm hl hn hu hlu rfl h1 hc.1 hc.2,h,.inl ⟨n,x,v,rfl⟩⟩
    ·cases h
   ·cases h
  ·have h:(Cr E D id nx (.store n x v) e Z fun v Z'=>J v r Z')=some res:=h
   rcases UP h with ⟨hc,v,h1,h2⟩|⟨hc,v,h1,h2⟩|⟨hc,v,b,h1,h2⟩|⟨hc,v,Z1,Z2,h1,h2,h3⟩
   ·cases hc
   ·cases hc
   ·cases hc
   ·exact⟨_,.k v Z1 Z2 hc h1 h2,h3,.inl ⟨_,_,_,rfl⟩⟩
 | _=>exact gen (by simpa only [ax]using h)
variable {P:Program} {D:BB} {C:Cx} {R:Ren} {Z:H} {w w':World}
abbrev Bs:=Nat->Option BI
structure S5 (C:Cx) (R:Ren) (B:Bs) (r:Rg) (Z:H) (w:World):Prop where
 at_:∀m i,B m=some i->C.O i.blk/\∃l,look r m=some l/\E4 R i (.cells l) w
 inj:∀m m' i i',B m=some i->B m'=some i'->i.blk=i'.blk->m=m'
 apart:∀m i,B m=some i->∀id b j,look Z.bl id=some b->R id=some j->j.blk≠i.blk
structure HD (R:Ren) (e:Bt) (tmps:Array Value):Prop where
 at_:∀(k:Nat) (v:V),look e k=some v->∃x,tmps[k]? = some x/\Ar R v=some x
structure RT (B:Bs) (q:Qs) (tmps:Array Value):Prop where
 at_:∀(k m off:Nat),look q k=some (m,off)->∃i,B m=some i/\tmps[k]? = some (.pointer (some ⟨i.blk,i.shift+off,none⟩))
theorem La {v:V} {x:Value} (h:Ar R v=some x):v.live=true:=by
 cases v<;>first | rfl | (simp[Ar]at h)
theorem HD.env {e:Bt} {tmps:Array Value} (h:HD R e tmps):Bn R e tmps:=⟨fun k v hk => .inr (h.at_ k v hk)⟩
theorem HD.live {e:Bt} {tmps:Array Value} (h:HD R e tmps):FB e:=fun t v ht=>by
 obtain⟨x,_,hx⟩:=h.at_ t v ht
 exact La hx
theorem HD.mono {R':Ren} {e:Bt} {tmps:Array Value} (h:HD R e tmps) (hle:Le R R'):HD R' e tmps:=
 ⟨fun k v hk=>by obtain⟨x,h1,h2⟩:=h.at_ k v hk;exact⟨x,h1,Ch hle v x h2⟩⟩
theorem DL.frame (h:DL C R Z w) (hold:∀blk,blk<w.heap.size->((∃id b j,look Z.bl id=some b/\R id=some j/\j.blk=blk)\/¬C.O blk)->w'.heap[blk]? = w.heap[blk]?)
  (hsz:w.heap.size<=w'.heap.size) (hos:w'.os=w.os) (htape:w'.tape=w.tape) (hout:w'.output=w.output):DL C R Z w':=by
 refine⟨h.fresh,?_,h.inj,?_,h.glob,?_,AN h.size hsz,h.new,hos.trans h.os,htape.trans h.tape,hout.trans h.output⟩
 ·intro id b hb
  obtain⟨i,hi,hO,hok⟩:=h.own id b hb
  exact⟨i,hi,hO,hok.mono (Le.refl _) (hold _ hok.lt (.inl ⟨id,b,i,hb,hi,rfl⟩))⟩
 ·intro id b hb
  obtain⟨i,hi,hn,hok⟩:=h.ext id b hb
  refine⟨i,hi,hn,hok.mono (Le.refl _) (hold _ ?_ (.inr hn))⟩
  rcases Ad i.blk w.heap.size with hl|hl
  ·exact hl
  ·exact absurd (h.new _ (AN h.size hl)) hn
 ·intro blk hn
  rw[<-h.fr blk hn]
  rcases Ad blk w.heap.size with hl|hl
  ·exact hold _ hl (.inr hn)
  ·exact absurd (h.new _ (AN h.size hl)) hn
theorem S5.mono {R':Ren} {B:Bs} {r:Rg} {Z':H} (h:S5 C R B r Z w) (hle:Le R R') (hold:∀m i,B m=some i->w'.heap[i.blk]? = w.heap[i.blk]?)
  (hap:∀m i,B m=some i->∀id b j,look Z'.bl id=some b->R' id=some j->j.blk≠i.blk):S5 C R' B r Z' w' where
 at_ m i hm:=by
  obtain⟨hO,l,hl,hok⟩:=h.at_ m i hm
  exact⟨hO,l,hl,hok.mono hle (hold m i hm)⟩
 inj:=h.inj
 apart:=hap
theorem S5.lt {B:Bs} {r:Rg} (h:S5 C R B r Z w) {m:Nat} {i:BI} (hm:B m=some i):i.blk<w.heap.size:=by
 obtain⟨_,l,_,hok⟩:=h.at_ m i hm
 exact hok.lt
theorem S5.one (h:DL C R Z w) {B:Bs} {r:Rg} (hp:S5 C R B r Z w) {m:Nat} {i:BI} (hm:B m=some i) {l:List V} (hl:look r m=some l) :
  DL { C with O:=fun blk=>blk=i.blk\/w.heap.size<=blk,w0:=w } (Hl R Z.next i) ⟨Z.next+1,[(Z.next,.cells l)]⟩ w:=by
 have hle:Le R (Hl R Z.next i):=(EM R Z.next i).le h.fresh
 obtain⟨hO,l',hl',hok⟩:=hp.at_ m i hm
 rw[hl]at hl';cases hl'
 have hsub:∀blk,(blk=i.blk\/w.heap.size<=blk)->C.O blk:=by
  rintro blk (rfl|hg)
  ·exact hO
  ·exact h.new _ (AN h.size hg)
 have hlook:∀id b,look [(Z.next,Gv.cells l)] id=some b->id=Z.next/\b = .cells l:=by
  intro id b hb
  simp only[look,AQ]at hb
  split at hb
  ·rename_i he;cases hb;exact⟨he.symm,rfl⟩
  ·cases hb
 refine⟨?_,?_,?_,?_,?_,fun _ _=>rfl,AG _,fun _ hb => .inr hb,rfl,rfl,rfl⟩
 ·intro id hid
  have hid':Z.next+1<=id:=hid
  rw[Bb (by omega)];exact h.fresh id (by omega)
 ·intro id b hb
  obtain⟨rfl,rfl⟩:=hlook id b hb
  exact⟨i,Bv _ _ _,.inl rfl,hok.mono hle rfl⟩
 ·intro id id' b b' j j' hb hb' _ _ _
  rw[(hlook id b hb).1,(hlook id' b' hb').1]
 ·intro id b hb
  obtain⟨j,hj,hn,hk⟩:=h.ext id b hb
  exact⟨j,hle _ _ hj,fun ho=>hn (hsub _ ho),hk.mono hle rfl⟩
 ·intro g hg
  obtain⟨j,hj,hb⟩:=h.glob g hg
  exact⟨j,hle _ _ hj,hb⟩
theorem Bn.cons {e:Bt} {tmps:Array Value} (h:Bn R e tmps) {t:Nat} {v:V} {x:Value} (ht:tmps[t]? = some x) (hv:Ar R v=some x):Bn R ((t,v)::e) tmps:=by
 refine⟨fun k u hk=>?_⟩
 simp only[look,AQ]at hk
 split at hk
 ·rename_i he;subst he;cases hk;exact .inr ⟨x,ht,hv⟩
 ·exact h.at_ k u hk
theorem HT {α:Type} {l:List (Nat × α)} {m:Nat} {a c:α} (h:look l m=some a) (k:Nat):look (KG l m c) k=if m=k then some c else look l k:=by
 rw[HJ]
 by_cases he:m=k
 ·subst he;rw[if_pos rfl,if_pos rfl,h];rfl
 ·rw[if_neg he,if_neg he]
structure RV (C:Cx) (R:Ren) (B:Bs) (r:Rg) (Z:H) (w:World):Prop where
 rel:DL C R Z w
 priv:S5 C R B r Z w
theorem LM (hD:∀f,B5 P C.E C.G f (D f)) {B:Bs} {r:Rg} (hm:RV C R B r Z w) {a:Act} {e:Bt} {q:Qs} (he:HD R e a.tmps) (hq:RT B q a.tmps)
    (o:Oper) {pw:Bool} {id nx:Nat} (hid:R id=none) (hlt:id<nx) (hnx:Z.next<=nx) {out:Out} (h:GC C.E D pw id nx (Ac P C.G o.op) e q r Z out) (K:Act->World->Prop) (Q:Exit->Act->World->Prop)
    (hV:∀v r' Z',out = .val v r' Z'->∀R' w' x,Le R R'->(∀k,k<Z.next->k≠id->R' k=R k)->Z.next<=Z'.next->RV C R' B r' Z' w'->((v = .dead/\(Ac P C.G o.op).cls = .k)\/Ar R' v=some x)->K (a.put o.dst x) w')
    (hM:∀m off,out = .mark m off->∀i,B m=some i->K (a.put o.dst (.pointer (some ⟨i.blk,i.shift+off,none⟩))) w):o.wp P a w K Q:=by
  obtain⟨hrel,hpriv⟩:=hm
  have hg:=hrel.globOk
  have hmark:∀x m off,Fb q x=some (m,off)->∃t i,x = .tmp t/\B m=some i/\a.tmps[t]? = some (.pointer (some ⟨i.blk,i.shift+off,none⟩)):=by
    intro x m off hx
    cases x with
    | con v=>cases hx
    | tmp t=>
      obtain⟨i,h1,h2⟩:=hq.at_ t m off hx
      exact⟨t,i,rfl,h1,h2⟩
  have hle2:∀i,Le R (Hl R Z.next i):=fun i=>(EM R Z.next i).le hrel.fresh
  have hg2:∀i,Dp C.G (Hl R Z.next i):=fun i g hgg=>by
    obtain⟨j,hj,hb⟩:=hg g hgg
    exact⟨j,hle2 i _ _ hj,hb⟩
  have hcp:∀i off,Ar (Hl R Z.next i) (.ptr Z.next off)=some (.pointer (some ⟨i.blk,i.shift+off,none⟩)):=fun i off=>C4 (Bv _ _ _)
  cases h with
  | p v hc h=>
    replace h:=h he.live
    obtain⟨x,hx,hrun⟩:=Ls (a:=a) (P:=P) he.env hg o h w
    unfold Oper.wp;rw[hrun]
    exact hV v r Z rfl R w x (Le.refl _) (fun _ _ _=>rfl) (AG _) ⟨hrel,hpriv⟩ (.inr hx)
  | l v hc h=>
    replace h:=h he.live
    obtain⟨x,hx,hrun⟩:=Lt (a:=a) (P:=P) hrel he.env o h
    unfold Oper.wp;rw[hrun]
    exact hV v r Z rfl R w x (Le.refl _) (fun _ _ _=>rfl) (AG _) ⟨hrel,hpriv⟩ (.inr hx)
  | a v b hc h=>
    replace h:=h he.live
    obtain⟨x,w',i,hrun,hn,hi,hx,hok⟩:=NO (a:=a) (P:=P) he.env hg o h hid w
    unfold Oper.wp;rw[hrun]
    have hle:Le R (Hl R id i):=fun k j hk=>by
      by_cases hke:k=id
      · subst hke;rw[hid]at hk;cases hk
      · rw[Bb hke];exact hk
    have hrel1:DL C R ⟨nx,Z.bl⟩ w:=hrel.congr (fun k hk=>hrel.fresh k (AN hnx hk)) (fun _ _ hb=>hb)
    have hrel2:DL C (Hl R id i) ⟨nx,(id,b)::Z.bl⟩ w':=by
      refine hrel1.allocAt hid hlt hn b i hi hok rfl (fun k=>?_)
      simp only[look,AQ]
      by_cases hk:k=id
      · subst hk;simp
      · rw[if_neg (Ne.symm hk),if_neg hk]
    refine hV v r _ rfl (Hl R id i) w' x hle (fun k _ hk=>Bb hk) hnx ⟨hrel2,hpriv.mono hle (fun m j hj=>hn.old _ (hpriv.lt hj)) (fun m j hj k c j' hk hj'=>?_)⟩ (.inr hx)
    simp only[look,AQ]at hk
    split at hk
    · rename_i he';subst he'
      rw[Bv]at hj';cases hj'
      have:=hpriv.lt hj
      omega
    · rename_i he'
      rw[Bb (Ne.symm he')]at hj'
      exact hpriv.apart m j hj k c j' hk hj'
  | k v Z1 Z2 hc h hs=>
    replace h:=h he.live
    have hsh:DL (C.sub R Z w) R Z w:=hrel.shrink (Zs:=Z) rfl (fun _ _ hb=>hb)
    refine NL (C:=C.sub R Z w) hD rfl rfl hsh he.env o h K Q (fun R' w' x hx hn hrel' hv=>?_)
    have hle:Le R R':=hx.le hrel.fresh
    have hno:∀m i,B m=some i->¬(C.sub R Z w).O i.blk:=by
      rintro m i hm (hg|⟨k,b,j,hb,hj,hbl⟩)
      · have:=hpriv.lt hm;omega
      · exact hpriv.apart m i hm k b j hb hj hbl
    have hrel2:DL C R' Z1 w':=hrel.regrow (Zs:=Z) (fun _ _ hb=>hb) hrel' hx rfl (fun k b hk => .inl hk)
    have hrel3:DL C R' Z2 w':=hrel2.congr (fun k hk=>hrel2.fresh k (by rw[<-hs.next];exact hk)) hs.sub
    have hv:(v = .dead/\(Ac P C.G o.op).cls = .k)\/Ar R' v=some x:=hv.imp (fun h=>⟨h,hc⟩) (fun h=>h)
    refine hV v r Z2 rfl R' w' x hle (fun k hk _=>hx k hk) (by rw[hs.next];exact hn) ⟨hrel3,hpriv.mono hle (fun m i hm=>hrel'.fr _ (hno m i hm)) (fun m i hm k b j hk hj hbl=>?_)⟩ hv
    obtain⟨j',hj',hO,_⟩:=hrel'.own k b (hs.sub k b hk)
    rw[hj]at hj';cases hj'
    exact hno m i hm (hbl ▸ hO)
  | mv x m off ho hmx=>
    obtain⟨t,i,rfl,hB,ht⟩:=hmark x m off hmx
    have he2:Bn (Hl R Z.next i) [(t,.ptr Z.next off)] a.tmps:=Bn.cons ⟨fun k v hk=>by simp[look]at hk⟩ ht (hcp i off)
    have hap:BU (Ac P C.G o.op) [(t,.ptr Z.next off)]=some (.ptr Z.next off):=by
      have hop:CV [(t,V.ptr Z.next off)] (.tmp t) = .ptr Z.next off:=by simp[CV,GQ,look]
      rcases ho with ho|ho<;>rw[ho]<;>simp only[BU,hop,V.live,if_true]
    obtain⟨x,hx,hrun⟩:=Ls (a:=a) (P:=P) he2 (hg2 i) o hap w
    rw[hcp i off]at hx;cases hx
    unfold Oper.wp;rw[hrun]
    exact hM m off rfl i hB
  | fa d x m off ho hmx=>
    obtain⟨t,i,rfl,hB,ht⟩:=hmark x m off hmx
    have he2:Bn (Hl R Z.next i) [(t,.ptr Z.next off)] a.tmps:=Bn.cons ⟨fun k v hk=>by simp[look]at hk⟩ ht (hcp i off)
    have hap:BU (Ac P C.G o.op) [(t,.ptr Z.next off)]=some (.ptr Z.next (off+d)):=by
      have hop:CV [(t,V.ptr Z.next off)] (.tmp t) = .ptr Z.next off:=by simp[CV,GQ,look]
      rw[ho];simp only[BU,hop]
    obtain⟨x,hx,hrun⟩:=Ls (a:=a) (P:=P) he2 (hg2 i) o hap w
    rw[hcp i (off+d)]at hx;cases hx
    unfold Oper.wp;rw[hrun]
    exact hM m (off+d) rfl i hB
  | ld x m off l v ho hmx hl h=>
    obtain⟨t,i,rfl,hB,ht⟩:=hmark x m off hmx
    have hr2:=hpriv.one hrel hB hl
    have he2:Bn (Hl R Z.next i) [(t,.ptr Z.next off)] a.tmps:=Bn.cons ⟨fun k v hk=>by simp[look]at hk⟩ ht (hcp i off)
    have hap:CU C.E (Ac P C.G o.op) [(t,.ptr Z.next off)] ⟨Z.next+1,[(Z.next,.cells l)]⟩=some v:=by
      have hop:CV [(t,V.ptr Z.next off)] (.tmp t) = .ptr Z.next off:=by simp[CV,GQ,look]
      rw[ho];simp[CU,hop,rd,look,h]
    obtain⟨x,hx,hrun⟩:=Lt (a:=a) (P:=P) hr2 he2 o hap
    unfold Oper.wp;rw[hrun]
    obtain⟨_,l',hl',hok⟩:=hpriv.at_ m i hB
    rw[hl]at hl';cases hl'
    obtain⟨arr,el,lo,hi,_,hh,_⟩:=hok
    obtain⟨y,hy,_⟩:=hh off v h
    have hyx:=Ch (hle2 i) v y hy
    rw[hx]at hyx;cases hyx
    exact hV v r Z rfl R w x (Le.refl _) (fun _ _ _=>rfl) (AG _) ⟨hrel,hpriv⟩ (.inr hy)
  | ldn n x m off l ho hmx hl h=>
    obtain⟨t,i,rfl,hB,ht⟩:=hmark x m off hmx
    have hr2:=hpriv.one hrel hB hl
    have he2:Bn (Hl R Z.next i) [(t,.ptr Z.next off)] a.tmps:=Bn.cons ⟨fun k v hk=>by simp[look]at hk⟩ ht (hcp i off)
    have hap:CU C.E (Ac P C.G o.op) [(t,.ptr Z.next off)] ⟨Z.next+1,[(Z.next,.cells l)]⟩=some (.agg ((l.drop off).take n)):=by
      have hop:CV [(t,V.ptr Z.next off)] (.tmp t) = .ptr Z.next off:=by simp[CV,GQ,look]
      rw[ho];simp[CU,hop,PM,rd,look,h]
    obtain⟨x,hx,hrun⟩:=Lt (a:=a) (P:=P) hr2 he2 o hap
    unfold Oper.wp;rw[hrun]
    obtain⟨_,l',hl',hok⟩:=hpriv.at_ m i hB
    rw[hl]at hl';cases hl'
    obtain⟨arr,el,lo,hi,_,hh,_⟩:=hok
    obtain⟨xs,hxs,_⟩:=hh.cells h
    have hy:Ar R (.agg ((l.drop off).take n))=some (.agg xs.toArray):=DX hxs
    have hyx:=Ch (hle2 i) _ _ hy
    rw[hx]at hyx;cases hyx
    exact hV _ r Z rfl R w _ (Le.refl _) (fun _ _ _=>rfl) (AG _) ⟨hrel,hpriv⟩ (.inr hy)
  | st n x y m off l cs u hw ho hmx hl hn hu hlu hcs h1 hlen h=>
    replace hlu:=hlu he.live
    obtain⟨t,i,rfl,hB,ht⟩:=hmark x m off hmx
    have hr2:=hpriv.one hrel hB hl
    have he2:Bn (Hl R Z.next i) ((t,.ptr Z.next off)::e) a.tmps:=Bn.cons (he.env.mono (hle2 i)) ht (hcp i off)
    have hop:CV ((t,V.ptr Z.next off)::e) (.tmp t) = .ptr Z.next off:=by simp[CV,GQ,look]
    have hoy:CV ((t,V.ptr Z.next off)::e) y=u:=by
      rw[<-hu]
      cases y with
      | con v=>rfl
      | tmp s=>
        have hne:¬t=s:=fun hts=>by subst hts;simp only[Fb]at hn hmx;rw[hn]at hmx;cases hmx
        simp only[CV,GQ,look,AQ,hne,if_false]
    have hap:EO C.E D (Ac P C.G o.op) ((t,.ptr Z.next off)::e) ⟨Z.next+1,[(Z.next,.cells l)]⟩=some (.dead,(⟨Z.next+1,[(Z.next,.cells l)]⟩:H).set Z.next (.cells (F0 l off cs))):=by
      rw[ho]
      simp only[EO,bA,EK.cls,Ef,hop,hoy]
      simp only[look,AQ,if_true]
      rw[if_pos]
      · rw[hcs]
      · simp only[AF,AQ,Ai]
        exact⟨⟨by rw[<-hcs];exact hlen,h⟩,by rw[<-hcs];exact h1⟩
    refine NL (C:={ C with O:=fun blk=>blk=i.blk\/w.heap.size<=blk,w0:=w }) hD rfl rfl hr2 he2 o hap K Q (fun R' w' x hx hn' hrel' hv=>?_)
    have hR'n:R' Z.next=some i:=by rw[hx Z.next (IJ _)];exact Bv _ _ _
    obtain⟨j,hj,_,hok⟩:=hrel'.own Z.next (.cells (F0 l off cs)) (by simp[H.set,KG,look])
    rw[hR'n]at hj;cases hj
    have hRR':Le R R':=(hle2 i).trans (hx.le (fun k hk=>by
      have hk':Z.next+1<=k:=hk
      rw[Bb (by omega)];exact hrel.fresh k (by omega)))
    obtain⟨hOi,l',hl',hokl⟩:=hpriv.at_ m i hB
    rw[hl]at hl';cases hl'
    have hcell:∀u':V,(∃k:Nat,(F0 l off cs)[k]? = some u')->∃y,Ar R u'=some y:=by
      rintro u' ⟨k,hk⟩
      rw[LN]at hk
      split at hk
      · split at hk
        · have huc:∃z,Ar R u=some z:=by
            obtain⟨oy,rfl⟩:∃oy,y=Ak C.G oy:=by
              obtain⟨dst,op,ty,pos,after,guard⟩:=o
              simp only at ho
              cases op<;>simp only[Ac]at ho<;>(try (first | (cases ho;done) | ((repeat' split at ho)<;>(cases ho;done))))
              · split at ho
                · cases ho
                · simp only[EK.store.injEq]at ho;exact⟨_,ho.2.2.symm⟩
                · cases ho
              · rename_i fn _ _;cases fn<;>cases ho
              · rename_i r;cases r<;>cases ho
              · rename_i ok;cases ok
                · cases ho
                · simp only at ho;split at ho<;>cases ho
              · rename_i c
                obtain⟨callee,cargs,argTypes⟩:=c
                simp only at ho
                split at ho
                · unfold KM at ho;(repeat' split at ho)<;>cases ho
                · cases ho
                · cases ho
                · cases ho
            exact⟨_,ev (a:=a) he.env hg hu hlu⟩
          obtain⟨z,hz⟩:=huc
          have hcc:=HZ hz
          rw[<-hcs]at hcc
          obtain⟨y',hy',_⟩:=EE hcc hk
          exact⟨y',hy'⟩
        · cases hk
      · obtain⟨arr,el,lo,hi,_,hh,_⟩:=hokl
        obtain⟨y',hy',_⟩:=hh k u' hk
        exact⟨y',hy'⟩
    have hokR:E4 R i (.cells (F0 l off cs)) w':=by
      obtain⟨arr,el,lo,hi,h1',h2',h3',h4',h5'⟩:=hok
      refine⟨arr,el,lo,hi,h1',fun k v hk=>?_,h3',h4',h5'⟩
      obtain⟨y',hy',hone,harr⟩:=h2' k v hk
      obtain⟨y2,hy2⟩:=hcell v ⟨k,hk⟩
      have:=Ch hRR' v y2 hy2
      rw[hy']at this;cases this
      exact⟨_,hy2,hone,harr⟩
    have hfr:∀blk,blk<w.heap.size->blk≠i.blk->w'.heap[blk]? = w.heap[blk]? := fun blk hb hne=>hrel'.fr blk (by rintro(h | h);exact hne h;omega)
    have hrelw:DL C R Z w':=hrel.frame (fun blk hb hor=>by
      refine hfr blk hb ?_
      rcases hor with ⟨k,b,j,hk,hj,rfl⟩|hno
      · exact hpriv.apart m i hB k b j hk hj
      · intro he';exact hno (he' ▸ hOi)) hrel'.size hrel'.os hrel'.tape hrel'.output
    refine hV .dead _ Z rfl R w' x (Le.refl _) (fun _ _ _=>rfl) (AG _) ⟨hrelw,⟨fun m' i' hm'=>?_,hpriv.inj,hpriv.apart⟩⟩ (.inl ⟨rfl,by rw[ho];rfl⟩)
    obtain⟨hO',l2,hl2,hok2⟩:=hpriv.at_ m' i' hm'
    refine⟨hO',?_⟩
    by_cases hmm:m=m'
    · subst hmm
      rw[hB]at hm';cases hm'
      exact⟨_,by rw[HT hl,if_pos rfl],hokR⟩
    · refine⟨l2,by rw[HT hl,if_neg hmm];exact hl2,hok2.mono (Le.refl _) (hfr _ hok2.lt (fun hbl=>hmm (hpriv.inj m m' i i' hB hm' hbl.symm)))⟩
end Go.Og
namespace Go.Og
variable {P:Program} {E:EB} {D:BB} {C:Cx} {R:Ren} {Z:H} {w w':World}
inductive Om (E:EB) (D:BB) (dr:Bool) (n0:Nat):Nat->List (BR × List Nat)->St->St->Prop where
 | nil (i:Nat) (s:St):Om E D dr n0 i [] s s
 | skip (i:Nat) (o:BR) (ks:List Nat) (l:List (BR × List Nat)) (s s':St) (hw:BZ (Dv dr ks s.e) o.guard=some false)
   (h:Om E D dr n0 (i+1) l ⟨Cb s.e o.dst Dn,Bp o.dst s.q,s.r,s.Z⟩ s'):Om E D dr n0 i ((o,ks)::l) s s'
 | val (i:Nat) (o:BR) (ks:List Nat) (l:List (BR × List Nat)) (s s':St) (pw:Bool) (v:V) (r':Rg) (Z':H) (hw:BZ (Dv dr ks s.e) o.guard=some true)
   (hs:GC E D pw s.Z.next (s.Z.next+1) o.op (Dv dr ks s.e) (KF dr ks s.q) s.r s.Z (.val v r' Z'))
   (hl:o.dst=none\/v.live=true\/o.op.cls ≠ .k) (hna:dr=true->o.op.cls ≠ .a)
   (h:Om E D dr n0 (i+1) l ⟨Cb s.e o.dst v,Bp o.dst s.q,r',Z'⟩ s'):Om E D dr n0 i ((o,ks)::l) s s'
 | mark (i:Nat) (o:BR) (ks:List Nat) (l:List (BR × List Nat)) (s s':St) (pw:Bool) (id nx m off:Nat) (hw:BZ (Dv dr ks s.e) o.guard=some true)
   (hs:GC E D pw id nx o.op (Dv dr ks s.e) (KF dr ks s.q) s.r s.Z (.mark m off))
   (h:Om E D dr n0 (i+1) l ⟨Bp o.dst s.e,PN (Bp o.dst s.q) o.dst (m,off),s.r,s.Z⟩ s'):Om E D dr n0 i ((o,ks)::l) s s'
 | pal (i:Nat) (o:BR) (ks:List Nat) (l:List (BR × List Nat)) (s s':St) (d:Nat) (el:TypeId) (z:List V) (hd:o.dst=some d) (ho:o.op = .alloc el z) (hw:BZ (Dv dr ks s.e) o.guard=some true)
   (h:Om E D dr n0 (i+1) l ⟨BY [d] s.e,(d,(d,0))::JO d (BY [d] s.q),(d,z)::BY [d] s.r,s.Z⟩ s'):Om E D dr n0 i ((o,ks)::l) s s'
 | shrink (i:Nat) (l:List (BR × List Nat)) (s s':St) (e:Bt) (q:Qs) (he:∀t v,look e t=some v->look s.e t=some v) (hq:∀t v,look q t=some v->look s.q t=some v)
   (h:Om E D dr n0 i l ⟨e,q,s.r,s.Z⟩ s'):Om E D dr n0 i l s s'
theorem Om.append {dr:Bool} {n0:Nat}:∀{i:Nat} {l m:List (BR × List Nat)} {s s1 s2:St},Om E D dr n0 i l s s1->Om E D dr n0 (i+l.length) m s1 s2->Om E D dr n0 i (l++m) s s2:=by
 intro i l m s s1 s2 h
 induction h with
 | nil i s=>intro h2;simpa using h2
 | skip i o ks l s s' hw _ ih=>intro h2;exact .skip i o ks _ s s2 hw (ih (by rwa [AM,show i+(l.length+1)=i+1+l.length by omega]at h2))
 | val i o ks l s s' pw v r' Z' hw hs hl hna _ ih=>intro h2;exact .val i o ks _ s s2 pw v r' Z' hw hs hl hna (ih (by rwa [AM,show i+(l.length+1)=i+1+l.length by omega]at h2))
 | mark i o ks l s s' pw id nx m off hw hs _ ih=>intro h2;exact .mark i o ks _ s s2 pw id nx m off hw hs (ih (by rwa [AM,show i+(l.length+1)=i+1+l.length by omega]at h2))
 | pal i o ks l s s' d el z hd ho hw _ ih=>intro h2;exact .pal i o ks _ s s2 d el z hd ho hw (ih (by rwa [AM,show i+(l.length+1)=i+1+l.length by omega]at h2))
 | shrink i l s s' e q he hq _ ih=>intro h2;exact .shrink i _ s s2 e q he hq (ih h2)
theorem B9 {α:Type} (ds:List Nat) (l:List (Nat × α)) (t:Nat):look (BY ds l) t=if Bd ds t=true then none else look l t:=by
 induction l with
 | nil=>simp[BY,look]
 | cons p l ih=>
  obtain⟨k,v⟩:=p
  simp only[BY]
  split
  ·rename_i hk
   rw[ih]
   by_cases ht:Bd ds t=true
   ·rw[if_pos ht,if_pos ht]
   ·rw[if_neg ht,if_neg ht]
    have hkt:¬k=t:=fun h=>ht (h ▸ hk)
    simp only[look,AQ,hkt,if_false]
  ·rename_i hk
   simp only[look,AQ]
   by_cases hkt:k=t
   ·subst hkt;rw[if_pos rfl,if_neg (by rw[hk];simp),if_pos rfl]
   ·rw[if_neg hkt,if_neg hkt,ih]
theorem Ge (d t:Nat):Bd [d] t=true↔d=t:=by simp[Bd]
theorem C0 (d:Nat) (l:List Nat) (t:Nat):Bd (d::l) t=true↔d=t\/Bd l t=true:=by simp[Bd]
theorem Fa (l m:List Nat) (t:Nat):Bd (l++m) t=true↔Bd l t=true\/Bd m t=true:=by
 induction l with
 | nil=>simp[Bd]
 | cons a l ih=>simp only[L8,Bd,Bg,ih,or_assoc]
theorem Bu {α:Type} (d:Option Nat) (l:List (Nat × α)) (t:Nat):look (Bp d l) t=if d=some t then none else look l t:=by
 cases d with
 | none=>simp[Bp]
 | some d=>
  simp only[Bp,B9,AK.injEq]
  by_cases h:d=t
  ·rw[if_pos ((Ge d t).2 h),if_pos h]
  ·rw[if_neg (fun hh=>h ((Ge d t).1 hh)),if_neg h]
theorem GO (e:Bt) (d:Option Nat) (v:V) (t:Nat):look (Cb e d v) t=if d=some t then some v else look e t:=by
 cases d with
 | none=>simp[Cb]
 | some d=>
  simp only[Cb,look,AQ,AK.injEq]
theorem J8 (q:Qs) (d:Option Nat) (p:Nat × Nat) (t:Nat):look (PN q d p) t=if d=some t then some p else look q t:=by
 cases d with
 | none=>simp[PN]
 | some d=>
  simp only[PN,look,AQ,AK.injEq]
theorem Jg {ks:List Nat} {e:Bt} {t:Nat} (h:Bd ks t=true):look (restr ks e) t=look e t:=by
 induction ks with
 | nil=>simp[Bd]at h
 | cons a ks ih=>
  simp only[Bd,Bg,AQ]at h
  simp only[restr]
  cases ha:look e a with
  | none=>
   simp only
   by_cases hat:a=t
   ·subst hat
    rw[ha]
    cases hl:look (restr ks e) a with
    | none=>rfl
    | some v=>rw[(GN ks e a v hl).1]at ha;cases ha
   ·exact ih (h.resolve_left hat)
  | some u=>
   simp only[look,AQ]
   by_cases hat:a=t
   ·subst hat;rw[if_pos rfl,ha]
   ·rw[if_neg hat];exact ih (h.resolve_left hat)
theorem Gf (ls:List Nat) (q:Qs) (t:Nat) (p:Nat × Nat) (h:look (Ki ls q) t=some p):look q t=some p/\Bd ls t=true:=by
 induction ls with
 | nil=>simp[Ki,look]at h
 | cons a ls ih=>
  simp only[Ki]at h
  simp only[Bd,Bg,AQ]
  cases ha:look q a with
  | none=>rw[ha]at h;exact(ih h).imp id .inr
  | some u=>
   rw[ha]at h
   simp only[look,AQ]at h
   by_cases hat:a=t
   ·subst hat
    rw[if_pos rfl]at h
    cases h
    exact⟨ha,.inl rfl⟩
   ·rw[if_neg hat]at h
    exact(ih h).imp id .inr
theorem J6 {dr:Bool} {ks:List Nat} {e:Bt} {t:Nat} (h:Bd ks t=true):look (Dv dr ks e) t=look e t:=by
 cases dr with
 | true=>exact Jg h
 | false=>rfl
theorem Rq {dr:Bool} {ks:List Nat} {e:Bt} {t:Nat} {v:V} (h:look (Dv dr ks e) t=some v):look e t=some v:=by
 cases dr with
 | true=>exact(GN _ _ _ _ h).1
 | false=>exact h
theorem Im {m:Nat}:∀{q:Qs} {t:Nat} {p:Nat × Nat},Bd (IF m q) t=false->look q t=some p->p.1≠m
 | [],t,p,_,h=>by simp[look]at h
 | (k,b)::q,t,p,hm,h=>by
  simp only[IF]at hm
  simp only[look,AQ]at h
  split at hm
  ·rename_i hb
   have hkt:¬k=t:=by
    intro he;subst he
    simp[Bd]at hm
   rw[if_neg hkt]at h
   have hm2:Bd (IF m q) t=false:=by
    cases h2:Bd (IF m q) t with
    | false=>rfl
    | true=>rw[(C0 k _ t).2 (.inr h2)]at hm;cases hm
   exact Im hm2 h
  ·rename_i hb
   by_cases hk:k=t
   ·rw[if_pos hk]at h;cases h
    intro he;rw[<-AQ,hb]at he;cases he
   ·rw[if_neg hk]at h;exact Im hm h
theorem Jf (m:Nat) (q:Qs) (t:Nat) (p:Nat × Nat) (h:look (JO m q) t=some p):p.1≠m/\look q t=some p:=by
 unfold JO at h
 rw[B9]at h
 split at h
 ·cases h
 ·rename_i hm
  have hm2:Bd (IF m q) t=false:=by simpa using hm
  exact⟨Im hm2 h,h⟩
theorem ME {dr:Bool} {ks:List Nat} {e:Bt} {t:Nat} {b c:Bool} (hm:Bd ks t=true) (h:look e t=some (.bool c)):BZ (Dv dr ks e) (some (t,b))=some (c==b):=by
 simp only[BZ,GQ,J6 hm,h]
theorem LJ {dr:Bool} {ks:List Nat} {e:Bt} {t:Nat} {b:Bool} (hm:Bd ks t=true) (h:look e t=some Dn):BZ (Dv dr ks e) (some (t,b))=some false:=by
 simp only[BZ,GQ,J6 hm,h,Dn]
theorem Gk:∀(l:XL) (g:Option (Nat × Bool)),(l.flat g).length=l.size/\l.lks.length=l.size
 | .nil,g=>⟨rfl,rfl⟩
 | .op _ _ _ _ r,g=>by obtain⟨h1,h2⟩:=Gk r g;simp[XL.flat,XL.lks,XL.size,h1,h2]
 | .pal _ _ _ _ r,g=>by obtain⟨h1,h2⟩:=Gk r g;simp[XL.flat,XL.lks,XL.size,h1,h2]
 | .grp t b l _ _ _ _ _ r,g=>by
  obtain⟨h1,h2⟩:=Gk r g
  obtain⟨h3,h4⟩:=Gk l (some (t,b))
  simp[XL.flat,XL.lks,XL.size,h1,h2,h3,h4]
theorem UM (l:XL) (g:Option (Nat × Bool)) (x:BR) (k:List Nat) (m:List BR) (n:List (List Nat)) :
  (l.flat g++x::m).zip (l.lks++k::n)=(l.flat g).zip l.lks++(x,k)::m.zip n:=by
 obtain⟨h1,h2⟩:=Gk l g
 rw[List.zip_append (by omega)]
 rfl
theorem Qv (l:XL) (g:Option (Nat × Bool)):((l.flat g).zip l.lks).length=l.size:=by
 obtain⟨h1,h2⟩:=Gk l g
 simp[h1,h2]
theorem JT {dr:Bool} {n0:Nat}:∀(l:XL) (ds:List Nat) (t:Nat) (b:Bool) (i:Nat) (s:St),l.okG (some ds) (some t)=true ->
    (look s.e t=some Dn\/∃c,look s.e t=some (.bool c)/\(c==b)=false)->Bd l.dsts t=false->(∀u,Bd ds u=true->look s.e u=some Dn) ->
    ∃s',Om E D dr n0 i ((l.flat (some (t,b))).zip l.lks) s s'/\s'.r=s.r/\s'.Z=s.Z/\(∀u,Bd l.dsts u=false->look s'.e u=look s.e u/\look s'.q u=look s.q u) /\
      (∀u,Bd l.dsts u=true->look s'.e u=some Dn)
  | .nil,ds,t,b,i,s,hok,ht,hd,hds=>⟨s,.nil i s,rfl,rfl,fun _ _=>⟨rfl,rfl⟩,fun u hu=>by simp[XL.dsts,Bd]at hu⟩
  | .pal _ _ _ _ r,ds,t,b,i,s,hok,ht,hd,hds=>by simp[XL.okG]at hok
  | .op d ty ks o r,ds,t,b,i,s,hok,ht,hd,hds=>by
    simp only[XL.okG,AF]at hok
    obtain⟨⟨_,hks⟩,hr⟩:=hok
    have hks:Bd ks t=true:=hks
    have hw:BZ (Dv dr ks s.e) (some (t,b))=some false:=by
      rcases ht with ht|⟨c,ht,hc⟩
      · exact LJ hks ht
      · rw[ME hks ht,hc]
    cases d with
    | none=>
      have hr:r.okG (some ds) (some t)=true:=hr
      obtain⟨s',h1,h2,h3,h4,h5⟩:=JT (dr:=dr) (n0:=n0) r ds t b (i+1) s hr ht hd hds
      exact⟨s',.skip i ⟨none,o,some (t,b)⟩ ks _ s s' hw h1,h2,h3,h4,h5⟩
    | some d=>
      have hr:r.okG (some (d::ds)) (some t)=true:=hr
      simp only[XL.dsts]at hd
      have hdt:d≠t/\Bd r.dsts t=false:=by
        simp only[Bd,BN]at hd
        exact⟨(by intro h;rw[<-AQ,hd.1]at h;cases h),hd.2⟩
      have hput:∀u,look (Cb s.e (some d) Dn) u=if d=u then some Dn else look s.e u:=fun u=>by rw[GO];simp
      obtain⟨s',h1,h2,h3,h4,h5⟩:=JT (dr:=dr) (n0:=n0) r (d::ds) t b (i+1) ⟨Cb s.e (some d) Dn,Bp (some d) s.q,s.r,s.Z⟩ hr
        (by simp only[hput,if_neg hdt.1];exact ht) hdt.2 (fun u hu=>by
          simp only[hput]
          rcases(C0 d ds u).1 hu with h|h
          · rw[if_pos h]
          · by_cases hdu:d=u
            · rw[if_pos hdu]
            · rw[if_neg hdu];exact hds u h)
      refine⟨s',.skip i ⟨some d,o,some (t,b)⟩ ks _ s s' hw h1,h2,h3,fun u hu=>?_,fun u hu=>?_⟩
      · simp only[XL.dsts,Bd,BN]at hu
        have hdu:¬d=u:=by intro h;rw[<-AQ,hu.1]at h;cases h
        obtain⟨h6,h7⟩:=h4 u hu.2
        refine⟨by rw[h6];simp only[hput,if_neg hdu],by rw[h7,Bu];simp[hdu]⟩
      · simp only[XL.dsts]at hu
        cases hru:Bd r.dsts u with
        | true=>exact h5 u hru
        | false=>
          rcases(C0 d r.dsts u).1 hu with h|h
          · rw[(h4 u hru).1];simp only[hput,if_pos h]
          · rw[hru]at h;cases h
  | .grp t2 b2 l d ks c x y r,ds,t,b,i,s,hok,ht,hd,hds=>by
    simp only[XL.okG,AF,Cq]at hok
    obtain⟨⟨⟨⟨⟨⟨hks,_⟩,hlt⟩,_⟩,hdt2⟩,hl⟩,hr⟩:=hok
    have hks:Bd ks t=true:=hks
    simp only[XL.dsts]at hd
    have hdl:Bd l.dsts t=false/\d≠t/\Bd r.dsts t=false:=by
      have h0:¬(Bd (l.dsts++d::r.dsts) t=true):=by rw[hd];simp
      rw[Fa,C0]at h0
      refine⟨?_,fun h=>h0 (.inr (.inl h)),?_⟩
      · cases h:Bd l.dsts t with
        | false=>rfl
        | true=>exact(h0 (.inl h)).elim
      · cases h:Bd r.dsts t with
        | false=>rfl
        | true=>exact(h0 (.inr (.inr h))).elim
    obtain⟨s1,h1,h2,h3,h4,h5⟩:=JT (dr:=dr) (n0:=n0) l [] t2 b2 i s hl (.inl (hds t2 hdt2)) hlt (fun u hu=>by simp[Bd]at hu)
    have ht1:look s1.e t=some Dn\/∃c,look s1.e t=some (.bool c)/\(c==b)=false:=by rw[(h4 t hdl.1).1];exact ht
    have hw:BZ (Dv dr ks s1.e) (some (t,b))=some false:=by
      rcases ht1 with ht|⟨c,ht,hc⟩
      · exact LJ hks ht
      · rw[ME hks ht,hc]
    have hput:∀u,look (Cb s1.e (some d) Dn) u=if d=u then some Dn else look s1.e u:=fun u=>by rw[GO];simp
    obtain⟨s',g1,g2,g3,g4,g5⟩:=JT (dr:=dr) (n0:=n0) r (d::l.dsts++ds) t b (i+l.size+1) ⟨Cb s1.e (some d) Dn,Bp (some d) s1.q,s1.r,s1.Z⟩ hr
      (by simp only[hput,if_neg hdl.2.1];exact ht1) hdl.2.2 (fun u hu=>by
        simp only[hput]
        by_cases hdu:d=u
        · rw[if_pos hdu]
        · rw[if_neg hdu]
          rw[L8]at hu
          rcases(C0 d _ u).1 hu with h|h
          · exact(hdu h).elim
          · cases hlu:Bd l.dsts u with
            | true=>exact h5 u hlu
            | false=>
              rcases(Fa _ _ u).1 h with h|h
              · rw[hlu]at h;cases h
              · rw[(h4 u hlu).1];exact hds u h)
    refine⟨s',?_,by rw[g2];exact h2,by rw[g3];exact h3,fun u hu=>?_,fun u hu=>?_⟩
    · simp only[XL.flat,XL.lks]
      rw[UM]
      refine h1.append ?_
      rw[Qv]
      exact .skip _ ⟨some d,.pick c x y,some (t,b)⟩ ks _ s1 s' hw g1
    · simp only[XL.dsts]at hu
      have h0:¬(Bd (l.dsts++d::r.dsts) u=true):=by rw[hu];simp
      rw[Fa,C0]at h0
      have hlu:Bd l.dsts u=false:=by
        cases h:Bd l.dsts u with
        | false=>rfl
        | true=>exact(h0 (.inl h)).elim
      have hru:Bd r.dsts u=false:=by
        cases h:Bd r.dsts u with
        | false=>rfl
        | true=>exact(h0 (.inr (.inr h))).elim
      have hdu:¬d=u:=fun h=>h0 (.inr (.inl h))
      obtain⟨k1,k2⟩:=g4 u hru
      obtain⟨k3,k4⟩:=h4 u hlu
      refine⟨by rw[k1];simp only[hput,if_neg hdu];exact k3,by rw[k2,Bu];simp only[AK.injEq,if_neg hdu];exact k4⟩
    · simp only[XL.dsts]at hu
      cases hru:Bd r.dsts u with
      | true=>exact g5 u hru
      | false=>
        rw[(g4 u hru).1]
        simp only[hput]
        by_cases hdu:d=u
        · rw[if_pos hdu]
        · rw[if_neg hdu]
          rcases(Fa _ _ u).1 hu with h|h
          · exact h5 u h
          · rcases(C0 d _ u).1 h with h | h
            · exact(hdu h).elim
            · rw[hru]at h;cases h
end Go.Og
namespace Go.Og
variable {E:EB} {D:BB}
def Gd (g:Option (Nat × Bool)) (gt:Option Nat) (e:Bt) (ds:List Nat):Prop:=
 (g=none/\gt=none)\/∃t b,g=some (t,b)/\gt=some t/\look e t=some (.bool b)/\Bd ds t=false
theorem Gd.wanted {g:Option (Nat × Bool)} {gt:Option Nat} {e:Bt} {ds:List Nat} (h:Gd g gt e ds) {dr:Bool} {ks:List Nat} (hs:be gt ks=true):BZ (Dv dr ks e) g=some true:=by
 rcases h with ⟨rfl,rfl⟩|⟨t,b,rfl,rfl,hl,_⟩
 ·rfl
 ·rw[ME hs hl];simp
theorem Gd.next {g:Option (Nat × Bool)} {gt:Option Nat} {e e':Bt} {ds ds':List Nat} (h:Gd g gt e ds) (hd:∀t,Bd ds t=false->Bd ds' t=false) (he:∀t,Bd ds t=false->look e' t=look e t):Gd g gt e' ds':=by
 rcases h with ⟨rfl,rfl⟩|⟨t,b,rfl,rfl,hl,hm⟩
 ·exact .inl ⟨rfl,rfl⟩
 ·exact .inr ⟨t,b,rfl,rfl,by rw[he t hm];exact hl,hd t hm⟩
theorem bT {id nx:Nat} {o:EK} {e:Bt} {q:Qs} {r r':Rg} {Z Z':H} {v:V} (h:GC E D false id nx o e q r Z (.val v r' Z')):r'=r:=by
 cases h<;>first | rfl | (rename_i hw _ _ _ _ _ _ _ _ _ _;cases hw)
theorem GM {ds:List Nat} {t:Nat}:Bd ds t=false↔¬Bd ds t=true:=by cases Bd ds t<;>simp
theorem EZ {d:Nat} {l:List Nat} {t:Nat} (h:Bd (d::l) t=false):d≠t/\Bd l t=false:=by
 rw[GM,C0]at h
 exact⟨fun hh=>h (.inl hh),GM.2 fun hh=>h (.inr hh)⟩
theorem LY {l m:List Nat} {t:Nat} (h:Bd (l++m) t=false):Bd l t=false/\Bd m t=false:=by
 rw[GM,Fa]at h
 exact⟨GM.2 fun hh=>h (.inl hh),GM.2 fun hh=>h (.inr hh)⟩
theorem Uf {d:Option Nat} {ty:EH} {ks:List Nat} {o:EK} {r:XL} (h:(XL.op d ty ks o r).makes=false):o.cls ≠ .a/\r.makes=false:=by
 simp only[XL.makes]at h
 split at h
 ·cases h
 ·rename_i hc;exact⟨hc,h⟩
theorem Tf {t:Nat} {b:Bool} {l:XL} {d:Nat} {ks:List Nat} {c x y:AO} {r:XL} (h:(XL.grp t b l d ks c x y r).makes=false):l.makes=false/\r.makes=false:=by
 simpa only [XL.makes,BN]using h
theorem Ry {d:Nat} {ty:EH} {o:EK} (h:okD (some d) ty o=true):(∀n x y,o = .store n x y->False)/\(o.cls = .k->ty.known=true):=by
 constructor
 ·rintro n x y rfl;cases h
 ·intro hc
  cases o<;>(first | (cases hc;done) | (cases h;done) | exact h | (rename_i t x;cases t<;>cases hc))
theorem HX {dr:Bool} {n0:Nat}:∀(l:XL) (ds:Option (List Nat)) (gt:Option Nat) (g:Option (Nat × Bool)) (pw:Bool) (i:Nat) (s:St) (J:Bt->Qs->Rg->H->AH) (res:V × H),
  GB E D dr pw n0 l i s.e s.q s.r s.Z J=some res->l.okG ds gt=true->Gd g gt s.e l.dsts->(dr=true->l.makes=false) ->
  ∃s',Om E D dr n0 i ((l.flat g).zip l.lks) s s'/\J s'.e s'.q s'.r s'.Z=some res/\(pw=false->s'.r=s.r) /\
   (∀u,Bd l.dsts u=false->look s'.e u=look s.e u)/\(pw=false->∀u,Bd l.dsts u=false->look s'.q u=look s.q u)
 | .nil,ds,gt,g,pw,i,s,J,res,h,hok,hg,hmk=>⟨s,.nil i s,h,fun _=>rfl,fun _ _=>rfl,fun _ _ _=>rfl⟩
 | .op d ty ks o r,ds,gt,g,pw,i,s,J,res,h,hok,hg,hmk=>by
  rw[cj]at h
  simp only[XL.okG,AF]at hok
  obtain⟨⟨hkd,hks⟩,hr⟩:=hok
  have hr':∃ds',r.okG ds' gt=true:=by
   split at hr
   ·exact⟨_,hr⟩
   ·exact⟨_,hr⟩
  obtain⟨ds',hr'⟩:=hr'
  have hw:=hg.wanted (dr:=dr) hks
  have hdst:∀t,Bd (XL.op d ty ks o r).dsts t=false->d≠some t/\Bd r.dsts t=false:=by
   intro t ht
   cases d with
   | none=>exact⟨by simp,ht⟩
   | some d=>obtain⟨h1,h2⟩:=EZ ht;exact⟨by simpa using h1,h2⟩
  obtain⟨out,hs,hout⟩:=X4 h
  cases out with
  | val v r' Z'=>
   obtain⟨hk,hlv⟩:=hout
   have hput:∀t,Bd (XL.op d ty ks o r).dsts t=false->look (Cb s.e d v) t=look s.e t:=fun t ht=>by
    rw[GO,if_neg (hdst t ht).1]
   obtain⟨s',h1,h2,h3,h4,h5⟩:=HX r ds' gt g pw (i+1) ⟨Cb s.e d v,Bp d s.q,r',Z'⟩ J res hk hr'
    (hg.next (fun t ht=>(hdst t ht).2) hput) (fun hd=>(Uf (hmk hd)).2)
   refine⟨s',.val i ⟨d,o,g⟩ ks _ s s' pw v r' Z' hw hs ?_ (fun hd=>(Uf (hmk hd)).1) h1,h2,fun hpw=>?_,fun u hu=>?_,fun hpw u hu=>?_⟩
   ·cases d with
    | none=>exact .inl rfl
    | some d=>
     right
     rcases hlv with ⟨n,x,y,rfl⟩|hlv|hlv|hlv
     ·exact((Ry hkd).1 _ _ _ rfl).elim
     ·exact .inr hlv
     ·right
      intro hc
      have:=(Ry hkd).2 hc
      rw[hlv]at this;cases this
     ·exact .inl hlv
   ·subst hpw;rw[h3 rfl];exact bT hs
   ·rw[h4 u (hdst u hu).2];exact hput u hu
   ·rw[h5 hpw u (hdst u hu).2]
    show look (Bp d s.q) u=_
    rw[Bu,if_neg (hdst u hu).1]
  | mark m off=>
   have hput:∀t,Bd (XL.op d ty ks o r).dsts t=false->look (Bp d s.e) t=look s.e t:=fun t ht=>by
    rw[Bu,if_neg (hdst t ht).1]
   obtain⟨s',h1,h2,h3,h4,h5⟩:=HX r ds' gt g pw (i+1) ⟨Bp d s.e,PN (Bp d s.q) d (m,off),s.r,s.Z⟩ J res hout hr'
    (hg.next (fun t ht=>(hdst t ht).2) hput) (fun hd=>(Uf (hmk hd)).2)
   refine⟨s',.mark i ⟨d,o,g⟩ ks _ s s' pw _ _ m off hw hs h1,h2,h3,fun u hu=>?_,fun hpw u hu=>?_⟩
   ·rw[h4 u (hdst u hu).2];exact hput u hu
   ·rw[h5 hpw u (hdst u hu).2]
    show look (PN (Bp d s.q) d (m,off)) u=_
    rw[J8,if_neg (hdst u hu).1,Bu,if_neg (hdst u hu).1]
 | .pal d ks el z r,ds,gt,g,pw,i,s,J,res,h,hok,hg,hmk=>by
  cases pw with
  | false=>rw[WO]at h;cases h
  | true=>
   rw[Yt]at h
   simp only[XL.okG,AF]at hok
   obtain⟨hks,hr⟩:=hok
   have hr':r.okG none gt=true:=by
    split at hr
    ·cases hr
    ·exact hr
   have hw:=hg.wanted (dr:=dr) hks
   have hput:∀t,Bd (XL.pal d ks el z r).dsts t=false->look (BY [d] s.e) t=look s.e t:=fun t ht=>by
    have:=(EZ ht).1
    rw[B9,if_neg (fun hh=>this ((Ge d t).1 hh))]
   obtain⟨s',h1,h2,h3,h4,h5⟩:=HX r none gt g true (i+1) ⟨BY [d] s.e,(d,(d,0))::JO d (BY [d] s.q),(d,z)::BY [d] s.r,s.Z⟩ J res h hr'
    (hg.next (fun t ht=>(EZ ht).2) hput) hmk
   refine⟨s',.pal i ⟨some d,.alloc el z,g⟩ ks _ s s' d el z rfl rfl hw h1,h2,(fun hpw=>by cases hpw),fun u hu=>?_,(fun hpw=>by cases hpw)⟩
   rw[h4 u (EZ hu).2];exact hput u hu
 | .grp t b l d ks c x y r,ds,gt,g,pw,i,s,J,res,h,hok,hg,hmk=>by
  rw[Yu]at h
  simp only[XL.okG,AF,Cq]at hok
  obtain⟨⟨⟨⟨⟨⟨hks,hkt⟩,hlt⟩,hpk⟩,_⟩,hl⟩,hr⟩:=hok
  have hr':∃ds',r.okG ds' gt=true:=by
   split at hr
   ·exact⟨_,hr⟩
   ·exact⟨_,hr⟩
  obtain⟨ds',hr'⟩:=hr'
  have hdst:∀u,Bd (XL.grp t b l d ks c x y r).dsts u=false->Bd l.dsts u=false/\d≠u/\Bd r.dsts u=false:=by
   intro u hu
   obtain⟨h1,h2⟩:=LY hu
   obtain⟨h3,h4⟩:=EZ h2
   exact⟨h1,h3,h4⟩
  unfold X1 at hpk
  simp only[AF]at hpk
  obtain⟨hct,hother⟩:=hpk
  have hct:c = .tmp t:=by
   cases c with
   | con v=>cases hct
   | tmp u=>simp only[AQ]at hct;rw[hct]
  subst hct
  obtain⟨v,hv,_,h⟩:=Ae h
  obtain⟨cb,rfl,h9⟩:=FY h
  replace h:=h9
  have hte:look s.e t=some (.bool cb):=by
   simp only[CV,GQ]at hv
   cases hq:look (Dv dr [t] s.e) t with
   | none=>rw[hq]at hv;cases hv
   | some u=>rw[hq]at hv;simp only at hv;subst hv;exact Rq hq
  have fin:∀(s1:St) (vb:Bool),Om E D dr n0 i ((l.flat (some (t,b))).zip l.lks) s s1->s1.r=s.r->(∀u,Bd l.dsts u=false->look s1.e u=look s.e u)->(∀u,Bd l.dsts u=false->look s1.q u=look s.q u) ->
    BU (.pick (.tmp t) x y) (Dv dr ks s1.e)=some (.bool vb) ->
    GB E D dr pw n0 r (i+l.size+1) ((d,.bool vb)::BY (d::l.dsts) s.e) (BY (d::l.dsts) s.q) s.r s1.Z J=some res ->
    ∃s',Om E D dr n0 i (((XL.grp t b l d ks (.tmp t) x y r).flat g).zip (XL.grp t b l d ks (.tmp t) x y r).lks) s s'/\J s'.e s'.q s'.r s'.Z=some res/\(pw=false->s'.r=s.r) /\
     (∀u,Bd (XL.grp t b l d ks (.tmp t) x y r).dsts u=false->look s'.e u=look s.e u)/\(pw=false->∀u,Bd (XL.grp t b l d ks (.tmp t) x y r).dsts u=false->look s'.q u=look s.q u):=by
   intro s1 vb hrun hr1 he1 hq1 hp hrest
   have hput:∀u,d≠u->Bd l.dsts u=false->look ((d,V.bool vb)::BY (d::l.dsts) s.e) u=look s.e u:=by
    intro u h1 h2
    simp only[look,AQ,h1,if_false]
    rw[B9,if_neg (fun hh=>by rcases(C0 d _ u).1 hh with hh | hh;exact h1 hh;rw[h2]at hh;cases hh)]
   obtain⟨s',h1,h2,h3,h4,h5⟩:=HX r ds' gt g pw (i+l.size+1) ⟨(d,.bool vb)::BY (d::l.dsts) s.e,BY (d::l.dsts) s.q,s.r,s1.Z⟩ J res hrest hr'
    (hg.next (fun u hu=>(hdst u hu).2.2) (fun u hu=>hput u (hdst u hu).2.1 (hdst u hu).1)) (fun hd=>(Tf (hmk hd)).2)
   have hg1:Gd g gt s1.e (XL.grp t b l d ks (.tmp t) x y r).dsts:=hg.next (fun _ hu=>hu) (fun u hu=>he1 u (hdst u hu).1)
   refine⟨s',?_,h2,h3,fun u hu=>?_,fun hpw u hu=>?_⟩
   ·simp only[XL.flat,XL.lks]
    rw[UM]
    refine hrun.append ?_
    rw[Qv]
    refine .val _ ⟨some d,.pick (.tmp t) x y,g⟩ ks _ s1 s' true (.bool vb) s1.r s1.Z (hg1.wanted hks) (.p _ rfl fun _=>hp) (.inr (.inl rfl)) (fun _ h=>by cases h) ?_
    refine .shrink _ _ _ s' ((d,.bool vb)::BY (d::l.dsts) s.e) (BY (d::l.dsts) s.q) (fun u w hu=>?_) (fun u w hu=>?_) (by rw[hr1];exact h1)
    ·simp only[look,AQ]at hu
     rw[GO]
     by_cases hdu:d=u
     ·rw[if_pos hdu]at hu;rw[if_pos (by rw[hdu])];exact hu
     ·rw[if_neg hdu,B9]at hu
      rw[if_neg (by simpa using hdu)]
      split at hu
      ·cases hu
      ·rename_i hm
       rw[he1 u (GM.2 fun hh=>hm ((C0 d _ u).2 (.inr hh)))]
       exact hu
    ·rw[B9]at hu
     split at hu
     ·cases hu
     ·rename_i hm
      show look (Bp (some d) s1.q) u=some w
      rw[Bu,if_neg (fun hh=>hm ((C0 d _ u).2 (.inl (by simpa using hh)))),hq1 u (GM.2 fun hh=>hm ((C0 d _ u).2 (.inr hh)))]
      exact hu
   ·rw[h4 u (hdst u hu).2.2];exact hput u (hdst u hu).2.1 (hdst u hu).1
   ·rw[h5 hpw u (hdst u hu).2.2]
    show look (BY (d::l.dsts) s.q) u=_
    rw[B9,if_neg (fun hh=>by rcases(C0 d _ u).1 hh with hh | hh;exact(hdst u hu).2.1 hh;rw[(hdst u hu).1]at hh;cases hh)]
  have taken:cb=b->∀(z:AO),(∀e,CV e (.tmp t) = .bool cb->∀vb,CV e z = .bool vb->BU (.pick (.tmp t) x y) e=some (.bool vb)) ->
    (GB E D dr false n0 l i s.e s.q s.r s.Z fun e' _ _ Z'=>CA (Dv dr ks e') z fun v=>AT v fun v=>
     GB E D dr pw n0 r (i+l.size+1) ((d,.bool v)::BY (d::l.dsts) s.e) (BY (d::l.dsts) s.q) s.r Z' J)=some res ->
    ∃s',Om E D dr n0 i (((XL.grp t b l d ks (.tmp t) x y r).flat g).zip (XL.grp t b l d ks (.tmp t) x y r).lks) s s'/\J s'.e s'.q s'.r s'.Z=some res/\(pw=false->s'.r=s.r) /\
     (∀u,Bd (XL.grp t b l d ks (.tmp t) x y r).dsts u=false->look s'.e u=look s.e u)/\(pw=false->∀u,Bd (XL.grp t b l d ks (.tmp t) x y r).dsts u=false->look s'.q u=look s.q u):=by
   intro hcb z hz hh
   subst hcb
   obtain⟨s1,h1,h2,h3,h4,h5⟩:=HX l (some []) (some t) (some (t,cb)) false i s _ res hh hl (.inr ⟨t,cb,rfl,rfl,hte,hlt⟩) (fun hd=>(Tf (hmk hd)).1)
   obtain⟨v,hv,_,h2⟩:=Ae h2
   obtain⟨vb,rfl,h9⟩:=FY h2
   replace h2:=h9
   refine fin s1 vb h1 (h3 rfl) h4 (h5 rfl) (hz _ ?_ vb hv) h2
   simp only[CV,GQ,J6 hkt,h4 t hlt,hte]
  have left:(cb==b)=false->∀(z:AO),(match z with | .tmp u=>!Bd l.dsts u | .con _=>true)=true->(∀e,CV e (.tmp t) = .bool cb->∀vb,CV e z = .bool vb->BU (.pick (.tmp t) x y) e=some (.bool vb)) ->
    (CA (Dv dr ks s.e) z fun v=>AT v fun v=>
     GB E D dr pw n0 r (i+l.size+1) ((d,.bool v)::BY (d::l.dsts) s.e) (BY (d::l.dsts) s.q) s.r s.Z J)=some res ->
    ∃s',Om E D dr n0 i (((XL.grp t b l d ks (.tmp t) x y r).flat g).zip (XL.grp t b l d ks (.tmp t) x y r).lks) s s'/\J s'.e s'.q s'.r s'.Z=some res/\(pw=false->s'.r=s.r) /\
     (∀u,Bd (XL.grp t b l d ks (.tmp t) x y r).dsts u=false->look s'.e u=look s.e u)/\(pw=false->∀u,Bd (XL.grp t b l d ks (.tmp t) x y r).dsts u=false->look s'.q u=look s.q u):=by
   intro hcb z hz0 hz h
   obtain⟨s1,h1,h2,h3,h4,_⟩:=JT (E:=E) (D:=D) (dr:=dr) (n0:=n0) l [] t b i s hl (.inr ⟨cb,hte,hcb⟩) hlt (fun u hu=>by simp[Bd]at hu)
   obtain⟨v,hv,_,h5⟩:=Ae h
   obtain⟨vb,rfl,h9⟩:=FY h5
   replace h5:=h9
   refine fin s1 vb h1 h2 (fun u hu=>(h4 u hu).1) (fun u hu=>(h4 u hu).2) (hz _ ?_ vb ?_) (by rw[h3];exact h5)
   ·simp only[CV,GQ,J6 hkt,(h4 t hlt).1,hte]
   ·cases z with
    | con v=>exact hv
    | tmp u=>
     simp only[Cq]at hz0
     simp only[CV,GQ]at hv ⊢
     cases hq:look (Dv dr ks s.e) u with
     | none=>rw[hq]at hv;cases hv
     | some u2=>
      rw[hq]at hv
      have hq1:look (Dv dr ks s1.e) u=some u2:=by
       cases dr with
       | true=>
        obtain⟨h6,h7⟩:=GN _ _ _ _ hq
        show look (restr ks s1.e) u=_
        rw[Jg h7,(h4 u hz0).1];exact h6
       | false=>
        show look s1.e u=_
        rw[(h4 u hz0).1];exact hq
      rw[hq1];exact hv
  have hpt:∀e,CV e (.tmp t) = .bool true->∀vb,CV e x = .bool vb->BU (.pick (.tmp t) x y) e=some (.bool vb):=by
   intro e h1 vb h2
   simp only[BU,h1,h2,V.live,if_true]
  have hpf:∀e,CV e (.tmp t) = .bool false->∀vb,CV e y = .bool vb->BU (.pick (.tmp t) x y) e=some (.bool vb):=by
   intro e h1 vb h2
   simp only[BU,h1,h2,V.live,if_true]
  unfold Ax at h
  cases b with
  | true=>
   simp only at h hother
   cases cb with
   | true=>exact taken rfl x hpt h
   | false=>exact left rfl y hother hpf h
  | false=>
   simp only at h hother
   cases cb with
   | true=>exact left rfl x hother hpt h
   | false=>exact taken rfl y hpf h
end Go.Og
namespace Go.Og
variable {P:Program} {D:BB} {C:Cx} {R:Ren} {Z:H} {w w':World}
theorem HD.put {e:Bt} {a:Act} (h:HD R e a.tmps) {dst:Option Nat} (hd:GG a.tmps.size dst=true) {v:V} {x:Value} (hv:dst=none\/Ar R v=some x):HD R (Cb e dst v) (a.put dst x).tmps:=by
 cases dst with
 | none=>exact h
 | some d=>
  simp only[GG,CK]at hd
  refine⟨fun k u hk=>?_⟩
  rw[GO]at hk
  simp only[Act.put,A1]
  by_cases hdk:d=k
  ·rw[if_pos (by rw[hdk])]at hk
   cases hk
   rw[if_pos hdk,if_pos hd]
   exact⟨x,rfl,hv.resolve_left (by simp)⟩
  ·rw[if_neg (by simpa using hdk)]at hk
   rw[if_neg hdk]
   exact h.at_ k u hk
theorem HD.del {e:Bt} {a:Act} (h:HD R e a.tmps) (dst:Option Nat) (x:Value):HD R (Bp dst e) (a.put dst x).tmps:=by
 refine⟨fun k u hk=>?_⟩
 rw[Bu]at hk
 split at hk
 ·cases hk
 ·rename_i hne
  obtain⟨y,h1,h2⟩:=h.at_ k u hk
  refine⟨y,?_,h2⟩
  cases dst with
  | none=>exact h1
  | some d=>
   simp only[Act.put,A1]
   rw[if_neg (by simpa using hne)];exact h1
theorem RT.del {B:Bs} {q:Qs} {a:Act} (h:RT B q a.tmps) (dst:Option Nat) (x:Value):RT B (Bp dst q) (a.put dst x).tmps:=by
 refine⟨fun k m off hk=>?_⟩
 rw[Bu]at hk
 split at hk
 ·cases hk
 ·rename_i hne
  obtain⟨i,h1,h2⟩:=h.at_ k m off hk
  refine⟨i,h1,?_⟩
  cases dst with
  | none=>exact h2
  | some d=>
   simp only[Act.put,A1]
   rw[if_neg (by simpa using hne)];exact h2
theorem RT.mark {B:Bs} {q:Qs} {a:Act} (h:RT B q a.tmps) {dst:Option Nat} (hd:GG a.tmps.size dst=true) {m off:Nat} {i:BI} (hB:B m=some i) :
  RT B (PN (Bp dst q) dst (m,off)) (a.put dst (.pointer (some ⟨i.blk,i.shift+off,none⟩))).tmps:=by
 refine⟨fun k m' off' hk=>?_⟩
 rw[J8]at hk
 by_cases hdk:dst=some k
 ·rw[if_pos hdk]at hk
  cases hk
  subst hdk
  simp only[GG,CK]at hd
  exact⟨i,hB,by simp[Act.put,A1,hd]⟩
 ·rw[if_neg hdk]at hk
  exact(h.del dst _).at_ k m' off' hk
theorem HD.sub {e e':Bt} {tmps:Array Value} (h:HD R e tmps) (hs:∀t v,look e' t=some v->look e t=some v):HD R e' tmps:=
 ⟨fun k v hk=>h.at_ k v (hs k v hk)⟩
theorem RT.sub {B:Bs} {q q':Qs} {tmps:Array Value} (h:RT B q tmps) (hs:∀t v,look q' t=some v->look q t=some v):RT B q' tmps:=
 ⟨fun k m off hk=>h.at_ k m off (hs k _ hk)⟩
theorem HD.sel {e:Bt} {tmps:Array Value} (h:HD R e tmps) (dr:Bool) (ks:List Nat):HD R (Dv dr ks e) tmps:=h.sub fun _ _ hk=>Rq hk
theorem RT.sel {B:Bs} {q:Qs} {tmps:Array Value} (h:RT B q tmps) (dr:Bool) (ks:List Nat):RT B (KF dr ks q) tmps:=h.sub fun t v hk=>by
 cases dr with
 | true=>exact(Gf _ _ _ _ hk).1
 | false=>exact hk
theorem X3 {B:Bs} {r:Rg} (hm:RV C R B r Z w) {a:Act} (o:Oper) {d:Nat} {el:TypeId} {z:List V} (ho:Ac P C.G o.op = .alloc el z) (K:Act->World->Prop) (Q:Exit->Act->World->Prop)
  (hK:∀i w',RV C R (fun m=>if m=d then some i else B m) ((d,z)::BY [d] r) Z w'->K (a.put o.dst (.pointer (some ⟨i.blk,i.shift+0,none⟩))) w'):o.wp P a w K Q:=by
 obtain⟨hrel,hpriv⟩:=hm
 have hg:=hrel.globOk
 have ha:CX (Ac P C.G o.op) [] Z.next=some (.ptr Z.next 0,.cells z):=by rw[ho];rfl
 have he0:Bn R [] a.tmps:=⟨fun k v hk=>by simp[look]at hk⟩
 obtain⟨x,w',i,hrun,hn,hi,hx,hok⟩:=NO (a:=a) (P:=P) he0 hg o ha (hrel.fresh _ (AG _)) w
 have hcp:Ar (Hl R Z.next i) (.ptr Z.next 0)=some (.pointer (some ⟨i.blk,i.shift+0,none⟩)):=C4 (Bv _ _ _)
 rw[hcp]at hx;cases hx
 unfold Oper.wp;rw[hrun]
 have hle:Le R (Hl R Z.next i):=(EM R Z.next i).le hrel.fresh
 have hzc:∃zs,Az R z=some zs:=by
  obtain⟨dst,op,ty,pos,after,guard⟩:=o
  simp only at ho
  cases op<;>simp only[Ac]at ho<;>(try (first | (cases ho;done) | ((repeat' split at ho)<;>(cases ho;done))))
  ·rename_i el'
   split at ho
   ·cases ho
   ·rename_i z' _ hz
    simp only[EK.alloc.injEq]at ho
    rw[<-ho.2]
    unfold JL at hz
    split at hz
    ·split at hz
     ·exact⟨_,U5 R hz⟩
     ·cases hz
    ·cases hz
   ·cases ho
  ·rename_i fn _ _;cases fn<;>cases ho
  ·rename_i r;cases r<;>cases ho
  ·rename_i ok;cases ok
   ·cases ho
   ·simp only at ho;split at ho<;>cases ho
  ·rename_i c
   obtain⟨callee,cargs,argTypes⟩:=c
   simp only at ho
   split at ho
   ·unfold KM at ho;(repeat' split at ho)<;>cases ho
   ·cases ho
   ·cases ho
   ·cases ho
 obtain⟨zs,hzs⟩:=hzc
 have hokR:E4 R i (.cells z) w':=by
  obtain⟨arr,el',lo,hi',h1,h2,h3,h4,h5⟩:=hok
  refine⟨arr,el',lo,hi',h1,fun k v hk=>?_,h3,h4,h5⟩
  obtain⟨y,hy,hone,harr⟩:=h2 k v hk
  obtain⟨y2,hy2,_⟩:=EE hzs hk
  have:=Ch hle v y2 hy2
  rw[hy]at this;cases this
  exact⟨_,hy2,hone,harr⟩
 have hO:C.O i.blk:=by rw[hi];exact hrel.new _ hrel.size
 have hrelw:DL C R Z w':=hrel.frame (fun blk hb _=>hn.old blk hb) (by rw[hn.size];omega) hn.os hn.tape hn.output
 refine hK i w' ⟨hrelw,⟨fun m j hm=>?_,fun m m' j j' hm hm' hbl=>?_,fun m j hm k b j' hk hj' hbl=>?_⟩⟩
 ·by_cases hmd:m=d
  ·subst hmd
   rw[if_pos rfl]at hm;cases hm
   exact⟨hO,z,by simp[look],hokR⟩
  ·rw[if_neg hmd]at hm
   obtain⟨hO',l,hl,hok'⟩:=hpriv.at_ m j hm
   refine⟨hO',l,?_,hok'.mono (Le.refl _) (hn.old _ hok'.lt)⟩
   simp only[look,AQ]
   rw[if_neg (Ne.symm hmd),B9,if_neg (fun h=>hmd ((Ge d m).1 h).symm)]
   exact hl
 ·by_cases hmd:m=d
  ·by_cases hmd':m'=d
   ·rw[hmd,hmd']
   ·exfalso
    rw[if_pos hmd]at hm;rw[if_neg hmd']at hm';cases hm
    have:=hpriv.lt hm';omega
  ·by_cases hmd':m'=d
   ·exfalso
    rw[if_neg hmd]at hm;rw[if_pos hmd']at hm';cases hm'
    have:=hpriv.lt hm;omega
   ·rw[if_neg hmd]at hm;rw[if_neg hmd']at hm'
    exact hpriv.inj m m' j j' hm hm' hbl
 ·by_cases hmd:m=d
  ·rw[if_pos hmd]at hm;cases hm
   obtain⟨j2,hj2,_,hok2⟩:=hrel.own k b hk
   rw[hj']at hj2;cases hj2
   have:=hok2.lt;omega
  ·rw[if_neg hmd]at hm
   exact hpriv.apart m j hm k b j' hk hj' hbl
def M7 (C:Cx) (nR:Nat) (R0:Ren) (nt:Nat) (s:St) (a:Act) (w:World):Prop:=
 ∃R B,Gw nR R0 R/\nR<=s.Z.next/\RV C R B s.r s.Z w/\HD R s.e a.tmps/\RT B s.q a.tmps/\nt<=a.tmps.size/\a.defers=[]
theorem RT.pal {B:Bs} {q:Qs} {a:Act} (h:RT B q a.tmps) {d:Nat} (hd:GG a.tmps.size (some d)=true) (i:BI) :
  RT (fun m=>if m=d then some i else B m) ((d,(d,0))::JO d (BY [d] q)) (a.put (some d) (.pointer (some ⟨i.blk,i.shift+0,none⟩))).tmps:=by
 refine⟨fun k m off hk=>?_⟩
 simp only[look,AQ]at hk
 simp only[GG,CK]at hd
 by_cases hdk:d=k
 ·rw[if_pos hdk]at hk
  cases hk
  exact⟨i,by simp,by simp[Act.put,A1,hdk,hdk ▸ hd]⟩
 ·rw[if_neg hdk]at hk
  obtain⟨h1,h2⟩:=Jf _ _ _ _ hk
  rw[B9]at h2
  split at h2
  ·cases h2
  ·obtain⟨j,h3,h4⟩:=h.at_ k m off h2
   refine⟨j,by rw[if_neg h1];exact h3,?_⟩
   simp only[Act.put,A1]
   rw[if_neg hdk];exact h4
theorem bf (hD:∀f,B5 P C.E C.G f (D f)) {nR:Nat} {R0:Ren} {nt n0:Nat} {ops:Array Oper} {Q:Exit->Act->World->Prop} :
  ∀{i:Nat} {fl:List (BR × List Nat)} {s s':St},Om C.E D false n0 i fl s s'->∀(l:List Oper) (a:Act) (w:World),l.map (BC P C.G nt ops)=fl.map Prod.fst->M7 C nR R0 nt s a w ->
   (∀a' w',M7 C nR R0 nt s' a' w'->Q .normal a' w')->wpList P ops Q l a w:=by
 intro i fl s s' h
 have good:∀(o:Oper) (l:List Oper) (ao:BR) (fl:List BR),(o::l).map (BC P C.G nt ops)=ao::fl->(∃e,∃(b:Bool),BZ e ao.guard=some b/\(b=true->ao.op ≠ .bad)) ->
   ao.dst=o.dst/\ao.op=Ac P C.G o.op/\GG nt o.dst=true/\OJ ops o.guard=some ao.guard/\l.map (BC P C.G nt ops)=fl:=by
  intro o l ao fl hm ⟨e,b,hw,hb⟩
  simp only[B3,List.cons.injEq]at hm
  obtain⟨h1,h2⟩:=hm
  unfold BC at h1
  split at h1
  ·rename_i g hg hd
   subst h1
   exact⟨rfl,rfl,hd,hg,h2⟩
  ·exfalso
   subst h1
   simp only[BZ,AK.injEq]at hw
   exact hb hw.symm rfl
 have nostep:∀{pw id nx e q r Z out},FB e->¬GC C.E D pw id nx .bad e q r Z out:=by
  intro pw id nx e q r Z out hlive h
  cases h with
  | p v hc h=>
   have:=h hlive
   cases this
  | l v hc h=>cases hc
  | a v b hc h=>cases hc
  | k v Z1 Z2 hc h hs=>cases hc
  | mv x m off ho hm=>rcases ho with ho | ho<;>cases ho
  | fa d x m off ho hm=>cases ho
  | ld x m off l v ho hm hl h=>cases ho
  | ldn n x m off l ho hm hl h=>cases ho
  | st n x y m off l cs u hw ho hm hl hn hu hlu hcs h1 hlen h=>cases ho
 induction h with
 | nil i s=>
  intro l a w hl hI hQ
  cases l with
  | nil=>exact hQ a w hI
  | cons o l=>simp at hl
 | shrink i fl s s' e q he hq _ ih=>
  intro l a w hl hI hQ
  obtain⟨R,B,h1,h2,h3,h4,h5,h6,h7⟩:=hI
  exact ih l a w hl ⟨R,B,h1,h2,h3,h4.sub he,h5.sub hq,h6,h7⟩ hQ
 | skip i o ks fl s s' hw _ ih=>
  intro l a w hl hI hQ
  cases l with
  | nil=>simp at hl
  | cons oo l=>
   obtain⟨g1,g2,g3,g4,g5⟩:=good oo l o _ hl ⟨_,false,hw,fun h=>by cases h⟩
   obtain⟨R,B,h1,h2,h3,h4,h5,h6,h7⟩:=hI
   have hdst:=HV g3 h6
   unfold wpList
   rw[if_neg (by rw[DI (h4.sel false ks).env g4 hw];simp)]
   refine ih l _ w g5 ⟨R,B,h1,h2,h3,?_,?_,by rw[IP];exact h6,by rw[Es];exact h7⟩ hQ
   ·rw[g1];exact h4.put hdst (.inr rfl)
   ·rw[g1];exact h5.del _ _
 | val i o ks fl s s' pw v r' Z' hw hs hlv _ _ ih=>
  intro l a w hl hI hQ
  cases l with
  | nil=>simp at hl
  | cons oo l=>
   obtain⟨R,B,h1,h2,h3,h4,h5,h6,h7⟩:=hI
   obtain⟨g1,g2,g3,g4,g5⟩:=good oo l o _ hl ⟨_,true,hw,fun _ hb=>nostep (h4.sel false ks).live (hb ▸ hs)⟩
   have hdst:=HV g3 h6
   unfold wpList
   rw[if_pos (DI (h4.sel false ks).env g4 hw)]
   left
   rw[g2]at hs
   refine LM hD h3 (h4.sel false ks) (h5.sel false ks) oo (h3.rel.fresh _ (AG _)) (IJ _) (D3 _) hs _ Q (fun v2 r2 Z2 heq R' w' x hle hk hn hmem hv=>?_) (fun m off heq=>by cases heq)
   cases heq
   have hx:Gw s.Z.next R R':=fun k hk1=>hk k hk1 (by intro he;subst he;exact Nat.lt_irrefl _ hk1)
   refine ih l _ w' g5 ⟨R',B,h1.trans hx h2,AN h2 hn,hmem,?_,?_,by rw[IP];exact h6,by rw[Es];exact h7⟩ hQ
   ·rw[g1]at hlv ⊢
    refine(h4.mono hle).put hdst ?_
    rcases hv with ⟨rfl,hc⟩|hv
    ·rcases hlv with h|h|h
     ·exact .inl h
     ·cases h
     ·rw[g2]at h;exact(h hc).elim
    ·exact .inr hv
   ·rw[g1];exact h5.del _ _
 | mark i o ks fl s s' pw id nx m off hw hs _ ih=>
  intro l a w hl hI hQ
  cases l with
  | nil=>simp at hl
  | cons oo l=>
   obtain⟨R,B,h1,h2,h3,h4,h5,h6,h7⟩:=hI
   obtain⟨g1,g2,g3,g4,g5⟩:=good oo l o _ hl ⟨_,true,hw,fun _ hb=>nostep (h4.sel false ks).live (hb ▸ hs)⟩
   have hdst:=HV g3 h6
   unfold wpList
   rw[if_pos (DI (h4.sel false ks).env g4 hw)]
   left
   rw[g2]at hs
   have hs2:GC C.E D pw s.Z.next (s.Z.next+1) (Ac P C.G oo.op) (Dv false ks s.e) (KF false ks s.q) s.r s.Z (.mark m off):=by
    cases hs with
    | mv x m off ho hm=>exact .mv x m off ho hm
    | fa d x m off ho hm=>exact .fa d x m off ho hm
   refine LM hD h3 (h4.sel false ks) (h5.sel false ks) oo (h3.rel.fresh _ (AG _)) (IJ _) (D3 _) hs2 _ Q (fun v2 r2 Z2 heq=>by cases heq) (fun m2 off2 heq ii hB=>?_)
   cases heq
   refine ih l _ w g5 ⟨R,B,h1,h2,h3,?_,?_,by rw[IP];exact h6,by rw[Es];exact h7⟩ hQ
   ·rw[g1];exact h4.del _ _
   ·rw[g1];exact h5.mark hdst hB
 | pal i o ks fl s s' d el z hd ho hw _ ih=>
  intro l a w hl hI hQ
  cases l with
  | nil=>simp at hl
  | cons oo l=>
   obtain⟨g1,g2,g3,g4,g5⟩:=good oo l o _ hl ⟨_,true,hw,fun _ hb=>by rw[ho]at hb;cases hb⟩
   obtain⟨R,B,h1,h2,h3,h4,h5,h6,h7⟩:=hI
   have hdst:=HV g3 h6
   unfold wpList
   rw[if_pos (DI (h4.sel false ks).env g4 hw)]
   left
   rw[g2]at ho
   rw[hd]at g1
   refine X3 h3 oo (d:=d) ho _ Q (fun ii w' hmem=>?_)
   rw[<-g1]at hdst ⊢
   refine ih l _ w' g5 ⟨R,_,h1,h2,hmem,?_,?_,by rw[IP];exact h6,by rw[Es];exact h7⟩ hQ
   ·exact h4.del (some d) _
   ·exact h5.pal hdst ii
end Go.Og
namespace Go.Og
variable {P:Program} {E:EB} {D:BB} {C:Cx} {R:Ren} {Z:H} {w w':World}
inductive Oc where
 | val (v:V)
 | mark (m off:Nat)
 | pal (d:Nat) (z:List V)
def I8 (s2 s1:St):Prop:=(∀t v,look s2.e t=some v->look s1.e t=some v)/\(∀t v,look s2.q t=some v->look s1.q t=some v)/\s2.r=s1.r/\s2.Z=s1.Z
theorem I8.refl (s:St):I8 s s:=⟨fun _ _ h=>h,fun _ _ h=>h,rfl,rfl⟩
inductive At (E:EB) (D:BB) (s:St) (o:BR) (ks:List Nat):Oc->Bool->St->Prop where
 | skip (s2:St) (hw:BZ (Dv true ks s.e) o.guard=some false) (h:I8 s2 ⟨Cb s.e o.dst Dn,Bp o.dst s.q,s.r,s.Z⟩):At E D s o ks (.val Dn) false s2
 | val (s2:St) (pw:Bool) (v:V) (r':Rg) (Z':H) (hw:BZ (Dv true ks s.e) o.guard=some true) (hs:GC E D pw s.Z.next (s.Z.next+1) o.op (Dv true ks s.e) (KF true ks s.q) s.r s.Z (.val v r' Z'))
   (hl:o.dst=none\/v.live=true\/o.op.cls ≠ .k) (hna:o.op.cls ≠ .a) (h:I8 s2 ⟨Cb s.e o.dst v,Bp o.dst s.q,r',Z'⟩):At E D s o ks (.val v) true s2
 | mark (s2:St) (pw:Bool) (id nx m off:Nat) (hw:BZ (Dv true ks s.e) o.guard=some true) (hs:GC E D pw id nx o.op (Dv true ks s.e) (KF true ks s.q) s.r s.Z (.mark m off))
   (h:I8 s2 ⟨Bp o.dst s.e,PN (Bp o.dst s.q) o.dst (m,off),s.r,s.Z⟩):At E D s o ks (.mark m off) true s2
 | pal (s2:St) (d:Nat) (el:TypeId) (z:List V) (hd:o.dst=some d) (ho:o.op = .alloc el z) (hw:BZ (Dv true ks s.e) o.guard=some true)
   (h:I8 s2 ⟨BY [d] s.e,(d,(d,0))::JO d (BY [d] s.q),(d,z)::BY [d] s.r,s.Z⟩):At E D s o ks (.pal d z) true s2
theorem V0 {n0:Nat}:∀{i:Nat} {fl:List (BR × List Nat)} {s s':St},Om E D true n0 i fl s s' ->
  ∃(sts:Nat->St) (oc:Nat->Oc) (ex:Nat->Bool),I8 (sts 0) s/\s'=sts fl.length/\∀(k:Nat) (o:BR) (ks:List Nat),fl[k]? = some (o,ks)->At E D (sts k) o ks (oc k) (ex k) (sts (k+1)):=by
 intro i fl s s' h
 have cons:∀(s s1:St) (o:BR) (ks:List Nat) (l:List (BR × List Nat)) (c:Oc) (x:Bool),(∀s2,I8 s2 s1->At E D s o ks c x s2) ->
   (∃(sts:Nat->St) (oc:Nat->Oc) (ex:Nat->Bool),I8 (sts 0) s1/\s'=sts l.length/\∀(k:Nat) (o:BR) (ks:List Nat),l[k]? = some (o,ks)->At E D (sts k) o ks (oc k) (ex k) (sts (k+1))) ->
   ∃(sts:Nat->St) (oc:Nat->Oc) (ex:Nat->Bool),I8 (sts 0) s/\s'=sts ((o,ks)::l).length/\∀(k:Nat) (o':BR) (ks':List Nat),((o,ks)::l)[k]? = some (o',ks')->At E D (sts k) o' ks' (oc k) (ex k) (sts (k+1)):=by
  rintro s s1 o ks l c x hat ⟨sts,oc,ex,h1,h2,h3⟩
  refine⟨fun k=>Nat.casesOn k s sts,fun k=>Nat.casesOn k c oc,fun k=>Nat.casesOn k x ex,I8.refl s,h2,fun k o' ks' hk=>?_⟩
  cases k with
  | zero=>
   simp only[PK,AK.injEq,Prod.mk.injEq]at hk
   obtain⟨rfl,rfl⟩:=hk
   exact hat _ h1
  | succ k=>
   simp only[CN]at hk
   exact h3 k o' ks' hk
 induction h with
 | nil i s=>exact⟨fun _=>s,fun _ => .val .dead,fun _=>false,I8.refl s,rfl,fun k o ks hk=>by simp at hk⟩
 | skip i o ks l s s' hw _ ih=>exact cons s _ o ks l _ _ (fun s2 hs => .skip s2 hw hs) (ih (cons:=cons))
 | val i o ks l s s' pw v r' Z' hw hs hl hna _ ih=>exact cons s _ o ks l _ _ (fun s2 h2 => .val s2 pw v r' Z' hw hs hl (hna rfl) h2) (ih (cons:=cons))
 | mark i o ks l s s' pw id nx m off hw hs _ ih=>exact cons s _ o ks l _ _ (fun s2 h2 => .mark s2 pw id nx m off hw hs h2) (ih (cons:=cons))
 | pal i o ks l s s' d el z hd ho hw _ ih=>exact cons s _ o ks l _ _ (fun s2 h2 => .pal s2 d el z hd ho hw h2) (ih (cons:=cons))
 | shrink i l s s' e q he hq _ ih=>
  obtain⟨sts,oc,ex,h1,h2,h3⟩:=ih (cons:=cons)
  exact⟨sts,oc,ex,⟨fun t v hv=>he t v (h1.1 t v hv),fun t v hv=>hq t v (h1.2.1 t v hv),h1.2.2.1,h1.2.2.2⟩,h2,h3⟩
theorem Pb {pw:Bool} {id nx:Nat} {o:EK} {e:Bt} {q:Qs} {r r' rL:Rg} {Z':H} {v:V} (h:GC E D pw id nx o e q r Z (.val v r' Z')) (hr:∀x m off,Fb q x=some (m,off)->look rL m=look r m) :
  ∃rL',GC E D pw id nx o e q rL Z (.val v rL' Z')/\((r'=r/\rL'=rL)\/∃x m off c l,Fb q x=some (m,off)/\look r m=some l/\r'=KG r m c/\rL'=KG rL m c):=by
 cases h with
 | p _ hc h=>exact⟨rL,.p v hc h,.inl ⟨rfl,rfl⟩⟩
 | l _ hc h=>exact⟨rL,.l v hc h,.inl ⟨rfl,rfl⟩⟩
 | a _ b hc h=>exact⟨rL,.a v b hc h,.inl ⟨rfl,rfl⟩⟩
 | k _ Z1 _ hc h hs=>exact⟨rL,.k v Z1 Z' hc h hs,.inl ⟨rfl,rfl⟩⟩
 | ld x m off l _ ho hm hl h=>exact⟨rL,.ld x m off l v ho hm (by rw[hr x m off hm];exact hl) h,.inl ⟨rfl,rfl⟩⟩
 | ldn n x m off l ho hm hl h=>exact⟨rL,.ldn n x m off l ho hm (by rw[hr x m off hm];exact hl) h,.inl ⟨rfl,rfl⟩⟩
 | st n x y m off l cs u hw ho hm hl hn hu hlu hcs h1 hlen h=>exact⟨_,.st n x y m off l cs u hw ho hm (by rw[hr x m off hm];exact hl) hn hu hlu hcs h1 hlen h,.inr ⟨x,m,off,_,l,hm,hl,rfl,rfl⟩⟩
theorem NY {pw:Bool} {id nx:Nat} {o:EK} {e:Bt} {q:Qs} {r r':Rg} {Z':H} {v:V} (h:GC E D pw id nx o e q r Z (.val v r' Z')) (hk:o.cls ≠ .k) (ha:o.cls ≠ .a):r'=r/\Z'=Z:=by
 cases h with
 | p _ hc h=>exact⟨rfl,rfl⟩
 | l _ hc h=>exact⟨rfl,rfl⟩
 | a _ b hc h=>exact(ha hc).elim
 | k _ Z1 _ hc h hs=>exact(hk hc).elim
 | ld x m off l _ ho hm hl h=>exact⟨rfl,rfl⟩
 | ldn n x m off l ho hm hl h=>exact⟨rfl,rfl⟩
 | st n x y m off l cs u hw ho hm hl hn hu hlu hcs h1 hlen h=>exact(hk (by rw[ho];rfl)).elim
theorem YF {pw:Bool} {id nx id' nx':Nat} {o:EK} {e:Bt} {q:Qs} {r rL:Rg} {Z ZL:H} {m off:Nat} (h:GC E D pw id nx o e q r Z (.mark m off)):GC E D pw id' nx' o e q rL ZL (.mark m off):=by
 cases h with
 | mv x _ _ ho hm=>exact .mv x m off ho hm
 | fa d x _ off ho hm=>exact .fa d x m off ho hm
theorem V5 {pw:Bool} {id nx:Nat} {o:EK} {e:Bt} {q:Qs} {r:Rg} {m off:Nat} (h:GC E D pw id nx o e q r Z (.mark m off)):∃x off',Fb q x=some (m,off'):=by
 cases h with
 | mv x _ _ ho hm=>exact⟨x,off,hm⟩
 | fa d x _ off ho hm=>exact⟨x,off,hm⟩
theorem IV:∀(l:XL) (g:Option (Nat × Bool)),l.makes=false->∀o∈l.flat g,∀d,o.op.cls = .a->o.dst=some d->Bd l.pals d=true
 | .nil,g,h,o,ho,d,hc,hd=>by simp[XL.flat]at ho
 | .op dd ty ks op r,g,h,o,ho,d,hc,hd=>by
  obtain⟨h1,h2⟩:=Uf h
  simp only[XL.flat,BF]at ho
  rcases ho with rfl|ho
  ·exact(h1 hc).elim
  ·exact IV r g h2 o ho d hc hd
 | .pal dd ks el z r,g,h,o,ho,d,hc,hd=>by
  simp only[XL.flat,BF]at ho
  simp only[XL.pals]
  rw[C0]
  rcases ho with rfl|ho
  ·left;simpa using hd
  ·right;exact IV r g h o ho d hc hd
 | .grp t b l dd ks c x y r,g,h,o,ho,d,hc,hd=>by
  obtain⟨h1,h2⟩:=Tf h
  simp only[XL.flat,G1,BF]at ho
  simp only[XL.pals]
  rw[Fa]
  rcases ho with ho|rfl|ho
  ·left;exact IV l _ h1 o ho d hc hd
  ·cases hc
  ·right;exact IV r g h2 o ho d hc hd
theorem Km {q:Qs}:∀{l:List Nat},Il q l=true->∀d,Bd l d=true->∀t off,look q t≠some (d,off)
 | [],_,d,hd=>by simp[Bd]at hd
 | a::l,h,d,hd=>by
  simp only[Il,AF]at h
  intro t off hl
  rcases(C0 a l d).1 hd with rfl|hd
  ·have hm:IF a q=[]:=by simpa using h.1
   have:=Im (m:=a) (q:=q) (t:=t) (p:=(a,off)) (by rw[hm];rfl) hl
   exact this rfl
  ·exact Km h.2 d hd t off hl
end Go.Og
