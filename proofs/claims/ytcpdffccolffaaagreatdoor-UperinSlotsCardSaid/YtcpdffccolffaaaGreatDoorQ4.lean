/- What the last text leans on, part 5 of 7: merged out of smaller texts. No condition. -/
import Derived.Deep.Slices
import Derived.Carry
import Derived.Test.YtcpdffccolffaaaGreatDoorQ3
open Int renaming ofNat -> AA,negSucc -> FM,tmod -> Fq,natCast_pow -> PO,natCast_nonneg -> Rf,fdiv_eq_ediv_of_nonneg -> yg
open Nat renaming reduceLeDiff -> AB,reduceEqDiff -> AD,reduceLT -> AG,le_refl -> AN,add -> Ac,le_trans -> Ae,lt_or_ge -> Al,beq -> Ax,ble -> A0,ble_eq -> BC,eq_of_beq_eq_true -> BO,lt_of_lt_of_le -> Bg,mod_eq_of_lt -> Bw,lt_succ_self -> Bz,lt_irrefl -> CD,zero_le -> CH,zero_add -> CJ,blt_eq -> C1,mul_one -> C8,blt -> DQ,mul_div_cancel -> D9,add_zero -> ES,le_succ -> Ec,min -> E9,min_eq_left -> HD,mul_le_mul_right -> HS,mul_comm -> HT,add_sub_cancel_left -> IL,max_eq_left -> Jg,pow_le_pow_right -> MB,zero_mul -> M5,sub_self -> M6,le_add_right -> M7,mod_lt -> Re,add_mul -> Rl,testBit_or -> Ui,div_le_self -> kz,pow_succ -> qX,and_one_is_mod -> yf,testBit_two_pow_self -> AI3
open Bool renaming and_eq_true -> AK,or_eq_false_iff -> B2,or_eq_true -> CB,not_true -> Cn,false_or -> DL,and_true -> EN,not_false -> FN,true_and -> Hz,or_false -> Jj
open List renaming length_append -> AL,getElem?_eq_getElem -> AZ,getElem?_eq_none -> Aa,append_assoc -> Ab,getD_eq_getElem?_getD -> Ad,length_cons -> Aj,append_nil -> Am,mem_cons -> BJ,getElem?_map -> BM,mem_cons_self -> BZ,eq_nil_of_length_eq_zero -> Bu,map_cons -> B3,drop_eq_getElem_cons -> B4,length_nil -> CA,getElem?_cons_succ -> CK,drop_zero -> CO,getElem?_append_right -> CY,range -> Cj,nil_append -> Cy,getElem?_drop -> DC,drop_eq_nil_of_le -> DD,getElem_mem -> DK,getElem?_append_left -> Dl,mem_cons_of_mem -> ED,getElem?_eq_some_iff -> Eo,getElem?_take -> Ey,all_eq_true -> E0,mem_map -> FA,mem_append -> Fe,length_take -> IM,drop_drop -> IP,mem_singleton -> JN,mem_range -> MC,take_length -> M8,getElem?_range -> ON,map_append -> PN,forall_mem_cons -> cD
open Option renaming some -> AP,map_eq_some_iff -> Aq
open BitVec renaming ofInt -> BU,toNat_or -> PR,toNat_and -> Yj
set_option linter.all false
namespace Go.Og
noncomputable section
mutual
def V.rn (ρ:Nat->Nat):V->V
 | .ptr b o => .ptr (ρ b) o
 | .sl b o n c => .sl (ρ b) o n c
 | .sle b o k e => .sle (ρ b) o k e
 | .mp b => .mp (ρ b)
 | .fn f a c => .fn f (SB ρ a) (SB ρ c)
 | .ifc t v => .ifc t (V.rn ρ v)
 | .agg l => .agg (SB ρ l)
 | .tup l => .tup (SB ρ l)
 | v=>v
def SB (ρ:Nat->Nat):List V->List V
 | []=>[]
 | v::l=>V.rn ρ v::SB ρ l
end
mutual
def V.inn (p:Nat->Bool):V->Bool
 | .dead=>false
 | .ptr b _=>p b
 | .sl b _ _ _=>p b
 | .sle b _ _ _=>p b
 | .mp b=>p b
 | .fn _ a c=>Jy p a&&Jy p c
 | .ifc _ v=>V.inn p v
 | .agg l=>Jy p l
 | .tup l=>Jy p l
 | _=>true
def Jy (p:Nat->Bool):List V->Bool
 | []=>true
 | v::l=>V.inn p v&&Jy p l
end
section
variable {R S:Cz} {p:Nat->Bool} {ρ:Nat->Nat}
mutual
theorem I1 (h:∀b,p b=true->S (ρ b)=R b):∀v:V,V.inn p v=true->Au S (V.rn ρ v)=Au R v
 | .dead,hc=>by simp[V.inn]at hc
 | .ptr b o,hc=>by
  simp only[V.inn]at hc
  simp only[V.rn,Au,h b hc]
 | .sl b o n (.ex c),hc=>by
  simp only[V.inn]at hc
  simp only[V.rn,Au,h b hc]
 | .sl b o n (.op c),hc=>by
  simp only[V.inn]at hc
  simp only[V.rn,Au,h b hc]
 | .sle b o k e,hc=>by
  simp only[V.inn]at hc
  simp only[V.rn,Au,h b hc]
 | .mp b,hc=>by
  simp only[V.inn]at hc
  simp only[V.rn,Au,h b hc]
 | .bool _,_=>rfl
 | .int _ _,_=>rfl
 | .str _,_=>rfl
 | .nilp,_=>rfl
 | .nils,_=>rfl
 | .nilm,_=>rfl
 | .nilf,_=>rfl
 | .nili,_=>rfl
 | .fn f a c,hc=>by
  simp only[V.inn,AK]at hc
  simp only[V.rn,Au,Ii h a hc.1,Ii h c hc.2]
 | .ifc t v,hc=>by
  simp only[V.inn]at hc
  simp only[V.rn,Au,I1 h v hc]
 | .agg l,hc=>by
  simp only[V.inn]at hc
  simp only[V.rn,Au,Ii h l hc]
 | .tup l,hc=>by
  simp only[V.inn]at hc
  simp only[V.rn,Au,Ii h l hc]
theorem Ii (h:∀b,p b=true->S (ρ b)=R b):∀l:List V,Jy p l=true->A5 S (SB ρ l)=A5 R l
 | [],_=>rfl
 | v::l,hc=>by
  simp only[Jy,AK]at hc
  simp only[SB,A5,I1 h v hc.1,Ii h l hc.2]
end
theorem TO:∀(l:List V) (k:Nat),(SB ρ l)[k]? = (l[k]?).map (V.rn ρ)
 | [],k=>by simp[SB]
 | v::l,0=>by simp[SB]
 | v::l,k+1=>by simpa[SB]using TO l k
theorem LW:∀(l:List V),(SB ρ l).length=l.length
 | []=>rfl
 | v::l=>by simp[SB,LW l]
theorem QJ:∀{l:List V} {k:Nat} {v:V},Jy p l=true->l[k]? = some v->V.inn p v=true
 | [],k,v,_,h=>by simp at h
 | u::l,0,v,hc,h=>by
  simp only[Jy,AK]at hc
  simp at h;subst h;exact hc.1
 | u::l,k+1,v,hc,h=>by
  simp only[Jy,AK]at hc
  exact QJ hc.2 (by simpa using h)
def te (ρ:Nat->Nat):List (V × V)->List (V × V)
 | []=>[]
 | q::l=>(V.rn ρ q.1,V.rn ρ q.2)::te ρ l
def aR (p:Nat->Bool):List (V × V)->Bool
 | []=>true
 | q::l=>V.inn p q.1&&V.inn p q.2&&aR p l
def GL.rn (ρ:Nat->Nat):GL->GL
 | .cells l => .cells (SB ρ l)
 | .map l => .map (te ρ l)
 | .siter s q => .siter s q
 | .unit t => .unit t
def GL.inn (p:Nat->Bool):GL->Bool
 | .cells l=>Jy p l
 | .map l=>aR p l
 | .siter _ _=>true
 | .unit _=>true
theorem C3.rn (h:∀b,p b=true->S (ρ b)=R b):∀{l:List (V × V)} {es:List MapEntry},aR p l=true->(C3 S (te ρ l) es↔C3 R l es)
 | [],[],_=>Iff.rfl
 | (a,b)::l,e::es,hc=>by
  simp only[aR,AK]at hc
  simp only[te,C3,I1 h a hc.1.1,I1 h b hc.1.2,C3.rn h hc.2]
 | [],_::_,_=>Iff.rfl
 | _::_,[],_=>Iff.rfl
theorem Hu.rn (h:∀b,p b=true->S (ρ b)=R b) {s:Nat} {l:List V} {arr:Array Value} (hc:Jy p l=true):Hu S s (SB ρ l) arr↔Hu R s l arr:=by
 constructor
 ·intro hh k v hk
  obtain⟨a,ha,h1,h2⟩:=hh k (V.rn ρ v) (by rw[TO,hk];rfl)
  exact⟨a,(I1 h v (QJ hc hk)).symm.trans ha,h1,h2⟩
 ·intro hh k v hk
  rw[TO,Aq]at hk
  obtain⟨u,hu,rfl⟩:=hk
  obtain⟨a,ha,h1,h2⟩:=hh k u hu
  exact⟨a,(I1 h u (QJ hc hu)).trans ha,h1,h2⟩
theorem FD.rn (h:∀b,p b=true->S (ρ b)=R b) {i:BI} {b:GL} {w:World} (hc:b.inn p=true):FD S i (b.rn ρ) w↔FD R i b w:=by
 cases b with
 | cells l=>
  have e:=@Hu.rn R S p ρ h i.shift l
  constructor
  ·rintro⟨arr,el,lo,hi,h1,h2,h3,h4,h5⟩
   exact⟨arr,el,lo,hi,h1,(e hc).1 h2,h3,by rw[LW]at h4;exact h4,h5⟩
  ·rintro⟨arr,el,lo,hi,h1,h2,h3,h4,h5⟩
   exact⟨arr,el,lo,hi,h1,(e hc).2 h2,h3,by rw[LW];exact h4,h5⟩
 | map l=>
  constructor
  ·rintro⟨es,clock,h1,h2⟩
   exact⟨es,clock,h1,(C3.rn h hc).1 h2⟩
  ·rintro⟨es,clock,h1,h2⟩
   exact⟨es,clock,h1,(C3.rn h hc).2 h2⟩
 | siter s q=>exact Iff.rfl
 | unit t=>exact Iff.rfl
end
structure Eh where
 n0:Nat
 args:List V
 bl0:EB
 v:V
 n1:Nat
 bl1:EB
def Dv (l:EB) (b:Nat):Bool:=match Ba l b with
 | some _=>true
 | none=>false
def Qi (l:EB) (q:Nat->Bool):Bool:=l.all fun x=>q x.1
def ZQ (l:EB) (q:Nat->Bool):Bool:=l.all fun x=>x.2.inn q
def Eh.right (ng:Nat) (F:List V->H->AH) (e:Eh):Bool:=match F e.args ⟨e.n0,e.bl0⟩with
 | some (v,J)=>V.beq v e.v&&(aS e.bl1 J.bl&&(Ax J.next e.n1&&(A0 e.n0 e.n1&&(A0 ng e.n0&&(Qi e.bl0 (fun b=>A0 ng b&&DQ b e.n0)&&(ZQ e.bl0 (Dv e.bl0)&&(Jy (Dv e.bl0) e.args &&
   (Qi e.bl1 (fun b=>A0 e.n0 b || Dv e.bl0 b)&&(ZQ e.bl1 (Dv e.bl1)&&V.inn (Dv e.bl1) e.v)))))))))
 | none=>false
def Eh.to (e:Eh) (ρ:Nat->Nat) (J:H) (id:Nat):Nat:=if id<e.n0 then ρ id else id-e.n0+J.next
def MJ (ρ:Nat->Nat) (l:EB):EB:=l.map fun x=>(ρ x.1,x.2.rn ρ)
def Eh.old (e:Eh) (ρ:Nat->Nat) (id:Nat):Bool:=e.bl0.any fun x=>Ax (ρ x.1) id
def Eh.ans (e:Eh) (ρ:Nat->Nat) (J:H):V × H:=(e.v.rn (e.to ρ J),⟨J.next+(e.n1-e.n0),MJ (e.to ρ J) e.bl1++J.bl.filter fun x=>!e.old ρ x.1⟩)
structure Eh.Fits (e:Eh) (ρ:Nat->Nat) (args:List V) (J:H):Prop where
 args:args=SB ρ e.args
 bl:∀id b,look e.bl0 id=some b->look J.bl (ρ id)=some (b.rn ρ)
 inj:∀id id',Dv e.bl0 id=true->Dv e.bl0 id'=true->ρ id=ρ id'->id=id'
theorem DJ {l:EB} {b:Nat}:Dv l b=true↔∃c,look l b=some c:=by
 unfold Dv;rw[BK]
 cases look l b<;>simp
theorem H5 {l:EB} {q:Nat->Bool} (h:Qi l q=true) {id:Nat} {b:GL} (hb:look l id=some b):q id=true:=by
 have:=E0.1 h (id,b) (Gx hb)
 exact this
theorem Qj {l:EB} {q:Nat->Bool} (h:ZQ l q=true) {id:Nat} {b:GL} (hb:look l id=some b):b.inn q=true:=by
 have:=E0.1 h (id,b) (Gx hb)
 exact this
theorem Km {ρ:Nat->Nat}:∀{l:EB} {id:Nat} {b:GL},look (MJ ρ l) id=some b->∃k c,(k,c)∈l/\id=ρ k/\b=c.rn ρ
 | [],id,b,h=>by cases h
 | (k,c)::l,id,b,h=>by
  simp only[MJ,B3,look]at h
  split at h
  ·rename_i he
   have he:=BO he
   simp only[AP.injEq]at h
   exact⟨k,c,BZ,he.symm,h.symm⟩
  ·obtain⟨k',c',h1,h2,h3⟩:=Km (l:=l) h
   exact⟨k',c',ED _ h1,h2,h3⟩
theorem Gy {q:Nat->Bool}:∀(l:EB) (id:Nat),look (l.filter fun x=>q x.1) id=if q id=true then look l id else none
 | [],id=>by simp[look]
 | (k,c)::l,id=>by
  by_cases hq:q k=true
  ·rw[List.filter_cons_of_pos (by exact hq)]
   simp only[look,Gy l id]
   by_cases hk:Ax k id=true
   ·have:=BO hk;subst this
    simp[hq]
   ·simp[hk]
  ·rw[List.filter_cons_of_neg (by exact hq),Gy l id]
   simp only[look]
   by_cases hk:Ax k id=true
   ·have:=BO hk;subst this
    simp[hq]
   ·simp[hk]
theorem TX {e:Eh} {ρ:Nat->Nat} {id:Nat}:e.old ρ id=true↔∃k c,(k,c)∈e.bl0/\ρ k=id:=by
 unfold Eh.old
 rw[List.any_eq_true]
 constructor
 ·rintro⟨⟨k,c⟩,h1,h2⟩;exact⟨k,c,h1,BO h2⟩
 ·rintro⟨k,c,h1,h2⟩;exact⟨(k,c),h1,by subst h2;exact Nat.beq_refl _⟩
theorem Hm:∀{l:EB} {k:Nat} {c:GL},(k,c)∈l->∃d,look l k=some d
 | (j,d)::l,k,c,h=>by
  simp only[look]
  by_cases hk:Ax j k=true
  ·exact⟨d,by simp[hk]⟩
  ·simp only[hk]
   rcases BJ.1 h with h|h
   ·cases h;exact(hk (Nat.beq_refl _)).elim
   ·simpa using Hm h
theorem uF {P:Program} {G:Nat->Bool} {f:FuncId} {F:List V->H->AH} (hS:Cb P [] G f F) {ng:Nat} (hG:∀g,G g=true->g<ng) {e:Eh} (h:e.right ng F=true)
  {C:Cx} (hGC:C.G=G) {R:Cz} {J:H} {w:World} {args:List V} {xs:List Value} {ρ:Nat->Nat} (hm:e.Fits ρ args J) (hrel:Ds C R J w) (hxs:A5 R args=some xs) :
  I6 P f=true/\Calls P f xs.toArray w fun en w'=>∃R' x,G8 J.next R R'/\J.next<=(e.ans ρ J).2.next/\Ds C R' (e.ans ρ J).2 w'/\Au R' (e.ans ρ J).1=some x/\en = .returned x:=by
 unfold Eh.right at h
 cases hr:F e.args ⟨e.n0,e.bl0⟩with
 | none=>rw[hr]at h;cases h
 | some q=>
  obtain⟨v,J1⟩:=q
  rw[hr]at h
  simp only[AK,BC]at h
  obtain⟨hv,hin,hnx,hn01,hng,hi0,hb0,ha0,hi1,hb1,hv1⟩:=h
  have hv:=NX _ _ hv
  subst hv
  have hin:=O1 hin
  have hnx:=BO hnx
  let R0:Cz:=fun id=>match Dv e.bl0 id with
   | true=>R (ρ id)
   | false=>if id<ng then some ⟨id,0,0⟩else none
  have hR0:∀b,Dv e.bl0 b=true->R (ρ b)=R0 b:=fun b hb=>by
   show R (ρ b)=(match Dv e.bl0 b with | true=>R (ρ b) | false=>_)
   rw[hb]
  have hlt0:∀{id b},look e.bl0 id=some b->ng<=id/\id<e.n0:=fun hb=>by
   have:=H5 hi0 hb
   simpa[C1]using this
  have hxs0:A5 R0 e.args=some xs:=by
   rw[hm.args,Ii hR0 _ ha0]at hxs;exact hxs
  have own0:∀id b,look e.bl0 id=some b->∃i,R (ρ id)=some i/\R0 id=some i/\C.O i.blk/\FD R0 i b w:=fun id b hb=>by
   obtain⟨i,hi,hO,hok⟩:=hrel.own _ _ (hm.bl id b hb)
   exact⟨i,hi,(hR0 id (DJ.2 ⟨_,hb⟩)).symm.trans hi,hO,(FD.rn hR0 (Qj hb0 hb)).1 hok⟩
  let O0:Nat->Prop:=fun blk=>(∃id b i,look e.bl0 id=some b/\R (ρ id)=some i/\i.blk=blk)\/w.heap.size<=blk
  have hrel0:Ds ⟨O0,w,[],G⟩ R0 ⟨e.n0,e.bl0⟩ w:=by
   refine⟨?_,?_,?_,fun id b hb=>by simp[look]at hb,?_,fun _ _=>rfl,AN _,fun blk hb => .inr hb,rfl,rfl,rfl⟩
   ·intro id hid
    have hid':e.n0<=id:=hid
    have hd:Dv e.bl0 id=false:=by
     cases hc:Dv e.bl0 id with
     | false=>rfl
     | true=>
      obtain⟨b,hb⟩:=DJ.1 hc
      have:=(hlt0 hb).2;omega
    show (match Dv e.bl0 id with | true=>R (ρ id) | false=>_)=none
    rw[hd]
    exact if_neg (by omega)
   ·intro id b hb
    obtain⟨i,hi,hi0',_,hok⟩:=own0 id b hb
    exact⟨i,hi0',.inl ⟨id,b,i,hb,hi,rfl⟩,hok⟩
   ·intro id id' b b' i i' hb hb' hi hi' hbl
    obtain⟨j,hj,hj0,_,_⟩:=own0 id b hb
    obtain⟨j',hj',hj0',_,_⟩:=own0 id' b' hb'
    rw[hj0]at hi;cases hi
    rw[hj0']at hi';cases hi'
    exact hm.inj id id' (DJ.2 ⟨_,hb⟩) (DJ.2 ⟨_,hb'⟩) (hrel.inj _ _ _ _ _ _ (hm.bl _ _ hb) (hm.bl _ _ hb') hj hj' hbl)
   ·intro g hg
    have hgn:=hG g hg
    refine⟨⟨g,0,0⟩,?_,rfl,rfl⟩
    have hd:Dv e.bl0 g=false:=by
     cases hc:Dv e.bl0 g with
     | false=>rfl
     | true=>
      obtain⟨b,hb⟩:=DJ.1 hc
      have:=(hlt0 hb).1;omega
    show (match Dv e.bl0 g with | true=>R (ρ g) | false=>_)=_
    rw[hd]
    exact if_pos hgn
  obtain⟨hok,hc⟩:=hS ⟨O0,w,[],G⟩ rfl rfl R0 ⟨e.n0,e.bl0⟩ w e.args xs _ J1 hr hrel0 hxs0
  refine⟨hok,hc.mono ?_⟩
  rintro en w' ⟨R1,x,hE1,_,h3,h4,rfl⟩
  have hE1:∀id,id<e.n0->R1 id=R0 id:=hE1
  have keep:∀blk,¬O0 blk->w'.heap[blk]? = w.heap[blk]? := fun blk hb=>h3.fr blk hb
  let R':Cz:=fun id=>if id<J.next then R id else R1 (id-J.next+e.n0)
  have hext:G8 J.next R R':=fun id hid=>by show (if id<J.next then _ else _)=_;rw[if_pos hid]
  have hle:Le R R':=hext.le hrel.fresh
  have hto:∀b,Dv e.bl1 b=true->R' (e.to ρ J b)=R1 b:=fun b hb=>by
   obtain⟨c,hc1⟩:=DJ.1 hb
   have hid:=H5 hi1 hc1
   unfold Eh.to
   by_cases hl:b<e.n0
   ·rw[if_pos hl]
    have hd:Dv e.bl0 b=true:=by
     simp only[CB,BC]at hid
     rcases hid with h|h
     ·omega
     ·exact h
    obtain⟨c0,hc0⟩:=DJ.1 hd
    have hlt:=hrel.next_of_own (hm.bl b c0 hc0)
    rw[hext _ hlt,hE1 b hl,hR0 b hd]
   ·rw[if_neg hl]
    show (if b-e.n0+J.next<J.next then _ else R1 (b-e.n0+J.next-J.next+e.n0))=_
    rw[if_neg (by omega)]
    congr 1;omega
  have hnew:∀{id b},look (MJ (e.to ρ J) e.bl1) id=some b->∃k c i,id=e.to ρ J k/\look J1.bl k=some c/\R1 k=some i/\R' id=some i/\O0 i.blk/\C.O i.blk/\FD R' i b w':=fun {id b} hb=>by
   obtain⟨k,c,hk,rfl,rfl⟩:=Km hb
   have hl1:=hin (k,c) hk
   obtain⟨d,hd⟩:=Hm hk
   have hdb:Dv e.bl1 k=true:=DJ.2 ⟨_,hd⟩
   obtain⟨i,hi,hO,hok'⟩:=h3.own k c hl1
   have hcin:c.inn (Dv e.bl1)=true:=E0.1 hb1 (k,c) hk
   refine⟨k,c,i,rfl,hl1,hi,(hto k hdb).trans hi,hO,?_,(FD.rn hto hcin).2 hok'⟩
   rcases hO with ⟨id',b',i',hb',hi',heq⟩|hO
   ·obtain⟨j,hj,_,hOj,_⟩:=own0 id' b' hb'
    rw[hj]at hi';cases hi'
    rw[<-heq];exact hOj
   ·exact hrel.new _ (Ae hrel.size hO)
  have hrest:∀{id b},look (J.bl.filter fun x=>!e.old ρ x.1) id=some b->id<J.next/\look J.bl id=some b/\e.old ρ id=false:=fun {id b} hb=>by
   rw[Gy (q:=fun k=>!e.old ρ k)]at hb
   split at hb
   ·rename_i hq
    exact⟨hrel.next_of_own hb,hb,by simpa using hq⟩
   ·cases hb
  have hkeep:∀{id b i},look J.bl id=some b->e.old ρ id=false->R id=some i->¬O0 i.blk:=fun {id b i} hb ho hi hO=>by
   obtain⟨j,hj,_,hok'⟩:=hrel.own id b hb
   rw[hi]at hj;cases hj
   rcases hO with ⟨id',b',i',hb',hi',heq⟩|hO
   ·have:=hrel.inj _ _ _ _ _ _ hb (hm.bl id' b' hb') hi hi' heq.symm
    have:e.old ρ id=true:=TX.2 ⟨id',b',Gx hb',this.symm⟩
    rw[this]at ho;cases ho
   ·have:=hok'.lt;omega
  have hsplit:∀{id b},look (MJ (e.to ρ J) e.bl1++J.bl.filter fun x=>!e.old ρ x.1) id=some b->look (MJ (e.to ρ J) e.bl1) id=some b\/(id<J.next/\look J.bl id=some b/\e.old ρ id=false):=fun {id b} hb=>by
   rw[Ib]at hb
   cases hs:look (MJ (e.to ρ J) e.bl1) id with
   | some c=>rw[hs]at hb;exact .inl hb
   | none=>rw[hs]at hb;exact .inr (hrest hb)
  refine⟨R',x,hext,M7 _ _,⟨?_,?_,?_,?_,?_,?_,Ae hrel.size h3.size,hrel.new,h3.os.trans hrel.os,h3.tape.trans hrel.tape,h3.output.trans hrel.output⟩,(I1 hto _ hv1).trans h4,rfl⟩
  ·intro id hid
   have hid':J.next+(e.n1-e.n0)<=id:=hid
   show (if id<J.next then _ else R1 (id-J.next+e.n0))=none
   rw[if_neg (by omega)]
   exact h3.fresh _ (by rw[hnx];omega)
  ·intro id b hb
   rcases hsplit hb with hb|⟨hl,hb,ho⟩
   ·obtain⟨k,c,i,_,_,_,hi,_,hO,hok'⟩:=hnew hb
    exact⟨i,hi,hO,hok'⟩
   ·obtain⟨i,hi,hO,hok'⟩:=hrel.own id b hb
    exact⟨i,hle _ _ hi,hO,hok'.mono hle (keep _ (hkeep hb ho hi))⟩
  ·intro id id' b b' i i' hb hb' hi hi' hbl
   have olds:∀{id b i},look J.bl id=some b->R' id=some i->R id=some i:=fun {id b i} hb hi=>by
    obtain⟨j,hj,_,_⟩:=hrel.own id b hb
    have:=hle _ _ hj
    rw[hi]at this;cases this
    exact hj
   rcases hsplit hb with hb|⟨hl,hb,ho⟩<;>rcases hsplit hb' with hb'|⟨hl',hb',ho'⟩
   ·obtain⟨k,c,j,h1,h5,h6,h7,_⟩:=hnew hb
    obtain⟨k',c',j',h1',h5',h6',h7',_⟩:=hnew hb'
    rw[h7]at hi;cases hi
    rw[h7']at hi';cases hi'
    have:=h3.inj k k' c c' _ _ h5 h5' h6 h6' hbl
    rw[h1,h1',this]
   ·obtain⟨k,c,j,h1,h5,h6,h7,h8,_⟩:=hnew hb
    rw[h7]at hi;cases hi
    have hR:=olds hb' hi'
    exact(hkeep hb' ho' hR (hbl ▸ h8)).elim
   ·obtain⟨k,c,j,h1,h5,h6,h7,h8,_⟩:=hnew hb'
    rw[h7]at hi';cases hi'
    have hR:=olds hb hi
    exact(hkeep hb ho hR (hbl ▸ h8)).elim
   ·exact hrel.inj id id' b b' i i' hb hb' (olds hb hi) (olds hb' hi') hbl
  ·intro id b hb
   obtain⟨i,hi,hO,hok'⟩:=hrel.ext id b hb
   refine⟨i,hle _ _ hi,hO,hok'.mono hle (keep _ ?_)⟩
   rintro(⟨id',b',i',hb',hi',heq⟩|hn)
   ·obtain⟨j,hj,_,hOj,_⟩:=own0 id' b' hb'
    rw[hj]at hi';cases hi'
    exact hO (heq ▸ hOj)
   ·have:=hok'.lt;omega
  ·intro g hg
   obtain⟨i,hi,hb⟩:=hrel.glob g hg
   exact⟨i,hle _ _ hi,hb⟩
  ·intro blk hn
   rw[<-hrel.fr blk hn]
   refine keep blk ?_
   rintro(⟨id',b',i',hb',hi',heq⟩|hn')
   ·obtain⟨j,hj,_,hOj,_⟩:=own0 id' b' hb'
    rw[hj]at hi';cases hi'
    exact hn (heq ▸ hOj)
   ·exact hn (hrel.new _ (Ae hrel.size hn'))
def NO (l:List Eh) (F:List V->H->AH):List V->H->AH:=fun args J=>by
 classical
 exact if h:∃q:Eh × (Nat->Nat),q.1∈l/\q.1.Fits q.2 args J then some ((Classical.choose h).1.ans (Classical.choose h).2 J)else F args J
theorem dh {l:List Eh} {F:List V->H->AH} {args:List V} {J:H} {e:Eh} {ρ:Nat->Nat} (he:e∈l) (hm:e.Fits ρ args J) :
  ∃e' ρ',e'∈l/\e'.Fits ρ' args J/\NO l F args J=some (e'.ans ρ' J):=by
 have h:∃q:Eh × (Nat->Nat),q.1∈l/\q.1.Fits q.2 args J:=⟨(e,ρ),he,hm⟩
 refine⟨(Classical.choose h).1,(Classical.choose h).2,(Classical.choose_spec h).1,(Classical.choose_spec h).2,?_⟩
 unfold NO
 exact dif_pos h
theorem mh {P:Program} {G:Nat->Bool} {f:FuncId} {F F':List V->H->AH} {E:EB} (hF:Cb P E G f F) (hF':Cb P [] G f F') {ng:Nat} (hG:∀g,G g=true->g<ng) {l:List Eh} (hl:∀e∈l,e.right ng F'=true):Cb P E G f (NO l F):=by
 intro C hE hGC R J w args xs v J' hr hrel hxs
 unfold NO at hr
 split at hr
 ·rename_i h
  simp only[AP.injEq]at hr
  have:=uF hF' hG (hl _ (Classical.choose_spec h).1) hGC (Classical.choose_spec h).2 hrel hxs
  rw[hr]at this
  exact this
 ·exact hF C hE hGC R J w args xs v J' hr hrel hxs
end
end Go.Og
namespace Go.Og
noncomputable section
def cF (l:EB) (ρ:Nat->Nat) (J:H):Prop:=∀id b,look l id=some b->Ba J.bl (ρ id)=some (b.rn ρ)
def xZ (l:EB) (ρ:Nat->Nat):Prop:=∀id id',Dv l id=true->Dv l id'=true->ρ id=ρ id'->id=id'
theorem Kt {e:Eh} {ρ:Nat->Nat} {args:List V} {J:H} (ha:args=SB ρ e.args) (hb:cF e.bl0 ρ J) (hi:xZ e.bl0 ρ):e.Fits ρ args J:=
 ⟨ha,fun id b h=>by rw[<-BK];exact hb id b h,hi⟩
def Eh.shape (e:Eh):Bool:=Qi e.bl0 (fun b=>DQ b e.n0)&&(Qi e.bl1 (fun b=>(A0 e.n0 b || Dv e.bl0 b)&&DQ b e.n1)&&A0 e.n0 e.n1)
section
variable {e:Eh} {ρ:Nat->Nat} {args:List V} {J:H}
theorem Eh.shape0 (h:e.shape=true) {id:Nat} (hd:Dv e.bl0 id=true):id<e.n0:=by
 unfold Eh.shape at h
 simp only[AK]at h
 obtain⟨c,hc⟩:=DJ.1 hd
 simpa[C1]using H5 h.1 hc
theorem Eh.shape1 (h:e.shape=true) {id:Nat} (hd:Dv e.bl1 id=true):id<e.n1/\(e.n0<=id\/Dv e.bl0 id=true):=by
 unfold Eh.shape at h
 simp only[AK]at h
 obtain⟨c,hc⟩:=DJ.1 hd
 have:=H5 h.2.1 hc
 simp only[AK,CB,BC,C1]at this
 exact⟨this.2,this.1⟩
theorem Eh.shapeN (h:e.shape=true):e.n0<=e.n1:=by
 unfold Eh.shape at h
 simp only[AK,BC]at h
 exact h.2.2
theorem Eh.Fits.lt (hm:e.Fits ρ args J) (ht:Af J) {id:Nat} (hd:Dv e.bl0 id=true):ρ id<J.next:=by
 obtain⟨c,hc⟩:=DJ.1 hd
 have h:=hm.bl id c hc
 rcases Al (ρ id) J.next with hl|hl
 ·exact hl
 ·have:=ht _ hl;rw[BK,h]at this;cases this
theorem Eh.to_inj (hs:e.shape=true) (hm:e.Fits ρ args J) (ht:Af J):xZ e.bl1 (e.to ρ J):=by
 intro id id' hd hd' h
 have h1:=(Eh.shape1 hs hd).2
 have h2:=(Eh.shape1 hs hd').2
 unfold Eh.to at h
 by_cases ha:id<e.n0
 ·have hda:Dv e.bl0 id=true:=by rcases h1 with h1 | h1;omega;exact h1
  by_cases hb:id'<e.n0
  ·have hdb:Dv e.bl0 id'=true:=by rcases h2 with h2 | h2;omega;exact h2
   rw[if_pos ha,if_pos hb]at h
   exact hm.inj _ _ hda hdb h
  ·rw[if_pos ha,if_neg hb]at h
   have:=hm.lt ht hda;omega
 ·by_cases hb:id'<e.n0
  ·have hdb:Dv e.bl0 id'=true:=by rcases h2 with h2 | h2;omega;exact h2
   rw[if_neg ha,if_pos hb]at h
   have:=hm.lt ht hdb;omega
  ·rw[if_neg ha,if_neg hb]at h;omega
theorem Y6 {l:EB} {τ:Nat->Nat} (hi:∀id id',Dv l id=true->Dv l id'=true->τ id=τ id'->id=id'):∀{m:EB} {id:Nat} {b:GL},(∀x∈m,Dv l x.1=true)->look m id=some b->look (MJ τ m) (τ id)=some (b.rn τ)
 | [],id,b,_,h=>by cases h
 | (k,c)::m,id,b,hm,h=>by
  simp only[look]at h
  simp only[MJ,B3,look]
  by_cases hk:Ax k id=true
  ·have:=BO hk;subst this
   rw[if_pos hk]at h
   cases h
   rw[if_pos (Nat.beq_refl _)]
  ·rw[if_neg hk]at h
   have hkd:Dv l k=true:=hm (k,c) BZ
   have hid:Dv l id=true:=hm (id,b) (ED _ (Gx h))
   rw[if_neg (fun hh=>hk (by have:=hi k id hkd hid (BO hh);subst this;exact Nat.beq_refl _))]
   exact Y6 hi (fun x hx=>hm x (ED _ hx)) h
theorem Eh.has (hs:e.shape=true) (hm:e.Fits ρ args J) (ht:Af J):cF e.bl1 (e.to ρ J) (e.ans ρ J).2:=by
 intro id b hb
 show Ba (MJ (e.to ρ J) e.bl1++J.bl.filter fun x=>!e.old ρ x.1) _=_
 rw[BK,Ib]
 rw[Y6 (l:=e.bl1) (Eh.to_inj hs hm ht) (fun x hx=>by
  obtain⟨d,hd⟩:=Hm (k:=x.1) (c:=x.2) hx
  exact DJ.2 ⟨_,hd⟩) hb]
theorem Eh.fr (hs:e.shape=true) (hm:e.Fits ρ args J) (ht:Af J):Fr (fun b=>e.old ρ b=true) J (e.ans ρ J).2:=by
 have hn:=Eh.shapeN hs
 refine⟨fun b hb=>?_,M7 _ _,fun b hb hS=>?_⟩
 ·have hb':J.next+(e.n1-e.n0)<=b:=hb
  show Ba (MJ (e.to ρ J) e.bl1++J.bl.filter fun x=>!e.old ρ x.1) b=none
  rw[BK,Ib]
  cases hc:look (MJ (e.to ρ J) e.bl1) b with
  | some c=>
   exfalso
   obtain⟨k,c',hk,he,_⟩:=Km hc
   obtain⟨d,hd⟩:=Hm hk
   have hkd:=Eh.shape1 hs (DJ.2 ⟨d,hd⟩)
   unfold Eh.to at he
   by_cases hl:k<e.n0
   ·rw[if_pos hl]at he
    have hda:Dv e.bl0 k=true:=by rcases hkd.2 with h | h;omega;exact h
    have:=hm.lt ht hda;omega
   ·rw[if_neg hl]at he
    have:=hkd.1;omega
  | none=>
   simp only[]
   rw[Gy (q:=fun k=>!e.old ρ k)]
   split
   ·rw[<-BK];exact ht b (by omega)
   ·rfl
 ·show Ba (MJ (e.to ρ J) e.bl1++J.bl.filter fun x=>!e.old ρ x.1) b=_
  rw[BK,Ib]
  cases hc:look (MJ (e.to ρ J) e.bl1) b with
  | some c=>
   exfalso
   obtain⟨k,c',hk,he,_⟩:=Km hc
   obtain⟨d,hd⟩:=Hm hk
   have hkd:=Eh.shape1 hs (DJ.2 ⟨d,hd⟩)
   unfold Eh.to at he
   by_cases hl:k<e.n0
   ·rw[if_pos hl]at he
    have hda:Dv e.bl0 k=true:=by rcases hkd.2 with h | h;omega;exact h
    obtain⟨c0,hc0⟩:=DJ.1 hda
    exact hS (TX.2 ⟨k,c0,Gx hc0,he.symm⟩)
   ·rw[if_neg hl]at he;omega
  | none=>
   simp only[]
   rw[Gy (q:=fun k=>!e.old ρ k),if_pos (by
    cases ho:e.old ρ b with
    | true=>exact(hS ho).elim
    | false=>rfl),BK]
theorem cF.fr {l:EB} {S:Nat->Prop} {J J':H} (h:cF l ρ J) (f:Fr S J J') (ht:Af J) (hS:∀id,Dv l id=true->¬S (ρ id)):cF l ρ J':=fun id b hb=>by
 have h1:=h id b hb
 have hlt:ρ id<J.next:=by
  rcases Al (ρ id) J.next with hl|hl
  ·exact hl
  ·have:=ht _ hl;rw[h1]at this;cases this
 rw[f.same _ hlt (hS id (DJ.2 ⟨_,hb⟩))]
 exact h1
theorem cF.lt {l:EB} {J:H} (h:cF l ρ J) (ht:Af J) {id:Nat} (hd:Dv l id=true):ρ id<J.next:=by
 obtain⟨c,hc⟩:=DJ.1 hd
 have h1:=h id c hc
 rcases Al (ρ id) J.next with hl|hl
 ·exact hl
 ·have:=ht _ hl;rw[h1]at this;cases this
end
end
end Go.Og
namespace Go.Og
noncomputable section
section
variable {p:Nat->Bool} {ρ τ:Nat->Nat}
mutual
theorem rn_congr (h:∀b,p b=true->ρ b=τ b):∀v:V,V.inn p v=true->V.rn ρ v=V.rn τ v
 | .dead,hc=>by simp[V.inn]at hc
 | .ptr b o,hc=>by simp only[V.inn]at hc;simp only[V.rn,h b hc]
 | .sl b o n c,hc=>by simp only[V.inn]at hc;simp only[V.rn,h b hc]
 | .sle b o k e,hc=>by simp only[V.inn]at hc;simp only[V.rn,h b hc]
 | .mp b,hc=>by simp only[V.inn]at hc;simp only[V.rn,h b hc]
 | .bool _,_=>rfl
 | .int _ _,_=>rfl
 | .str _,_=>rfl
 | .nilp,_=>rfl
 | .nils,_=>rfl
 | .nilm,_=>rfl
 | .nilf,_=>rfl
 | .nili,_=>rfl
 | .fn f a c,hc=>by
  simp only[V.inn,AK]at hc
  simp only[V.rn,HW h a hc.1,HW h c hc.2]
 | .ifc t v,hc=>by
  simp only[V.inn]at hc
  simp only[V.rn,rn_congr h v hc]
 | .agg l,hc=>by
  simp only[V.inn]at hc
  simp only[V.rn,HW h l hc]
 | .tup l,hc=>by
  simp only[V.inn]at hc
  simp only[V.rn,HW h l hc]
theorem HW (h:∀b,p b=true->ρ b=τ b):∀l:List V,Jy p l=true->SB ρ l=SB τ l
 | [],_=>rfl
 | v::l,hc=>by
  simp only[Jy,AK]at hc
  simp only[SB,rn_congr h v hc.1,HW h l hc.2]
end
theorem SC (h:∀b,p b=true->ρ b=τ b):∀l:List (V × V),aR p l=true->te ρ l=te τ l
 | [],_=>rfl
 | q::l,hc=>by
  simp only[aR,AK]at hc
  simp only[te,rn_congr h q.1 hc.1.1,rn_congr h q.2 hc.1.2,SC h l hc.2]
theorem GL.rn_congr (h:∀b,p b=true->ρ b=τ b) {b:GL} (hc:b.inn p=true):b.rn ρ=b.rn τ:=by
 cases b with
 | cells l=>exact congrArg GL.cells (HW h l hc)
 | map l=>exact congrArg GL.map (SC h l hc)
 | siter s q=>rfl
 | unit t=>rfl
end
def Eh.still (e:Eh):Bool:=aS e.bl0 e.bl1&&(ZQ e.bl0 (Dv e.bl0)&&aS e.bl0 e.bl0)
section
variable {e:Eh} {ρ:Nat->Nat} {args:List V} {J:H}
theorem Eh.fr0 (hs:e.shape=true) (hw:e.still=true) (hm:e.Fits ρ args J) (ht:Af J):Fr AJ J (e.ans ρ J).2:=by
 have f:=Eh.fr hs hm ht
 have hh:=Eh.has hs hm ht
 unfold Eh.still at hw
 simp only[AK]at hw
 obtain⟨h1,h2,h3⟩:=hw
 refine⟨f.tidy,f.le,fun b hb _=>?_⟩
 by_cases ho:e.old ρ b=true
 ·obtain⟨k,c,hk,rfl⟩:=TX.1 ho
  have l0:=O1 h3 (k,c) hk
  have l1:=O1 h1 (k,c) hk
  have hd:Dv e.bl0 k=true:=DJ.2 ⟨_,l0⟩
  have hlt:=Eh.shape0 hs hd
  have a1:=hh k c l1
  have et:e.to ρ J k=ρ k:=by unfold Eh.to;rw[if_pos hlt]
  rw[et]at a1
  rw[a1,BK,hm.bl k c l0]
  congr 1
  refine(GL.rn_congr (p:=Dv e.bl0) (fun b hb=>?_) (Qj h2 l0)).symm
  unfold Eh.to
  rw[if_pos (Eh.shape0 hs hb)]
 ·exact f.same b hb ho
end
end
end Go.Og
namespace Go.Og
noncomputable section
section
variable {E:EB} {J J':H} {b b':Nat} {l m:List V}
theorem AY {U:V->AH} {o:Nat} (h:B8 J b l):BL E J b o U=JZ l o U:=TP h
theorem BT {U:List V->AH} {o n:Nat} (h:B8 J b l):BQ E J b o n U=Gs l o n U:=TP h
theorem Kj {a:V} {U:V->AH}:JZ (a::l) 0 U=U a:=rfl
theorem Kk {a:V} {n:Nat} {U:V->AH}:JZ (a::l) (n+1) U=JZ l n U:=rfl
theorem WR {a b:V} {U:List V->AH}:Gs [a,b] 0 2 U=U [a,b]:=rfl
theorem WQ {a b c d:V} {U:List V->AH}:Gs [a,b,c,d] 0 4 U=U [a,b,c,d]:=rfl
theorem WO {a b c d e:V} {U:List V->AH}:Gs [a,b,c,d,e] 0 4 U=U [a,b,c,d]:=rfl
theorem WN {a b c d e f:V} {U:List V->AH}:Gs [a,b,c,d,e,f] 0 6 U=U [a,b,c,d,e,f]:=rfl
theorem TI {a b c d e f g h i j k l m:V} {U:List V->AH}:Gs [a,b,c,d,e,f,g,h,i,j,k,l,m] 0 13 U=U [a,b,c,d,e,f,g,h,i,j,k,l,m]:=rfl
theorem PY {a b c d e f g h i j k l m:V} {U:List V->AH}:Gs [a,b,c,d,e,f,g,h,i,j,k,l,m] 2 6 U=U [c,d,e,f,g,h]:=rfl
theorem E8 (l:List V):(V.agg l).cells=l:=rfl
theorem Hb (k:IntKind) (n:Int):(V.int k n).cells=[.int k n]:=rfl
theorem NU (b o:Nat):(V.ptr b o).cells=[.ptr b o]:=rfl
theorem Bd (v:V) (l:List V):allOne (v::l)=(v.one&&allOne l):=rfl
theorem Bo:allOne []=true:=rfl
theorem DN (k:IntKind) (n:Int):(V.int k n).one=true:=rfl
theorem Gu (c:Bool):(V.bool c).one=true:=rfl
theorem Iu (s:BS):(V.str s).one=true:=rfl
theorem Px:V.nils.one=true:=rfl
theorem TV (b o n:Nat) (c:Zy):(V.sl b o n c).one=true:=rfl
theorem MV (b o:Nat):(V.ptr b o).one=true:=rfl
theorem fB (a:AH):IT true a=a:=rfl
theorem LV {a:AH}:Cm .nils a=a:=rfl
theorem Pj {b o:Nat} {a:AH}:Cm (.ptr b o) a=a:=rfl
theorem CM {v:V} {a:AH} (h:v.one=true):Cm v a=a:=by cases v<;>first | rfl | cases h
theorem LR {U:Nat->AH}:BA .nils U=U 0:=rfl
theorem Pf {b o n:Nat} {c:Zy} {U:Nat->AH}:BA (.sl b o n c) U=U n:=rfl
theorem HJ {n:Nat} {U:Nat->AH}:Pz (AA n) U=U n:=rfl
theorem Sb {c:Bool} {a b:AH} (h:c=true):AS c a b=a:=by rw[h];rfl
theorem bF {c:Bool} {a b:AH} (h:c=false):AS c a b=b:=by rw[h];rfl
theorem ue {c:Bool} {a:AH} (h:c=true):IT c a=a:=by rw[h];rfl
theorem Td (f:Bool->H->AH) (c d:Bool) (J:H):BR f (fun k=>AS c (k true J) (k d J))=f (c || d) J:=by cases c<;>rfl
theorem QI (f:Bool->H->AH) (c d:Bool) (J:H):BR f (fun k=>AS c (k d J) (k false J))=f (c&&d) J:=by cases c<;>rfl
theorem Te (f:Bool->H->AH) (c:Bool) (J:H):BR f (fun k=>k c J)=f c J:=rfl
def EY (J:H) (esz n:Nat) (x:V) (m:List V):Prop:=(n=0/\x = .nils/\m=[])\/∃b o c L,x = .sl b o n c/\B8 J b L/\o+n*esz<=L.length/\m=(L.drop o).take (n*esz)
def GH (J:H) (esz k:Nat) (v:V) (l:List V):Prop:=Sl J esz k v l\/∃b,v = .sl b 0 k (.ex k)/\B8 J b l/\l.length=k*esz
theorem EY.one {esz n:Nat} {x:V} (h:EY J esz n x m):x.one=true:=by
 rcases h with ⟨_,rfl,_⟩|⟨_,_,_,_,rfl,_⟩<;>rfl
theorem EY.slen {esz n:Nat} {x:V} {U:Nat->AH} (h:EY J esz n x m):BA x U=U n:=by
 rcases h with ⟨rfl,rfl,_⟩|⟨_,_,_,_,rfl,_⟩<;>rfl
theorem EY.length {esz n:Nat} {x:V} (h:EY J esz n x m):m.length=n*esz:=by
 rcases h with ⟨rfl,_,rfl⟩|⟨_,o,_,L,_,_,h,rfl⟩
 ·simp
 ·simp only[IM,List.length_drop];omega
theorem EY.srcK {esz n:Nat} {x:V} {U:Nat->List V->AH} (h:EY J esz n x m):srcK E J esz x U=U n m:=by
 rcases h with ⟨rfl,rfl,rfl⟩|⟨b,o,c,L,rfl,ha,hl,rfl⟩
 ·rfl
 ·exact lp ha hl
theorem EY.cells {esz n:Nat} {x:V} (h:EY J esz n x m):Ch E J esz x=some (n,m):=by
 rcases h with ⟨rfl,rfl,rfl⟩|⟨b,o,c,L,rfl,ha,hl,rfl⟩
 ·rfl
 ·show (NA E J b o (n*esz)).map _=_
  unfold NA rd
  rw[<-BK,show Ba J.bl b=some (.cells L)from ha]
  simp only[]
  rw[show A0 (o+n*esz) L.length=true from QX hl]
  rfl
theorem EY.fr {S:Nat->Prop} {esz n:Nat} {x:V} (h:EY J esz n x m) (f:Fr S J J') (ht:Af J) (hn:∀b,Ai x b->¬S b):EY J' esz n x m:=by
 rcases h with h|⟨b,o,c,L,rfl,ha,hl,rfl⟩
 ·exact .inl h
 ·exact .inr ⟨b,o,c,L,rfl,f.at_ ha ht (hn b rfl),hl,rfl⟩
theorem EY.lt {esz n:Nat} {x:V} (h:EY J esz n x m) (ht:Af J) (hb:Ai x b):b<J.next:=by
 rcases h with ⟨_,rfl,_⟩|⟨_,_,_,_,rfl,ha,_⟩
 ·exact hb.elim
 ·cases hb;exact ha.lt ht
theorem GH.nil (J:H) (esz:Nat):GH J esz 0 .nils [] := .inl (Sl.nil J esz)
theorem GH.length {esz k:Nat} {v:V} (h:GH J esz k v l):l.length=k*esz:=by
 rcases h with h|⟨_,_,_,h⟩
 ·exact h.length
 ·exact h
theorem GH.one {esz k:Nat} {v:V} (h:GH J esz k v l):v.one=true:=by
 rcases h with h|⟨_,rfl,_⟩
 ·exact h.one
 ·rfl
theorem GH.slen {esz k:Nat} {v:V} {U:Nat->AH} (h:GH J esz k v l):BA v U=U k:=by
 rcases h with h|⟨_,rfl,_⟩
 ·exact h.slen
 ·rfl
theorem GH.lt {esz k:Nat} {v:V} (h:GH J esz k v l) (ht:Af J) (hb:Ai v b):b<J.next:=by
 rcases h with h|⟨_,rfl,ha,_⟩
 ·exact h.lt ht hb
 ·cases hb;exact ha.lt ht
theorem GH.fr {S:Nat->Prop} {esz k:Nat} {v:V} (h:GH J esz k v l) (f:Fr S J J') (ht:Af J) (hn:∀b,Ai v b->¬S b):GH J' esz k v l:=by
 rcases h with h|⟨b,rfl,ha,hl⟩
 ·exact .inl (h.fr f ht hn)
 ·exact .inr ⟨b,rfl,f.at_ ha ht (hn b rfl),hl⟩
theorem GH.src {esz k:Nat} {v:V} (h:GH J esz k v l):EY J esz k v l:=by
 rcases h with (⟨rfl,rfl,rfl⟩|⟨b,rfl,ha,_,hl⟩)|⟨b,rfl,ha,hl⟩
 ·exact .inl ⟨rfl,rfl,rfl⟩
 ·exact .inr ⟨b,0,_,l,rfl,ha,by omega,by rw[CO,<-hl,M8]⟩
 ·exact .inr ⟨b,0,_,l,rfl,ha,by omega,by rw[CO,<-hl,M8]⟩
def NB (v:V) (n:Nat):Prop:=v.one=true/\∀U:Nat->AH,BA v U=U n
theorem NB.nils:NB .nils 0:=⟨rfl,fun _=>rfl⟩
theorem NB.sl {b o n:Nat} {c:Zy}:NB (.sl b o n c) n:=⟨rfl,fun _=>rfl⟩
theorem bL {esz bytes k:Nat} {v x:V} {U:V->H->AH} (h:GH J esz k v l) (hs:∀U:Nat->List V->AH,srcK E J esz x U=U 0 m) (hc:Ch E J esz x=some (0,m)):Ee E esz bytes v x J U=U v J:=by
 unfold Ee
 rw[hs]
 rcases h with (⟨rfl,rfl,rfl⟩|⟨b,rfl,ha,_,hl⟩)|⟨b,rfl,ha,hl⟩
 ·show AW (EE E esz bytes .nils x J) U=_
  unfold EE;rw[hc];rfl
 ·rfl
 ·show AW (EE E esz bytes (.sl b 0 k (.ex k)) x J) U=_
  unfold EE;rw[hc]
  simp only[]
  rw[if_pos (show A0 (k+0) k=true from QX (AN _))]
  rfl
theorem Sf {esz bytes k n:Nat} {v x:V} (h:GH J esz k v l) (ht:Af J) (hs:∀U:Nat->List V->AH,srcK E J esz x U=U n m) (hc:Ch E J esz x=some (n,m)) (hn:0<n) (ho:allOne m=true) (hg:CV (k+n) bytes=true) :
  ∃J',(∀U:V->H->AH,Ee E esz bytes v x J U=U (.sl J.next 0 (k+n) (.op esz)) J')/\B8 J' J.next (l++m)/\J'.next=J.next+1/\Fr (Ai v) J J':=by
 obtain⟨n',rfl⟩:∃q,n=q+1:=⟨n-1,by omega⟩
 rcases h with (⟨rfl,rfl,rfl⟩|⟨b,rfl,ha,hk,hl⟩)|⟨b,rfl,ha,hl⟩
 ·refine⟨DR J (.cells m),fun U=>?_,by rw[Cy];exact Rc m,rfl,Fr.new ht _⟩
  unfold Ee
  rw[hs]
  show AW (EE E esz bytes .nils x J) U=_
  unfold EE;rw[hc]
  simp only[]
  rw[CJ]at hg ⊢
  rw[if_neg (by omega),if_pos hg]
  rfl
 ·refine⟨⟨J.next+1,(J.next,.cells (l++m))::drop J.bl b⟩,fun U=>?_,?_,rfl,?_⟩
  ·unfold Ee
   rw[hs]
   show (match Ba J.bl b with
    | some (.cells l)=>IT (Ax l.length (k*esz)&&Ax esz esz&&CV (k+(n'+1)) bytes&&allOne m) (Ti J.bl b fun bl'=>U (.sl J.next 0 (k+(n'+1)) (.op esz)) ⟨J.next+1,(J.next,.cells (l++m))::bl'⟩)
    | _=>none)=_
   rw[show Ba J.bl b=some (.cells l)from ha]
   simp only[]
   rw[DU (by rw[hg,ho,hl];simp),SR]
  ·show Ba ((J.next,GL.cells (l++m))::_) _=_
   rw[BH,if_pos rfl]
  ·refine⟨fun k' hk'=>?_,Ec _,fun k' hk' hn=>?_⟩
   ·have hk2:J.next+1<=k':=hk'
    show Ba ((J.next,_)::drop J.bl b) k'=none
    rw[BH,if_neg (by simp only[];omega),QB]
    split
    ·rfl
    ·exact ht k' (by omega)
   ·show Ba ((J.next,_)::drop J.bl b) k'=_
    rw[BH,if_neg (by simp only[];omega),QB,if_neg]
    intro hbk
    exact hn hbk.symm
 ·refine⟨DR J (.cells (l++m)),fun U=>?_,Rc _,rfl,Fr.new ht _⟩
  unfold Ee
  rw[hs]
  show AW (EE E esz bytes (.sl b 0 k (.ex k)) x J) U=_
  unfold EE;rw[hc]
  simp only[]
  rw[if_neg (show ¬A0 (k+(n'+1)) k=true from fun h=>by rw[BC]at h;omega),if_pos hg]
  have hr:NA E J b 0 (k*esz)=some l:=by
   unfold NA rd
   rw[<-BK,show Ba J.bl b=some (.cells l)from ha]
   simp only[]
   rw[show A0 (0+k*esz) l.length=true from QX (by omega)]
   rw[CO,<-hl,M8];rfl
  rw[hr]
  rfl
theorem fM {esz bytes k n:Nat} {v x:V} (h:GH J esz k v l) (ht:Af J) (hs:∀U:Nat->List V->AH,srcK E J esz x U=U n m) (hc:Ch E J esz x=some (n,m)) (hm0:m.length=n*esz) (ho:allOne m=true) (hg:CV (k+n) bytes=true) :
  ∃u J',(∀U:V->H->AH,Ee E esz bytes v x J U=U u J')/\GH J' esz (k+n) u (l++m)/\(∀b,Ai u b->Ai v b\/J.next<=b)/\Fr (Ai v) J J':=by
 cases n with
 | zero=>
  have hm:m=[]:=Bu (by omega)
  subst hm
  exact⟨v,J,fun U=>bL h hs hc,by rw[Am];exact h,fun b hb => .inl hb,Fr.refl ht⟩
 | succ n=>
  obtain⟨J',g,a,nx,f⟩:=Sf (E:=E) h ht hs hc (Nat.succ_pos n) ho hg
  refine⟨_,J',g,.inl (.inr ⟨J.next,rfl,a,by omega,?_⟩),fun b hb => .inr (by cases hb;exact AN _),f⟩
  rw[AL,h.length,hm0,<-Rl]
theorem Qh {esz bytes k n:Nat} {v x:V} (h:GH J esz k v l) (ht:Af J) (hx:EY J esz n x m) (hn:0<n) (ho:allOne m=true) (hg:CV (k+n) bytes=true) :
  ∃J',(∀U:V->H->AH,Ee E esz bytes v x J U=U (.sl J.next 0 (k+n) (.op esz)) J')/\B8 J' J.next (l++m)/\J'.next=J.next+1/\Fr (Ai v) J J':=Sf h ht (fun _=>hx.srcK) hx.cells hn ho hg
theorem HP {esz bytes k n:Nat} {v x:V} (h:GH J esz k v l) (ht:Af J) (hx:EY J esz n x m) (ho:allOne m=true) (hg:CV (k+n) bytes=true) :
  ∃u J',(∀U:V->H->AH,Ee E esz bytes v x J U=U u J')/\GH J' esz (k+n) u (l++m)/\(∀b,Ai u b->Ai v b\/J.next<=b)/\Fr (Ai v) J J':=fM h ht (fun _=>hx.srcK) hx.cells hx.length ho hg
theorem rP:(∀(a:V) (l:List V) (U:V->AH),JZ (a::l) 0 U=U a)/\(∀(a:V) (l:List V) (n:Nat) (U:V->AH),JZ (a::l) (n+1) U=JZ l n U) /\
  (∀(a b:V) (U:List V->AH),Gs [a,b] 0 2 U=U [a,b])/\(∀(a b c d:V) (U:List V->AH),Gs [a,b,c,d] 0 4 U=U [a,b,c,d])/\(∀(a b c d e:V) (U:List V->AH),Gs [a,b,c,d,e] 0 4 U=U [a,b,c,d]) /\
  (∀(a b c d e f:V) (U:List V->AH),Gs [a,b,c,d,e,f] 0 6 U=U [a,b,c,d,e,f])/\(∀(a b c d e f g h i j k l m:V) (U:List V->AH),Gs [a,b,c,d,e,f,g,h,i,j,k,l,m] 0 13 U=U [a,b,c,d,e,f,g,h,i,j,k,l,m]) /\
  (∀(a b c d e f g h i j k l m:V) (U:List V->AH),Gs [a,b,c,d,e,f,g,h,i,j,k,l,m] 2 6 U=U [c,d,e,f,g,h]) /\
  (∀(k:IntKind) (n:Int) (U:Int->AH),Ah k (.int k n) U=U n)/\(∀(b:Bool) (U:Bool->AH),An (.bool b) U=U b)/\(∀(s:BS) (U:BS->AH),Jp (.str s) U=U s)/\(∀(b o:Nat) (U:Nat->Nat->AH),Ar (.ptr b o) U=U b o) /\
  (∀(l:List V) (U:List V->AH),Cw (.agg l) U=U l)/\(∀(l:List V) (U:List V->AH),Bc (.tup l) U=U l)/\(∀(v:V) (l:List V) (U:V->List V->AH),AE (v::l) U=U v l)/\(∀a:AH,AQ [] a=a) /\
  (∀a:AH,Cm .nils a=a)/\(∀(b o:Nat) (a:AH),Cm (.ptr b o) a=a)/\(∀(b o n:Nat) (c:Zy) (a:AH),Cm (.sl b o n c) a=a)/\(∀U:Nat->AH,BA .nils U=U 0)/\(∀(b o n:Nat) (c:Zy) (U:Nat->AH),BA (.sl b o n c) U=U n) /\
  (∀(v:V) (J:H) (U:V->H->AH),AW (some (v,J)) U=U v J)/\(∀(c:Bool) (a b:AH),c=true->AS c a b=a)/\(∀(c:Bool) (a b:AH),c=false->AS c a b=b)/\(∀(c:Bool) (a:AH),c=true->IT c a=a) /\
  (∀(f:Bool->H->AH) (g:(Bool->H->AH)->AH),BR f g=g f)/\(∀(k:IntKind) (n:Int) (l:List V) (U:Int->List V->AH),A4 k (.int k n::l) U=U n l)/\(∀(b:Bool) (l:List V) (U:Bool->List V->AH),De (.bool b::l) U=U b l)/\(∀(s:BS) (l:List V) (U:BS->List V->AH),Rx (.str s::l) U=U s l)/\(∀(l:List V) (J:H) (U:H->AH),G9 l J U=IT (allOne l) (U (DR J (.cells l)))):=
 ⟨fun _ _ _=>rfl,fun _ _ _ _=>rfl,fun _ _ _=>rfl,fun _ _ _ _ _=>rfl,fun _ _ _ _ _ _=>rfl,fun _ _ _ _ _ _ _=>rfl,fun _ _ _ _ _ _ _ _ _ _ _ _ _ _=>rfl,fun _ _ _ _ _ _ _ _ _ _ _ _ _ _=>rfl,
  GR,fun _ _=>rfl,fun _ _=>rfl,fun _ _ _=>rfl,fun _ _=>rfl,fun _ _=>rfl,fun _ _ _=>rfl,fun _=>rfl,fun _=>rfl,fun _ _ _=>rfl,fun _ _ _ _ _=>rfl,fun _=>rfl,fun _ _ _ _ _=>rfl,
  fun _ _ _=>rfl,fun _ _ _ h=>Sb h,fun _ _ _ h=>bF h,fun _ _ h=>ue h,fun _ _=>rfl,fun k n l U=>GR k n fun n=>U n l,fun _ _ _=>rfl,fun _ _ _=>rfl,fun _ _ _=>rfl⟩
theorem rC:(∀(k:IntKind) (n:Int) (l:List V) (U:Int->List V->AH),A4 k (.int k n::l) U=U n l)/\(∀(b:Bool) (l:List V) (U:Bool->List V->AH),De (.bool b::l) U=U b l)/\(∀(s:BS) (l:List V) (U:BS->List V->AH),Rx (.str s::l) U=U s l)/\(∀(l:List V) (J:H) (U:H->AH),G9 l J U=IT (allOne l) (U (DR J (.cells l)))):=
 ⟨fun k n l U=>GR k n fun n=>U n l,fun _ _ _=>rfl,fun _ _ _=>rfl,fun _ _ _=>rfl⟩
theorem rS:(∀l:List V,(V.agg l).cells=l)/\(∀(k:IntKind) (n:Int),(V.int k n).cells=[.int k n])/\(∀b o:Nat,(V.ptr b o).cells=[.ptr b o])/\(∀(v:V) (l:List V),allOne (v::l)=(v.one&&allOne l))/\(allOne []=true) /\
  (∀(k:IntKind) (n:Int),(V.int k n).one=true)/\(∀c:Bool,(V.bool c).one=true)/\(∀s:BS,(V.str s).one=true)/\(V.nils.one=true)/\(∀(b o n:Nat) (c:Zy),(V.sl b o n c).one=true)/\(∀b o:Nat,(V.ptr b o).one=true) /\
  (∀b:Bool,(b&&true)=b)/\(∀a b:Nat,Ac a b=a+b)/\(∀n:Nat,0+n=n)/\((!true)=false)/\((!false)=true):=
 ⟨fun _=>rfl,fun _ _=>rfl,fun _ _=>rfl,fun _ _=>rfl,rfl,fun _ _=>rfl,fun _=>rfl,fun _=>rfl,rfl,fun _ _ _ _=>rfl,fun _ _=>rfl,EN,fun _ _=>rfl,CJ,rfl,rfl⟩
theorem rQ:(∀m n:Nat,Cu (AA m) (AA n)=decide (m=n))/\(∀m n:Nat,Ep (AA m) (AA n)=decide (m<n))/\(∀m n:Nat,Hk (AA m) (AA n)=decide (m<=n)) /\
  (∀b:Bool,(false || b)=b)/\(∀b:Bool,(true || b)=true)/\(∀b:Bool,(b || false)=b)/\(∀b:Bool,(b || true)=true)/\(∀b:Bool,(false&&b)=false)/\(∀b:Bool,(true&&b)=b)/\(∀b:Bool,(b&&false)=false):=
 ⟨DY,Ek,HN,DL,Bool.true_or,Jj,Bool.or_true,Bool.false_and,Hz,Bool.and_false⟩
theorem rD:(∀h:Decidable False,@decide False h=false)/\(∀h:Decidable True,@decide True h=true):=⟨fun _=>decide_false _,fun _=>decide_true _⟩
theorem rA:type_of% (And.intro rS (And.intro rQ rD)):=⟨rS,rQ,rD⟩
end
end
end Go.Og
set_option maxRecDepth 100000
namespace Go.Og
open Go Go.RowKit Go.Deep
theorem GZ {P:Program} {G:Nat->Bool} {f:FuncId} {F:List V->H->AH} {E:EB} (hS:Cb P E G f F) {ng n0:Nat} (hG:∀g,G g=true->g<ng) (hn:ng<=n0) (l:List (Nat × BI)) (args:List V) (xs:List Value) (w:World)
  (hl:∀id i,look l id=some i->id<n0) (hE:∀id b,look E id=some b->∃i,Lt ng l id=some i/\HC (Lt ng l) i b w) (hx:A5 (Lt ng l) args=some xs) (h:yk (F args ⟨n0,[]⟩)=true) :
  Calls P f xs.toArray w fun e w'=>e = .returned (.bool true)/\RowKit.Below w.heap.size w w':=by
 obtain⟨J,hσ⟩:=dP h
 obtain⟨_,hc⟩:=hS ⟨fun blk=>w.heap.size<=blk,w,E,G⟩ rfl rfl (Lt ng l) ⟨n0,[]⟩ w args xs _ J hσ (WS hG hn l E w hl hE) hx
 refine hc.mono ?_
 rintro en w' ⟨R',x,_,_,h3,h4,rfl⟩
 cases h4
 exact⟨rfl,h3.os,h3.tape,h3.output,h3.size,fun k hk=>h3.fr k (Nat.not_le.2 hk)⟩
theorem fQ (b o i:Nat):(⟨b,o,none⟩:Addr).add i=⟨b,o+i,none⟩:=by
 unfold Addr.add
 split
 ·rename_i h;subst h;rfl
 ·rfl
section
variable {H:Type} {enc:TypeId × Value->H} {P:Program} {w:World} {t e:TypeId} {d:DataW H} {ps:List MemPlace} {blk off len cap:Nat}
theorem SA (ht:P.underlying t=some (.slice e)) (hc:P.cellsOf e=1) (h:DataW.Trod enc P w 0 (fun _=>true) true t (.slice (some ⟨blk,off,none⟩) len cap) d ps) :
  ∃V:Nat->Value,∀i,i<len->w.cell? ⟨blk,off+i,none⟩=some (V i)/\∃n D p,DataW.trod enc P w 0 (fun _=>true) true n e [V i]=some (D,p):=by
 obtain⟨fuel,hf⟩:=h
 rcases open_slice1 ht hc hf with ⟨h0,_⟩|⟨a,len',cap',m,n,V,D,Pl,hcs,_,hl,_,hm,_,hx⟩
 ·simp[Value.cells]at h0
 ·simp only[Value.cells,List.cons.injEq,Value.slice.injEq,AP.injEq,and_true]at hcs
  obtain⟨rfl,rfl,rfl⟩:=hcs
  refine⟨V,fun i hi=>?_⟩
  obtain⟨h1,h2⟩:=hx i (by rw[hm];simp only[if_true];omega)
  rw[fQ]at h1
  exact⟨h1,_,_,_,h2⟩
theorem mE (ht:P.underlying t=some (.slice e)) (hc:P.cellsOf e=1) (h:DataW.Trod enc P w 0 (fun _=>true) true t (.slice (some ⟨blk,off,none⟩) len cap) d ps):len<=cap:=by
 obtain⟨fuel,hf⟩:=h
 rcases open_slice1 ht hc hf with ⟨h0,_⟩|⟨a,len',cap',m,n,V,D,Pl,hcs,_,hl,_⟩
 ·simp[Value.cells]at h0
 ·simp only[Value.cells,List.cons.injEq,Value.slice.injEq,AP.injEq,and_true]at hcs
  obtain⟨rfl,rfl,rfl⟩:=hcs
  exact hl
theorem aF (ht:P.underlying t=some (.slice e)) (he:P.underlying e=some .bool) (hc:P.cellsOf e=1) (h:DataW.Trod enc P w 0 (fun _=>true) true t (.slice (some ⟨blk,off,none⟩) len cap) d ps) :
  ∃B:Nat->Bool,∀i,i<len->w.cell? ⟨blk,off+i,none⟩=some (.bool (B i)):=by
 obtain⟨V,hV⟩:=SA ht hc h
 have:∀i,i<len->∃b,V i = .bool b:=fun i hi=>by
  obtain⟨_,n,D,p,h2⟩:=hV i hi
  obtain⟨b,hb,_⟩:=DataW.trod_bool he h2
  simp only[List.cons.injEq,and_true]at hb
  exact⟨b,hb⟩
 obtain⟨B,hB⟩:=choose_lt this
 exact⟨B,fun i hi=>by rw[(hV i hi).1,hB i hi]⟩
theorem cg {k:IntKind} (ht:P.underlying t=some (.slice e)) (he:P.underlying e=some (.int k)) (hc:P.cellsOf e=1) (h:DataW.Trod enc P w 0 (fun _=>true) true t (.slice (some ⟨blk,off,none⟩) len cap) d ps) :
  ∃B:Nat->Int,∀i,i<len->w.cell? ⟨blk,off+i,none⟩=some (.int k (B i))/\(Lit.int k (B i)).wf=true:=by
 obtain⟨V,hV⟩:=SA ht hc h
 have:∀i,i<len->∃b,V i = .int k b/\(Lit.int k b).wf=true:=fun i hi=>by
  obtain⟨_,n,D,p,h2⟩:=hV i hi
  cases n with
  | zero=>simp[DataW.trod]at h2
  | succ n=>
   unfold DataW.trod at h2
   rw[he]at h2
   split at h2<;>simp_all
 obtain⟨B,hB⟩:=choose_lt this
 exact⟨B,fun i hi=>⟨by rw[(hV i hi).1,(hB i hi).1],(hB i hi).2⟩⟩
end
theorem Va {w:World} {blk off:Nat} {v:Value} (h:w.cell? ⟨blk,off,none⟩=some v):∃arr el fr,w.heap[blk]? = some (.cells arr el fr)/\arr[off]? = some v:=by
 unfold World.cell? at h
 simp only[]at h
 split at h
 ·rename_i c el fr hh
  exact⟨c,el,fr,hh,by simpa using h⟩
 ·cases h
theorem nC {R:Cz} {w:World} {blk off:Nat} {l:List V} (hne:l≠[]) (h:∀k v,l[k]? = some v->∃a,Au R v=some a/\a.oneCell'=true/\w.cell? ⟨blk,off+k,none⟩=some a):HC R ⟨blk,off,0⟩ (.cells l) w:=by
 cases l with
 | nil=>exact(hne rfl).elim
 | cons u l=>
  obtain⟨a,_,_,h0⟩:=h 0 u rfl
  obtain⟨arr,el,fr,h1,_⟩:=Va h0
  refine⟨arr,el,fr,h1,fun k v hk=>?_⟩
  obtain⟨a',h2,h3,h4⟩:=h k v hk
  obtain⟨arr',el',fr',h5,h6⟩:=Va h4
  rw[h1]at h5
  cases h5
  exact⟨a',h2,h3,h6⟩
theorem ext_one {R:Cz} {w:World} {id:Nat} {i:BI} {b:GL} (hR:R id=some i) (h:HC R i b w):∀id' b',look [(id,b)] id'=some b'->∃j,R id'=some j/\HC R j b' w:=by
 intro id' b' hb
 simp only[look]at hb
 split at hb
 ·rename_i he
  have:=BO he
  subst this
  cases hb
  exact⟨i,hR,h⟩
 ·cases hb
theorem eH {R:Cz} {w:World} {blk off len:Nat} {f:Nat->V} {g:Nat->Value} (hc:∀i,Au R (f i)=some (g i)/\(g i).oneCell'=true) (h:∀i,i<len->w.cell? ⟨blk,off+i,none⟩=some (g i)) (h0:len≠0):HC R ⟨blk,off,0⟩ (.cells ((Cj len).map f)) w:=by
 refine nC (by simp[h0]) fun k v hk=>?_
 rw[BM,Aq]at hk
 obtain⟨j,hj,rfl⟩:=hk
 obtain⟨hj1,rfl⟩:=Eo.1 hj
 have hk':k<len:=by simpa using hj1
 refine⟨g k,?_,(hc k).2,h k hk'⟩
 simp[(hc k).1]
end Go.Og
namespace Go.Og
noncomputable section
def RH (E:EB) (J:H) (n:Nat) (S:Nat->Prop) (o:Ej) (e:CF) (v:V):Prop:=V.beq v v=true/\∀(nx:Nat) (h:EB) (p:Nat->Bool),(∀id,id<J.next->¬S id->look h id=look J.bl id)->Cl E o e ⟨nx,C9 J.next n p h⟩=some v
structure EZ (E:EB) (J:H) (n:Nat) (S:Nat->Prop) (nx:Nat) (ss:List (EB)) (am:Nat) (ls:List (Nat × Ej × CF × V)) (Jc:H):Prop where
 hd:nx=Jc.next/\∃r,ss=Jc.bl::r
 big:J.next+n<=nx
 fr:Fr S J Jc
 old:∀h∈ss,∀id,id<J.next->¬S id->look h id=look J.bl id
 gap:∀h∈ss,∀i,i<n->am.testBit i=false->look h (J.next+i)=none
 ld:∀x∈ls,RH E J n S x.2.1 x.2.2.1 x.2.2.2
def Fo (E:EB) (D:Az) (J:H) (n i:Nat) (S:Nat->Prop) (ops:List BY) (pl:List DP) (s:DS) (env:CF) (J':H):Prop:=∃s',Cd E D J.next n i ops pl s=some s'/\s'.e=env/\EZ E J n S s'.nx s'.ss s'.am s'.ls J'
section
variable {E:EB} {D:Az} {J Jc J':H} {n i:Nat} {S:Nat->Prop} {d:Option Nat} {o:Ej} {l:List BY} {anc:Nat} {lk:List Nat} {pl:List DP} {e env:CF} {nx am:Nat} {ss:List (EB)} {ks:List Nat} {ls:List (Nat × Ej × CF × V)}
theorem Fv (hr:EZ E J n S nx ss am ls Jc):Fo E D J n i S [] pl ⟨e,nx,ss,ks,am,ls⟩ e Jc:=⟨_,QO,rfl,hr⟩
theorem B5 (v:V) (hc:o.cls = .p) (hv:Be o (restr lk e)=some v) (k:Fo E D J n (i+1) S l pl ⟨Cr e d v,nx,ss,ks,am,ls⟩ env J'):Fo E D J n i S (⟨d,o,none⟩::l) (⟨anc,lk⟩::pl) ⟨e,nx,ss,ks,am,ls⟩ env J':=by
 obtain⟨s',h1,h2,h3⟩:=k
 exact⟨s',(dp v hc hv).trans h1,h2,h3⟩
theorem D0 (v:V) (hr:EZ E J n S nx ss am ls Jc) (hc:o.cls = .l) (hv:RH E J n S o (restr lk e) v) (k:∀ls',EZ E J n S nx ss am ls' Jc->Fo E D J n (i+1) S l pl ⟨Cr e d v,nx,ss,ks,am,ls'⟩ env J') :
  Fo E D J n i S (⟨d,o,none⟩::l) (⟨anc,lk⟩::pl) ⟨e,nx,ss,ks,am,ls⟩ env J':=by
 obtain⟨⟨hn,r,rfl⟩,h2,h3,h4,h5,h6⟩:=hr
 obtain⟨s',k1,k2,k3⟩:=k ((i,o,restr lk e,v)::ls) ⟨⟨hn,r,rfl⟩,h2,h3,h4,h5,fun x hx=>by
  rcases BJ.1 hx with rfl|hx
  ·exact hv
  ·exact h6 x hx⟩
 exact⟨s',(dl v hc (hv.2 nx Jc.bl _ (h4 _ BZ))).trans k1,k2,k3⟩
theorem Th (v:V) (b:GL) (am':Nat) (hr:EZ E J n S nx ss am ls Jc) (hc:o.cls = .a) (hi:i<n) (ham:am ||| 2 ^ i=am') (hv:Ce o (restr lk e) (J.next+i)=some (v,b))
  (k:∀ss',EZ E J n S nx ss' am' ls ⟨Jc.next,(J.next+i,b)::Jc.bl⟩->Fo E D J n (i+1) S l pl ⟨Cr e d v,nx,ss',ks,am',ls⟩ env J') :
  Fo E D J n i S (⟨d,o,none⟩::l) (⟨anc,lk⟩::pl) ⟨e,nx,ss,ks,am,ls⟩ env J':=by
 obtain⟨⟨hn,r,rfl⟩,h2,h3,h4,h5,h6⟩:=hr
 subst ham
 suffices hr':EZ E J n S nx ((Jc.bl::r).map ((J.next+i,b)::·)) (am ||| 2 ^ i) ls ⟨Jc.next,(J.next+i,b)::Jc.bl⟩by
  obtain⟨s',k1,k2,k3⟩:=k _ hr'
  exact⟨s',(da v b (J.next+i) _ hc rfl rfl hv).trans k1,k2,k3⟩
 refine⟨⟨hn,_,rfl⟩,h2,⟨fun c hc=>?_,h3.le,fun c hc hS=>?_⟩,fun h hh id hid hS=>?_,fun h hh j hj hb=>?_,h6⟩
 ·have hc:Jc.next<=c:=hc
  show Ba ((J.next+i,b)::Jc.bl) c=none
  rw[BH,if_neg (by simp only[];omega)];exact h3.tidy c hc
 ·show Ba ((J.next+i,b)::Jc.bl) c=_
  rw[BH,if_neg (by simp only[];omega)];exact h3.same c hc hS
 ·obtain⟨h',hh',rfl⟩:=FA.1 hh
  rw[HM (by omega)];exact h4 _ hh' id hid hS
 ·obtain⟨h',hh',rfl⟩:=FA.1 hh
  rw[Ui,B2]at hb
  have hne:i≠j:=fun he=>by
   subst he
   have:=hb.2
   rw[AI3]at this
   cases this
  rw[HM (by omega)];exact h5 _ hh' j hj hb.1
theorem IE (v:V) {J2:H} (hr:EZ E J n S nx ss am ls Jc) (hc:o.cls = .k) (hva:∀j,j<n->am.testBit j=true->anc.testBit j=true) {S':Nat->Prop} (hf:Fr S' Jc J2) (hS:∀b,b<J.next->S' b->S b) (hg:∀b,S' b->J.next<=b->b<J.next+n->False) (hv:EO E D o (restr lk e) Jc=some (v,J2))
  (k:∀nx' ss' ks',EZ E J n S nx' ss' am ls J2->Fo E D J n (i+1) S l pl ⟨Cr e d v,nx',ss',ks',am,ls⟩ env J') :
  Fo E D J n i S (⟨d,o,none⟩::l) (⟨anc,lk⟩::pl) ⟨e,nx,ss,ks,am,ls⟩ env J':=by
 obtain⟨⟨hn,r,rfl⟩,h2,h3,h4,h5,h6⟩:=hr
 subst hn
 have le:=hf.le
 have f02:Fr S J J2:=h3.trans hf hS
 suffices hr':EZ E J n S J2.next (J2.bl::Jc.bl::r) am ls J2 by
  obtain⟨s',k1,k2,k3⟩:=k J2.next (J2.bl::Jc.bl::r) (i::ks) hr'
  refine⟨s',(dk v J2.next J2.bl hc (Ga fun j hj hp=>?_) hv).trans k1,k2,k3⟩
  refine h5 _ BZ j hj ?_
  cases ha:am.testBit j with
  | false=>rfl
  | true=>
   exfalso
   unfold Dn at hp
   rw[ha,hva j hj ha]at hp
   cases hp
 refine⟨⟨rfl,_,rfl⟩,by omega,f02,fun h hh id hid hS=>?_,fun h hh j hj hb=>?_,h6⟩
 ·rcases BJ.1 hh with rfl|hh
  ·rw[<-BK,<-BK];exact f02.same id hid hS
  ·exact h4 _ hh id hid hS
 ·rcases BJ.1 hh with rfl|hh
  ·have:=hf.same (J.next+j) (by omega) (fun hs=>hg _ hs (by omega) (by omega))
   rw[<-BK,this,BK]
   exact h5 _ BZ j hj hb
  ·exact h5 _ hh j hj hb
theorem CN (ht:Af J):EZ E J n S (J.next+n) [J.bl] 0 [] ⟨J.next+n,J.bl⟩:=
  ⟨⟨rfl,[],rfl⟩,AN _,⟨ht.wide n,M7 _ _,fun _ _ _=>rfl⟩,fun h hh id hid _=>by rw[JN.1 hh],fun h hh i hi _=>by
    rw[JN.1 hh];exact ht.gap n _ (by omega) (by omega),fun x hx=>by cases hx⟩
theorem NT {op:Ej} {em:CF} {v:V} {j:Nat} (hv:RH E J n S op em v):∀(ss:List (EB)) (ks more:List Nat),(∀h∈ss,∀id,id<J.next->¬S id->look h id=look J.bl id)->Fa E J.next n pl am j op em v ss ks more=true
 | [],_,_,_=>by unfold Fa;rfl
 | h::ss,ks,more,ho=>by
  unfold Fa
  rw[hv.2 0 h _ (ho h BZ)]
  simp only[hv.1,Bool.or_true,Hz]
  cases ks with
  | nil=>rfl
  | cons k ks=>exact NT hv ss ks (k::more) fun h' hh=>ho h' (ED _ hh)
theorem El {ops:List BY} (h:Fo E D J ops.length 0 S ops pl ⟨e,J.next+ops.length,[J.bl],[],0,[]⟩ env J'):Ao E D ops pl e J=some (env,J')/\Fr S J J':=by
 obtain⟨s',h1,rfl,⟨hn,r,hs⟩,_,h3,h4,h5,h6⟩:=h
 refine⟨?_,h3⟩
 rw[VS h1 (E0.2 fun x hx=>NT (h6 x hx) _ _ _ h4) hs]
 have:=(Ga (n0:=J.next) (n:=ops.length) (p:=fun k=>s'.am.testBit k) (l:=J'.bl) fun i hi hp=>h5 _ (by rw[hs];exact BZ) i hi hp).1
 rw[this,hn]
theorem Bb {x:AO} {em:CF} {b off:Nat} {c:List V} {v:V} (hx:CZ em x = .ptr b off) (ha:B8 J b c) (hv:c[off]? = some v) (ht:Af J) (hS:¬S b) (hb:V.beq v v=true):RH E J n S (.load none x) em v:=
  ⟨hb,fun nx h p ho=>mi hx (by
    have lt:=ha.lt ht
    rw[LI lt,ho b lt hS,<-BK];exact ha) hv⟩
theorem di {x:AO} {e:CF} {b off nx n:Nat} {h:EB} {c:List V} (hx:CZ e x = .ptr b off) (hl:look h b=some (.cells c)) (hv:A0 (off+n) c.length=true) :
  Cl E (.load (some n) x) e ⟨nx,h⟩=some (.agg ((c.drop off).take n)):=by
 unfold Cl
 simp only[hx,NA,rd,hl]
 rw[if_pos hv]
theorem HI {x:AO} {em:CF} {b off m:Nat} {c c':List V} (hx:CZ em x = .ptr b off) (ha:B8 J b c) (hv:A0 (off+m) c.length=true) (hc:(c.drop off).take m=c') (ht:Af J) (hS:¬S b) (hb:V.beq (.agg c') (.agg c')=true):RH E J n S (.load (some m) x) em (.agg c'):=
  ⟨hb,fun nx h p ho=>by
    have lt:=ha.lt ht
    rw[<-hc]
    exact di hx (by rw[LI lt,ho b lt hS,<-BK];exact ha) hv⟩
theorem fD {ty:TypeId} {x:AO} {em:CF} {id:Nat} {u:V} (hx:CZ em x=u) (h:u.one=true):Ce (.buildSlice ty 1 [.nils] [(0,1,x)]) em id=some (.sl id 0 1 (.ex 1),.cells [u]):=by
 have h12:u.live=true/\u.cells=[u]:=by cases u<;>first | exact⟨rfl,rfl⟩ | cases h
 show (match FQ [(0,1,CZ em x)] [V.nils]with
  | some l=>if allOne l then some (V.sl id 0 1 (.ex 1),GL.cells l)else none
  | none=>none)=_
 rw[hx]
 unfold FQ
 rw[h12.1,h12.2]
 show (if(u.one&&true)=true then _ else none)=_
 rw[h];rfl
end
section
variable {E:EB} {D:Az} {J:H}
theorem DI {v:V} (h:v.one=true):v.live=true:=by cases v<;>first | rfl | cases h
theorem DO {f:FuncId} {args:List AO} {e:CF} {vs:List V} {r:AH} (hx:Fm e args=vs) (hl:vs.all V.live=true) (g:D f vs J=r):EO E D (.call f args) e J=r:=by
 show (if(Fm e args).all V.live then D f (Fm e args) J else none)=r
 rw[hx,hl];exact g
theorem dU {x:AO} {e:CF} {v:V} (hx:CZ e x=v) (hl:v.live=true):Be (.mov x) e=some v:=by
 show (if(CZ e x).live=true then some (CZ e x)else none)=_
 rw[hx,hl];rfl
end
theorem BG {e:CF} {t:Nat} {v:V} {U:V->AH} (h:Go.Og.look e t=some v) (hl:v.live=true):BW e t U=U v:=by
 unfold BW
 rw[h]
 exact DU hl
theorem ZP {E:EB} {D:Az} {J J':H} {el esz bytes:Nat} {s x:AO} {e:CF} {v y u:V} (hs:CZ e s=v) (hx:CZ e x=y) (g:∀U:V->H->AH,Ee E esz bytes v y J U=U u J'):EO E D (.append el esz bytes s x) e J=some (u,J'):=by
 show EE E esz bytes (CZ e s) (CZ e x) J=_
 rw[hs,hx]
 obtain⟨w,J1,h1,h2⟩:=Sg (g fun v J=>some (v,J))
 rw[h1]
 exact h2
mutual
theorem As:∀v:V,V.inn (fun _=>true) v=true->V.beq v v=true
 | .dead,h=>by simp[V.inn]at h
 | .ptr b o,_=>by simp[V.beq]
 | .sl b o n (.ex c),_=>by simp[V.beq]
 | .sl b o n (.op c),_=>by simp[V.beq]
 | .sle b o k e,_=>by simp[V.beq]
 | .mp b,_=>by simp[V.beq]
 | .bool b,_=>by simp[V.beq]
 | .int k n,_=>by simp[V.beq]
 | .str s,_=>by simp[V.beq]
 | .nilp,_=>rfl
 | .nils,_=>rfl
 | .nilm,_=>rfl
 | .nilf,_=>rfl
 | .nili,_=>rfl
 | .fn f a c,h=>by
  simp only[V.inn,AK]at h
  simp[V.beq,Il a h.1,Il c h.2]
 | .ifc t v,h=>by
  simp only[V.inn]at h
  simp[V.beq,As v h]
 | .agg l,h=>by
  simp only[V.inn]at h
  simp[V.beq,Il l h]
 | .tup l,h=>by
  simp only[V.inn]at h
  simp[V.beq,Il l h]
theorem Il:∀l:List V,Jy (fun _=>true) l=true->KF l l=true
 | [],_=>rfl
 | v::l,h=>by
  simp only[Jy,AK]at h
  simp[KF,As v h.1,Il l h.2]
end
end
end Go.Og
namespace Go.Og
noncomputable section
def JV (Q:DS->Prop) (E:EB) (D:Az) (J:H) (n i:Nat) (ops:List BY) (pl:List DP) (s:DS):Prop:=∃s',Cd E D J.next n i ops pl s=some s'/\Q s'
section
variable {Q:DS->Prop} {E:EB} {D:Az} {J Jc J':H} {n i:Nat} {S:Nat->Prop} {d:Option Nat} {o:Ej} {l:List BY} {anc:Nat} {lk:List Nat} {pl:List DP} {e env:CF} {nx am:Nat} {ss:List (EB)} {ks:List Nat} {ls:List (Nat × Ej × CF × V)}
theorem Md (v:V) (hc:o.cls = .p) (hv:Be o (restr lk e)=some v) (k:JV Q E D J n (i+1) l pl ⟨Cr e d v,nx,ss,ks,am,ls⟩):JV Q E D J n i (⟨d,o,none⟩::l) (⟨anc,lk⟩::pl) ⟨e,nx,ss,ks,am,ls⟩:=by
 obtain⟨s',h1,h2⟩:=k
 exact⟨s',(dp v hc hv).trans h1,h2⟩
theorem QK (v:V) (hr:EZ E J n S nx ss am ls Jc) (hc:o.cls = .l) (hv:RH E J n S o (restr lk e) v) (k:EZ E J n S nx ss am ((i,o,restr lk e,v)::ls) Jc->JV Q E D J n (i+1) l pl ⟨Cr e d v,nx,ss,ks,am,(i,o,restr lk e,v)::ls⟩) :
  JV Q E D J n i (⟨d,o,none⟩::l) (⟨anc,lk⟩::pl) ⟨e,nx,ss,ks,am,ls⟩:=by
 obtain⟨⟨hn,r,rfl⟩,h2,h3,h4,h5,h6⟩:=hr
 obtain⟨s',k1,k2⟩:=k ⟨⟨hn,r,rfl⟩,h2,h3,h4,h5,fun x hx=>by
  rcases BJ.1 hx with rfl|hx
  ·exact hv
  ·exact h6 x hx⟩
 exact⟨s',(dl v hc (hv.2 nx Jc.bl _ (h4 _ BZ))).trans k1,k2⟩
theorem AAL (v:V) (b:GL) (am':Nat) (hr:EZ E J n S nx ss am ls Jc) (hc:o.cls = .a) (hi:i<n) (ham:am ||| 2 ^ i=am') (hv:Ce o (restr lk e) (J.next+i)=some (v,b))
  (k:∀ss',EZ E J n S nx ss' am' ls ⟨Jc.next,(J.next+i,b)::Jc.bl⟩->JV Q E D J n (i+1) l pl ⟨Cr e d v,nx,ss',ks,am',ls⟩) :
  JV Q E D J n i (⟨d,o,none⟩::l) (⟨anc,lk⟩::pl) ⟨e,nx,ss,ks,am,ls⟩:=by
 obtain⟨⟨hn,r,rfl⟩,h2,h3,h4,h5,h6⟩:=hr
 subst ham
 suffices hr':EZ E J n S nx ((Jc.bl::r).map ((J.next+i,b)::·)) (am ||| 2 ^ i) ls ⟨Jc.next,(J.next+i,b)::Jc.bl⟩by
  obtain⟨s',k1,k2⟩:=k _ hr'
  exact⟨s',(da v b (J.next+i) _ hc rfl rfl hv).trans k1,k2⟩
 refine⟨⟨hn,_,rfl⟩,h2,⟨fun c hc=>?_,h3.le,fun c hc hS=>?_⟩,fun h hh id hid hS=>?_,fun h hh j hj hb=>?_,h6⟩
 ·have hc:Jc.next<=c:=hc
  show Ba ((J.next+i,b)::Jc.bl) c=none
  rw[BH,if_neg (by simp only[];omega)];exact h3.tidy c hc
 ·show Ba ((J.next+i,b)::Jc.bl) c=_
  rw[BH,if_neg (by simp only[];omega)];exact h3.same c hc hS
 ·obtain⟨h',hh',rfl⟩:=FA.1 hh
  rw[HM (by omega)];exact h4 _ hh' id hid hS
 ·obtain⟨h',hh',rfl⟩:=FA.1 hh
  rw[Ui,B2]at hb
  have hne:i≠j:=fun he=>by
   subst he
   have:=hb.2
   rw[AI3]at this
   cases this
  rw[HM (by omega)];exact h5 _ hh' j hj hb.1
theorem ZA (v:V) {J2:H} (hr:EZ E J n S nx ss am ls Jc) (hc:o.cls = .k) (hva:∀j,j<n->am.testBit j=true->anc.testBit j=true) {S':Nat->Prop} (hf:Fr S' Jc J2) (hS:∀b,b<J.next->S' b->S b) (hg:∀b,S' b->J.next<=b->b<J.next+n->False) (hv:EO E D o (restr lk e) Jc=some (v,J2))
  (k:∀nx' ss',EZ E J n S nx' ss' am ls J2->JV Q E D J n (i+1) l pl ⟨Cr e d v,nx',ss',i::ks,am,ls⟩) :
  JV Q E D J n i (⟨d,o,none⟩::l) (⟨anc,lk⟩::pl) ⟨e,nx,ss,ks,am,ls⟩:=by
 obtain⟨⟨hn,r,rfl⟩,h2,h3,h4,h5,h6⟩:=hr
 subst hn
 have le:=hf.le
 have f02:Fr S J J2:=h3.trans hf hS
 suffices hr':EZ E J n S J2.next (J2.bl::Jc.bl::r) am ls J2 by
  obtain⟨s',k1,k2⟩:=k J2.next (J2.bl::Jc.bl::r) hr'
  refine⟨s',(dk v J2.next J2.bl hc (Ga fun j hj hp=>?_) hv).trans k1,k2⟩
  refine h5 _ BZ j hj ?_
  cases ha:am.testBit j with
  | false=>rfl
  | true=>
   exfalso
   unfold Dn at hp
   rw[ha,hva j hj ha]at hp
   cases hp
 refine⟨⟨rfl,_,rfl⟩,by omega,f02,fun h hh id hid hS=>?_,fun h hh j hj hb=>?_,h6⟩
 ·rcases BJ.1 hh with rfl|hh
  ·rw[<-BK,<-BK];exact f02.same id hid hS
  ·exact h4 _ hh id hid hS
 ·rcases BJ.1 hh with rfl|hh
  ·have:=hf.same (J.next+j) (by omega) (fun hs=>hg _ hs (by omega) (by omega))
   rw[<-BK,this,BK]
   exact h5 _ BZ j hj hb
  ·exact h5 _ hh j hj hb
def Zx (E:EB) (J:H) (n:Nat) (pl:List DP) (env:CF) (J':H) (s:DS):Prop:=
 s.e=env/\s.nx=J'.next/\(∃r,s.ss=J'.bl::r)/\s.ls.all (fun(j,op,em,v)=>Fa E J.next n pl s.am j op em v s.ss s.ks [])=true/\∀i,i<n->s.am.testBit i=false->look J'.bl (J.next+i)=none
theorem ZB {pl0:List DP} {S2:Nat->Prop} {J2:H} (v:V) (hr:EZ E J n S nx ss am ls Jc) (hc:o.cls = .k) (hva:∀j,j<n->am.testBit j=true->anc.testBit j=true) (hf:Fr S2 Jc J2) (hg:∀b,S2 b->J.next<=b->b<J.next+n->False)
  (hv:EO E D o (restr lk e) Jc=some (v,J2)) (hl:∀x∈ls,Ie pl0 x.1 (i::ks) []=false):JV (Zx E J n pl0 (Cr e d v) J2) E D J n i [⟨d,o,none⟩] [⟨anc,lk⟩] ⟨e,nx,ss,ks,am,ls⟩:=by
 obtain⟨⟨hn,r,rfl⟩,h2,h3,h4,h5,h6⟩:=hr
 subst hn
 refine⟨_,(dk v J2.next J2.bl hc (Ga fun j hj hp=>?_) hv).trans QO,rfl,rfl,⟨_,rfl⟩,?_,fun j hj hb=>?_⟩
 ·refine h5 _ BZ j hj ?_
  cases ha:am.testBit j with
  | false=>rfl
  | true=>
   exfalso
   unfold Dn at hp
   rw[ha,hva j hj ha]at hp
   cases hp
 ·refine E0.2 fun x hx=>?_
  show Fa E J.next n pl0 am x.1 x.2.1 x.2.2.1 x.2.2.2 (J2.bl::Jc.bl::r) (i::ks) []=true
  rw[Ww (hl x hx)]
  exact NT (h6 x hx) _ _ _ h4
 ·have:=hf.same (J.next+j) (by omega) (fun hs=>hg _ hs (by omega) (by omega))
  rw[<-BK,this,BK]
  exact h5 _ BZ j hj hb
theorem VK {ops:List BY} (h:JV (Zx E J ops.length pl env J') E D J ops.length 0 ops pl ⟨e,J.next+ops.length,[J.bl],[],0,[]⟩):Ao E D ops pl e J=some (env,J'):=by
 obtain⟨s',h1,rfl,hn,⟨r,hs⟩,hc,hg⟩:=h
 rw[VS h1 hc hs]
 have:=(Ga (n0:=J.next) (n:=ops.length) (p:=fun k=>s'.am.testBit k) (l:=J'.bl) fun i hi hp=>hg i hi hp).1
 rw[this,hn]
end
end
end Go.Og
namespace Go.Og
noncomputable section
theorem LQ {E:EB} {D:Az} {J:H} {b off n:Nat} {l cs:List V} {x y:AO} {e:CF} (ht:Af J) (h:B8 J b l) (hx:CZ e x = .ptr b off) (hy:(CZ e y).cells=cs) (hc:(Ax cs.length n&&A0 (off+n) l.length&&allOne cs)=true) :
  ∃J',EO E D (.store n x y) e J=some (.dead,J')/\Fr (fun k=>k=b) J J'/\B8 J' b (Hg l off cs):=by
 have hl:look J.bl b=some (.cells l):=by rw[<-BK];exact h
 refine⟨J.set b (.cells (Hg l off cs)),?_,⟨fun k hk=>?_,AN _,fun k hk hn=>?_⟩,?_⟩
 ·show (match CZ e x with
   | .ptr b off=>match look J.bl b with
    | some (.cells l)=>if(Ax (CZ e y).cells.length n&&A0 (off+n) l.length&&allOne (CZ e y).cells)=true then some (V.dead,J.set b (.cells (Hg l off (CZ e y).cells)))else none
    | _=>none
   | _=>none)=_
  rw[hx]
  simp only[hl]
  rw[hy,if_pos hc]
 ·have hk:J.next<=k:=hk
  have:=h.lt ht
  show Ba (LC J.bl b _) k=none
  rw[BK,Ha,if_neg (by omega),<-BK]
  exact ht k hk
 ·show Ba (LC J.bl b _) k=_
  rw[BK,Ha,if_neg (fun e=>hn e.symm),BK]
 ·show Ba (LC J.bl b _) b=_
  rw[BK,Ha,if_pos rfl,hl];rfl
end
noncomputable section
section
variable {E:EB} {D:Az} {J Jc J':H} {n i:Nat} {S:Nat->Prop} {d:Option Nat} {o:Ej} {g:Option (Nat × Bool)} {l:List BY} {anc:Nat} {lk:List Nat} {pl:List DP} {e env:CF} {nx am:Nat} {ss:List (EB)} {ks:List Nat} {ls:List (Nat × Ej × CF × V)}
theorem Du (v:V) (hw:Bv (restr lk e) g=some true) (hc:o.cls = .p) (hv:Be o (restr lk e)=some v) (k:Fo E D J n (i+1) S l pl ⟨Cr e d v,nx,ss,ks,am,ls⟩ env J'):Fo E D J n i S (⟨d,o,g⟩::l) (⟨anc,lk⟩::pl) ⟨e,nx,ss,ks,am,ls⟩ env J':=by
 obtain⟨s',h1,h2,h3⟩:=k
 refine⟨s',?_,h2,h3⟩
 have h:FT E D J.next n i ⟨d,o,g⟩ ⟨anc,lk⟩ ⟨e,nx,ss,ks,am,ls⟩=some ⟨Cr e d v,nx,ss,ks,am,ls⟩:=by unfold FT;simp only[hw,hc,hv]
 show (match FT E D J.next n i ⟨d,o,g⟩ ⟨anc,lk⟩ ⟨e,nx,ss,ks,am,ls⟩with | none=>none | some s'=>Cd E D J.next n (i+1) l pl s')=_
 rw[h];exact h1
theorem SQ (v:V) (hr:EZ E J n S nx ss am ls Jc) (hw:Bv (restr lk e) g=some true) (hc:o.cls = .l) (hv:RH E J n S o (restr lk e) v) (k:∀ls',EZ E J n S nx ss am ls' Jc->Fo E D J n (i+1) S l pl ⟨Cr e d v,nx,ss,ks,am,ls'⟩ env J') :
  Fo E D J n i S (⟨d,o,g⟩::l) (⟨anc,lk⟩::pl) ⟨e,nx,ss,ks,am,ls⟩ env J':=by
 obtain⟨⟨hn,r,rfl⟩,h2,h3,h4,h5,h6⟩:=hr
 obtain⟨s',k1,k2,k3⟩:=k ((i,o,restr lk e,v)::ls) ⟨⟨hn,r,rfl⟩,h2,h3,h4,h5,fun x hx=>by
  rcases BJ.1 hx with rfl|hx
  ·exact hv
  ·exact h6 x hx⟩
 refine⟨s',?_,k2,k3⟩
 have hh:=hv.2 nx Jc.bl (Dn anc am) (h4 _ BZ)
 have h:FT E D J.next n i ⟨d,o,g⟩ ⟨anc,lk⟩ ⟨e,nx,Jc.bl::r,ks,am,ls⟩=some ⟨Cr e d v,nx,Jc.bl::r,ks,am,(i,o,restr lk e,v)::ls⟩:=by unfold FT;simp only[hw,hc,hh]
 show (match FT E D J.next n i ⟨d,o,g⟩ ⟨anc,lk⟩ ⟨e,nx,Jc.bl::r,ks,am,ls⟩with | none=>none | some s'=>Cd E D J.next n (i+1) l pl s')=_
 rw[h];exact k1
end
end
end Go.Og
namespace Go.Og
noncomputable section
section
variable {E:EB} {D:Az} {J Jc J':H} {n i:Nat} {S:Nat->Prop} {d:Option Nat} {o:Ej} {l:List BY} {anc:Nat} {lk:List Nat} {pl:List DP} {e env:CF} {nx am:Nat} {ss:List (EB)} {ks:List Nat} {ls:List (Nat × Ej × CF × V)}
theorem eB (v:V) {J2:H} (hr:EZ E J n S nx ss am ls Jc) (hc:o.cls = .k) (hva:∀j,j<n->am.testBit j=true->anc.testBit j=true) {S':Nat->Prop} (hf:Fr S' Jc J2) (hS:∀b,b<J.next->S' b->S b) (hg:∀b,S' b->J.next<=b->b<J.next+n->am.testBit (b-J.next)=true) (hv:EO E D o (restr lk e) Jc=some (v,J2))
    (k:∀nx' ss' ks',EZ E J n S nx' ss' am ls J2->Fo E D J n (i+1) S l pl ⟨Cr e d v,nx',ss',ks',am,ls⟩ env J') :
    Fo E D J n i S (⟨d,o,none⟩::l) (⟨anc,lk⟩::pl) ⟨e,nx,ss,ks,am,ls⟩ env J':=by
  obtain⟨⟨hn,r,rfl⟩,h2,h3,h4,h5,h6⟩:=hr
  subst hn
  have le:=hf.le
  have f02:Fr S J J2:=h3.trans hf hS
  suffices hr':EZ E J n S J2.next (J2.bl::Jc.bl::r) am ls J2 by
    obtain⟨s',k1,k2,k3⟩:=k J2.next (J2.bl::Jc.bl::r) (i::ks) hr'
    refine⟨s',(dk v J2.next J2.bl hc (Ga fun j hj hp=>?_) hv).trans k1,k2,k3⟩
    refine h5 _ BZ j hj ?_
    cases ha:am.testBit j with
    | false=>rfl
    | true=>
      exfalso
      unfold Dn at hp
      rw[ha,hva j hj ha]at hp
      cases hp
  refine⟨⟨rfl,_,rfl⟩,by omega,f02,fun h hh id hid hS=>?_,fun h hh j hj hb=>?_,h6⟩
  · rcases BJ.1 hh with rfl | hh
    · rw[<-BK,<-BK];exact f02.same id hid hS
    · exact h4 _ hh id hid hS
  · rcases BJ.1 hh with rfl | hh
    · have:=hf.same (J.next+j) (by omega) (fun hs=>by
        have:=hg _ hs (by omega) (by omega)
        rw[IL,hb]at this;cases this)
      rw[<-BK,this,BK]
      exact h5 _ BZ j hj hb
    · exact h5 _ hh j hj hb
end
end
end Go.Og
namespace Go.Og
noncomputable section
end
noncomputable section
theorem eG (a:Int) (n:Nat):a.fdiv (2 ^ n)=a / 2 ^ n:=yg _ (Int.le_of_lt (Int.pow_pos (by decide)))
theorem WT:∀(a:List V) (x:V) (r:List V) (c:V),Hg (a++x::r) a.length [c]=a++c::r
 | [],x,r,c=>by cases r<;>simp[Hg]
 | y::a,x,r,c=>by
  show y::Hg (a++x::r) a.length [c]=_
  rw[WT a x r c];rfl
def H0 (l:List Int):List V:=l.map fun c => .int .u8 c
theorem Er (l:List Int):(H0 l).length=l.length:=by simp[H0]
theorem HF (l m:List Int):H0 (l++m)=H0 l++H0 m:=by simp[H0]
theorem TH:∀l:List Int,allOne (H0 l)=true
 | []=>rfl
 | c::l=>TH l
theorem Ry:∀l:List Int,FW (H0 l)=some (l.map fun c=>UInt8.ofNat c.toNat)
 | []=>rfl
 | c::l=>by
  show (FW (H0 l)).map _=_
  rw[Ry l];rfl
def By (J:H) (v:V) (l:List Int):Prop:=EY J 1 l.length v (H0 l)
def Nb (J0 J:H) (v:V) (l:List Int):Prop:=GH J 1 l.length v (H0 l)/\∀b,Ai v b->J0.next<=b
theorem Nb.by_ {J0 J:H} {v:V} {l:List Int} (h:Nb J0 J v l):By J v l:=h.1.src
theorem By.slen {J:H} {v:V} {l:List Int} (h:By J v l) (U:Nat->AH):BA v U=U l.length:=EY.slen h
theorem By.fr {J J':H} {v:V} {l:List Int} (h:By J v l) (f:Fr AJ J J') (ht:Af J):By J' v l:=EY.fr h f ht (fun _ _ h=>h)
theorem Nb.fr {J0 J J':H} {v:V} {l:List Int} (h:Nb J0 J v l) (f:Fr AJ J J') (ht:Af J):Nb J0 J' v l:=⟨h.1.fr f ht (fun _ _ h=>h),h.2⟩
theorem Nb.mono {J0 J1 J:H} {v:V} {l:List Int} (h:Nb J1 J v l) (hl:J0.next<=J1.next):Nb J0 J v l:=⟨h.1,fun b hb=>Ae hl (h.2 b hb)⟩
theorem Nb.nil (J0 J:H):Nb J0 J .nils []:=⟨GH.nil J 1,fun _ h=>h.elim⟩
theorem To {E:EB} {J0 J:H} {v x:V} {l m:List Int} (h:Nb J0 J v l) (f0:Fr AJ J0 J) (hx:By J x m) (hs:l.length+m.length<=10000000) :
  ∃u J',(∀U:V->H->AH,Ee E 1 1 v x J U=U u J')/\Nb J0 J' u (l++m)/\Fr AJ J0 J'/\Fr (fun b=>J0.next<=b) J J':=by
 obtain⟨u,J',g,d,n,f⟩:=HP (E:=E) (bytes:=1) h.1 f0.tidy hx (TH m) (by
  unfold CV
  simp only[C8,AK,BC];omega)
 have hle:=f0.le
 refine⟨u,J',g,⟨by rw[AL,HF];exact d,fun b hb=>?_⟩,f0.trans f (fun b hb hn=>by have:=h.2 b hn;omega),f.mono fun b _ hb=>h.2 b hb⟩
 rcases n b hb with h'|h'
 ·exact h.2 b h'
 ·omega
theorem Hi {v:V} (h:v.one=true):v.live=true/\v.cells=[v]:=by
 cases v<;>first | exact⟨rfl,rfl⟩ | cases h
theorem eF {u:V} (h:u.one=true) (U:List V->AH):HA [(0,1,u)] [.nils] U=U [u]:=by
 obtain⟨h1,h2⟩:=Hi h
 unfold HA FQ
 rw[h1,h2]
 rfl
end
noncomputable section
def Bq:Nat->Nat->List Nat
 | 0,_=>[]
 | n+1,v=>(v / 2 ^ n) % 2::Bq n v
theorem A2:∀n v,(Bq n v).length=n
 | 0,_=>rfl
 | n+1,v=>by simp[Bq,A2 n v]
theorem Gh:∀n v,∀b∈Bq n v,b<2
 | 0,_,b,h=>by cases h
 | n+1,v,b,h=>by
  rcases BJ.1 h with rfl|h
  ·exact Re _ (by decide)
  ·exact Gh n v b h
def valOf:Nat->List Nat->Nat
 | a,[]=>a
 | a,b::l=>valOf (2*a+b) l
theorem LO:∀(n v a:Nat),valOf a (Bq n v)=a*2 ^ n+v % 2 ^ n
 | 0,v,a=>by simp[Bq,valOf,Nat.mod_one]
 | n+1,v,a=>by
  rw[Bq,valOf,LO n v,Nat.mod_pow_succ,qX]
  generalize v / 2 ^ n % 2=q
  generalize v % 2 ^ n=m
  generalize 2 ^ n=P
  have h1:(2*a+q)*P=a*(P*2)+P*q:=by rw[Rl,HT 2 a,Nat.mul_assoc,HT 2 P,HT q P]
  omega
def FE (L:List Nat) (i:Nat):Nat:=L.getD i 0
def LG (L:List Nat) (j:Nat):Nat:=128*FE L (8*j)+64*FE L (8*j+1)+32*FE L (8*j+2)+16*FE L (8*j+3)+8*FE L (8*j+4)+4*FE L (8*j+5)+2*FE L (8*j+6)+FE L (8*j+7)
def Cs (n:Nat):Nat:=(n+7) / 8
def Es (L:List Nat):List Nat:=(Cj (Cs L.length)).map (LG L)
def PK (L:List Nat):Prop:=∀b∈L,b<2
theorem D7 {L:List Nat} (h:PK L) (i:Nat):FE L i<2:=by
 unfold FE
 by_cases hi:i<L.length
 ·rw[Ad,AZ hi];exact h _ (DK hi)
 ·rw[Ad,Aa (by omega)];decide
theorem VA {L:List Nat} (h:PK L) (j:Nat):LG L j<256:=by
 unfold LG
 have h0:=D7 h (8*j);have h1:=D7 h (8*j+1);have h2:=D7 h (8*j+2);have h3:=D7 h (8*j+3)
 have h4:=D7 h (8*j+4);have h5:=D7 h (8*j+5);have h6:=D7 h (8*j+6);have h7:=D7 h (8*j+7)
 omega
theorem aI {L:List Nat} (h:PK L) (j k:Nat) (hk:k<8):LG L j / 2 ^ (7-k) % 2=FE L (8*j+k):=by
 have h0:=D7 h (8*j);have h1:=D7 h (8*j+1);have h2:=D7 h (8*j+2);have h3:=D7 h (8*j+3)
 have h4:=D7 h (8*j+4);have h5:=D7 h (8*j+5);have h6:=D7 h (8*j+6);have h7:=D7 h (8*j+7)
 unfold LG
 have:k=0\/k=1\/k=2\/k=3\/k=4\/k=5\/k=6\/k=7:=by omega
 rcases this with rfl|rfl|rfl|rfl|rfl|rfl|rfl|rfl
 ·simp only[show 2 ^ (7-0)=128 from rfl,ES];omega
 ·simp only[show 2 ^ (7-1)=64 from rfl];omega
 ·simp only[show 2 ^ (7-2)=32 from rfl];omega
 ·simp only[show 2 ^ (7-3)=16 from rfl];omega
 ·simp only[show 2 ^ (7-4)=8 from rfl];omega
 ·simp only[show 2 ^ (7-5)=4 from rfl];omega
 ·simp only[show 2 ^ (7-6)=2 from rfl];omega
 ·simp only[show 2 ^ (7-7)=1 from rfl];omega
theorem Dg (L:List Nat):(Es L).length=Cs L.length:=by simp[Es]
theorem dL (L:List Nat) {j:Nat} (h:j<Cs L.length):(Es L)[j]? = some (LG L j):=by
 unfold Es
 rw[BM,ON h];rfl
def C7 (L:List Nat) (i:Nat):Nat->Nat->Nat
 | 0,a=>a
 | n+1,a=>C7 L (i+1) n (2*a+FE L i)
theorem Ki {L:List Nat}:∀(l r:List Nat) (i a:Nat),L.drop i=l++r->C7 L i l.length a=valOf a l
 | [],r,i,a,_=>rfl
 | b::l,r,i,a,h=>by
  have hb:FE L i=b:=by
   have h1:=congrArg (fun l:List Nat=>l.getD 0 0) h
   have:(L.drop i).getD 0 0=b:=h1
   rw[Ad,DC,ES]at this
   unfold FE;rw[Ad];exact this
  show C7 L (i+1) l.length (2*a+FE L i)=valOf (2*a+b) l
  rw[hb]
  refine Ki l r (i+1) _ ?_
  have h2:=congrArg (List.drop 1) h
  rw[IP]at h2
  simpa[Nat.add_comm]using h2
end
noncomputable section
theorem DX (n a:Nat):(BU n (AA a)).toNat=a % 2 ^ n:=by
 rw[show AA a=((a:Nat):Int)from rfl,BitVec.ofInt_natCast,BitVec.toNat_ofNat]
theorem Dy {k:IntKind} {m:Nat} (h:m<=Jd k):k.wrap (AA m)=AA m:=by
 rw[<-FO];exact BV h
theorem MY:Jd .u8=255:=rfl
theorem IZ:Jd .u32=4294967295:=rfl
theorem Db:Jd .u64=18446744073709551615:=rfl
theorem Dc:Jd .i64=9223372036854775807:=rfl
theorem oD {a:Nat} (h:a<=255):Je .u8 (AA a) (AA 1)=AA (a % 2):=by
 rw[O8,Yj,DX,DX,show IntKind.bits .u8=8 from rfl,Bw (show a<2 ^ 8 by omega),show 1 % 2 ^ 8=1 from rfl,yf]
 exact Dy (by rw[MY];omega)
theorem Vj {a:Nat} (h:a<=4294967295):Je .u32 (AA a) (AA 1)=AA (a % 2):=by
 rw[O8,Yj,DX,DX,show IntKind.bits .u32=32 from rfl,Bw (show a<2 ^ 32 by omega),show 1 % 2 ^ 32=1 from rfl,yf]
 exact Dy (by rw[IZ];omega)
theorem fN {a:Nat} (h:a<=18446744073709551615):Je .u64 (AA a) (AA 1)=AA (a % 2):=by
 rw[O8,Yj,DX,DX,show IntKind.bits .u64=64 from rfl,Bw (show a<2 ^ 64 by omega),show 1 % 2 ^ 64=1 from rfl,yf]
 exact Dy (by rw[Db];omega)
theorem MH {k:IntKind} {a n:Nat} (h:n<=k.bits):LA k (AA a) n=AA (a / 2 ^ n):=by
 rw[Yo,show E9 n k.bits=n from HD h,eG]
 rw[show AA a=((a:Nat):Int)from rfl,show AA (a / 2 ^ n)=((a / 2 ^ n:Nat):Int)from rfl,Int.natCast_ediv,PO];rfl
theorem TU {a b n:Nat} (hb:b<2 ^ n):(a*2 ^ n) ||| b=a*2 ^ n+b:=by
 rw[HT,<-Nat.two_pow_add_eq_or_of_lt hb]
theorem dE {v b:Nat} (hb:b<2) (hv:2*v+b<=4294967295):Yz .u32 (MI .u32 (AA v) 1) (BP .u32 (AA b))=AA (2*v+b):=by
 rw[BV (by rw[IZ];omega),Ov,show E9 1 (IntKind.bits .u32)=1 from rfl,show AA v*2 ^ 1=AA (v*2 ^ 1)from rfl,Dy (by rw[IZ];omega),Pv,PR,DX,DX,show IntKind.bits .u32=32 from rfl,Bw (show v*2 ^ 1<2 ^ 32 by omega),Bw (show b<2 ^ 32 by omega),TU (show b<2 ^ 1 by omega)]
 rw[show v*2 ^ 1+b=2*v+b by omega]
 exact Dy (by rw[IZ];omega)
theorem uN {a b n:Nat} (hn:n<=32) (ha:a<2 ^ 32) (hb:b<2 ^ n) (h:a*2 ^ n+b<=18446744073709551615):Yz .u64 (MI .u64 (BP .u64 (AA a)) n) (BP .u64 (AA b))=AA (a*2 ^ n+b):=by
 have hb':b<2 ^ 32:=Bg hb (MB (by decide) hn)
 have hp:0<2 ^ n:=Nat.pow_pos (by decide)
 rw[BV (by rw[Db];omega),BV (by rw[Db];omega),Ov,show E9 n (IntKind.bits .u64)=n from HD (Ae hn (by decide)),show AA a*2 ^ n=AA (a*2 ^ n)by
  rw[show AA (a*2 ^ n)=((a*2 ^ n:Nat):Int)from rfl,Int.natCast_mul,PO];rfl,Dy (by rw[Db];omega),Pv,PR,DX,DX,show IntKind.bits .u64=64 from rfl,Bw (show a*2 ^ n<2 ^ 64 by omega),Bw (show b<2 ^ 64 by omega),TU hb]
 exact Dy (by rw[Db];omega)
def nI (L:List Nat):List Int:=L.map AA
theorem Bf (L:List Nat):(nI L).length=L.length:=by simp[nI]
theorem Lc (L M:List Nat):nI (L++M)=nI L++nI M:=by simp[nI]
def A1:List Nat->List Nat
 | []=>[]
 | c::l=>Bq 8 c++A1 l
theorem Se:∀l m:List Nat,A1 (l++m)=A1 l++A1 m
 | [],m=>rfl
 | c::l,m=>by simp[A1,Se l m]
theorem Cv:∀l:List Nat,(A1 l).length=8*l.length
 | []=>rfl
 | c::l=>by simp[A1,Cv l,A2];omega
theorem Fj:∀l:List Nat,PK (A1 l)
 | [],b,h=>by cases h
 | c::l,b,h=>by
  rcases Fe.1 h with h|h
  ·exact Gh 8 c b h
  ·exact Fj l b h
theorem NW:∀(l:List Nat) (i c:Nat),l[i / 8]? = some c->FE (A1 l) i=c / 2 ^ (7-i % 8) % 2
 | [],i,c,h=>by simp at h
 | d::l,i,c,h=>by
  by_cases hi:i<8
  ·have h0:i / 8=0:=by omega
   rw[h0]at h
   cases h
   have:i=0\/i=1\/i=2\/i=3\/i=4\/i=5\/i=6\/i=7:=by omega
   rcases this with rfl|rfl|rfl|rfl|rfl|rfl|rfl|rfl<;>rfl
  ·obtain⟨j,rfl⟩:∃j,i=j+8:=⟨i-8,by omega⟩
   rw[show (j+8) / 8=j / 8+1 by omega,CK]at h
   rw[show (j+8) % 8=j % 8 by omega,<-NW l j c h]
   unfold FE
   rw[show A1 (d::l)=Bq 8 d++A1 l from rfl,Ad,Ad,CY (by rw[A2];omega),A2,Nat.add_sub_cancel]
end
end Go.Og
set_option maxHeartbeats 0
namespace Go.Proofs.YtcpdffccolffaaaGreatDoor
open Go Go.Og
noncomputable section
def t0:BS:=⟨94,6320828242170758418337056517095621675984223683767383315806049650650199460465984701476669794443264855643114264876275454276703474501171439788583232407371408961472629243036152532782837683824085474433307533511660324626747898470477⟩
def yp:Eh:=⟨100,[],
 [],
 .bool true,3451,
 []⟩
theorem ay:yp.right 2 ((DT [] 100000 60) 4)=true:=by kernel_rfl
theorem au:yp.shape=true:=by kernel_rfl
def eT:Eh:=⟨100,[.str t0],
 [],
 .tup [.agg [.str ⟨1,77⟩,.sl 3273 0 1 (.op 1),.sl 3605 0 1 (.op 1),.sl 3384 0 3 (.op 13)],.bool true],3618,
 [(3273,.cells [.str ⟨1,65⟩]),
 (3291,.cells [.int .i64 (AA 0),.int .i64 (AA 16)]),
 (3355,.cells [.int .i64 (AA 2),.int .i64 (AA 0)]),
 (3384,.cells [.int .i64 (AA 7),.sl 3291 0 1 (.ex 1),.bool false,.bool false,.bool false,.bool false,.int .i64 (AA 0),.int .i64 (AA 0),.nils,.sl 3387 0 2 (.op 11),.int .i64 (AA 0),.bool true,.int .i64 (AA 0),.int .i64 (AA 1),.sl 3355 0 1 (.ex 1),.bool false,.bool false,.bool false,.bool false,.int .i64 (AA 0),.int .i64 (AA 0),.nils,.nils,.int .i64 (AA 0),.bool false,.int .i64 (AA 0),.int .i64 (AA 1),.sl 3385 0 1 (.ex 1),.bool false,.bool false,.bool false,.bool false,.int .i64 (AA 0),.int .i64 (AA 0),.nils,.nils,.int .i64 (AA 0),.bool false,.int .i64 (AA 0)]),
 (3385,.cells [.int .i64 (AA 2),.int .i64 (AA 1)]),
 (3387,.cells [.str ⟨1,97⟩,.int .i64 (AA 1),.bool false,.bool false,.int .i64 (AA 0),.int .i64 (AA 0),.nils,.nils,.int .i64 (AA 0),.nils,.int .i64 (AA 0),.str ⟨1,98⟩,.int .i64 (AA 2),.bool false,.bool false,.int .i64 (AA 0),.int .i64 (AA 0),.nils,.nils,.int .i64 (AA 0),.nils,.int .i64 (AA 0)]),
 (3605,.cells [.int .i64 (AA 0)])]⟩
theorem eP:eT.right 2 ((DT [] 100000 60) 5)=true:=by kernel_rfl
theorem QN:eT.shape=true:=by kernel_rfl
def yo:Eh:=⟨3618,[.agg [.str ⟨1,77⟩,.sl 3273 0 1 (.op 1),.sl 3605 0 1 (.op 1),.sl 3384 0 3 (.op 13)]],
 [(3273,.cells [.str ⟨1,65⟩]),
 (3291,.cells [.int .i64 (AA 0),.int .i64 (AA 16)]),
 (3355,.cells [.int .i64 (AA 2),.int .i64 (AA 0)]),
 (3384,.cells [.int .i64 (AA 7),.sl 3291 0 1 (.ex 1),.bool false,.bool false,.bool false,.bool false,.int .i64 (AA 0),.int .i64 (AA 0),.nils,.sl 3387 0 2 (.op 11),.int .i64 (AA 0),.bool true,.int .i64 (AA 0),.int .i64 (AA 1),.sl 3355 0 1 (.ex 1),.bool false,.bool false,.bool false,.bool false,.int .i64 (AA 0),.int .i64 (AA 0),.nils,.nils,.int .i64 (AA 0),.bool false,.int .i64 (AA 0),.int .i64 (AA 1),.sl 3385 0 1 (.ex 1),.bool false,.bool false,.bool false,.bool false,.int .i64 (AA 0),.int .i64 (AA 0),.nils,.nils,.int .i64 (AA 0),.bool false,.int .i64 (AA 0)]),
 (3385,.cells [.int .i64 (AA 2),.int .i64 (AA 1)]),
 (3387,.cells [.str ⟨1,97⟩,.int .i64 (AA 1),.bool false,.bool false,.int .i64 (AA 0),.int .i64 (AA 0),.nils,.nils,.int .i64 (AA 0),.nils,.int .i64 (AA 0),.str ⟨1,98⟩,.int .i64 (AA 2),.bool false,.bool false,.int .i64 (AA 0),.int .i64 (AA 0),.nils,.nils,.int .i64 (AA 0),.nils,.int .i64 (AA 0)]),
 (3605,.cells [.int .i64 (AA 0)])],
 .bool true,3626,
 [(3273,.cells [.str ⟨1,65⟩]),
 (3291,.cells [.int .i64 (AA 0),.int .i64 (AA 16)]),
 (3355,.cells [.int .i64 (AA 2),.int .i64 (AA 0)]),
 (3384,.cells [.int .i64 (AA 7),.sl 3291 0 1 (.ex 1),.bool false,.bool false,.bool false,.bool false,.int .i64 (AA 0),.int .i64 (AA 0),.nils,.sl 3387 0 2 (.op 11),.int .i64 (AA 0),.bool true,.int .i64 (AA 0),.int .i64 (AA 1),.sl 3355 0 1 (.ex 1),.bool false,.bool false,.bool false,.bool false,.int .i64 (AA 0),.int .i64 (AA 0),.nils,.nils,.int .i64 (AA 0),.bool false,.int .i64 (AA 0),.int .i64 (AA 1),.sl 3385 0 1 (.ex 1),.bool false,.bool false,.bool false,.bool false,.int .i64 (AA 0),.int .i64 (AA 0),.nils,.nils,.int .i64 (AA 0),.bool false,.int .i64 (AA 0)]),
 (3385,.cells [.int .i64 (AA 2),.int .i64 (AA 1)]),
 (3387,.cells [.str ⟨1,97⟩,.int .i64 (AA 1),.bool false,.bool false,.int .i64 (AA 0),.int .i64 (AA 0),.nils,.nils,.int .i64 (AA 0),.nils,.int .i64 (AA 0),.str ⟨1,98⟩,.int .i64 (AA 2),.bool false,.bool false,.int .i64 (AA 0),.int .i64 (AA 0),.nils,.nils,.int .i64 (AA 0),.nils,.int .i64 (AA 0)]),
 (3605,.cells [.int .i64 (AA 0)])]⟩
theorem al:yo.right 2 ((DT [] 100000 60) 17)=true:=by kernel_rfl
theorem aj:yo.shape=true:=by kernel_rfl
def yn:Eh:=⟨3618,[.agg [.str ⟨1,77⟩,.sl 3273 0 1 (.op 1),.sl 3605 0 1 (.op 1),.sl 3384 0 3 (.op 13)]],
 [(3273,.cells [.str ⟨1,65⟩]),
 (3291,.cells [.int .i64 (AA 0),.int .i64 (AA 16)]),
 (3355,.cells [.int .i64 (AA 2),.int .i64 (AA 0)]),
 (3384,.cells [.int .i64 (AA 7),.sl 3291 0 1 (.ex 1),.bool false,.bool false,.bool false,.bool false,.int .i64 (AA 0),.int .i64 (AA 0),.nils,.sl 3387 0 2 (.op 11),.int .i64 (AA 0),.bool true,.int .i64 (AA 0),.int .i64 (AA 1),.sl 3355 0 1 (.ex 1),.bool false,.bool false,.bool false,.bool false,.int .i64 (AA 0),.int .i64 (AA 0),.nils,.nils,.int .i64 (AA 0),.bool false,.int .i64 (AA 0),.int .i64 (AA 1),.sl 3385 0 1 (.ex 1),.bool false,.bool false,.bool false,.bool false,.int .i64 (AA 0),.int .i64 (AA 0),.nils,.nils,.int .i64 (AA 0),.bool false,.int .i64 (AA 0)]),
 (3385,.cells [.int .i64 (AA 2),.int .i64 (AA 1)]),
 (3387,.cells [.str ⟨1,97⟩,.int .i64 (AA 1),.bool false,.bool false,.int .i64 (AA 0),.int .i64 (AA 0),.nils,.nils,.int .i64 (AA 0),.nils,.int .i64 (AA 0),.str ⟨1,98⟩,.int .i64 (AA 2),.bool false,.bool false,.int .i64 (AA 0),.int .i64 (AA 0),.nils,.nils,.int .i64 (AA 0),.nils,.int .i64 (AA 0)]),
 (3605,.cells [.int .i64 (AA 0)])],
 .bool true,3622,
 [(3273,.cells [.str ⟨1,65⟩]),
 (3291,.cells [.int .i64 (AA 0),.int .i64 (AA 16)]),
 (3355,.cells [.int .i64 (AA 2),.int .i64 (AA 0)]),
 (3384,.cells [.int .i64 (AA 7),.sl 3291 0 1 (.ex 1),.bool false,.bool false,.bool false,.bool false,.int .i64 (AA 0),.int .i64 (AA 0),.nils,.sl 3387 0 2 (.op 11),.int .i64 (AA 0),.bool true,.int .i64 (AA 0),.int .i64 (AA 1),.sl 3355 0 1 (.ex 1),.bool false,.bool false,.bool false,.bool false,.int .i64 (AA 0),.int .i64 (AA 0),.nils,.nils,.int .i64 (AA 0),.bool false,.int .i64 (AA 0),.int .i64 (AA 1),.sl 3385 0 1 (.ex 1),.bool false,.bool false,.bool false,.bool false,.int .i64 (AA 0),.int .i64 (AA 0),.nils,.nils,.int .i64 (AA 0),.bool false,.int .i64 (AA 0)]),
 (3385,.cells [.int .i64 (AA 2),.int .i64 (AA 1)]),
 (3387,.cells [.str ⟨1,97⟩,.int .i64 (AA 1),.bool false,.bool false,.int .i64 (AA 0),.int .i64 (AA 0),.nils,.nils,.int .i64 (AA 0),.nils,.int .i64 (AA 0),.str ⟨1,98⟩,.int .i64 (AA 2),.bool false,.bool false,.int .i64 (AA 0),.int .i64 (AA 0),.nils,.nils,.int .i64 (AA 0),.nils,.int .i64 (AA 0)]),
 (3605,.cells [.int .i64 (AA 0)])]⟩
theorem ah:yn.right 2 ((DT [] 100000 60) 38)=true:=by kernel_rfl
theorem ag:yn.shape=true:=by kernel_rfl
def WI:Eh:=⟨3618,[.agg [.str ⟨1,77⟩,.sl 3273 0 1 (.op 1),.sl 3605 0 1 (.op 1),.sl 3384 0 3 (.op 13)],.int .i64 (AA 0)],
 [(3273,.cells [.str ⟨1,65⟩]),
 (3291,.cells [.int .i64 (AA 0),.int .i64 (AA 16)]),
 (3355,.cells [.int .i64 (AA 2),.int .i64 (AA 0)]),
 (3384,.cells [.int .i64 (AA 7),.sl 3291 0 1 (.ex 1),.bool false,.bool false,.bool false,.bool false,.int .i64 (AA 0),.int .i64 (AA 0),.nils,.sl 3387 0 2 (.op 11),.int .i64 (AA 0),.bool true,.int .i64 (AA 0),.int .i64 (AA 1),.sl 3355 0 1 (.ex 1),.bool false,.bool false,.bool false,.bool false,.int .i64 (AA 0),.int .i64 (AA 0),.nils,.nils,.int .i64 (AA 0),.bool false,.int .i64 (AA 0),.int .i64 (AA 1),.sl 3385 0 1 (.ex 1),.bool false,.bool false,.bool false,.bool false,.int .i64 (AA 0),.int .i64 (AA 0),.nils,.nils,.int .i64 (AA 0),.bool false,.int .i64 (AA 0)]),
 (3385,.cells [.int .i64 (AA 2),.int .i64 (AA 1)]),
 (3387,.cells [.str ⟨1,97⟩,.int .i64 (AA 1),.bool false,.bool false,.int .i64 (AA 0),.int .i64 (AA 0),.nils,.nils,.int .i64 (AA 0),.nils,.int .i64 (AA 0),.str ⟨1,98⟩,.int .i64 (AA 2),.bool false,.bool false,.int .i64 (AA 0),.int .i64 (AA 0),.nils,.nils,.int .i64 (AA 0),.nils,.int .i64 (AA 0)]),
 (3605,.cells [.int .i64 (AA 0)])],
 .sl 3625 0 2 (.op 1),3626,
 [(3273,.cells [.str ⟨1,65⟩]),
 (3291,.cells [.int .i64 (AA 0),.int .i64 (AA 16)]),
 (3355,.cells [.int .i64 (AA 2),.int .i64 (AA 0)]),
 (3384,.cells [.int .i64 (AA 7),.sl 3291 0 1 (.ex 1),.bool false,.bool false,.bool false,.bool false,.int .i64 (AA 0),.int .i64 (AA 0),.nils,.sl 3387 0 2 (.op 11),.int .i64 (AA 0),.bool true,.int .i64 (AA 0),.int .i64 (AA 1),.sl 3355 0 1 (.ex 1),.bool false,.bool false,.bool false,.bool false,.int .i64 (AA 0),.int .i64 (AA 0),.nils,.nils,.int .i64 (AA 0),.bool false,.int .i64 (AA 0),.int .i64 (AA 1),.sl 3385 0 1 (.ex 1),.bool false,.bool false,.bool false,.bool false,.int .i64 (AA 0),.int .i64 (AA 0),.nils,.nils,.int .i64 (AA 0),.bool false,.int .i64 (AA 0)]),
 (3385,.cells [.int .i64 (AA 2),.int .i64 (AA 1)]),
 (3387,.cells [.str ⟨1,97⟩,.int .i64 (AA 1),.bool false,.bool false,.int .i64 (AA 0),.int .i64 (AA 0),.nils,.nils,.int .i64 (AA 0),.nils,.int .i64 (AA 0),.str ⟨1,98⟩,.int .i64 (AA 2),.bool false,.bool false,.int .i64 (AA 0),.int .i64 (AA 0),.nils,.nils,.int .i64 (AA 0),.nils,.int .i64 (AA 0)]),
 (3605,.cells [.int .i64 (AA 0)]),
 (3625,.cells [.int .i64 (AA 0),.int .i64 (AA 1)])]⟩
theorem an:WI.right 2 ((DT [] 100000 60) 103)=true:=by kernel_rfl
theorem SY:WI.shape=true:=by kernel_rfl
def SX:Eh:=⟨3618,[.agg [.str ⟨1,77⟩,.sl 3273 0 1 (.op 1),.sl 3605 0 1 (.op 1),.sl 3384 0 3 (.op 13)],.int .i64 (AA 0)],
 [(3273,.cells [.str ⟨1,65⟩]),
 (3291,.cells [.int .i64 (AA 0),.int .i64 (AA 16)]),
 (3355,.cells [.int .i64 (AA 2),.int .i64 (AA 0)]),
 (3384,.cells [.int .i64 (AA 7),.sl 3291 0 1 (.ex 1),.bool false,.bool false,.bool false,.bool false,.int .i64 (AA 0),.int .i64 (AA 0),.nils,.sl 3387 0 2 (.op 11),.int .i64 (AA 0),.bool true,.int .i64 (AA 0),.int .i64 (AA 1),.sl 3355 0 1 (.ex 1),.bool false,.bool false,.bool false,.bool false,.int .i64 (AA 0),.int .i64 (AA 0),.nils,.nils,.int .i64 (AA 0),.bool false,.int .i64 (AA 0),.int .i64 (AA 1),.sl 3385 0 1 (.ex 1),.bool false,.bool false,.bool false,.bool false,.int .i64 (AA 0),.int .i64 (AA 0),.nils,.nils,.int .i64 (AA 0),.bool false,.int .i64 (AA 0)]),
 (3385,.cells [.int .i64 (AA 2),.int .i64 (AA 1)]),
 (3387,.cells [.str ⟨1,97⟩,.int .i64 (AA 1),.bool false,.bool false,.int .i64 (AA 0),.int .i64 (AA 0),.nils,.nils,.int .i64 (AA 0),.nils,.int .i64 (AA 0),.str ⟨1,98⟩,.int .i64 (AA 2),.bool false,.bool false,.int .i64 (AA 0),.int .i64 (AA 0),.nils,.nils,.int .i64 (AA 0),.nils,.int .i64 (AA 0)]),
 (3605,.cells [.int .i64 (AA 0)])],
 .sl 3631 0 2 (.op 1),3632,
 [(3273,.cells [.str ⟨1,65⟩]),
 (3291,.cells [.int .i64 (AA 0),.int .i64 (AA 16)]),
 (3355,.cells [.int .i64 (AA 2),.int .i64 (AA 0)]),
 (3384,.cells [.int .i64 (AA 7),.sl 3291 0 1 (.ex 1),.bool false,.bool false,.bool false,.bool false,.int .i64 (AA 0),.int .i64 (AA 0),.nils,.sl 3387 0 2 (.op 11),.int .i64 (AA 0),.bool true,.int .i64 (AA 0),.int .i64 (AA 1),.sl 3355 0 1 (.ex 1),.bool false,.bool false,.bool false,.bool false,.int .i64 (AA 0),.int .i64 (AA 0),.nils,.nils,.int .i64 (AA 0),.bool false,.int .i64 (AA 0),.int .i64 (AA 1),.sl 3385 0 1 (.ex 1),.bool false,.bool false,.bool false,.bool false,.int .i64 (AA 0),.int .i64 (AA 0),.nils,.nils,.int .i64 (AA 0),.bool false,.int .i64 (AA 0)]),
 (3385,.cells [.int .i64 (AA 2),.int .i64 (AA 1)]),
 (3387,.cells [.str ⟨1,97⟩,.int .i64 (AA 1),.bool false,.bool false,.int .i64 (AA 0),.int .i64 (AA 0),.nils,.nils,.int .i64 (AA 0),.nils,.int .i64 (AA 0),.str ⟨1,98⟩,.int .i64 (AA 2),.bool false,.bool false,.int .i64 (AA 0),.int .i64 (AA 0),.nils,.nils,.int .i64 (AA 0),.nils,.int .i64 (AA 0)]),
 (3605,.cells [.int .i64 (AA 0)]),
 (3626,.cells [.int .i64 (AA 0)]),
 (3629,.cells [.int .i64 (AA 1)]),
 (3631,.cells [.sl 3626 0 1 (.ex 1),.sl 3629 0 1 (.ex 1)])]⟩
theorem aZ:SX.right 2 ((DT [] 100000 60) 176)=true:=by kernel_rfl
theorem SW:SX.shape=true:=by kernel_rfl
def kn:List (Nat × List Eh):=[(4,[yp]),(5,[eT]),(17,[yo]),(38,[yn]),(103,[WI]),(176,[SX])]
def TW (E:EB) (d:Nat):Az:=Nat.rec (fun _ _ _=>none) (fun _ ih f=>match Ba kn f with
  | some l=>NO l (BD E 600000 ih f)
  | none=>BD E 600000 ih f) d
theorem dx:∀p∈kn,∀e∈p.2,e.right 2 (DT [] 100000 60 p.1)=true:=by
 unfold kn
 simp only[cD,List.not_mem_nil,false_implies,implies_true,and_true]
 exact⟨ay,eP,al,ah,an,aZ⟩
theorem AAh (E:EB):∀(d:Nat) (f:FuncId),Cb Tryz.prog E glob f (TW E d f):=by
 intro d
 induction d with
 | zero=>intro f C _ _ R J w args xs v J' h;cases h
 | succ d ih=>
  intro f
  show Cb Tryz.prog E glob f (match Ba kn f with
    | some l=>NO l (BD E 600000 (TW E d) f)
    | none=>BD E 600000 (TW E d) f)
  split
  ·rename_i l hl
   rw[BK]at hl
   exact mh (kq E 600000 (TW E d) ih f) (ADb [] 100000 60 f) Lj (dx _ (Gx hl))
  ·exact kq E 600000 (TW E d) ih f
abbrev tw (E:EB) (d:Nat) (F:EB->Az->AM->Nat->List V->H->AH):List V->H->AH:=F E (TW E d) (Ao E (TW E d)) 600000
section
variable (E:EB) (d:Nat)
theorem DE6:TW E (d+1) 6=tw E d F6:=by kernel_rfl
theorem DE7:TW E (d+1) 7=tw E d F7:=by kernel_rfl
theorem DE8:TW E (d+1) 8=tw E d F8:=by kernel_rfl
theorem DE9:TW E (d+1) 9=tw E d F9:=by kernel_rfl
theorem AEV:TW E (d+1) 10=tw E d xk:=by kernel_rfl
theorem AIA:TW E (d+1) 13=tw E d F13:=by kernel_rfl
theorem AH9:TW E (d+1) 14=tw E d zD:=by kernel_rfl
theorem AH8:TW E (d+1) 15=tw E d F15:=by kernel_rfl
theorem AH7:TW E (d+1) 16=tw E d F16:=by kernel_rfl
theorem AH5:TW E (d+1) 18=tw E d F18:=by kernel_rfl
theorem AD4:TW E (d+1) 19=tw E d zC:=by kernel_rfl
theorem AH4:TW E (d+1) 20=tw E d F20:=by kernel_rfl
theorem AH3:TW E (d+1) 21=tw E d xj:=by kernel_rfl
theorem AH2:TW E (d+1) 22=tw E d zB:=by kernel_rfl
theorem AH1:TW E (d+1) 23=tw E d zA:=by kernel_rfl
theorem ADl:TW E (d+1) 24=tw E d yz:=by kernel_rfl
theorem ADk:TW E (d+1) 25=tw E d xi:=by kernel_rfl
theorem ADi:TW E (d+1) 26=tw E d xh:=by kernel_rfl
theorem AH0:TW E (d+1) 27=tw E d F27:=by kernel_rfl
theorem AHz:TW E (d+1) 37=tw E d yy:=by kernel_rfl
theorem AHx:TW E (d+1) 41=tw E d F41:=by kernel_rfl
theorem ADh:TW E (d+1) 42=tw E d yx:=by kernel_rfl
theorem AHw:TW E (d+1) 43=tw E d F43:=by kernel_rfl
theorem AHv:TW E (d+1) 44=tw E d F44:=by kernel_rfl
theorem AHu:TW E (d+1) 45=tw E d F45:=by kernel_rfl
theorem AHt:TW E (d+1) 48=tw E d F48:=by kernel_rfl
theorem AHs:TW E (d+1) 51=tw E d F51:=by kernel_rfl
theorem AHr:TW E (d+1) 55=tw E d yw:=by kernel_rfl
theorem AHq:TW E (d+1) 56=tw E d F56:=by kernel_rfl
theorem AHp:TW E (d+1) 57=tw E d F57:=by kernel_rfl
theorem AHo:TW E (d+1) 58=tw E d F58:=by kernel_rfl
theorem ADg:TW E (d+1) 59=tw E d xg:=by kernel_rfl
theorem ADf:TW E (d+1) 60=tw E d sW:=by kernel_rfl
theorem ADe:TW E (d+1) 61=tw E d xe:=by kernel_rfl
theorem ADd:TW E (d+1) 62=tw E d xd:=by kernel_rfl
theorem AHn:TW E (d+1) 63=tw E d F63:=by kernel_rfl
theorem AHm:TW E (d+1) 78=tw E d yv:=by kernel_rfl
theorem AHl:TW E (d+1) 81=tw E d F81:=by kernel_rfl
theorem ADc:TW E (d+1) 82=tw E d yu:=by kernel_rfl
theorem AHk:TW E (d+1) 83=tw E d F83:=by kernel_rfl
theorem AHj:TW E (d+1) 84=tw E d F84:=by kernel_rfl
theorem AHi:TW E (d+1) 92=tw E d yt:=by kernel_rfl
theorem AHh:TW E (d+1) 93=tw E d F93:=by kernel_rfl
theorem AHg:TW E (d+1) 95=tw E d yr:=by kernel_rfl
theorem AEU:TW E (d+1) 101=tw E d kU:=by kernel_rfl
theorem AES:TW E (d+1) 104=tw E d bu:=by kernel_rfl
theorem AER:TW E (d+1) 105=tw E d YO:=by kernel_rfl
theorem AEQ:TW E (d+1) 106=tw E d kT:=by kernel_rfl
theorem AEP:TW E (d+1) 107=tw E d kS:=by kernel_rfl
theorem AEO:TW E (d+1) 108=tw E d kR:=by kernel_rfl
theorem AEN:TW E (d+1) 109=tw E d br:=by kernel_rfl
theorem AEM:TW E (d+1) 111=tw E d kQ:=by kernel_rfl
theorem AEL:TW E (d+1) 115=tw E d YN:=by kernel_rfl
theorem AEK:TW E (d+1) 116=tw E d kP:=by kernel_rfl
theorem AEJ:TW E (d+1) 117=tw E d bq:=by kernel_rfl
theorem AEI:TW E (d+1) 118=tw E d kO:=by kernel_rfl
theorem si:TW E (d+1) 121=tw E d YM:=by kernel_rfl
theorem sg:TW E (d+1) 124=tw E d bp:=by kernel_rfl
theorem AEH:TW E (d+1) 131=tw E d YL:=by kernel_rfl
theorem AEG:TW E (d+1) 132=tw E d kN:=by kernel_rfl
theorem AEF:TW E (d+1) 133=tw E d kM:=by kernel_rfl
theorem se:TW E (d+1) 154=tw E d bn:=by kernel_rfl
theorem AEE:TW E (d+1) 155=tw E d kL:=by kernel_rfl
theorem AED:TW E (d+1) 158=tw E d kK:=by kernel_rfl
theorem AEC:TW E (d+1) 171=tw E d kJ:=by kernel_rfl
theorem AEA:TW E (d+1) 177=tw E d YK:=by kernel_rfl
theorem AD9:TW E (d+1) 179=tw E d kI:=by kernel_rfl
theorem AD8:TW E (d+1) 180=tw E d kH:=by kernel_rfl
theorem AD7:TW E (d+1) 182=tw E d kG:=by kernel_rfl
theorem AD6:TW E (d+1) 187=tw E d bm:=by kernel_rfl
theorem sd:TW E (d+1) 188=tw E d WE:=by kernel_rfl
theorem AD5:TW E (d+1) 189=tw E d bj:=by kernel_rfl
theorem AD3:TW E (d+1) 191=tw E d YJ:=by kernel_rfl
theorem AD2:TW E (d+1) 192=tw E d bh:=by kernel_rfl
theorem AD1:TW E (d+1) 193=tw E d kF:=by kernel_rfl
theorem AD0:TW E (d+1) 198=tw E d bg:=by kernel_rfl
theorem sa:TW E (d+1) 199=tw E d YI:=by kernel_rfl
theorem sZ:TW E (d+1) 200=tw E d bf:=by kernel_rfl
theorem sY:TW E (d+1) 201=tw E d YH:=by kernel_rfl
theorem ADz:TW E (d+1) 202=tw E d kE:=by kernel_rfl
theorem ADy:TW E (d+1) 204=tw E d kD:=by kernel_rfl
theorem ADx:TW E (d+1) 205=tw E d be:=by kernel_rfl
theorem ADw:TW E (d+1) 206=tw E d kC:=by kernel_rfl
theorem ADv:TW E (d+1) 207=tw E d YG:=by kernel_rfl
theorem ADu:TW E (d+1) 208=tw E d bb:=by kernel_rfl
theorem ADt:TW E (d+1) 209=tw E d kB:=by kernel_rfl
theorem ADs:TW E (d+1) 220=tw E d kA:=by kernel_rfl
theorem ADr:TW E (d+1) 222=tw E d j9:=by kernel_rfl
theorem ADq:TW E (d+1) 232=tw E d ba:=by kernel_rfl
theorem sX:TW E (d+1) 233=tw E d bZ:=by kernel_rfl
theorem ADp:TW E (d+1) 234=tw E d bY:=by kernel_rfl
theorem ADo:TW E (d+1) 235=tw E d bX:=by kernel_rfl
theorem ADn:TW E (d+1) 236=tw E d j8:=by kernel_rfl
theorem ADm:TW E (d+1) 238=tw E d bW:=by kernel_rfl
theorem ADj:TW E (d+1) 250=tw E d j7:=by kernel_rfl
end
theorem DE4 (E:EB) (d:Nat):TW E (d+1) 4=NO [yp] (BD E 600000 (TW E d) 4):=by kernel_rfl
theorem DE5 (E:EB) (d:Nat):TW E (d+1) 5=NO [eT] (BD E 600000 (TW E d) 5):=by kernel_rfl
theorem AH6 (E:EB) (d:Nat):TW E (d+1) 17=NO [yo] (BD E 600000 (TW E d) 17):=by kernel_rfl
theorem AHy (E:EB) (d:Nat):TW E (d+1) 38=NO [yn] (BD E 600000 (TW E d) 38):=by kernel_rfl
theorem AET (E:EB) (d:Nat):TW E (d+1) 103=NO [WI] (BD E 600000 (TW E d) 103):=by kernel_rfl
theorem AEB (E:EB) (d:Nat):TW E (d+1) 176=NO [SX] (BD E 600000 (TW E d) 176):=by kernel_rfl
theorem Ay {J:H} (ht:Af J) (z:List V):∃J1,DR J (.cells z)=J1/\Fr AJ J J1/\B8 J1 J.next z/\J1.next=J.next+1:=⟨_,rfl,Fr.new ht _,Rc _,rfl⟩
theorem Ci {J:H} {b:Nat} {l:List V} (ht:Af J) (h:B8 J b l) (z:List V):∃J1,EV J b (.cells z)=J1/\Fr (fun k=>k=b) J J1/\B8 J1 b z:=⟨_,rfl,Fr.set ht (h.lt ht) _,ku _⟩
structure Wr (J:H) (w:Nat) (u:V) (L:List Nat):Prop where
 at_:B8 J w [u]
 d:GH J 1 L.length u (H0 (nI L))
 ne:¬Ai u w
def Ht (w:Nat) (u:V):Nat->Prop:=fun b=>b=w\/Ai u b
structure Jh (J:H) (w:Nat) (u:V) (J':H) (u':V) (L':List Nat):Prop where
 wr:Wr J' w u' L'
 f:Fr (Ht w u) J J'
 g:∀b,Ai u' b->Ai u b\/J.next<=b
section
variable {E:EB} {J J1 J2:H} {w:Nat} {u u1 u2:V} {L L1 L2:List Nat}
theorem Jh.refl (h:Wr J w u L) (ht:Af J):Jh J w u J u L:=⟨h,Fr.refl ht,fun _ hb => .inl hb⟩
theorem Jh.trans (h:Jh J w u J1 u1 L1) (k:Jh J1 w u1 J2 u2 L2):Jh J w u J2 u2 L2:=by
 refine⟨k.wr,h.f.trans k.f (fun b hb hn=>?_),fun b hb=>?_⟩
 ·rcases hn with hn|hn
  ·exact .inl hn
  ·rcases h.g b hn with h'|h'
   ·exact .inr h'
   ·omega
 ·rcases k.g b hb with h'|h'
  ·exact h.g b h'
  ·exact .inr (Ae h.f.le h')
theorem Wr.fr (h:Wr J w u L) (f:Fr AJ J J1) (ht:Af J):Wr J1 w u L:=⟨f.at_ h.at_ ht (fun h=>h),h.d.fr f ht (fun _ _ h=>h),h.ne⟩
theorem Jh.behind (f:Fr AJ J J1) (k:Jh J1 w u J2 u2 L2):Jh J w u J2 u2 L2:=
 ⟨k.wr,f.mono (fun _ _ h=>h.elim) |>.trans k.f (fun _ _ h=>h),fun b hb=>(k.g b hb).imp id (fun h=>Ae f.le h)⟩
theorem cP (h:Wr J w u L) (ht:Af J) (c:Nat) (hl:L.length<9000000):∃u' J',(∀U:H->AH,(Ee E 1 1 u (V.sl (H.next J) 0 1 (.ex 1)) (DR J (.cells [.int .u8 (AA c)])) fun u3 s4=>Cm u3 (Dt 1 w 0 u3 s4 fun s5=>U s5))=U J')/\Jh J w u J' u' (L++[c]):=by
 obtain⟨J1,e1,f1,a1,n1⟩:=Ay ht [.int .u8 (AA c)]
 rw[e1]
 have x:EY J1 1 1 (V.sl J.next 0 1 (.ex 1)) [.int .u8 (AA c)] := .inr ⟨_,_,_,_,rfl,a1,AN _,rfl⟩
 obtain⟨u',J2,g2,d2,m2,f2⟩:=HP (E:=E) (bytes:=1) (h.d.fr f1 ht (fun _ _ h=>h)) f1.tidy x rfl (by
  unfold CV
  simp only[C8,AK,BC];omega)
 have a2:B8 J2 w [u]:=f2.at_ (f1.at_ h.at_ ht (fun h=>h)) f1.tidy h.ne
 have lw:=h.at_.lt ht
 have ne':¬Ai u' w:=fun hb=>by
  rcases m2 w hb with h'|h'
  ·exact h.ne h'
  ·omega
 obtain⟨J3,e3,f3,a3⟩:=Ci f2.tidy a2 [u']
 have o:=d2.one
 obtain⟨o1,o2⟩:=Hi o
 refine⟨u',J3,fun U=>?_,⟨a3,?_,ne'⟩,?_,?_⟩
 ·rw[g2,CM o,Cg a2 (by rw[o2];cases u'<;>first | rfl | cases o),o2]
  show U (EV J2 w (.cells [u']))=_
  rw[e3]
 ·rw[AL,Lc,HF]
  exact d2.fr f3 f2.tidy (fun b hb hw=>ne' (by cases hw;exact hb))
 ·exact((f1.mono (fun _ _ h=>h.elim):Fr (Ht w u) J J1).trans f2 (fun _ _ h => .inr h)).trans f3 (fun _ _ h => .inl h)
 ·intro b hb
  rcases m2 b hb with h'|h'
  ·exact .inl h'
  ·exact .inr (by omega)
def E4 (J:H) (w:Nat) (u:V) (b:Nat):Prop:=b<J.next/\b≠w/\¬Ai u b
theorem Jh.off (h:Jh J w u J1 u1 L1) {b:Nat} (o:E4 J w u b):E4 J1 w u1 b:=
 ⟨Bg o.1 h.f.le,o.2.1,fun hb=>(h.g b hb).elim o.2.2 (by have:=o.1;omega)⟩
theorem E4.not {b:Nat} (o:E4 J w u b):¬Ht w u b:=fun h=>h.elim o.2.1 o.2.2
theorem E4.fr {b:Nat} (o:E4 J w u b) (f:Fr AJ J J1):E4 J1 w u b:=⟨Bg o.1 f.le,o.2⟩
theorem E4.new (h:Wr J w u L) (ht:Af J) {b:Nat} (hb:J.next<=b) (hb':b<J1.next):E4 J1 w u b:=
 ⟨hb',fun e=>by have:=h.at_.lt ht;omega,fun hn=>by have:=h.d.lt ht hn;omega⟩
theorem Jh.at_ (h:Jh J w u J1 u1 L1) (ht:Af J) {b:Nat} {l:List V} (o:E4 J w u b) (ha:B8 J b l):B8 J1 b l:=h.f.at_ ha ht o.not
def AtE (E:EB) (J:H) (b:Nat) (l:List V):Prop:=Ba J.bl b=some (.cells l)\/(Ba J.bl b=none/\Ba E b=some (.cells l))
def Sq (E:EB) (J:H) (x:V) (l:List Int):Prop:=(l=[]/\x = .nils)\/(∃b o c,l=[]/\x = .sl b o 0 c)\/∃b o c M,x = .sl b o l.length c/\AtE E J b M/\o+l.length<=M.length/\H0 l=(M.drop o).take l.length
theorem Sq.of {x:V} {l:List Int} (h:By J x l):Sq E J x l:=by
 rcases h with ⟨h0,rfl,_⟩|⟨b,o,c,M,rfl,ha,hl,hm⟩
 ·exact .inl ⟨Bu h0,rfl⟩
 ·exact .inr (.inr ⟨b,o,c,M,rfl,.inl ha,by omega,by rw[hm,C8]⟩)
theorem Sq.one {x:V} {l:List Int} (h:Sq E J x l):x.one=true:=by
 rcases h with ⟨_,rfl⟩|⟨_,_,_,_,rfl⟩|⟨_,_,_,_,rfl,_⟩<;>rfl
theorem Sq.slen {x:V} {l:List Int} (h:Sq E J x l) (U:Nat->AH):BA x U=U l.length:=by
 rcases h with ⟨rfl,rfl⟩|⟨_,_,_,rfl,rfl⟩|⟨_,_,_,_,rfl,_⟩<;>rfl
theorem Sq.keep {x:V} {l:List Int} (h:Sq E J x l) (hs:∀b,Ai x b->Ba J1.bl b=Ba J.bl b):Sq E J1 x l:=by
 rcases h with h|h|⟨b,o,c,M,rfl,ha,hl,hm⟩
 ·exact .inl h
 ·exact .inr (.inl h)
 ·refine .inr (.inr ⟨b,o,c,M,rfl,?_,hl,hm⟩)
  unfold AtE at *
  rw[hs b rfl];exact ha
theorem Jh.sq (h:Jh J w u J1 u1 L1) {x:V} {l:List Int} (o:∀b,Ai x b->E4 J w u b) (hx:Sq E J x l):Sq E J1 x l:=hx.keep fun b hb=>h.f.same b (o b hb).1 (o b hb).not
theorem Sq.fr {x:V} {l:List Int} (hx:Sq E J x l) (f:Fr AJ J J1) (o:∀b,Ai x b->b<J.next):Sq E J1 x l:=hx.keep fun b hb=>f.same b (o b hb) fun h=>h
theorem Vb {x:V} {l:List Int} {k:Nat} {c:Int} (h:Sq E J x l) (hk:l[k]? = some c) (U:V->AH):AT 1 x (AA k) (fun b o=>BL E J b o U)=U (.int .u8 c):=by
 have hlt:k<l.length:=by
  rcases Al k l.length with h|h
  ·exact h
  ·rw[Aa h]at hk;cases hk
 rcases h with ⟨h0,_⟩|⟨_,_,_,h0,_⟩|⟨b,o,cp,M,rfl,ha,hl,hm⟩
 ·rw[h0]at hlt;simp at hlt
 ·rw[h0]at hlt;simp at hlt
 ·rw[CR hlt]
  have h2:(H0 l)[k]? = some (.int .u8 c):=by unfold H0;rw[BM,hk];rfl
  rw[hm,Ey,if_pos hlt,DC]at h2
  show BL E J b (o+k*1) U=_
  rw[C8]
  have e:∀U':List V->AH,WW E J b U'=U' M:=fun U'=>by
   unfold WW
   rcases ha with ha|⟨h0,ha⟩
   ·rw[ha]
   ·rw[h0,ha]
  unfold BL
  rw[e]
  exact Oy (by rw[MW];exact h2)
theorem P0 {O:List Nat} {k c:Nat} (h:O[k]? = some c):(nI O)[k]? = some (AA c):=by unfold nI;rw[BM,h];rfl
theorem Wz {v n:Nat} (hv:v<=4294967295) (hn:n<=32):BP .u8 (Je .u32 (LA .u32 (AA v) n) (AA 1))=AA (v / 2 ^ n % 2):=by
 rw[MH hn,Vj (Ae (kz _ _) hv),BV (by rw[MY];omega)]
theorem Wy {v n:Nat} (hv:v<=18446744073709551615) (hn:n<=64):BP .i64 (Je .u64 (LA .u64 (AA v) n) (AA 1))=AA (v / 2 ^ n % 2):=by
 rw[MH hn,fN (Ae (kz _ _) hv),BV (by rw[Dc];omega)]
def Lh:Nat->Int
 | 0=>FM 0
 | k+1=>AA k
theorem Ic {k:Nat} (h:k<=1000):E6 .i64 (AA k) (AA 1)=Lh k:=by
 cases k with
 | zero=>rfl
 | succ k=>rw[Fs (by omega) (by omega)];rfl
theorem dV (a b:Nat):HL (AA a) (AA b)=AA (min a b):=by
 unfold HL
 split
 ·rename_i h;have h:(b:Int)<(a:Int):=h;rw[Nat.min_eq_right (by omega)]
 ·rename_i h;have h:¬(b:Int)<(a:Int):=h;rw[HD (by omega)]
theorem Ia (a b:Nat):GW (AA a) (AA b)=AA (max a b):=by
 unfold GW
 split
 ·rename_i h;have h:(b:Int) > (a:Int):=h;rw[Nat.max_eq_right (by omega)]
 ·rename_i h;have h:¬(b:Int) > (a:Int):=h;rw[Jg (by omega)]
theorem Ld (a:Nat):GW (AA 0) (AA a)=AA a:=by rw[Ia,Nat.max_eq_right (CH a)]
theorem HK {a b:Nat} (h:a<=b):HL (AA a) (AA b)=AA a:=by rw[dV,HD h]
end
def iH (F:List V->H->AH):Prop:=∀(J:H) (w:Nat) (u:V) (L:List Nat) (c:Nat),Wr J w u L->Af J->L.length<9000000->c<2 ->
 ∃u' J',F [.ptr w 0,.int .i64 (AA c)] J=some (.tup [],J')/\Jh J w u J' u' (L++[c])
def Nr (F:List V->H->AH):Prop:=∀(J:H) (w:Nat) (u:V) (L:List Nat) (v n:Nat),Wr J w u L->Af J->L.length<8000000->v<=18446744073709551615->n<=64 ->
 ∃u' J',F [.ptr w 0,.int .u64 (AA v),.int .i64 (AA n)] J=some (.tup [],J')/\Jh J w u J' u' (L++Bq n v)
def RA (F:List V->H->AH):Prop:=∀(J:H) (w:Nat) (u:V) (L:List Nat) (v n:Nat),Wr J w u L->Af J->L.length<8000000->v<=4294967295->n<=32 ->
 ∃u' J',F [.ptr w 0,.int .u32 (AA v),.int .i64 (AA n)] J=some (.tup [],J')/\Jh J w u J' u' (L++Bq n v)
section
variable {E:EB} {D:Az} {W:AM} {N:Nat}
theorem cm:iH (F13 E D W N):=by
 intro J w u L c h ht hl hc
 obtain⟨u',J',g,k⟩:=cP (E:=E) h ht c hl
 refine⟨u',J',?_,k⟩
 show gg E D W w 0 (AA c) J=_
 unfold gg
 have a:=h.at_
 have:c=0\/c=1:=by omega
 rcases this with rfl|rfl
 ·simp -implicitDefEqProofs only [↓rP,rA,AD,AG,AB,↓AY a]
  exact g _
 ·simp -implicitDefEqProofs only [↓rP,rA,AD,AG,AB,↓AY a]
  exact g _
theorem ui (hB:iH (D 13)) (hN:64<N):Nr (F6 E D W N):=by
 intro J w u L v n h ht hl hv hn
 have loop:∀(k n':Nat) (u:V) (J:H) (L:List Nat),k<=64->k<n'->Wr J w u L->Af J->L.length+k<9000000 ->
   ∃u' J',pL E D W N n' w 0 (AA v) (Lh k) J=some (.tup [],J')/\Jh J w u J' u' (L++Bq k v):=by
  intro k
  induction k with
  | zero=>
   intro n' u J L hk hn' h ht hl
   obtain⟨n',rfl⟩:∃k,n'=k+1:=⟨n'-1,by omega⟩
   refine⟨u,J,rfl,?_⟩
   rw[show Bq 0 v=[] from rfl,Am];exact Jh.refl h ht
  | succ k ih=>
   intro n' u J L hk hn' h ht hl
   obtain⟨n',rfl⟩:∃k,n'=k+1:=⟨n'-1,by omega⟩
   obtain⟨u1,J1,g1,s1⟩:=hB J w u L (v / 2 ^ k % 2) h ht (by omega) (Re _ (by decide))
   obtain⟨u2,J2,g2,s2⟩:=ih n' u1 J1 _ (by omega) (by omega) s1.wr s1.f.tidy (by simp only[AL,Aj,CA];omega)
   refine⟨u2,J2,?_,?_⟩
   ·have key:∀R,oJ E D W R w 0 (AA v) (Lh (k+1)) J=R w 0 (AA v) (Lh k) J1:=by
     intro R
     unfold oJ
     have e1:BP .u64 (AA k)=AA k:=BV (by rw[Db];omega)
     show AS (Hk (AA 0) (AA k)) (Pz (BP .u64 (AA k)) _) _=_
     have d1:Hk (AA 0) (AA k)=true:=by rw[HN];exact decide_eq_true (CH _)
     simp -implicitDefEqProofs only [↓rP,rS,d1,e1,HJ,Wy hv (show k<=64 by omega),↓g1]
     rw[show Lh (k+1)=AA k from rfl,Ic (by omega)]
    exact(key _).trans g2
   ·have:=s1.trans s2
    rw[Ab]at this
    exact this
 obtain⟨u',J',g,s⟩:=loop n N u J L hn (by omega) h ht (by omega)
 refine⟨u',J',?_,s⟩
 show oK E D W (pL E D W N N) w 0 (AA v) (AA n) J=_
 unfold oK
 rw[HK hn,Ld,Ic (by omega)]
 exact g
theorem fH (hN:64<N):RA (yv E D W N):=by
 intro J w u L v n h ht hl hv hn
 have loop:∀(k n':Nat) (u:V) (J:H) (L:List Nat),k<=32->k<n'->Wr J w u L->Af J->L.length+k<9000000 ->
   ∃u' J',Zp E D W N n' w 0 (AA v) (Lh k) J=some (.tup [],J')/\Jh J w u J' u' (L++Bq k v):=by
  intro k
  induction k with
  | zero=>
   intro n' u J L hk hn' h ht hl
   obtain⟨n',rfl⟩:∃k,n'=k+1:=⟨n'-1,by omega⟩
   refine⟨u,J,rfl,?_⟩
   rw[show Bq 0 v=[] from rfl,Am];exact Jh.refl h ht
  | succ k ih=>
   intro n' u J L hk hn' h ht hl
   obtain⟨n',rfl⟩:∃k,n'=k+1:=⟨n'-1,by omega⟩
   obtain⟨u1,J1,g1,s1⟩:=cP (E:=E) h ht (v / 2 ^ k % 2) (by omega)
   obtain⟨u2,J2,g2,s2⟩:=ih n' u1 J1 _ (by omega) (by omega) s1.wr s1.f.tidy (by simp only[AL,Aj,CA];omega)
   refine⟨u2,J2,?_,?_⟩
   ·have key:∀R,ZU E D W R w 0 (AA v) (Lh (k+1)) J=R w 0 (AA v) (Lh k) J1:=by
     intro R
     unfold ZU
     have e1:BP .u64 (AA k)=AA k:=BV (by rw[Db];omega)
     have d1:Hk (AA 0) (Lh (k+1))=true:=by rw[show Lh (k+1)=AA k from rfl,HN];exact decide_eq_true (CH _)
     have a:=h.at_
     simp -implicitDefEqProofs only [↓rP,rS,d1,↓AY a]
     rw[show Lh (k+1)=AA k from rfl,e1,HJ,Wz hv (by omega),g1,Ic (by omega)]
    exact(key _).trans g2
   ·have:=s1.trans s2
    rw[Ab]at this
    exact this
 obtain⟨u',J',g,s⟩:=loop n N u J L hn (by omega) h ht (by omega)
 refine⟨u',J',?_,s⟩
 show ZV E D W (Zp E D W N N) w 0 (AA v) (AA n) J=_
 unfold ZV
 rw[HK hn,Ld,Ic (by omega)]
 exact g
end
def Xq (E:EB) (F:List V->H->AH):Prop:=∀(J:H) (w p:Nat) (u x:V) (L O:List Nat),Wr J w u L->Af J->L.length+8*O.length<8000000->O.length<=70000->(∀c∈O,c<256) ->
 B8 J p [x]->Sq E J x (nI O)->E4 J w u p->(∀b,Ai x b->E4 J w u b) ->
 ∃u' J',F [.ptr w 0,.sl p 0 1 (.ex 1)] J=some (.tup [],J')/\Jh J w u J' u' (L++A1 O)
def Xr (E:EB) (F:List V->H->AH):Prop:=∀(J:H) (w:Nat) (u x:V) (L O:List Nat),Wr J w u L->Af J->L.length+8*O.length<8000000->O.length<=70000->(∀c∈O,c<256) ->
 Sq E J x (nI O)->(∀b,Ai x b->E4 J w u b) ->
 ∃u' J',F [.ptr w 0,x] J=some (.tup [],J')/\Jh J w u J' u' (L++A1 O)
section
variable {E:EB} {D:Az} {W:AM} {N:Nat}
theorem tt (hB:RA (D 78)) (hN:70002<N):Xq E (yy E D W N):=by
 intro J w p u x L O h ht hl hO hc ap hx op ox
 have loop:∀(P:V->V->Int->H->AH) (m n' i:Nat) (u:V) (J:H) (L:List Nat),i+m=O.length->m<n'->Wr J w u L->Af J->L.length+8*m<8000000->B8 J p [x]->Sq E J x (nI O)->E4 J w u p->(∀b,Ai x b->E4 J w u b) ->
   ∃u' J',Zq E D W N P n' (.ptr w 0) (.sl p 0 1 (.ex 1)) (AA 0) (AA i) J=P (.ptr w 0) (.sl p 0 1 (.ex 1)) (AA 1) J'/\Jh J w u J' u' (L++A1 (O.drop i)):=by
  intro P m
  induction m with
  | zero=>
   intro n' i u J L hi hn' h ht hl ap hx op ox
   obtain⟨n',rfl⟩:∃k,n'=k+1:=⟨n'-1,by omega⟩
   refine⟨u,J,?_,?_⟩
   ·show Qm E D W (rI E D W P) _ (.ptr w 0) (.sl p 0 1 (.ex 1)) (AA 0) (AA i) J=_
    have key:∀K R,Qm E D W K R (.ptr w 0) (.sl p 0 1 (.ex 1)) (AA 0) (AA i) J=K (.ptr w 0) (.sl p 0 1 (.ex 1)) (AA 0) J:=by
     intro K R
     unfold Qm
     have ia:∀U:Nat->Nat->AH,AT 1 (.sl p 0 1 (.ex 1)) (AA 0) U=U p 0:=fun U=>CR (Bz 0)
     have d1:decide (i<(nI O).length)=false:=decide_eq_false (by rw[Bf];omega)
     simp -implicitDefEqProofs only [↓rP,rA,AD,AG,AB,↓ia,↓AY ap,↓hx.slen,d1]
    rw[key]
    rfl
   ·rw[show O.drop i=[] from DD (by omega),show A1 []=[] from rfl,Am];exact Jh.refl h ht
  | succ m ih=>
   intro n' i u J L hi hn' h ht hl ap hx op ox
   obtain⟨n',rfl⟩:∃k,n'=k+1:=⟨n'-1,by omega⟩
   have hlt:i<O.length:=by omega
   have hO':O[i]? = some O[i]:=AZ hlt
   have hb:O[i]<256:=hc _ (DK hlt)
   obtain⟨u1,J1,g1,s1⟩:=hB J w u L O[i] 8 h ht (by omega) (by omega) (by decide)
   obtain⟨u2,J2,g2,s2⟩:=ih n' (i+1) u1 J1 _ (by omega) (by omega) s1.wr s1.f.tidy (by simp only[AL,A2];omega) (s1.at_ ht op ap) (s1.sq ox hx) (s1.off op) (fun b hb=>s1.off (ox b hb))
   refine⟨u2,J2,?_,?_⟩
   ·have key:∀K R,Qm E D W K R (.ptr w 0) (.sl p 0 1 (.ex 1)) (AA 0) (AA i) J=R (.ptr w 0) (.sl p 0 1 (.ex 1)) (AA 0) (AA (i+1)) J1:=by
     intro K R
     unfold Qm
     have ia:∀U:Nat->Nat->AH,AT 1 (.sl p 0 1 (.ex 1)) (AA 0) U=U p 0:=fun U=>CR (Bz 0)
     have d1:decide (i<(nI O).length)=true:=decide_eq_true (by rw[Bf];omega)
     have rd:∀U,AT 1 x (AA i) (fun b o=>BL E J b o U)=U (.int .u8 (AA O[i])):=fun U=>Vb hx (P0 hO') U
     have e1:BP .u32 (AA O[i])=AA O[i]:=BV (by rw[IZ];omega)
     simp -implicitDefEqProofs only [↓rP,rA,AD,AG,AB,↓ia,↓AY ap,↓hx.slen,d1,↓rd,e1,↓g1,BX (show i+1<=9223372036854775807 by omega)]
    exact(key _ _).trans g2
   ·have:=s1.trans s2
    rw[Ab,<-show A1 (O.drop i)=Bq 8 O[i]++A1 (O.drop (i+1))by rw[B4 hlt];rfl]at this
    exact this
 obtain⟨M,rfl⟩:∃k,N=k+2:=⟨N-2,by omega⟩
 obtain⟨u',J',g,s⟩:=loop (Zr E D W (M+2) (M+1)) O.length (M+2) 0 u J L (by omega) (by omega) h ht hl ap hx op ox
 refine⟨u',J',?_,by rw[CO]at s;exact s⟩
 show Qn E D W (Zq E D W (M+2) (Zr E D W (M+2) (M+1)) (M+2)) (.ptr w 0) (.sl p 0 1 (.ex 1)) (AA 0) J=_
 have k1:∀K,Qn E D W K (.ptr w 0) (.sl p 0 1 (.ex 1)) (AA 0) J=K (.ptr w 0) (.sl p 0 1 (.ex 1)) (AA 0) (AA 0) J:=by
  intro K
  unfold Qn
  simp -implicitDefEqProofs only [↓rP,rA,AD,AG,AB]
 have k2:∀K,Qn E D W K (.ptr w 0) (.sl p 0 1 (.ex 1)) (AA 1) J'=some (.tup [],J'):=by
  intro K
  unfold Qn
  simp -implicitDefEqProofs only [↓rP,rA,AD,AG,AB]
 rw[k1,g]
 exact k2 _
theorem tu (hO:Xq E (D 37)):Xr E (F16 E D W N):=by
 intro J w u x L O h ht hl hO' hc hx ox
 obtain⟨J1,e1,f1,a1,n1⟩:=Ay ht [x]
 obtain⟨u',J2,g2,s2⟩:=hO J1 w J.next u x L O (h.fr f1 ht) f1.tidy hl hO' hc a1 (hx.fr f1 fun b hb=>(ox b hb).1) (E4.new h ht (AN _) (by omega)) (fun b hb=>(ox b hb).fr f1)
 refine⟨u',J2,?_,Jh.behind f1 s2⟩
 show ga E D W w 0 x J=_
 unfold ga
 simp -implicitDefEqProofs only [↓rP,rS,↓eF hx.one,hx.one,↓e1,↓g2]
end
def part (L:List Nat) (j:Nat):Nat->Nat
 | 0=>0
 | m+1=>part L j m+FE L (8*j+m)*2 ^ (7-m)
theorem Pr (L:List Nat) (j:Nat):∀m,m<=8->∃q,part L j m=q*2 ^ (8-m)
 | 0,_=>⟨0,rfl⟩
 | m+1,h=>by
  obtain⟨q,e⟩:=Pr L j m (by omega)
  refine⟨q*2+FE L (8*j+m),?_⟩
  rw[part,e,show 8-m=(7-m)+1 by omega,show 8-(m+1)=7-m by omega,qX,Rl,Nat.mul_assoc,HT 2]
theorem TS {L:List Nat} (hb:PK L) (j:Nat):∀m,m<=8->part L j m+2 ^ (8-m)<=256
 | 0,_=>by show 0+2 ^ 8<=256;decide
 | m+1,h=>by
  have e:=TS hb j m (by omega)
  have b:=D7 hb (8*j+m)
  rw[part,show 8-(m+1)=7-m by omega]
  rw[show 8-m=(7-m)+1 by omega,qX]at e
  have:FE L (8*j+m)=0\/FE L (8*j+m)=1:=by omega
  rcases this with h0|h0<;>rw[h0]<;>omega
theorem TT (L:List Nat) (j:Nat):part L j 8=LG L j:=by
 simp only[part,LG,ES,show 2 ^ (7-0)=128 from rfl,show 2 ^ (7-1)=64 from rfl,show 2 ^ (7-2)=32 from rfl,show 2 ^ (7-3)=16 from rfl,show 2 ^ (7-4)=8 from rfl,show 2 ^ (7-5)=4 from rfl,show 2 ^ (7-6)=2 from rfl,show 2 ^ (7-7)=1 from rfl]
 omega
theorem uj {L:List Nat} {i:Nat} (h:L.length<=i):FE L i=0:=by
 unfold FE;rw[Ad,Aa h];rfl
theorem aH {L:List Nat} {j m:Nat} (h:L.length<=8*j+m):∀k,m<=k->part L j k=part L j m:=by
 intro k hk
 induction k with
 | zero=>rw[show m=0 by omega]
 | succ k ih=>
  rcases Al k m with h'|h'
  ·rw[show m=k+1 by omega]
  ·rw[part,ih h',uj (by omega),M5,ES]
def FB (L:List Nat) (n:Nat):List Nat:=(Cj n).map (LG L)
theorem It (L:List Nat) (n:Nat):(FB L n).length=n:=by simp[FB]
theorem PW (L:List Nat) (n:Nat):FB L (n+1)=FB L n++[LG L n]:=by simp[FB,List.range_succ]
def H2 (L:List Nat) (i:Nat):List Nat:=FB L (i / 8)++(if i % 8=0 then [] else [part L (i / 8) (i % 8)])
theorem SK (L:List Nat) (i:Nat):H2 L (i+1)=FB L (i / 8)++[part L (i / 8) (i % 8+1)]:=by
 unfold H2
 by_cases h:i % 8=7
 ·rw[show (i+1) % 8=0 by omega,if_pos rfl,show (i+1) / 8=i / 8+1 by omega,PW,h,TT,Am]
 ·rw[if_neg (by omega),show (i+1) / 8=i / 8 by omega,show (i+1) % 8=i % 8+1 by omega]
theorem VD (L:List Nat):H2 L L.length=Es L:=by
 unfold H2
 show _=FB L (Cs L.length)
 by_cases h:L.length % 8=0
 ·rw[if_pos h,Am,show Cs L.length=L.length / 8 by unfold Cs;omega]
 ·rw[if_neg h,show Cs L.length=L.length / 8+1 by unfold Cs;omega,PW,<-TT]
  congr 2
  exact(aH (by omega) 8 (by omega)).symm
theorem qz {q b n:Nat} (hn:n<=7) (hb:b<2) (h:q*2 ^ (n+1)+b*2 ^ n<=255):Yz .u8 (AA (q*2 ^ (n+1))) (MI .u8 (AA b) n)=AA (q*2 ^ (n+1)+b*2 ^ n):=by
 have hlt:b*2 ^ n<2 ^ (n+1):=by
  rw[qX,HT]
  exact Nat.mul_lt_mul_of_pos_left hb (Nat.pow_pos (by decide))
 rw[Ov,show E9 n (IntKind.bits .u8)=n from HD (Ae hn (by decide)),show AA b*2 ^ n=AA (b*2 ^ n)by
  rw[show AA (b*2 ^ n)=((b*2 ^ n:Nat):Int)from rfl,Int.natCast_mul,PO];rfl,Dy (by rw[MY];omega),Pv,PR,DX,DX,show IntKind.bits .u8=8 from rfl,Bw (show q*2 ^ (n+1)<2 ^ 8 by omega),Bw (show b*2 ^ n<2 ^ 8 by omega),TU hlt]
 exact Dy (by rw[MY];omega)
theorem tk {i:Nat} (h:i<=9223372036854775807):JX .i64 (AA i) (AA 8)=AA (i / 8):=by
 rw[Yv,show (AA i).tdiv (AA 8)=AA (i / 8)from rfl]
 exact Dy (by rw[Dc];omega)
theorem Wb (i:Nat):Fq (AA i) (AA 8)=AA (i % 8):=rfl
section
variable {E:EB} {J0 J:H} {v:V} {a r:List Int} {c:Int}
theorem uA (h:Nb J0 J v (a++c::r)) (f0:Fr AJ J0 J) (d:Int) :
  ∃b J',(∀U:Nat->Nat->AH,AT 1 v (AA a.length) U=U b a.length)/\(∀U:V->AH,BL E J b a.length U=U (.int .u8 c))/\(∀U:H->AH,Dt 1 b a.length (.int .u8 d) J U=U J')/\Nb J0 J' v (a++d::r)/\Fr AJ J0 J'/\Fr (fun b=>J0.next<=b) J J':=by
 obtain⟨hd,hn⟩:=h
 have hlen:(a++c::r).length=(a++d::r).length:=by simp
 have key:∀b (cp:Zy),v = .sl b 0 (a++c::r).length cp->B8 J b (H0 (a++c::r))->(∀J',B8 J' b (H0 (a++d::r))->GH J' 1 (a++d::r).length v (H0 (a++d::r)))->∃b J',(∀U:Nat->Nat->AH,AT 1 v (AA a.length) U=U b a.length)/\(∀U:V->AH,BL E J b a.length U=U (.int .u8 c))/\(∀U:H->AH,Dt 1 b a.length (.int .u8 d) J U=U J')/\Nb J0 J' v (a++d::r)/\Fr AJ J0 J'/\Fr (fun b=>J0.next<=b) J J':=by
  intro b cp hv ha hd'
  obtain⟨J',e,f,a'⟩:=Ci f0.tidy ha (H0 (a++d::r))
  have nb:J0.next<=b:=hn b (by rw[hv];rfl)
  refine⟨b,J',fun U=>?_,fun U=>?_,fun U=>?_,⟨hd' J' a',hn⟩,f0.trans f (fun b' hb' e'=>by subst e';omega),f.mono (fun b' _ e'=>by subst e';exact nb)⟩
  ·rw[hv,CR (by simp)]
   show U b (0+a.length*1)=_
   rw[CJ,C8]
  ·exact Gp ha (by unfold H0;rw[BM,CY (AN _),M6];rfl)
  ·rw[Cg ha (by
    simp only[Hb,Aj,CA,Er,AL,AK,Nat.beq_eq_true_eq,BC]
    refine⟨⟨rfl,?_⟩,rfl⟩
    show a.length+1<=_
    omega)]
   rw[show Hg (H0 (a++c::r)) a.length (V.int .u8 d).cells=H0 (a++d::r)from by
    have:=WT (H0 a) (.int .u8 c) (H0 r) (.int .u8 d)
    rw[Er]at this
    rw[HF,HF]
    exact this,e]
 rcases hd with (⟨h0,_⟩|⟨b,hv,ha,h0,hl⟩)|⟨b,hv,ha,hl⟩
 ·simp at h0
 ·refine key b _ hv ha fun J' a' => .inl (.inr ⟨b,?_,a',by rw[<-hlen];exact h0,by rw[Er,C8]⟩)
  rw[<-hlen];exact hv
 ·refine key b _ hv ha fun J' a' => .inr ⟨b,?_,a',by rw[Er,C8]⟩
  rw[<-hlen];exact hv
end
def UF (B:Nat) (F:List V->H->AH):Prop:=∀(J:H) (w:Nat) (u:V) (L:List Nat),Wr J w u L->Af J->PK L->L.length<=B ->
 ∃v J',F [.ptr w 0] J=some (v,J')/\Nb J J' v (nI (Es L))/\Fr AJ J J'
theorem VC (L:List Nat) (i:Nat):(H2 L i).length=Cs i:=by
 unfold H2 Cs
 rw[AL,It]
 split
 ·simp only[CA];omega
 ·simp only[Aj,CA];omega
theorem nJ {E:EB} {J:H} {u:V} {L:List Nat} {i:Nat} (h:GH J 1 L.length u (H0 (nI L))) (hi:i<L.length) (U:V->AH):AT 1 u (AA i) (fun b o=>BL E J b o U)=U (.int .u8 (AA (FE L i))):=by
 have hx:By J u (nI L):=by
  show EY J 1 (nI L).length u _
  rw[Bf];exact h.src
 refine Vb (Sq.of hx) ?_ U
 refine P0 ?_
 unfold FE
 rw[Ad,AZ hi];rfl
section
variable {E:EB} {D:Az} {W:AM} {N B:Nat}
theorem WY (hN:B+1<N) (hB:B<=9000000):UF B (zA E D W N):=by
 intro J w u L h ht hb hl
 have loop:∀(m n' i:Nat) (v:V) (J1:H),i+m=L.length->m<n'->Fr AJ J J1->Nb J J1 v (nI (H2 L i)) ->
   ∃v' J',WB E D W N n' w 0 v (AA i) J1=some (v',J')/\Nb J J' v' (nI (Es L))/\Fr AJ J J':=by
  intro m
  induction m with
  | zero=>
   intro n' i v J1 hi hn' f1 hv
   obtain⟨n',rfl⟩:∃k,n'=k+1:=⟨n'-1,by omega⟩
   have h1:=h.fr f1 ht
   refine⟨v,J1,?_,by rw[<-VD,<-(show i=L.length by omega)];exact hv,f1⟩
   have key:∀K1 K2,OY E D W K1 K2 w 0 v (AA i) J1=K1 v J1:=by
    intro K1 K2
    unfold OY
    have a:=h1.at_
    have d1:decide (i<L.length)=false:=decide_eq_false (by omega)
    simp -implicitDefEqProofs only [↓rP,rA,AD,AG,AB,↓AY a,↓h1.d.slen,d1]
   exact(key _ _).trans rfl
  | succ m ih=>
   intro n' i v J1 hi hn' f1 hv
   obtain⟨n',rfl⟩:∃k,n'=k+1:=⟨n'-1,by omega⟩
   have hlt:i<L.length:=by omega
   have h1:=h.fr f1 ht
   obtain⟨v2,J2,g2,h2,f2⟩:∃v2 J2,(∀K1 K4,OY E D W K1 K4 w 0 v (AA i) J1=K4 w 0 v2 (AA i) J2)/\Nb J J2 v2 (nI (FB L (i / 8))++AA (part L (i / 8) (i % 8))::[])/\Fr AJ J J2:=by
    have d1:decide (i<L.length)=true:=decide_eq_true hlt
    have a:=h1.at_
    by_cases h8:i % 8=0
    ·obtain⟨J2,e2,f2,a2,n2⟩:=Ay f1.tidy [.int .u8 (AA 0)]
     have x:By J2 (V.sl J1.next 0 1 (.ex 1)) [AA 0] := .inr ⟨_,_,_,_,rfl,a2,AN _,rfl⟩
     obtain⟨v3,J3,g3,h3,f3,_⟩:=To (E:=E) (hv.fr f2 f1.tidy) (f1.trans f2 (fun _ _ h=>h)) x (by rw[Bf,VC];unfold Cs;simp only[Aj,CA];omega)
     refine⟨v3,J3,fun K1 K4=>?_,?_,f3⟩
     ·unfold OY
      have d2:Cu (Fq (AA i) (AA 8)) (AA 0)=true:=by rw[Wb,DY];exact decide_eq_true h8
      simp -implicitDefEqProofs only [↓rP,rA,AD,AG,AB,↓AY a,↓h1.d.slen,d1,d2,↓e2,↓g3,↓CM h3.1.one]
     ·have e:H2 L i=FB L (i / 8):=by unfold H2;rw[if_pos h8,Am]
      rw[e]at h3
      rw[h8];exact h3
    ·refine⟨v,J1,fun K1 K4=>?_,?_,f1⟩
     ·unfold OY
      have d2:Cu (Fq (AA i) (AA 8)) (AA 0)=false:=by rw[Wb,DY];exact decide_eq_false h8
      simp -implicitDefEqProofs only [↓rP,rA,AD,AG,AB,↓AY a,↓h1.d.slen,d1,d2]
     ·have e:H2 L i=FB L (i / 8)++[part L (i / 8) (i % 8)]:=by unfold H2;rw[if_neg h8]
      rw[e,Lc]at hv
      exact hv
   have hh:=h.fr f2 ht
   have lw:(nI (FB L (i / 8))).length=i / 8:=by rw[Bf,It]
   obtain⟨b,J3,ia,rd,st,h3,f3,_⟩:=uA (E:=E) h2 f2 (AA (part L (i / 8) (i % 8+1)))
   rw[lw]at ia rd st
   obtain⟨v4,J4,g4,h4,f4⟩:=ih n' (i+1) v2 J3 (by omega) (by omega) f3 (by rw[SK,Lc];exact h3)
   refine⟨v4,J4,?_,h4,f4⟩
   have key:∀K,Vv E D W K w 0 v2 (AA i) J2=K w 0 v2 (AA i) J3:=by
    intro K
    unfold Vv
    have a:=hh.at_
    have gt:∀U,AT 1 u (AA i) (fun b o=>BL E J2 b o U)=U (.int .u8 (AA (FE L i))):=fun U=>nJ hh.d hlt U
    have sh:BP .u64 (E6 .i64 (AA 7) (AA (i % 8)))=AA (7-i % 8):=by
     rw[Fs (by omega) (by omega),BV (by rw[Db];omega)]
    have hq:Yz .u8 (AA (part L (i / 8) (i % 8))) (MI .u8 (AA (FE L i)) (7-i % 8))=AA (part L (i / 8) (i % 8+1)):=by
     obtain⟨q,e⟩:=Pr L (i / 8) (i % 8) (by omega)
     have hlt':=TS hb (i / 8) (i % 8+1) (by omega)
     have hp:0<2 ^ (8-(i % 8+1)):=Nat.pow_pos (by decide)
     rw[part,show 8*(i / 8)+i % 8=i by omega]at hlt' ⊢
     rw[e,show 8-i % 8=(7-i % 8)+1 by omega]at hlt' ⊢
     exact qz (by omega) (D7 hb i) (by omega)
    simp -implicitDefEqProofs only [↓rP,rS,tk (show i<=9223372036854775807 by omega),Wb,↓ia,↓rd,↓AY a,↓gt,sh,HJ,hq,↓st]
   show OY E D W _ (Vv E D W (gI E D W (WB E D W N n'))) w 0 v (AA i) J1=_
   rw[g2,key]
   show WB E D W N n' w 0 v2 (CU .i64 (AA i) (AA 1)) J3=_
   rw[BX (by omega)]
   exact g4
 obtain⟨v,J',g,h1,f1⟩:=loop L.length N 0 .nils J (by omega) (by omega) (Fr.refl ht) (Nb.nil J J)
 exact⟨v,J',g,h1,f1⟩
theorem WX (hB:UF B (D 23)) {J:H} {w:Nat} {u:V} {L:List Nat} (h:Wr J w u L) (ht:Af J) (hb:PK L) (hl:L.length<=B) (h0:0<L.length) :
  ∃v J',F9 E D W N [.ptr w 0] J=some (v,J')/\Nb J J' v (nI (Es L))/\Fr AJ J J':=by
 obtain⟨v,J',g,n,f⟩:=hB J w u L h ht hb hl
 refine⟨v,J',?_,n,f⟩
 show ux E D W w 0 J=_
 unfold ux
 have d1:decide ((nI (Es L)).length=0)=false:=decide_eq_false (by rw[Bf,Dg];unfold Cs;omega)
 simp -implicitDefEqProofs only [↓rP,rA,AD,AG,AB,↓g,↓CM n.1.one,↓n.1.slen,d1]
end
def Uh (x:V):Prop:=match x with
 | .sl _ _ n (.ex c)=>n<=c
 | .sl _ _ _ (.op e)=>e=1
 | _=>True
section
variable {E:EB} {J:H} {x:V} {l:List Int}
theorem O6 (l:List Int) (d:Nat):G0 (some (.int .i64 (AA l.length))) d=some l.length:=by
 show (if(0:Int)<=AA l.length then some (AA l.length).toNat else none)=_
 exact if_pos (Rf l.length)
theorem qk {b o c:Nat} (hc:l.length<=c):CP 1 (.sl b o l.length (.ex c)) none (some (.int .i64 (AA l.length))) none=some (.sl b o l.length (.ex c)):=by
 unfold CP
 simp only[O6,show G0 none c=some c from rfl,show G0 none 0=some 0 from rfl]
 rw[if_pos (by simp[hc])]
 simp
theorem qj {b o:Nat}:CP 1 (.sl b o l.length (.op 1)) none (some (.int .i64 (AA l.length))) none=some (.sl b o l.length (.op 1)):=by
 unfold CP
 simp only[O6,show G0 none 0=some 0 from rfl]
 rw[if_pos (by simp)]
 by_cases h0:l.length=0
 ·simp[h0]
 ·rw[if_neg (fun h=>h0 (BO h).symm)];simp
theorem nA {b o c:Nat} (hc:l.length<=c):∃y,CP 1 (.sl b o l.length (.ex c)) (some (.int .i64 (AA l.length))) none none=some y:=by
 unfold CP
 simp only[O6,show G0 none c=some c from rfl,show G0 none l.length=some l.length from rfl]
 rw[if_pos (by simp[hc])]
 exact⟨_,rfl⟩
theorem mz {b o:Nat}:∃y,CP 1 (.sl b o l.length (.op 1)) (some (.int .i64 (AA l.length))) none none=some y:=by
 unfold CP
 simp only[O6,show G0 none l.length=some l.length from rfl]
 rw[if_pos (by simp),if_pos (by simp)]
 by_cases h0:l.length=0
 ·rw[if_pos (by simp[h0])];exact⟨_,rfl⟩
 ·rw[if_neg (fun h=>h0 (by simpa using h))];exact⟨_,rfl⟩
theorem zn (h:Sq E J x l) (hc:Uh x):∃y,(∀U:V->AH,gK (CP 1 x none (some (.int .i64 (AA l.length))) none) U=U y)/\Sq E J y l/\∀b,Ai y b->Ai x b:=by
 have key:∀b o c,x = .sl b o l.length c->CP 1 x none (some (.int .i64 (AA l.length))) none=some x:=by
  intro b o c hx
  subst hx
  cases c with
  | ex c=>exact qk hc
  | op e=>
   have hc:e=1:=hc
   subst hc
   exact qj
 refine⟨x,fun U=>?_,h,fun _ h=>h⟩
 rcases h with ⟨rfl,rfl⟩|⟨b,o,c,rfl,hx⟩|⟨b,o,c,M,hx,ha,hl,hm⟩
 ·rfl
 ·rw[key b o c hx];rfl
 ·rw[key b o c hx];rfl
theorem TL (h:Sq E J x l) (hc:Uh x):∃y,(∀U:V->AH,gK (CP 1 x (some (.int .i64 (AA l.length))) none none) U=U y):=by
 have key:∀b o c,x = .sl b o l.length c->∃y,CP 1 x (some (.int .i64 (AA l.length))) none none=some y:=by
  intro b o c hx
  subst hx
  cases c with
  | ex c=>exact nA hc
  | op e=>
   have hc:e=1:=hc
   subst hc
   exact mz
 rcases h with ⟨rfl,rfl⟩|⟨b,o,c,rfl,hx⟩|⟨b,o,c,M,hx,ha,hl,hm⟩
 ·exact⟨.nils,fun U=>rfl⟩
 ·obtain⟨y,e⟩:=key b o c hx;exact⟨y,fun U=>by rw[e];rfl⟩
 ·obtain⟨y,e⟩:=key b o c hx;exact⟨y,fun U=>by rw[e];rfl⟩
def E7 (n:Nat):List Nat:=if n<128 then Bq 8 n else Bq 16 (32768+n)
def Xw (F:List V->H->AH):Prop:=∀(J:H) (n:Nat),Af J->n<16384 ->
 ∃b J',F [.int .i64 (AA n)] J=some (.sl b 0 1 (.op 1),J')/\B8 J' b [.int .i64 (AA n)]/\Fr AJ J J'/\J.next<=b
def iC (F:List V->H->AH):Prop:=∀(J:H) (w:Nat) (u:V) (L:List Nat) (n:Nat),Wr J w u L->Af J->L.length<8000000->n<16384 ->
 ∃u' J',F [.ptr w 0,.int .i64 (AA n)] J=some (.tup [],J')/\Jh J w u J' u' (L++E7 n)
def Sp (E:EB) (F:List V->H->AH):Prop:=∀(J:H) (w:Nat) (u x:V) (L O:List Nat),Wr J w u L->Af J->L.length+8*O.length<7000000->O.length<16384->(∀c∈O,c<256) ->
 Sq E J x (nI O)->Uh x->(∀b,Ai x b->E4 J w u b) ->
 ∃u' J',F [.ptr w 0,x] J=some (.tup [],J')/\Jh J w u J' u' (L++(E7 O.length++A1 O))
variable {D:Az} {W:AM} {N:Nat}
theorem ud (hN:2<N):Xw (zD E D W N):=by
 intro J n ht hn
 obtain⟨M,rfl⟩:∃k,N=k+1:=⟨N-1,by omega⟩
 obtain⟨J1,e1,f1,a1,n1⟩:=Ay ht [.int .i64 (AA n)]
 have xs:EY J1 1 1 (V.sl J.next 0 1 (.ex 1)) [.int .i64 (AA n)] := .inr ⟨_,_,_,_,rfl,a1,AN _,rfl⟩
 obtain⟨J2,g2,a2,n2,f2⟩:=Qh (E:=E) (bytes:=8) (GH.nil J1 1) f1.tidy xs (Nat.succ_pos 0) rfl (by decide)
 refine⟨J1.next,J2,?_,a2,f1.trans f2 (fun _ _ h=>h.elim),f1.le⟩
 show V0 E D W (Vz E D W (gf E D W) (jE E D W (M+1) M)) (AA n) J=_
 have key:∀K R,V0 E D W (Vz E D W K R) (AA n) J=K (AA n) .nils J:=by
  intro K R
  unfold V0 Vz
  have d1:decide (16384<=n)=false:=decide_eq_false (by omega)
  simp -implicitDefEqProofs only [↓rP,rA,AD,AG,AB,Ld,d1]
 rw[key]
 unfold gf
 simp -implicitDefEqProofs only [↓rP,rS,↓e1,↓g2]
theorem AAZ (hB:Nr (D 6)):iC (F15 E D W N):=by
 intro J w u L n h ht hl hn
 by_cases h1:n<128
 ·obtain⟨u',J',g,s⟩:=hB J w u L n 8 h ht hl (by omega) (by decide)
  refine⟨u',J',?_,by unfold E7;rw[if_pos h1];exact s⟩
  show Vy E D W (.ptr w 0) (AA n) J=_
  unfold Vy
  have e1:BP .u64 (AA n)=AA n:=BV (by rw[Db];omega)
  simp -implicitDefEqProofs only [↓rP,rA,AD,AG,AB,decide_eq_true h1,e1,↓g]
 ·obtain⟨u',J',g,s⟩:=hB J w u L (32768+n) 16 h ht hl (by omega) (by decide)
  refine⟨u',J',?_,by unfold E7;rw[if_neg h1];exact s⟩
  show Vy E D W (.ptr w 0) (AA n) J=_
  unfold Vy
  have e1:BP .u64 (AA (32768+n))=AA (32768+n):=BV (by rw[Db];omega)
  simp -implicitDefEqProofs only [↓rP,rA,AD,AG,AB,decide_eq_false h1,decide_eq_true hn,BX (show 32768+n<=9223372036854775807 by omega),e1,↓g]
theorem zx (hC:Xw (D 14)) (hD:iC (D 15)) (hO:Xr E (D 16)) (hN:3<N):Sp E (F7 E D W N):=by
 intro J w u x L O h ht hl hO' hc hx hcp ox
 obtain⟨M,rfl⟩:∃k,N=k+2:=⟨N-2,by omega⟩
 obtain⟨b,J1,g1,a1,f1,nb⟩:=hC J O.length ht hO'
 have x1:=hx.fr f1 fun b hb=>(ox b hb).1
 have ox1:=fun b hb=>(ox b hb).fr f1
 have lb:b<J1.next:=a1.lt f1.tidy
 obtain⟨u2,J2,g2,s2⟩:=hD J1 w u L O.length (h.fr f1 ht) f1.tidy (by omega) hO'
 have ob:E4 J1 w u b:=E4.new h ht nb lb
 have a2:=s2.at_ f1.tidy ob a1
 have x2:=s2.sq ox1 x1
 have ox2:=fun b hb=>s2.off (ox1 b hb)
 obtain⟨y,gy,hy,ny⟩:=zn x2 hcp
 rw[Bf]at gy
 have ld:(E7 O.length).length<=16:=by unfold E7;split<;>rw[A2]<;>omega
 obtain⟨u3,J3,g3,s3⟩:=hO J2 w u2 y _ O s2.wr s2.f.tidy (by rw[AL];omega) (by omega) hc hy (fun b hb=>ox2 b (ny b hb))
 have a3:=s3.at_ s2.f.tidy (s2.off ob) a2
 have x3:=s3.sq ox2 x2
 obtain⟨z,gz⟩:=TL x3 hcp
 rw[Bf]at gz
 refine⟨u3,J3,?_,by have:=Jh.behind f1 (s2.trans s3);rw[Ab]at this;exact this⟩
 have ia:∀U:Nat->Nat->AH,AT 1 (.sl b 0 1 (.op 1)) (AA 0) U=U b 0:=fun U=>CR (Bz 0)
 show fc E D W (Vn E D W (Vn E D W (xB E D W (M+2) M))) (.ptr w 0) x J=_
 have k0:∀K,fc E D W K (.ptr w 0) x J=K (.ptr w 0) x (.sl b 0 1 (.op 1)) (AA 0) J1:=by
  intro K
  unfold fc
  have sx:∀U:Nat->AH,BA x U=U O.length:=fun U=>by rw[hx.slen,Bf]
  simp -implicitDefEqProofs only [↓rP,rS,↓sx,↓g1]
 have k1:∀R,Vn E D W R (.ptr w 0) x (.sl b 0 1 (.op 1)) (AA 0) J1=R (.ptr w 0) z (.sl b 0 1 (.op 1)) (AA 1) J3:=by
  intro R
  unfold Vn
  simp -implicitDefEqProofs only [↓rP,rA,AD,AG,AB,↓ia,↓AY a1,↓AY a2,↓AY a3,↓g2,↓gy,↓g3,↓gz,BX (show 0+1<=9223372036854775807 by omega)]
 have k2:∀R,Vn E D W R (.ptr w 0) z (.sl b 0 1 (.op 1)) (AA 1) J3=some (.tup [],J3):=by
  intro R
  unfold Vn
  simp -implicitDefEqProofs only [↓rP,rA,AD,AG,AB]
 rw[k0,k1,k2]
end
structure Pl (J:H) (b:Nat) (v:V) (O:List Nat) (i:Nat) (r:List V):Prop where
 at_:B8 J b (v :: .int .i64 (AA i)::r)
 by_:By J v (nI O)
 ne:¬Ai v b
 bd:∀c∈O,c<256
 le:i<=8*O.length
 few:O.length<=100000
section
variable {E:EB} {J J1:H} {b:Nat} {v:V} {O:List Nat} {i:Nat} {r:List V}
theorem Pl.fr {S:Nat->Prop} (h:Pl J b v O i r) (f:Fr S J J1) (ht:Af J) (hb:¬S b) (hv:∀c,Ai v c->¬S c):Pl J1 b v O i r:=⟨f.at_ h.at_ ht hb,EY.fr h.by_ f ht hv,h.ne,h.bd,h.le,h.few⟩
theorem Iy {a o:Nat} (U:Bool->AH):SV .ptr (.ptr a o) .nilp U=U false:=rfl
theorem AAB {n:Nat} (h:n<=1000000):P8 .i64 (AA 8) (AA n)=AA (8*n):=by
 rw[Y2,show AA 8*AA n=AA (8*n)from rfl]
 exact Dy (by rw[Dc];omega)
theorem Pl.slen (h:Pl J b v O i r) (U:Nat->AH):BA v U=U O.length:=by rw[h.by_.slen,Bf]
theorem MK {L:List Nat} (hb:PK L):∀n i a,C7 L i n a<(a+1)*2 ^ n
 | 0,i,a=>by simp[C7]
 | n+1,i,a=>by
  have:=MK hb n (i+1) (2*a+FE L i)
  have hx:=D7 hb i
  rw[C7]
  refine Bg this ?_
  rw[qX,HT (2 ^ n) 2,<-Nat.mul_assoc]
  exact HS _ (by omega)
theorem LZ {L:List Nat}:∀n i a,C7 L i (n+1) a=2*C7 L i n a+FE L (i+n)
 | 0,i,a=>rfl
 | n+1,i,a=>by
  have:=LZ (L:=L) n (i+1) (2*a+FE L i)
  rw[show C7 L i (n+1+1) a=C7 L (i+1) (n+1) (2*a+FE L i)from rfl,this,show i+1+n=i+(n+1)by omega]
  rfl
end
def Xp (F:List V->H->AH):Prop:=∀(J:H) (b i:Nat) (v:V) (O:List Nat) (r:List V),Pl J b v O i r->Af J->i<8*O.length->allOne (v::r)=true ->
 ∃J',F [.ptr b 0] J=some (.int .i64 (AA (FE (A1 O) i)),J')/\Pl J' b v O (i+1) r/\Fr (fun k=>k=b) J J'
def Ms (F:List V->H->AH):Prop:=∀(J:H) (b i n:Nat) (v:V) (O:List Nat) (r:List V),Pl J b v O i r->Af J->i+n<=8*O.length->n<=32->allOne (v::r)=true ->
 ∃J',F [.ptr b 0,.int .i64 (AA n)] J=some (.int .u32 (AA (C7 (A1 O) i n 0)),J')/\Pl J' b v O (i+n) r/\Fr (fun k=>k=b) J J'
def KP (F:List V->H->AH):Prop:=∀(J:H) (b i:Nat) (v:V) (O:List Nat) (r:List V),Pl J b v O i r ->
 F [.ptr b 0] J=some (.int .i64 (AA (8*O.length-i)),J)
section
variable {E:EB} {D:Az} {W:AM} {N:Nat}
theorem tp:Xp (kH E D W N):=by
 intro J b i v O r h ht hi ho
 have fw:=h.few
 obtain⟨J1,e1,f1,a1⟩:=Ci ht h.at_ (v :: .int .i64 (AA (i+1))::r)
 refine⟨J1,?_,⟨a1,EY.fr h.by_ f1 ht (fun c hc e=>h.ne (by cases e;exact hc)),h.ne,h.bd,by omega,fw⟩,f1⟩
 have hlt:i / 8<O.length:=by omega
 have hO:O[i / 8]? = some O[i / 8]:=AZ hlt
 have hb:O[i / 8]<256:=h.bd _ (DK hlt)
 have a:=h.at_
 have rd:∀U,AT 1 v (AA (i / 8)) (fun b o=>BL E J b o U)=U (.int .u8 (AA O[i / 8])):=fun U=>Vb (Sq.of h.by_) (P0 hO) U
 have st:∀U:H->AH,Dt 1 b 1 (.int .i64 (AA (i+1))) J U=U J1:=fun U=>by
  rw[Cg a (by
   simp only[Hb,Aj,CA,AK,BC]
   refine⟨⟨rfl,?_⟩,rfl⟩
   show 1+1<=_
   omega)]
  show U (EV J b (.cells (v::Hg (.int .i64 (AA i)::r) 0 [.int .i64 (AA (i+1))])))=_
  rw[show Hg (V.int .i64 (AA i)::r) 0 [V.int .i64 (AA (i+1))]=V.int .i64 (AA (i+1))::r from by cases r<;>rfl,e1]
 show XR E D W b 0 J=_
 unfold XR
 have ev:BP .i64 (Je .u8 (LA .u8 (AA O[i / 8]) (7-i % 8)) (AA 1))=AA (FE (A1 O) i):=by
  rw[MH (show 7-i % 8<=IntKind.bits .u8 from by show _<=8;omega),oD (Ae (kz _ _) (by omega)),BV (by rw[Dc];omega),NW O i _ hO]
 simp -implicitDefEqProofs only [↓rP,rS,↓AY a,tk (show i<=9223372036854775807 by omega),↓rd,Wb,Fs (show i % 8<=7 by omega) (show 7<=9223372036854775807 by omega),HJ,BX (show i+1<=9223372036854775807 by omega),↓st,ev]
theorem uH:KP (kR E D W N):=by
 intro J b i v O r h
 have a:=h.at_
 have fw:=h.few
 have hle:=h.le
 show Xd E D W b 0 J=_
 unfold Xd
 simp -implicitDefEqProofs only [↓rP,rS,↓AY a,↓h.slen,AAB (show O.length<=1000000 by omega),Fs (show i<=8*O.length by omega) (show 8*O.length<=9223372036854775807 by omega)]
theorem mW (hP:Xp (D 180)) (hN:40<N):Ms (br E D W N):=by
 intro J b i n v O r h ht hi hn ho
 have loop:∀(m n' k:Nat) (J:H),k+m=n->m<n'->Pl J b v O (i+k) r->Af J ->
   ∃J',X9 E D W N n' (.ptr b 0) (AA (C7 (A1 O) i k 0)) (AA n) (AA k) J=some (.int .u32 (AA (C7 (A1 O) i n 0)),J')/\Pl J' b v O (i+n) r/\Fr (fun k=>k=b) J J':=by
  intro m
  induction m with
  | zero=>
   intro n' k J hk hn' h ht
   obtain⟨n',rfl⟩:∃k,n'=k+1:=⟨n'-1,by omega⟩
   obtain rfl:k=n:=by omega
   refine⟨J,?_,h,Fr.refl ht⟩
   have key:∀K R,Nn E D W K R (.ptr b 0) (AA (C7 (A1 O) i k 0)) (AA k) (AA k) J=K (AA (C7 (A1 O) i k 0)) J:=by
    intro K R
    unfold Nn
    simp -implicitDefEqProofs only [↓rP,rA,AD,AG,AB,CD]
   exact(key _ _).trans rfl
  | succ m ih=>
   intro n' k J hk hn' h ht
   obtain⟨n',rfl⟩:∃k,n'=k+1:=⟨n'-1,by omega⟩
   obtain⟨J1,g1,h1,f1⟩:=hP J b (i+k) v O r h ht (by omega) ho
   obtain⟨J2,g2,h2,f2⟩:=ih n' (k+1) J1 (by omega) (by omega) h1 f1.tidy
   refine⟨J2,?_,h2,f1.trans f2 (fun _ _ h=>h)⟩
   have hb:=Fj O
   have hl:=MK hb (k+1) i 0
   have hp:2 ^ (k+1)<=2 ^ 32:=MB (by decide) (by omega)
   rw[LZ]at hl
   have key:∀K R,Nn E D W K R (.ptr b 0) (AA (C7 (A1 O) i k 0)) (AA n) (AA k) J=R (.ptr b 0) (AA (C7 (A1 O) i (k+1) 0)) (AA n) (AA (k+1)) J1:=by
    intro K R
    unfold Nn
    have d1:decide (k<n)=true:=decide_eq_true (by omega)
    simp -implicitDefEqProofs only [↓rP,rA,AD,AG,AB,d1,↓g1,BX (show k+1<=9223372036854775807 by omega),dE (D7 hb (i+k)) (show 2*C7 (A1 O) i k 0+FE (A1 O) (i+k)<=4294967295 by omega),LZ]
   exact(key _ _).trans g2
 obtain⟨J',g,h',f⟩:=loop n N 0 J (by omega) (by omega) h ht
 exact⟨J',g,h',f⟩
end
def Py:List V:=[.int .i64 (AA 0)]
theorem dG {E:EB} {J:H} {u:V} {l:List V} {k:Nat} (h:GH J 1 k u l) (ht:Af J) (c:Int) (hk:k<9000000) :
  ∃u' J',(∀U:V->H->AH,Ee E 1 1 u (V.sl (H.next J) 0 1 (.ex 1)) (DR J (.cells [.int .u8 c])) U=U u' J')/\GH J' 1 (k+1) u' (l++[.int .u8 c])/\(∀b,Ai u' b->Ai u b\/J.next<=b)/\Fr (Ai u) J J':=by
 obtain⟨J1,e1,f1,a1,n1⟩:=Ay ht [.int .u8 c]
 rw[e1]
 have x:EY J1 1 1 (V.sl J.next 0 1 (.ex 1)) [.int .u8 c] := .inr ⟨_,_,_,_,rfl,a1,AN _,rfl⟩
 obtain⟨u',J2,g2,d2,m2,f2⟩:=HP (E:=E) (bytes:=1) (h.fr f1 ht (fun _ _ h=>h)) f1.tidy x rfl (by
  unfold CV
  simp only[C8,AK,BC];omega)
 exact⟨u',J2,g2,d2,fun b hb=>(m2 b hb).imp id (fun h=>by omega),(f1.mono (fun _ _ h=>h.elim):Fr (Ai u) J J1).trans f2 (fun _ _ h=>h)⟩
def JY (L:List Nat) (i:Nat):Nat->List Nat
 | 0=>[]
 | n+1=>JY L i n++[C7 L (i+8*n) 8 0]
theorem Et (L:List Nat) (i:Nat):∀n,(JY L i n).length=n
 | 0=>rfl
 | n+1=>by simp[JY,Et L i n]
def bT (m:Nat) (F:List V->H->AH):Prop:=∀(J:H) (n:Int),F [.int .i64 n] J=some (.int .i64 (GW (AA 0) (HL n (AA m))),J)
def PF (F:List V->H->AH):Prop:=∀(J:H) (b i n:Nat) (v:V) (O:List Nat),Pl J b v O i Py->i+n<=8*O.length ->
 F [.ptr b 0,.int .i64 (AA n)] J=some (.bool true,J)
def T9 (F:List V->H->AH):Prop:=∀(J:H) (b i n:Nat) (m:Int) (v:V) (O:List Nat),Pl J b v O i Py->Af J->v.one=true->GW (AA 0) (HL m (AA 32))=AA n->i+n<=8*O.length->n<=32 ->
 ∃J',F [.ptr b 0,.int .i64 m] J=some (.int .u32 (AA (C7 (A1 O) i n 0)),J')/\Pl J' b v O (i+n) Py/\Fr (fun k=>k=b) J J'
def T7 (F:List V->H->AH):Prop:=∀(J:H) (b i n:Nat) (v:V) (O:List Nat),Pl J b v O i Py->Af J->v.one=true->i+8*n<=8*O.length ->
 ∃u J',F [.ptr b 0,.int .i64 (AA n)] J=some (u,J')/\Nb J J' u (nI (JY (A1 O) i n))/\Pl J' b v O (i+8*n) Py/\Fr (fun k=>k=b) J J'
def T8 (F:List V->H->AH):Prop:=∀(J:H) (b i:Nat) (v:V) (O:List Nat),Pl J b v O i Py->F [.ptr b 0] J=some (.int .i64 (AA 0),J)
section
variable {E:EB} {D:Az} {W:AM} {N:Nat}
theorem uq:bT 32 (bn E D W N):=fun J n=>by
 show XW E D W n J=_
 rfl
theorem um:bT 64 (yu E D W N):=fun J n=>by
 show fY E D W n J=_
 rfl
theorem mM (hL:KP (D 108)):PF (kL E D W N):=by
 intro J b i n v O h hn
 have a:=h.at_
 have g:=hL J b i v O Py h
 show XV E D W (.ptr b 0) (AA n) J=_
 unfold XV
 unfold Py at a
 have d1:decide (8*O.length-i<n)=false:=decide_eq_false (by omega)
 simp -implicitDefEqProofs only [↓rP,rA,AD,AG,AB,↓Iy,↓AY a,↓g,d1]
theorem mH (hL:KP (D 108)):KP (kS E D W N):=by
 intro J b i v O r h
 have g:=hL J b i v O r h
 show Xe E D W (.ptr b 0) J=_
 unfold Xe
 simp -implicitDefEqProofs only [↓rP,rS,↓Iy,↓g]
theorem tf:T8 (kT E D W N):=by
 intro J b i v O h
 have a:=h.at_
 unfold Py at a
 show Xf E D W (.ptr b 0) J=_
 unfold Xf
 simp -implicitDefEqProofs only [↓rP,rS,↓Iy,↓AY a]
theorem mN (hB:bT 32 (D 154)) (hR:PF (D 155)) (hP:Ms (D 109)):T9 (F83 E D W N):=by
 intro J b i n m v O h ht hv hm hn hn'
 obtain⟨J1,g1,h1,f1⟩:=hP J b i n v O Py h ht hn hn' (by unfold Py;simp only[Bd,hv,DN,Bo,EN])
 refine⟨J1,?_,h1,f1⟩
 show fX E D W b 0 m J=_
 unfold fX
 simp -implicitDefEqProofs only [↓rP,rS,↓hB J m,hm,↓hR J b i n v O h hn,↓g1]
theorem mG (hR:PF (D 155)) (hP:Ms (D 109)) (hN:100002<=N):T7 (yr E D W N):=by
  intro J b i n v O h ht hv hn
  have fw:=h.few
  have hlb:=h.at_.lt ht
  have ho:allOne (v::Py)=true:=by unfold Py;simp only[Bd,hv,DN,Bo,EN]
  have loop:∀(m n' k:Nat) (u:V) (J1:H),k+m=n->m<n'->Pl J1 b v O (i+8*k) Py->Fr (fun k=>k=b) J J1->Nb J J1 u (nI (JY (A1 O) i k)) ->
      ∃u' J',Zo E D W N n' (.ptr b 0) u (AA n) (AA k) J1=some (u',J')/\Nb J J' u' (nI (JY (A1 O) i n))/\Pl J' b v O (i+8*n) Py/\Fr (fun k=>k=b) J J':=by
    intro m
    induction m with
    | zero=>
      intro n' k u J1 hk hn' h1 f1 hu
      obtain⟨n',rfl⟩:∃k,n'=k+1:=⟨n'-1,by omega⟩
      obtain rfl:k=n:=by omega
      refine⟨u,J1,?_,hu,h1,f1⟩
      have key:∀K R,Sh E D W K R (.ptr b 0) u (AA k) (AA k) J1=K u J1:=by
        intro K R
        unfold Sh
        simp -implicitDefEqProofs only [↓rP,rA,AD,AG,AB,CD]
      exact(key _ _).trans rfl
    | succ m ih=>
      intro n' k u J1 hk hn' h1 f1 hu
      obtain⟨n',rfl⟩:∃k,n'=k+1:=⟨n'-1,by omega⟩
      obtain⟨J2,g2,h2,f2⟩:=hP J1 b (i+8*k) 8 v O Py h1 f1.tidy (by omega) (by decide) ho
      have lb1:b<J.next:=hlb
      have un:∀c,Ai u c->c≠b:=fun c hc e=>by have:=hu.2 c hc;omega
      have hd:=hu.1.fr f2 f1.tidy (fun c hc e=>un c hc e)
      have hb:=MK (Fj O) 8 (i+8*k) 0
      obtain⟨u3,J3,g3,d3,m3,f3⟩:=dG (E:=E) hd f2.tidy (AA (C7 (A1 O) (i+8*k) 8 0)) (by rw[Bf,Et];omega)
      have le2:=f2.le
      have le1:=f1.le
      have h3:Pl J3 b v O (i+8*k+8) Py:=h2.fr f3 f2.tidy (fun hc=>un b hc rfl) (fun c hc hc'=>by
        have:=hu.2 c hc'
        have hs:c<J.next:=by
          have:=EY.lt h.by_ ht hc
          exact this
        omega)
      obtain⟨u4,J4,g4,h4,p4,f4⟩:=ih n' (k+1) u3 J3 (by omega) (by omega) (by rw[show i+8*(k+1)=i+8*k+8 by omega];exact h3) ((f1.trans f2 (fun _ _ h=>h)).trans f3 (fun c hc hn=>by have:=hu.2 c hn;omega)) ⟨by
          rw[show JY (A1 O) i (k+1)=JY (A1 O) i k++[C7 (A1 O) (i+8*k) 8 0] from rfl,Lc,HF,AL]
          exact d3,fun c hc=>(m3 c hc).elim (hu.2 c) (fun h=>by omega)⟩
      refine⟨u4,J4,?_,h4,p4,f4⟩
      have key:∀K R,Sh E D W K R (.ptr b 0) u (AA n) (AA k) J1=R (.ptr b 0) u3 (AA n) (AA (k+1)) J3:=by
        intro K R
        unfold Sh
        have d1:decide (k<n)=true:=decide_eq_true (by omega)
        have ew:BP .u8 (AA (C7 (A1 O) (i+8*k) 8 0))=AA (C7 (A1 O) (i+8*k) 8 0):=BV (by rw[MY];omega)
        simp -implicitDefEqProofs only [↓rP,rA,AD,AG,AB,d1,↓g2,ew,↓g3,↓CM d3.one,BX (show k+1<=9223372036854775807 by omega)]
      exact(key _ _).trans g4
  obtain⟨u,J',g,h1,p1,f1⟩:=loop n N 0 .nils J (by omega) (by omega) h (Fr.refl ht) (Nb.nil J J)
  refine⟨u,J',?_,h1,p1,f1⟩
  have a:=h.at_
  show Vm E D W (Vl E D W (Zo E D W N N)) (.ptr b 0) (AA n) J=_
  have key:∀K,Vm E D W (Vl E D W K) (.ptr b 0) (AA n) J=K (.ptr b 0) .nils (AA n) (AA 0) J:=by
    intro K
    unfold Vm Vl
    have d1:decide (O.length<n)=false:=decide_eq_false (by omega)
    have mx:GW (AA n) (AA 0)=AA n:=by rw[Ia,Jg (CH n)]
    have g:=hR J b i (8*n) v O h hn
    simp -implicitDefEqProofs only [↓rP,rA,AD,AG,AB,↓Iy,↓AY a,↓h.slen,mx,d1,AAB (show n<=1000000 by omega),↓g]
  rw[key]
  exact g
end
structure Rw (J:H) (wb rb:Nat) (v:V) (O:List Nat) (i:Nat) (e:Int) (em:Bool):Prop where
 at_:B8 J wb [.ptr rb 0,.int .i64 e,.bool em]
 pl:Pl J rb v O i Py
 ne:wb≠rb
 nv:¬Ai v wb
 one:v.one=true
section
variable {J J1:H} {wb rb:Nat} {v:V} {O:List Nat} {i:Nat} {e:Int} {em:Bool}
theorem Rw.fr {S:Nat->Prop} (h:Rw J wb rb v O i e em) (f:Fr S J J1) (ht:Af J) (hw:¬S wb) (hr:¬S rb) (hv:∀c,Ai v c->¬S c):Rw J1 wb rb v O i e em:=⟨f.at_ h.at_ ht hw,h.pl.fr f ht hr hv,h.ne,h.nv,h.one⟩
theorem Rw.fr0 (h:Rw J wb rb v O i e em) (f:Fr AJ J J1) (ht:Af J):Rw J1 wb rb v O i e em:=h.fr f ht (fun h=>h) (fun h=>h) (fun _ _ h=>h)
end
def rB (O:List Nat):Bool:=decide (O.length=1)&&decide (O.getD 0 0=0)
def Xs (F:List V->H->AH):Prop:=∀(J:H) (x:V) (O:List Nat),By J x (nI O)->Af J->(∀c∈O,c<256)->O.length<=100000 ->
 ∃rb v J',F [x] J=some (.ptr rb 0,J')/\Pl J' rb v O 0 Py/\Fr AJ J J'/\J.next<=rb/\(∀c,Ai v c->J.next<=c)/\v.one=true
def UA (F:List V->H->AH):Prop:=∀(J:H) (x:V) (O:List Nat),By J x (nI O)->Af J->(∀c∈O,c<256)->O.length<=100000 ->
 ∃wb rb v J',F [x] J=some (.ptr wb 0,J')/\Rw J' wb rb v O 0 (AA 0) (rB O)/\Fr AJ J J'/\J.next<=rb/\J.next<=wb/\(∀c,Ai v c->J.next<=c)
def KQ (F:List V->H->AH):Prop:=∀(J:H) (wb rb i:Nat) (v:V) (O:List Nat) (e:Int) (em:Bool),Rw J wb rb v O i e em->F [.ptr wb 0] J=some (.int .i64 e,J)
def Xv (F:List V->H->AH):Prop:=∀(J:H) (wb rb i:Nat) (v:V) (O:List Nat) (c:Int) (em:Bool),Rw J wb rb v O i (AA 0) em->Af J ->
 ∃J',F [.ptr wb 0,.int .i64 c] J=some (.tup [],J')/\Rw J' wb rb v O i c em/\Fr (fun k=>k=wb) J J'
def PA (F:List V->H->AH):Prop:=∀(J:H) (wb rb i:Nat) (v:V) (O:List Nat) (e:Int) (em:Bool),Rw J wb rb v O i e em->F [.ptr wb 0] J=some (.int .i64 (AA (8*O.length-i)),J)
def Kz (F:List V->H->AH):Prop:=∀(J:H) (wb rb i n:Nat) (v:V) (O:List Nat) (em:Bool),Rw J wb rb v O i (AA 0) em->Af J->i+n<=8*O.length->n<=32 ->
 ∃J',F [.ptr wb 0,.int .i64 (AA n)] J=some (.int .u64 (AA (C7 (A1 O) i n 0)),J')/\Rw J' wb rb v O (i+n) (AA 0) em/\Fr (fun k=>k=rb) J J'
def T0 (F:List V->H->AH):Prop:=∀(J:H) (wb rb i n:Nat) (v:V) (O:List Nat) (em:Bool),Rw J wb rb v O i (AA 0) em->Af J->i+8*n<=8*O.length ->
 ∃u J',F [.ptr wb 0,.int .i64 (AA n)] J=some (u,J')/\Nb J J' u (nI (JY (A1 O) i n))/\Rw J' wb rb v O (i+8*n) (AA 0) em/\Fr (fun k=>k=rb) J J'
theorem uS {u y:V} (h:u.one=true) (U:List V->AH):HA [(0,1,u)] [.nils,y] U=U [u,y]:=by
 obtain⟨h1,h2⟩:=Hi h
 unfold HA FQ
 rw[h1,h2]
 rfl
theorem de:∀n,n<=32->GW (AA 0) (HL (E6 .i64 (AA n) (AA 32)) (AA 32))=AA 0:=by
 have:∀n:Fin 33,GW (AA 0) (HL (E6 .i64 (AA n.val) (AA 32)) (AA 32))=AA 0:=by decide
 exact fun n h=>this ⟨n,by omega⟩
section
variable {E:EB} {D:Az} {W:AM} {N:Nat}
theorem tz:Xs (F41 E D W N):=by
 intro J x O hx ht hc hl
 obtain⟨u,J1,g1,h1,f1,_⟩:=To (E:=E) (Nb.nil J J) (Fr.refl ht) hx (by rw[Bf];simp only[CA];omega)
 obtain⟨J2,e2,f2,a2,n2⟩:=Ay f1.tidy [u,.int .i64 (AA 0),.int .i64 (AA 0)]
 have h2:=h1.fr f2 f1.tidy
 refine⟨J1.next,u,J2,?_,⟨a2,h2.by_,fun hn=>?_,hc,CH _,hl⟩,f1.trans f2 (fun _ _ h=>h),f1.le,h1.2,h1.1.one⟩
 ·show gD E D W x J=_
  unfold gD
  have o:=h1.1.one
  simp -implicitDefEqProofs only [↓rP,rS,↓g1,↓CM o,↓uS o,o,↓e2]
 ·have:=h1.1.lt f1.tidy hn;omega
theorem tx (hB:Xs (D 41)):UA (F18 E D W N):=by
 intro J x O hx ht hc hl
 obtain⟨rb,v,J1,g1,p1,f1,n1,nv,o1⟩:=hB J x O hx ht hc hl
 obtain⟨J2,e2,f2,a2,n2⟩:=Ay f1.tidy [.ptr rb 0,.int .i64 (AA 0),.bool (rB O)]
 have p2:=p1.fr f2 f1.tidy (fun h=>h) (fun _ _ h=>h)
 have lr:=p1.at_.lt f1.tidy
 refine⟨J1.next,rb,v,J2,?_,⟨a2,p2,by omega,fun hn=>?_,o1⟩,f1.trans f2 (fun _ _ h=>h),n1,f1.le,nv⟩
 ·show gZ E D W x J=_
  unfold gZ
  have sx:∀U:Nat->AH,BA x U=U O.length:=fun U=>by rw[hx.slen,Bf]
  have x1:=hx.fr f1 ht
  have fl:∀(c:Bool) (U:List V->AH),HA [(0,1,.ptr rb 0),(2,1,.bool c)] [V.nilp,.int .i64 (AA 0),.bool false] U=U [.ptr rb 0,.int .i64 (AA 0),.bool c]:=fun c U=>rfl
  by_cases h1:O.length=1
  ·obtain⟨c,rfl⟩:∃c,O=[c]:=by
    cases O with
    | nil=>simp at h1
    | cons c l=>cases l with
     | nil=>exact⟨c,rfl⟩
     | cons d l=>simp at h1
   have rd:∀U,AT 1 x (AA 0) (fun b o=>BL E J1 b o U)=U (.int .u8 (AA c)):=fun U=>Vb (Sq.of x1) (P0 rfl) U
   rw[show rB [c]=decide (c=0)from rfl]at e2
   simp -implicitDefEqProofs only [↓rP,rA,AD,AG,AB,↓g1,↓sx,decide_eq_true h1,↓rd,↓fl,↓e2]
  ·rw[show rB O=false from by unfold rB;rw[decide_eq_false h1];rfl]at e2
   simp -implicitDefEqProofs only [↓rP,rA,AD,AG,AB,↓g1,↓sx,decide_eq_false h1,↓fl,↓e2]
 ·have:=EY.lt p1.by_ f1.tidy hn;omega
theorem AAU (hE:T8 (D 106)):KQ (F56 E D W N):=by
 intro J wb rb i v O e em h
 have a:=h.at_
 have g:=hE J rb i v O h.pl
 show fq E D W (.ptr wb 0) J=_
 unfold fq
 by_cases he:e=AA 0
 ·subst he
  simp -implicitDefEqProofs only [↓rP,rA,AD,AG,AB,↓Iy,↓AY a,↓g]
 ·have d:Cu e (AA 0)=false:=by
   cases h':Cu e (AA 0)with
   | false=>rfl
   | true=>
    cases e with
    | ofNat m=>exact absurd (congrArg AA (BO h')) he
    | negSucc m=>cases h'
  simp -implicitDefEqProofs only [↓rP,rS,↓Iy,↓AY a,d]
theorem uT (hE:KQ (D 56)):Xv (F81 E D W N):=by
 intro J wb rb i v O c em h ht
 have a:=h.at_
 obtain⟨J1,e1,f1,a1⟩:=Ci ht a [.ptr rb 0,.int .i64 c,.bool em]
 refine⟨J1,?_,⟨a1,h.pl.fr f1 ht (fun hb=>h.ne hb.symm) (fun c' hc hb=>h.nv (by cases hb;exact hc)),h.ne,h.nv,h.one⟩,f1⟩
 have g:=hE J wb rb i v O _ em h
 have st:∀U:H->AH,Dt 1 wb 1 (.int .i64 c) J U=U J1:=fun U=>by
  rw[Cg a rfl]
  show U (EV J wb (.cells [.ptr rb 0,.int .i64 c,.bool em]))=_
  rw[e1]
 show fZ E D W wb 0 c J=_
 unfold fZ
 simp -implicitDefEqProofs only [↓rP,rA,AD,AG,AB,↓g,↓st]
theorem lS (hL:KP (D 107)):PA (F57 E D W N):=by
 intro J wb rb i v O e em h
 have a:=h.at_
 have g:=hL J rb i v O Py h.pl
 show fp E D W (.ptr wb 0) J=_
 unfold fp
 simp -implicitDefEqProofs only [↓rP,rS,↓Iy,↓AY a,↓g]
theorem lU (hB:bT 64 (D 82)) (hE:KQ (D 56)) (hL:PA (D 57)) (hR:T9 (D 83)):Kz (F45 E D W N):=by
 intro J wb rb i n v O em h ht hn hn'
 have fw:=h.pl.few
 have a:=h.at_
 have p0:=de n hn'
 obtain⟨J1,g1,h1,f1⟩:=hR J rb i 0 _ v O h.pl ht h.one p0 (by omega) (by decide)
 have a1:=f1.at_ a ht h.ne
 have p2:GW (AA 0) (HL (AA n) (AA 32))=AA n:=by rw[HK hn',Ld]
 obtain⟨J2,g2,h2,f2⟩:=hR J1 rb i n (AA n) v O h1 f1.tidy h.one p2 hn hn'
 have f12:Fr (fun k=>k=rb) J J2:=f1.trans f2 (fun _ _ h=>h)
 refine⟨J2,?_,⟨f12.at_ a ht h.ne,h2,h.ne,h.nv,h.one⟩,f12⟩
 have gb:=hB J (AA n)
 rw[HK (show n<=64 by omega),Ld]at gb
 have ge:=hE J wb rb i v O _ em h
 have gl:=hL J wb rb i v O _ em h
 have d1:decide (8*O.length-i<n)=false:=decide_eq_false (by omega)
 have hv:=MK (Fj O) n i 0
 have hp:2 ^ n<=2 ^ 32:=MB (by decide) hn'
 have e0:C7 (A1 O) i 0 0=0:=rfl
 rw[e0]at g1
 have hh:=uN (a:=0) (b:=C7 (A1 O) i n 0) hn' (by decide) (by omega) (by omega)
 rw[M5,CJ]at hh
 show fy E D W wb 0 (AA n) J=_
 unfold fy
 simp -implicitDefEqProofs only [↓rP,rA,AD,AG,AB,↓gb,↓ge,↓gl,d1,↓AY a,↓g1,HK hn',HJ,↓AY a1,↓g2,hh]
theorem lR (hE:KQ (D 56)) (hR:T7 (D 95)):T0 (F51 E D W N):=by
 intro J wb rb i n v O em h ht hn
 have a:=h.at_
 obtain⟨u,J1,g1,h1,p1,f1⟩:=hR J rb i n v O h.pl ht h.one hn
 refine⟨u,J1,?_,h1,⟨f1.at_ a ht h.ne,p1,h.ne,h.nv,h.one⟩,f1⟩
 have ge:=hE J wb rb i v O _ em h
 show fu E D W wb 0 (AA n) J=_
 unfold fu
 simp -implicitDefEqProofs only [↓rP,rA,AD,AG,AB,↓ge,↓AY a,↓g1,↓CM h1.1.one]
end
def Xy (F:List V->H->AH) (D:Az):Prop:=∀(J J':H) (wb rb i j f:Nat) (v:V) (O:List Nat) (em:Bool) (cs:List V),Rw J wb rb v O i (AA 0) em->D f cs J=some (.tup [],J')->Rw J' wb rb v O j (AA 0) em ->
 F [.ptr wb 0,.fn f [] cs] J=some (.bool true,J')
section
variable {E:EB} {D:Az} {W:AM} {N:Nat}
theorem ur (hE:KQ (D 56)):Xy (kK E D W N) D:=by
 intro J J' wb rb i j f v O em cs h g h'
 have a:=h.at_
 have ap:=h.pl.at_
 have o:=h.one
 unfold Py at ap
 have e1:=hE J wb rb i v O _ em h
 have e2:=hE J' wb rb j v O _ em h'
 have l3:∀U:List V->AH,BQ E J rb 0 3 U=U [v,.int .i64 (AA i),.int .i64 (AA 0)]:=fun U=>(BT ap).trans rfl
 have cv:∀U:V->H->AH,Ed D (.fn f [] cs) [] J U=U (.tup []) J':=fun U=>by
  show AW (D f ([]++[]++cs) J) U=_
  rw[Cy,Cy,g];rfl
 show XU E D W wb 0 (.fn f [] cs) J=_
 unfold XU
 simp -implicitDefEqProofs only [↓rP,rA,AD,AG,AB,↓e1,↓AY a,↓l3,o,↓cv,↓e2]
end
section
variable {E:EB} {D:Az} {N:Nat}
variable {W:AM}
end
def Wl (O:List Nat) (i:Nat):Nat:=if 8<=8*O.length-i then 4 else if C7 (A1 O) i (8*O.length-i) 0=0 then 0 else 4
def Xn (F:List V->H->AH):Prop:=∀(J:H) (rb i:Nat) (v:V) (O:List Nat),Pl J rb v O i Py->Af J->v.one=true ->
 ∃J',F [.ptr rb 0] J=some (.int .i64 (AA (Wl O i)),J')/\Fr AJ J J'
def T4 (F:List V->H->AH):Prop:=∀(J:H) (wb rb i:Nat) (v:V) (O:List Nat) (e:Nat) (em:Bool),Rw J wb rb v O i (AA e) em->Af J->(e=0->em=true->8*O.length-i≠8) ->
 ∃J',F [.ptr wb 0] J=some (.int .i64 (AA (if e=0 then Wl O i else e)),J')/\Fr AJ J J'
def Q9 (F:List V->H->AH):Prop:=∀(J:H) (db wb rb i e:Nat) (v:V) (O:List Nat) (em:Bool) (r:List V),Rw J wb rb v O i (AA e) em->B8 J db (.ptr wb 0::r)->F [.ptr db 0] J=some (.bool (decide (e=0)),J)
def UC (F:List V->H->AH):Prop:=∀(J:H) (db wb rb i:Nat) (v:V) (O:List Nat) (em:Bool) (r:List V),Rw J wb rb v O i (AA 0) em->Af J->i+1<=8*O.length->B8 J db (.ptr wb 0::r) ->
 ∃J',F [.ptr db 0] J=some (.bool (decide (FE (A1 O) i=1)),J')/\Rw J' wb rb v O (i+1) (AA 0) em/\Fr (fun k=>k=rb) J J'
def H7 (F:List V->H->AH):Prop:=∀(J:H) (db:Nat),F [.ptr db 0,.bool false] J=some (.tup [],J)
def RB (F:List V->H->AH):Prop:=∀(J:H) (db wb rb i:Nat) (v:V) (O:List Nat) (em:Bool) (r:List V),Rw J wb rb v O i (AA 0) em->Af J->B8 J db (.ptr wb 0::r) ->
 ∃J',F [.ptr db 0,.bool true] J=some (.tup [],J')/\Rw J' wb rb v O i (AA 4) em/\Fr (fun k=>k=wb) J J'
def JE (F:List V->H->AH):Prop:=∀(J:H) (cb:Nat) (n k:Int),B8 J cb [.int .i64 n]->Af J->Hk (CU .i64 n k) (AA 5000)=true ->
 ∃J',F [.ptr cb 0,.int .i64 k] J=some (.bool true,J')/\B8 J' cb [.int .i64 (CU .i64 n k)]/\Fr (fun b=>b=cb) J J'
section
variable {E:EB} {D:Az} {W:AM} {N:Nat}
theorem ti (hE:T8 (D 106)) (hL:KP (D 108)) (hP:Ms (D 109)):Xn (F58 E D W N):=by
 intro J rb i v O h ht hv
 have fw:=h.few
 have a:=h.at_
 obtain⟨J1,e1,f1,a1,n1⟩:=Ay ht [.nils,.int .i64 (AA 0)]
 obtain⟨J2,e2,f2,a2⟩:=Ci f1.tidy a1 [v,.int .i64 (AA i)]
 have lv:∀c,Ai v c->c<J.next:=fun c hc=>EY.lt h.by_ ht hc
 have f02:Fr AJ J J2:=f1.trans f2 (fun b hb e=>by omega)
 have p2:Pl J2 J.next v O i []:=⟨a2,EY.fr h.by_ f02 ht (fun _ _ h=>h),fun hc=>by have:=lv _ hc;omega,h.bd,h.le,h.few⟩
 have ge:=hE J rb i v O h
 have gl:=hL J2 J.next i v O [] p2
 have l2:∀U:List V->AH,BQ E J rb 0 2 U=U [v,.int .i64 (AA i)]:=fun U=>by
  unfold Py at a
  exact(BT a).trans rfl
 have st:∀U:H->AH,Dt 2 J.next 0 (.agg [v,.int .i64 (AA i)]) J1 U=U J2:=fun U=>by
  rw[Cg a1 (by simp only[E8,Bd,hv,DN,Bo];rfl)]
  show U (EV J1 J.next (.cells [v,.int .i64 (AA i)]))=_
  rw[e2]
 by_cases h8:8<=8*O.length-i
 ·refine⟨J2,?_,f02⟩
  rw[show Wl O i=4 from if_pos h8]
  show Vq E D W rb 0 J=_
  unfold Vq
  simp -implicitDefEqProofs only [↓rP,rA,AD,AG,AB,↓ge,↓l2,↓e1,↓st,↓gl,decide_eq_true h8]
 ·obtain⟨J3,g3,h3,f3⟩:=hP J2 J.next i (8*O.length-i) v O [] p2 f02.tidy (by have:=h.le;omega) (by omega) (by simp only[Bd,hv,Bo,EN])
  refine⟨J3,?_,f02.trans f3 (fun b hb e=>by omega)⟩
  rw[show Wl O i=if C7 (A1 O) i (8*O.length-i) 0=0 then 0 else 4 from if_neg h8]
  show Vq E D W rb 0 J=_
  unfold Vq
  by_cases hr:C7 (A1 O) i (8*O.length-i) 0=0
  ·rw[if_pos hr]
   simp -implicitDefEqProofs only [↓rP,rA,AD,AG,AB,↓ge,↓l2,↓e1,↓st,↓gl,decide_eq_false h8,↓g3,decide_eq_true hr]
  ·rw[if_neg hr]
   simp -implicitDefEqProofs only [↓rP,rA,AD,AG,AB,↓ge,↓l2,↓e1,↓st,↓gl,decide_eq_false h8,↓g3,decide_eq_false hr]
theorem tQ (hE:KQ (D 56)) (hL:PA (D 57)) (hR:Xn (D 58)):T4 (F20 E D W N):=by
 intro J wb rb i v O e em h ht hem
 have a:=h.at_
 have ge:=hE J wb rb i v O _ em h
 by_cases h0:e=0
 ·subst h0
  obtain⟨J1,g1,f1⟩:=hR J rb i v O h.pl ht h.one
  refine⟨J1,?_,f1⟩
  rw[if_pos rfl]
  show Vx E D W wb 0 J=_
  unfold Vx
  cases em with
  | false=>simp -implicitDefEqProofs only [↓rP,rA,AD,AG,AB,↓ge,↓AY a,↓g1]
  | true=>
   have gl:=hL J wb rb i v O _ true h
   have d8:decide (8*O.length-i=8)=false:=decide_eq_false (hem rfl rfl)
   simp -implicitDefEqProofs only [↓rP,rA,AD,AG,AB,↓ge,↓AY a,↓gl,d8,↓g1]
 ·refine⟨J,?_,Fr.refl ht⟩
  rw[if_neg h0]
  show Vx E D W wb 0 J=_
  unfold Vx
  simp -implicitDefEqProofs only [↓rP,rA,AD,AG,AB,↓ge,decide_eq_false h0]
theorem AF4 (hE:KQ (D 56)):Q9 (F44 E D W N):=by
 intro J db wb rb i e v O em r h a
 have ge:=hE J wb rb i v O _ em h
 show fz E D W db 0 J=_
 unfold fz
 simp -implicitDefEqProofs only [↓rP,rS,DY,↓AY a,↓ge]
theorem uR (hB:Kz (D 45)):UC (F84 E D W N):=by
 intro J db wb rb i v O em r h ht hi a
 obtain⟨J1,g1,h1,f1⟩:=hB J wb rb i 1 v O em h ht hi (by decide)
 refine⟨J1,?_,h1,f1⟩
 have e:C7 (A1 O) i 1 0=FE (A1 O) i:=by simp[C7]
 rw[e]at g1
 show fW E D W db 0 J=_
 unfold fW
 simp -implicitDefEqProofs only [↓rP,rS,DY,↓AY a,↓g1]
theorem nd:H7 (yx E D W N):=by
 intro J db
 show Vs E D W db 0 false J=_
 unfold Vs
 simp -implicitDefEqProofs only [↓rP,rS]
theorem fK (hF:Xv (D 81)):RB (yx E D W N):=by
 intro J db wb rb i v O em r h ht a
 obtain⟨J1,g1,h1,f1⟩:=hF J wb rb i v O (AA 4) em h ht
 refine⟨J1,?_,h1,f1⟩
 show Vs E D W db 0 true J=_
 unfold Vs
 simp -implicitDefEqProofs only [↓rP,rS,↓AY a,↓g1]
theorem uC:JE (F43 E D W N):=by
 intro J cb n k a ht hle
 obtain⟨J1,e1,f1,a1⟩:=Ci ht a [.int .i64 (CU .i64 n k)]
 refine⟨J1,?_,a1,f1⟩
 have st:∀U:H->AH,Dt 1 cb 0 (.int .i64 (CU .i64 n k)) J U=U J1:=fun U=>by
  rw[Cg a rfl]
  show U (EV J cb (.cells [.int .i64 (CU .i64 n k)]))=_
  rw[e1]
 show gC E D W cb 0 k J=_
 unfold gC
 simp -implicitDefEqProofs only [↓rP,rS,↓AY a,↓st,↓AY a1,hle]
end
theorem dM {L:List Nat} (hb:PK L) {i:Nat} (h:i<8*Cs L.length):FE (A1 (Es L)) i=FE L i:=by
 rw[NW (Es L) i _ (dL L (by omega)),aI hb (i / 8) (i % 8) (by omega),show 8*(i / 8)+i % 8=i by omega]
theorem mX {L:List Nat} (hb:PK L):∀c∈Es L,c<256:=by
 intro c hc
 unfold Es at hc
 obtain⟨j,_,rfl⟩:=FA.1 hc
 exact VA hb j
theorem dR {P Q:List Nat}:∀(O R:List Nat),(∀c∈O++R,c<256)->JY (P++(A1 (O++R)++Q)) P.length O.length=O:=by
 intro O
 induction hn:O.length generalizing O with
 | zero=>intro R _;rw[Bu hn];rfl
 | succ n ih=>
  intro R hc
  obtain⟨O',c,rfl⟩:∃O' c,O=O'++[c]:=by
   rcases List.eq_nil_or_concat O with h|⟨O',c,h⟩
   ·rw[h]at hn;cases hn
   ·exact⟨O',c,by simpa using h⟩
  have hl:O'.length=n:=by simpa using hn
  have:=ih O' hl (c::R) (by simpa using hc)
  rw[JY]
  rw[Ab,List.singleton_append,this]
  congr 2
  have hd:(P++(A1 (O'++c::R)++Q)).drop (P.length+8*n)=Bq 8 c++(A1 R++Q):=by
   rw[Se,show A1 (c::R)=Bq 8 c++A1 R from rfl,Ab,Ab,<-Ab P,List.drop_append_of_le_length (by rw[AL,Cv];omega),DD (by rw[AL,Cv];omega),Cy]
  have h8:=Ki (Bq 8 c) _ _ 0 hd
  rw[A2,LO]at h8
  rw[h8,M5,CJ,Bw (hc c (by simp))]
def Nw (J0 J:H) (esz k:Nat) (v:V) (l:List V):Prop:=GH J esz k v l/\∀b,Ai v b->J0.next<=b
def Ig (K:List Nat):List V:=K.map fun k => .int .i64 (AA k)
section
variable {E:EB} {J0 J J1:H} {esz k n:Nat} {v x:V} {l m:List V}
theorem Nw.nil (J0 J:H) (esz:Nat):Nw J0 J esz 0 .nils []:=⟨GH.nil J esz,fun _ h=>h.elim⟩
theorem Nw.fr (h:Nw J0 J esz k v l) (f:Fr AJ J J1) (ht:Af J):Nw J0 J1 esz k v l:=⟨h.1.fr f ht (fun _ _ h=>h),h.2⟩
theorem Wa {bytes:Nat} (h:Nw J0 J esz k v l) (f0:Fr AJ J0 J) (hx:EY J esz n x m) (ho:allOne m=true) (hg:CV (k+n) bytes=true) :
  ∃u J',(∀U:V->H->AH,Ee E esz bytes v x J U=U u J')/\Nw J0 J' esz (k+n) u (l++m)/\Fr AJ J0 J':=by
 obtain⟨u,J',g,d,nm,f⟩:=HP (E:=E) h.1 f0.tidy hx ho hg
 exact⟨u,J',g,⟨d,fun b hb=>(nm b hb).elim (h.2 b) (fun h'=>Ae f0.le h')⟩,f0.trans f fun b hb hn=>by have:=h.2 b hn;omega⟩
theorem Jm {c:V} (h:EY J 1 n x m) (hk:m[k]? = some c) (U:V->AH):AT 1 x (AA k) (fun b o=>BL E J b o U)=U c:=by
 have hm:=h.length
 have hlt:k<n:=by
  rcases Al k m.length with h'|h'
  ·omega
  ·rw[Aa h']at hk;cases hk
 rcases h with ⟨h0,_,_⟩|⟨b,o,cp,L,rfl,ha,hl,hm'⟩
 ·omega
 ·rw[CR hlt]
  rw[hm',Ey,if_pos (by omega),DC]at hk
  refine Gp ha ?_
  show L[o+k*1]? = _
  rw[C8];exact hk
end
def TZ (n:Nat):Nat:=n / 16384*16384
def VT (n:Nat):List Nat:=if n<16384 then [n] else [TZ n,n-TZ n]
theorem uD (n:Nat):TZ n<=n:=Nat.div_mul_le_self _ _
theorem dY (n:Nat):n-TZ n<16384:=by unfold TZ;omega
theorem nN {n:Nat} (h:n<69000):P8 .i64 (HL (JX .i64 (AA n) (AA 16384)) (AA 4)) (AA 16384)=AA (TZ n):=by
 have e1:JX .i64 (AA n) (AA 16384)=AA (n / 16384):=by
  show BP .i64 (AA (n / 16384))=_
  exact BV (by rw[Dc];omega)
 rw[e1,HK (by omega)]
 show BP .i64 (AA (n / 16384*16384))=_
 exact BV (by rw[Dc];omega)
def Xx (F:List V->H->AH):Prop:=∀(J:H) (n:Nat),Af J->n<69000 ->
 ∃v J',F [.int .i64 (AA n)] J=some (v,J')/\Nw J J' 1 (VT n).length v (Ig (VT n))/\Fr AJ J J'
def KA (n:Nat):List Nat:=if n<16384 then E7 n else Bq 8 (192+n / 16384)
def mU (O:List Nat):List Nat:=if O.length<16384 then KA O.length++A1 O else KA (TZ O.length)++(A1 (O.take (TZ O.length))++(KA (O.length-TZ O.length)++A1 (O.drop (TZ O.length))))
section
variable {E:EB} {D:Az} {W:AM} {N:Nat}
end
inductive N4 (P:List Nat) (i:Nat):Nat->Bool->Nat->Prop
 | one {n:Nat}:n<128->C7 P i 8 0=n->N4 P i n false (i+8)
 | two {n:Nat}:128<=n->n<16384->C7 P i 8 0=128+n / 256->C7 P (i+8) 8 0=n % 256->N4 P i n false (i+16)
 | frag {k:Nat}:1<=k->k<=4->C7 P i 8 0=192+k->N4 P i (k*16384) true (i+8)
theorem N4.le {P:List Nat} {i n j:Nat} {m:Bool} (h:N4 P i n m j):i+8<=j/\n<=65536/\(m=false->n<16384):=by
 cases h with
 | one h _=>exact⟨AN _,by omega,fun _=>by omega⟩
 | two _ h _ _=>exact⟨by omega,by omega,fun _=>h⟩
 | frag _ h _=>exact⟨AN _,by omega,fun h=>by cases h⟩
theorem yj {J:H} {b:Nat} {x y:V} (ht:Af J) (a:B8 J b [x]) (hy:(Ax y.cells.length 1&&A0 (Ac 0 1) [x].length&&allOne y.cells)=true) (hc:Hg [x] 0 y.cells=[y]):∃J',(∀U:H->AH,Dt 1 b 0 y J U=U J')/\Fr (fun k=>k=b) J J'/\B8 J' b [y]:=by
 obtain⟨J',e,f,a'⟩:=Ci ht a [y]
 refine⟨J',fun U=>?_,f,a'⟩
 rw[Cg a hy,hc,e]
theorem tU:∀q,q<64->MI .i64 (Mo .i64 (AA (128+q)) (AA 128)) 8=AA (q*256):=by
 have:∀q:Fin 64,MI .i64 (Mo .i64 (AA (128+q.val)) (AA 128)) 8=AA (q.val*256):=by decide +kernel
 exact fun q h=>this ⟨q,h⟩
theorem tT {q r:Nat} (hq:q<64) (hr:r<256):Yz .i64 (AA (q*256)) (AA r)=AA (q*256+r):=by
 rw[Pv,PR,DX,DX,show IntKind.bits .i64=64 from rfl,Bw (show q*256<2 ^ 64 by omega),Bw (show r<2 ^ 64 by omega),show (256:Nat)=2 ^ 8 from rfl,TU hr]
 exact Dy (by rw[Dc];omega)
def Q8 (F:List V->H->AH):Prop:=∀(J:H) (c0 c1 c2 c3 wb rb i n j:Nat) (v:V) (O:List Nat) (em more last:Bool),Rw J wb rb v O i (AA 0) em->Af J->N4 (A1 O) i n more j->j<=8*O.length->(more=true->last=false) ->
 B8 J c0 [.ptr wb 0]->B8 J c1 [.int .i64 (AA 0)]->B8 J c2 [.bool false]->B8 J c3 [.bool last]->rb<c0->wb<c0->(∀c,Ai v c->c<c0)->c0<c3->c3<c1->c1<c2 ->
 ∃J',F [.ptr c0 0,.ptr c1 0,.ptr c2 0,.ptr c3 0] J=some (.tup [],J')/\Rw J' wb rb v O j (AA 0) em/\B8 J' c1 [.int .i64 (AA n)]/\B8 J' c2 [.bool more]/\Fr (fun k=>k=rb\/k=c1\/k=c2) J J'
def Mq (F:List V->H->AH):Prop:=∀(J:H) (wb rb i n j:Nat) (v:V) (O:List Nat) (em more last:Bool),Rw J wb rb v O i (AA 0) em->Af J->N4 (A1 O) i n more j->j<=8*O.length->(more=true->last=false) ->
 ∃J',F [.ptr wb 0,.bool last] J=some (.tup [.int .i64 (AA n),.bool more],J')/\Rw J' wb rb v O j (AA 0) em/\Fr (fun k=>k=rb) J J'
section
variable {E:EB} {D:Az} {W:AM} {N:Nat}
theorem cT (hW:Kz (D 45)):Q8 (kA E D W N):=by
 intro J c0 c1 c2 c3 wb rb i n j v O em more last h ht hd hj hl a0 a1 a2 a3 h1 h2 h3 h4 h5 h6
 have nv:∀c,c0<=c->¬Ai v c:=fun c hc hn=>by have:=h3 c hn;omega
 have le:=hd.le
 obtain⟨J1,g1,r1,f1⟩:=hW J wb rb i 8 v O em h ht (by omega) (by decide)
 have b1:=f1.at_ a1 ht (by omega)
 have b2:=f1.at_ a2 ht (by omega)
 have b3:=f1.at_ a3 ht (by omega)
 have b0:=f1.at_ a0 ht (by omega)
 show ∃J',XD E D W (.ptr c0 0) (.ptr c1 0) (.ptr c2 0) (.ptr c3 0) J=some (.tup [],J')/\_
 unfold XD
 cases hd with
 | one hn e=>
  obtain⟨J2,s2,f2,d1⟩:=yj (y := .int .i64 (AA n)) f1.tidy b1 rfl rfl
  rw[e]at g1
  have ew:BP .i64 (AA n)=AA n:=BV (by rw[Dc];omega)
  refine⟨J2,?_,r1.fr f2 f1.tidy (by omega) (by omega) (fun c hc e=>by have:=h3 c hc;omega),d1,f2.at_ b2 f1.tidy (by omega),(f1.mono (fun _ _ h => .inl h):Fr (fun k=>k=rb\/k=c1\/k=c2) J J1).trans f2 (fun _ _ h => .inr (.inl h))⟩
  simp -implicitDefEqProofs only [↓rP,rA,AD,AG,AB,↓AY a0,↓g1,ew,decide_eq_true hn,↓s2]
 | two hn hn' e e'=>
  obtain⟨J2,g2,r2,f2⟩:=hW J1 wb rb (i+8) 8 v O em r1 f1.tidy (by omega) (by decide)
  rw[e]at g1
  rw[e']at g2
  obtain⟨J3,s3,f3,d1⟩:=yj (y := .int .i64 (AA n)) f2.tidy (f2.at_ b1 f1.tidy (by omega)) rfl rfl
  have ew:BP .i64 (AA (128+n / 256))=AA (128+n / 256):=BV (by rw[Dc];omega)
  have ew':BP .i64 (AA (n % 256))=AA (n % 256):=BV (by rw[Dc];omega)
  have eo:Yz .i64 (AA (n / 256*256)) (AA (n % 256))=AA n:=by
   rw[tT (by omega) (by omega),show n / 256*256+n % 256=n by omega]
  refine⟨J3,?_,r2.fr f3 f2.tidy (by omega) (by omega) (fun c hc e=>by have:=h3 c hc;omega),d1,f3.at_ (f2.at_ b2 f1.tidy (by omega)) f2.tidy (by omega),((f1.trans f2 (fun _ _ h=>h)).mono (fun _ _ h => .inl h):Fr (fun k=>k=rb\/k=c1\/k=c2) J J2).trans f3 (fun _ _ h => .inr (.inl h))⟩
  simp -implicitDefEqProofs only [↓rP,rA,AD,AG,AB,↓AY a0,↓g1,ew,decide_eq_false (show ¬128+n / 256<128 by omega),decide_eq_true (show 128+n / 256<192 by omega),↓AY b0,↓g2,ew',tU _ (show n / 256<64 by omega),eo,↓s3,↓AY d1,decide_eq_false (show ¬n<128 by omega)]
 | @frag k hk hk' e=>
  have hl:=hl rfl
  subst hl
  rw[e]at g1
  obtain⟨J2,s2,f2,d1⟩:=yj (y := .int .i64 (AA (k*16384))) f1.tidy b1 rfl rfl
  obtain⟨J3,s3,f3,d2⟩:=yj (y := .bool true) f2.tidy (f2.at_ b2 f1.tidy (by omega)) rfl rfl
  have d1':=f3.at_ d1 f2.tidy (by omega)
  have d3:=f3.at_ (f2.at_ b3 f1.tidy (by omega)) f2.tidy (by omega)
  have ew:BP .i64 (AA (192+k))=AA (192+k):=BV (by rw[Dc];omega)
  have es:E6 .i64 (AA (192+k)) (AA 192)=AA k:=by
   rw[Fs (by omega) (by omega),show 192+k-192=k by omega]
  have em':P8 .i64 (AA k) (AA 16384)=AA (k*16384):=by
   show BP .i64 (AA (k*16384))=_
   exact BV (by rw[Dc];omega)
  refine⟨J3,?_,(r1.fr f2 f1.tidy (by omega) (by omega) (fun c hc e=>by have:=h3 c hc;omega)).fr f3 f2.tidy (by omega) (by omega) (fun c hc e=>by have:=h3 c hc;omega),d1',d2,((f1.mono (fun _ _ h => .inl h):Fr (fun k=>k=rb\/k=c1\/k=c2) J J1).trans f2 (fun _ _ h => .inr (.inl h))).trans f3 (fun _ _ h => .inr (.inr h))⟩
  simp -implicitDefEqProofs only [↓rP,rA,AD,AG,AB,↓AY a0,↓g1,ew,decide_eq_false (show ¬192+k<128 by omega),decide_eq_false (show ¬192+k<192 by omega),es,em',↓s2,↓s3,↓AY d3,↓AY d1',decide_eq_false (show ¬k*16384<16384 by omega),decide_eq_false (show ¬65536<k*16384 by omega)]
theorem lY {D2:Az} (hB:Xy (D 158) D2) (hT:Q8 (D2 220)):Mq (kJ E D W N):=by
 intro J wb rb i n j v O em more last h ht hd hj hl
 obtain⟨J1,e1,f1,a1,n1⟩:=Ay ht [.ptr wb 0]
 obtain⟨J2,e2,f2,a2,n2⟩:=Ay f1.tidy [.bool last]
 obtain⟨J3,e3,f3,a3,n3⟩:=Ay f2.tidy [.int .i64 (AA 0)]
 obtain⟨J4,e4,f4,a4,n4⟩:=Ay f3.tidy [.bool false]
 have z:∀b:Nat,¬AJ b:=fun _ h=>h
 have f14:Fr AJ J1 J4:=(f2.trans f3 (fun _ _ h=>h)).trans f4 (fun _ _ h=>h)
 have f04:Fr AJ J J4:=f1.trans f14 (fun _ _ h=>h)
 have b0:=f14.at_ a1 f1.tidy (z _)
 have b3:=(f3.trans f4 (fun _ _ h=>h)).at_ a2 f2.tidy (z _)
 have b2:=f4.at_ a3 f3.tidy (z _)
 obtain⟨J5,s5,f5,a5⟩:=yj (y := .int .i64 (AA 0)) f4.tidy b2 rfl rfl
 have c3:=f5.at_ a4 f4.tidy (by omega)
 obtain⟨J6,s6,f6,a6⟩:=yj (y := .bool false) f5.tidy c3 rfl rfl
 have lw:=h.at_.lt ht
 have lr:=h.pl.at_.lt ht
 have lv:∀c,Ai v c->c<J.next:=fun c hc=>EY.lt h.pl.by_ ht hc
 have h4:=h.fr0 f04 ht
 have h5:=h4.fr f5 f4.tidy (by omega) (by omega) (fun c hc e=>by have:=lv c hc;omega)
 have h6:=h5.fr f6 f5.tidy (by omega) (by omega) (fun c hc e=>by have:=lv c hc;omega)
 have r0:B8 J6 J.next [.ptr wb 0]:=f6.at_ (f5.at_ b0 f4.tidy (by omega)) f5.tidy (by omega)
 have r3:B8 J6 J1.next [.bool last]:=f6.at_ (f5.at_ b3 f4.tidy (by omega)) f5.tidy (by omega)
 have r2:B8 J6 J2.next [.int .i64 (AA 0)]:=f6.at_ a5 f5.tidy (by omega)
 obtain⟨J7,g7,h7,a7,m7,f7⟩:=hT J6 J.next J2.next J3.next J1.next wb rb i n j v O em more last h6 f6.tidy hd hj hl r0 r2 a6 r3 lr lw lv (by omega) (by omega) (by omega)
 have gb:=hB J6 J7 wb rb i j 220 v O em _ h6 g7 h7
 refine⟨J7,?_,h7,?_⟩
 ·show XT E D W (.ptr wb 0) last J=_
  unfold XT
  have cb:(V.bool last).cells=[.bool last]:=rfl
  simp -implicitDefEqProofs only [↓rP,rS,cb,↓e1,↓e2,↓e3,↓e4,↓s5,↓s6,↓AY r0,↓gb,↓AY a7,↓AY m7]
 ·refine((f04.mono (fun _ _ h=>h.elim):Fr (fun k=>k=rb) J J4).trans f5 (fun b hb e=>?_)).trans f6 (fun b hb e=>?_) |>.trans f7 (fun b hb e=>?_)
  ·omega
  ·omega
  ·rcases e with e|e|e
   ·exact e
   ·omega
   ·omega
end
inductive V7 (P:List Nat) (i:Nat):List Nat->Nat->Prop
 | one {n j:Nat}:N4 P i n false j->V7 P i (JY P j n) (j+8*n)
 | two {k n j j':Nat}:N4 P i k true j->N4 P (j+8*k) n false j'->V7 P i (JY P j k++JY P j' n) (j'+8*n)
def Mr (F:List V->H->AH):Prop:=∀(J0 J:H) (co cr wb rb i n:Nat) (v u0:V) (O l:List Nat) (em:Bool),Rw J wb rb v O i (AA 0) em->Af J->i+8*n<=8*O.length ->
 B8 J co [u0]->B8 J cr [.ptr wb 0]->rb<cr->wb<cr->(∀c,Ai v c->c<cr)->cr<co->co<J0.next->J0.next<=J.next->Nb J0 J u0 (nI l)->l.length<=100000 ->
 ∃u J',F [.int .i64 (AA n),.ptr co 0,.ptr cr 0] J=some (.bool true,J')/\B8 J' co [u]/\Nb J0 J' u (nI (l++JY (A1 O) i n))/\Rw J' wb rb v O (i+8*n) (AA 0) em/\Fr (fun k=>k=rb\/k=co\/J0.next<=k) J J'
def JD (F:List V->H->AH):Prop:=∀(J:H) (wb rb i j most:Nat) (v:V) (O l:List Nat) (em:Bool),Rw J wb rb v O i (AA 0) em->Af J->V7 (A1 O) i l j->j<=8*O.length->l.length<=most->most<=1000000 ->
 ∃u J',F [.ptr wb 0,.int .i64 (AA most)] J=some (u,J')/\Nb J J' u (nI l)/\Rw J' wb rb v O j (AA 0) em/\Fr (fun k=>k=rb) J J'
section
variable {E:EB} {D:Az} {N:Nat}
theorem Tk {J:H} {k n:Nat} {u:V} {l:List V} (h:GH J k n u l):V.beq u u=true:=by
 rcases h with h|⟨b,rfl,_⟩
 ·rcases h with ⟨_,rfl,_⟩|⟨_,rfl,_⟩<;>exact As _ rfl
 ·exact As _ rfl
theorem dH (hW:T0 (D 51)):Mr (F93 E D (Ao E D) N):=by
  intro J0 J co cr wb rb i n v u0 O l em h ht hi ac ar q1 q2 q3 q4 q5 q6 hu hl
  have fw:Fr AJ J ⟨J.next+6,J.bl⟩:=(CN (E:=E) (n:=6) (S:=AJ) ht).fr
  have fewO:=h.pl.few
  have lc:=ac.lt ht
  have nu:∀b,Ai u0 b->J0.next<=b:=hu.2
  have ul:∀b,Ai u0 b->b<J.next:=fun b hb=>hu.1.lt ht hb
  obtain⟨u1,J1,g1,h1,r1,f1⟩:=hW ⟨J.next+6,J.bl⟩ wb rb i n v O em (h.fr0 fw ht) fw.tidy hi
  have c1:B8 J1 co [u0]:=f1.at_ (fw.at_ ac ht (fun h=>h)) fw.tidy (by omega)
  have le1:J.next+6<=J1.next:=f1.le
  have hu1:GH J1 1 (nI l).length u0 (H0 (nI l)):=(hu.1.fr fw ht (fun _ _ h=>h)).fr f1 fw.tidy (fun b hb e=>by have:=nu b hb;omega)
  obtain⟨u2,J2,g2,d2,m2,f2⟩:=HP (E:=E) (bytes:=1) hu1 f1.tidy h1.by_ (TH _) (by
    unfold CV
    rw[Bf,Bf,Et]
    simp only[C8,AK,BC];omega)
  have h2:Nb J0 J2 u2 (nI (l++JY (A1 O) i n)):=⟨by rw[Lc,AL,HF];exact d2,fun b hb=>by
    rcases m2 b hb with h|h
    · exact nu b h
    · omega⟩
  have c2:B8 J2 co [u0]:=f2.at_ c1 f1.tidy (fun hn=>by have:=nu _ hn;omega)
  obtain⟨o1,o2⟩:=Hi h2.1.one
  have hlr:=h.pl.at_.lt ht
  have st:∃J3,EO E D (.store 1 (.tmp 1) (.tmp 9)) [(9,u2),(1,.ptr co 0)] J2=some (.dead,J3)/\Fr (fun k=>k=co) J2 J3/\B8 J3 co [u2]:=by
    obtain⟨J3,q1,q2,q3⟩:=LQ (E:=E) (D:=D) (n:=1) (x := .tmp 1) (y := .tmp 9) (e:=[(9,u2),(1,.ptr co 0)]) f2.tidy c2 rfl (show (CZ [(9,u2),(1,.ptr co 0)] (.tmp 9)).cells=[u2] from o2) (by
      simp only[Bd,Bo,h2.1.one,EN];rfl)
    exact⟨J3,q1,q2,q3⟩
  obtain⟨J3,g3,f3,c3⟩:=st
  have r2:Rw J2 wb rb v O (i+8*n) (AA 0) em:=r1.fr f2 f1.tidy (fun hn=>by have:=nu _ hn;omega) (fun hn=>by have:=nu _ hn;omega) (fun c hc hn=>by have:=nu _ hn;have:=q3 c hc;omega)
  refine⟨u2,J3,?_,c3,⟨h2.1.fr f3 f2.tidy (fun c hc e=>by have:=h2.2 c hc;omega),h2.2⟩,r2.fr f3 f2.tidy (by omega) (by omega) (fun c hc e=>by have:=q3 c hc;omega),?_⟩
  · have go:JV (Zx E J 6 Sx _ J3) E D J 6 0 Zw Sx ⟨[(0,.int .i64 (AA n)),(1,.ptr co 0),(2,.ptr cr 0)],J.next+6,[J.bl],[],0,[]⟩:=
      QK u0 (CN (S:=fun k=>k=rb\/Ai u0 k) ht) rfl (Bb (b:=co) (off:=0) rfl ac rfl ht (fun e=>by
        rcases e with e|e
        · omega
        · have:=nu _ e;omega) (Tk hu.1)) fun r1=>
      QK (.ptr wb 0) r1 rfl (Bb (b:=cr) (off:=0) rfl ar rfl ht (fun e=>by
        rcases e with e|e
        · omega
        · have:=nu _ e;omega) (As _ rfl)) fun r2=>
      Md (.int .i64 (AA n)) rfl rfl <|
      ZA u1 r2 rfl (by decide) (S':=fun k=>k=rb) f1 (fun _ _ h => .inl h) (fun b h h1 _=>by omega) (DO (vs:=[.ptr wb 0,.int .i64 (AA n)]) rfl rfl g1) fun _ _ r3=>
      ZA u2 r3 rfl (by decide) (S':=Ai u0) f2 (fun _ _ h => .inr h) (fun b h h1 _=>by have:=ul b h;omega) (ZP rfl rfl g2) fun _ _ r4=>
      ZB .dead r4 rfl (by decide) f3 (fun b h h1 _=>by omega) g3 (fun x hx=>by
        simp only[BJ,List.not_mem_nil,or_false]at hx
        rcases hx with rfl|rfl
        · show Ie Sx 1 [5,4,3] []=false
          decide
        · show Ie Sx 0 [5,4,3] []=false
          decide)
    have d:=VK (ops:=Zw) go
    show fT E D (Ao E D) (AA n) (.ptr co 0) (.ptr cr 0) J=_
    unfold fT
    rw[d];rfl
  · exact(((fw.mono (fun _ _ h=>h.elim):Fr (fun k=>k=rb\/k=co\/J0.next<=k) J _).trans f1 (fun _ _ h => .inl h)).trans f2 (fun b _ h => .inr (.inr (nu b h)))).trans f3 (fun _ _ h => .inr (.inl h))
variable {W:AM}
theorem Lq (hT:Mq (D 171)) (hE:KQ (D 56)) (hP:Mr (D 93)) {J0 J:H} {co cr wb rb i n j most d:Nat} {v u0:V} {O l:List Nat} {em more last:Bool}
  (h:Rw J wb rb v O i (AA 0) em) (ht:Af J) (hd:N4 (A1 O) i n more j) (hj:j+8*n<=8*O.length) (hla:more=true->last=false) (hm:d+n<=most) (hm':most<=1000000)
  (ac:B8 J co [u0]) (ar:B8 J cr [.ptr wb 0]) (q1:rb<cr) (q2:wb<cr) (q3:∀c,Ai v c->c<cr) (q4:cr<co) (q5:co<J0.next) (q6:J0.next<=J.next) (hu:Nb J0 J u0 (nI l)) (hl:l.length<=100000) :
  ∃u J',(∀R,ZT E D W (fU E D W R) (.ptr wb 0) (AA most) (.fn 93 [] [.ptr co 0,.ptr cr 0]) (AA d) last J=(match more with | true=>R (.ptr wb 0) (AA most) (.fn 93 [] [.ptr co 0,.ptr cr 0]) (AA (d+n)) (decide (n<65536)) J' | false=>some (.int .i64 (AA (d+n)),J'))) /\
   B8 J' co [u]/\Nb J0 J' u (nI (l++JY (A1 O) j n))/\Rw J' wb rb v O (j+8*n) (AA 0) em/\Fr (fun k=>k=rb\/k=co\/J0.next<=k) J J':=by
 have le:=hd.le
 obtain⟨J1,g1,h1,f1⟩:=hT J wb rb i n j v O em more last h ht hd (by omega) hla
 have a1:=f1.at_ ac ht (by omega)
 have hu1:Nb J0 J1 u0 (nI l):=⟨hu.1.fr f1 ht (fun b hb e=>by have:=hu.2 b hb;omega),hu.2⟩
 obtain⟨u,J2,g2,c2,b2,h2,f2⟩:=hP J0 J1 co cr wb rb j n v u0 O l em h1 f1.tidy hj a1 (f1.at_ ar ht (by omega)) q1 q2 q3 q4 q5 (Ae q6 f1.le) hu1 hl
 refine⟨u,J2,fun R=>?_,c2,b2,h2,(f1.mono (fun _ _ h => .inl h):Fr (fun k=>k=rb\/k=co\/J0.next<=k) J J1).trans f2 (fun _ _ h=>h)⟩
 have e1:=hE J1 wb rb _ v O _ em h1
 have e2:=hE J2 wb rb _ v O _ em h2
 have cv:∀U:V->H->AH,Ed D (.fn 93 [] [.ptr co 0,.ptr cr 0]) [.int .i64 (AA n)] J1 U=U (.bool true) J2:=fun U=>by
  show AW (D 93 [.int .i64 (AA n),.ptr co 0,.ptr cr 0] J1) U=_
  rw[g2];rfl
 have mx:E6 .i64 (GW (AA most) (AA 0)) (AA d)=AA (most-d):=by
  rw[Ia,Jg (CH _),Fs (by omega) (by omega)]
 have d1:decide (most-d<n)=false:=decide_eq_false (by omega)
 have ad:CU .i64 (AA d) (AA n)=AA (d+n):=BX (by omega)
 unfold ZT fU
 cases more<;>simp -implicitDefEqProofs only [↓rP,rA,AD,AG,AB,↓g1,mx,d1,↓e1,↓cv,↓e2,ad,Cn,FN]
theorem lX {D2:Az} {W2:AM} (hT:Mq (D2 171)) (hE:KQ (D2 56)) (hE':KQ (D 56)) (hP:Mr (D2 93)) {M:Nat} (hM:3<M) (hA:D 92=yt E D2 W2 M):JD (F48 E D W N):=by
 intro J wb rb i j most v O l em h ht hp hj hm hm'
 obtain⟨M,rfl⟩:∃k,M=k+3:=⟨M-3,by omega⟩
 obtain⟨J1,e1,f1,a1,n1⟩:=Ay ht [.ptr wb 0]
 obtain⟨J2,e2,f2,a2,n2⟩:=Ay f1.tidy [.nils]
 have f02:Fr AJ J J2:=f1.trans f2 (fun _ _ h=>h)
 have b1:=f2.at_ a1 f1.tidy (fun h=>h)
 have lw:=h.at_.lt ht
 have lr:=h.pl.at_.lt ht
 have lv:∀c,Ai v c->c<J.next:=fun c hc=>EY.lt h.pl.by_ ht hc
 have fewO:=h.pl.few
 have h2:=h.fr0 f02 ht
 suffices key:∃u J3 n,D 92 [.ptr wb 0,.int .i64 (AA most),.fn 93 [] [.ptr J1.next 0,.ptr J.next 0]] J2=some (.int .i64 n,J3)/\B8 J3 J1.next [u]/\Nb J2 J3 u (nI l)/\Rw J3 wb rb v O j (AA 0) em/\Fr (fun k=>k=rb\/k=J1.next\/J2.next<=k) J2 J3 by
  obtain⟨u,J3,n,g3,c3,h3,r3,f3⟩:=key
  have c0:=f3.at_ b1 f2.tidy (by omega)
  refine⟨u,J3,?_,h3.mono f02.le,r3,(f02.mono (fun _ _ h=>h.elim):Fr (fun k=>k=rb) J J2).trans f3 (fun b hb e=>by omega)⟩
  have ge:=hE' J3 wb rb _ v O _ em r3
  show fx E D W (.ptr wb 0) (AA most) J=_
  unfold fx
  simp -implicitDefEqProofs only [↓rP,rA,AD,AG,AB,↓e1,↓e2,↓AY b1,↓g3,↓AY c0,↓ge,↓AY c3]
 rw[hA]
 have q4:J.next<J1.next:=by omega
 have q5:J1.next<J2.next:=by omega
 cases hp with
 | one hd=>
  rename_i n j
  rw[Et]at hm
  obtain⟨u,J3,g3,c3,b3,r3,f3⟩:=Lq (E:=E) (D:=D2) (W:=W2) (l:=[]) (d:=0) (most:=most) (last:=false) hT hE hP h2 f2.tidy hd hj (fun h=>by cases h) (by omega) hm' a2 b1 lr lw lv q4 q5 (AN _) (Nb.nil J2 J2) (CH _)
  refine⟨u,J3,AA (0+n),?_,c3,b3,r3,f3⟩
  exact g3 (V9 E D2 W2 (M+3) (M+2))
 | two hd hd'=>
  rename_i k n j j'
  rw[AL,Et,Et]at hm
  have le:=hd'.le
  obtain⟨u,J3,g3,c3,b3,r3,f3⟩:=Lq (E:=E) (D:=D2) (W:=W2) (l:=[]) (d:=0) (most:=most) (last:=false) hT hE hP h2 f2.tidy hd (by omega) (fun _=>rfl) (by omega) hm' a2 b1 lr lw lv q4 q5 (AN _) (Nb.nil J2 J2) (CH _)
  rw[Cy]at b3
  obtain⟨u',J4,g4,c4,b4,r4,f4⟩:=Lq (E:=E) (D:=D2) (W:=W2) (d:=0+k) (most:=most) (last:=decide (k<65536)) hT hE hP r3 f3.tidy hd' hj (fun h=>by cases h) (by omega) hm' c3 (f3.at_ b1 f2.tidy (by omega)) lr lw lv q4 q5 f3.le b3 (by rw[Et];omega)
  refine⟨u',J4,AA (0+k+n),?_,c4,b4,r4,f3.trans f4 (fun _ _ h=>h)⟩
  exact(g3 (V9 E D2 W2 (M+3) (M+2))).trans (g4 (V9 E D2 W2 (M+3) (M+1)))
end
theorem QY (n v:Nat):∀m,Bq (m+n) v=Bq m (v / 2 ^ n)++Bq n v
 | 0=>by rw[CJ];rfl
 | m+1=>by
  rw[show m+1+n=(m+n)+1 by omega,Bq,Bq,QY n v m,Nat.pow_add,HT (2 ^ m),<-Nat.div_div_eq_div_mul];rfl
theorem HY {L r:List Nat} {i n v:Nat} (h:L.drop i=Bq n v++r):C7 L i n 0=v % 2 ^ n:=by
 have:=Ki (Bq n v) r i 0 h
 rw[A2,LO,M5,CJ]at this
 exact this
theorem eY {L r:List Nat} {i n:Nat} (h:L.drop i=KA n++r) (hc:n<16384\/∃k,1<=k/\k<=4/\n=k*16384):N4 L i n (decide (16384<=n)) (i+(KA n).length):=by
 rcases hc with hn|⟨k,h1,h2,rfl⟩
 ·rw[decide_eq_false (by omega)]
  unfold KA at h ⊢
  rw[if_pos hn]at h ⊢
  unfold E7 at h ⊢
  by_cases h1:n<128
  ·rw[if_pos h1]at h ⊢
   rw[A2]
   exact .one h1 (by rw[HY h];omega)
  ·rw[if_neg h1]at h ⊢
   rw[A2]
   have e:Bq 16 (32768+n)=Bq 8 ((32768+n) / 2 ^ 8)++Bq 8 (32768+n):=QY 8 _ 8
   rw[e,Ab]at h
   have h8:L.drop (i+8)=Bq 8 (32768+n)++r:=by
    rw[<-IP,h]
    exact List.drop_left' (A2 _ _)
   exact .two (by omega) hn (by rw[HY h];omega) (by rw[HY h8];omega)
 ·rw[decide_eq_true (by omega)]
  unfold KA at h ⊢
  rw[if_neg (by omega),D9 _ (by decide)]at h ⊢
  rw[A2]
  exact .frag h1 h2 (by rw[HY h];omega)
theorem QP (n:Nat):PK (KA n):=by
 unfold KA E7
 split
 ·split<;>exact Gh _ _
 ·exact Gh _ _
theorem dD (O:List Nat):PK (mU O):=by
 unfold mU
 split
 ·intro b hb
  rcases Fe.1 hb with h|h
  ·exact QP _ b h
  ·exact Fj _ b h
 ·intro b hb
  simp only[Fe]at hb
  rcases hb with h|h|h|h
  ·exact QP _ b h
  ·exact Fj _ b h
  ·exact QP _ b h
  ·exact Fj _ b h
theorem nU {L M:List Nat} {i:Nat} (h:i<L.length):FE (L++M) i=FE L i:=by
 unfold FE;rw[Ad,Ad,Dl h]
theorem Ps {L M:List Nat} {j:Nat}:∀{m:Nat},8*j+m<=L.length->part (L++M) j m=part L j m
 | 0,_=>rfl
 | m+1,h=>by rw[part,part,Ps (m:=m) (by omega),nU (by omega)]
theorem dQ {L M:List Nat} {i:Nat} (h:i<=L.length):H2 (L++M) i=H2 L i:=by
 unfold H2
 have e1:FB (L++M) (i / 8)=FB L (i / 8):=by
  unfold FB
  refine List.map_congr_left fun j hj=>?_
  have:=MC.1 hj
  rw[<-TT,<-TT,Ps (by omega)]
 rw[e1]
 split
 ·rfl
 ·rw[Ps (by omega)]
structure Pw (J:H) (w:Nat) (u:V) (L:List Nat):Prop where
 at_:B8 J w [u,.int .i64 (AA L.length)]
 d:GH J 1 (Cs L.length) u (H0 (nI (H2 L L.length)))
 ne:¬Ai u w
 bin:PK L
structure D1 (J:H) (w:Nat) (u:V) (J':H) (u':V) (L':List Nat):Prop where
 wr:Pw J' w u' L'
 f:Fr (Ht w u) J J'
 g:∀b,Ai u' b->Ai u b\/J.next<=b
section
variable {E:EB} {J J1 J2:H} {w:Nat} {u u1 u2:V} {L L1 L2:List Nat}
theorem Pw.fr (h:Pw J w u L) (f:Fr AJ J J1) (ht:Af J):Pw J1 w u L:=⟨f.at_ h.at_ ht (fun h=>h),h.d.fr f ht (fun _ _ h=>h),h.ne,h.bin⟩
theorem Pw.frS {S:Nat->Prop} (h:Pw J w u L) (f:Fr S J J1) (ht:Af J) (h1:¬S w) (h2:∀b,Ai u b->¬S b):Pw J1 w u L:=⟨f.at_ h.at_ ht h1,h.d.fr f ht h2,h.ne,h.bin⟩
theorem D1.refl (h:Pw J w u L) (ht:Af J):D1 J w u J u L:=⟨h,Fr.refl ht,fun _ hb => .inl hb⟩
theorem D1.trans (h:D1 J w u J1 u1 L1) (k:D1 J1 w u1 J2 u2 L2):D1 J w u J2 u2 L2:=by
 refine⟨k.wr,h.f.trans k.f (fun b hb hn=>?_),fun b hb=>?_⟩
 ·rcases hn with hn|hn
  ·exact .inl hn
  ·rcases h.g b hn with h'|h'
   ·exact .inr h'
   ·omega
 ·rcases k.g b hb with h'|h'
  ·exact h.g b h'
  ·exact .inr (Ae h.f.le h')
theorem D1.behind (f:Fr AJ J J1) (k:D1 J1 w u J2 u2 L2):D1 J w u J2 u2 L2:=
 ⟨k.wr,f.mono (fun _ _ h=>h.elim) |>.trans k.f (fun _ _ h=>h),fun b hb=>(k.g b hb).imp id (fun h=>Ae f.le h)⟩
theorem D1.off (h:D1 J w u J1 u1 L1) {b:Nat} (o:E4 J w u b):E4 J1 w u1 b:=⟨Bg o.1 h.f.le,o.2.1,fun hb=>(h.g b hb).elim o.2.2 (by have:=o.1;omega)⟩
theorem D1.at_ (h:D1 J w u J1 u1 L1) (ht:Af J) {b:Nat} {l:List V} (o:E4 J w u b) (ha:B8 J b l):B8 J1 b l:=h.f.at_ ha ht o.not
theorem D1.row {esz n:Nat} {v:V} {m:List V} (h:D1 J w u J1 u1 L1) (ht:Af J) (o:∀b,Ai v b->E4 J w u b) (hx:EY J esz n v m):EY J1 esz n v m:=hx.fr h.f ht fun b hb=>(o b hb).not
theorem E4.pw (h:Pw J w u L) (ht:Af J) {b:Nat} (hb:J.next<=b) (hb':b<J1.next):E4 J1 w u b:=
 ⟨hb',fun e=>by have:=h.at_.lt ht;omega,fun hn=>by have:=h.d.lt ht hn;omega⟩
theorem nH {v:V} {a r:List Int} {c:Int} (hd:GH J 1 (a++c::r).length v (H0 (a++c::r))) (ht:Af J) (d:Int) :
  ∃b J',Ai v b/\(∀U:Nat->Nat->AH,AT 1 v (AA a.length) U=U b a.length)/\(∀U:V->AH,BL E J b a.length U=U (.int .u8 c))/\(∀U:H->AH,Dt 1 b a.length (.int .u8 d) J U=U J')/\GH J' 1 (a++d::r).length v (H0 (a++d::r))/\Fr (fun k=>k=b) J J':=by
 have hlen:(a++c::r).length=(a++d::r).length:=by simp
 have key:∀b (cp:Zy),v = .sl b 0 (a++c::r).length cp->B8 J b (H0 (a++c::r))->(∀J',B8 J' b (H0 (a++d::r))->GH J' 1 (a++d::r).length v (H0 (a++d::r)))->∃b J',Ai v b/\(∀U:Nat->Nat->AH,AT 1 v (AA a.length) U=U b a.length)/\(∀U:V->AH,BL E J b a.length U=U (.int .u8 c))/\(∀U:H->AH,Dt 1 b a.length (.int .u8 d) J U=U J')/\GH J' 1 (a++d::r).length v (H0 (a++d::r))/\Fr (fun k=>k=b) J J':=by
  intro b cp hv ha hd'
  obtain⟨J',e,f,a'⟩:=Ci ht ha (H0 (a++d::r))
  refine⟨b,J',by rw[hv];rfl,fun U=>?_,fun U=>?_,fun U=>?_,hd' J' a',f⟩
  ·rw[hv,CR (by simp)]
   show U b (0+a.length*1)=_
   rw[CJ,C8]
  ·exact Gp ha (by unfold H0;rw[BM,CY (AN _),M6];rfl)
  ·rw[Cg ha (by
    simp only[Hb,Aj,CA,Er,AL,AK,Nat.beq_eq_true_eq,BC]
    refine⟨⟨rfl,?_⟩,rfl⟩
    show a.length+1<=_
    omega)]
   rw[show Hg (H0 (a++c::r)) a.length (V.int .u8 d).cells=H0 (a++d::r)from by
    have:=WT (H0 a) (.int .u8 c) (H0 r) (.int .u8 d)
    rw[Er]at this
    rw[HF,HF]
    exact this,e]
 rcases hd with (⟨h0,_⟩|⟨b,hv,ha,h0,hl⟩)|⟨b,hv,ha,hl⟩
 ·simp at h0
 ·refine key b _ hv ha fun J' a' => .inl (.inr ⟨b,?_,a',by rw[<-hlen];exact h0,by rw[Er,C8]⟩)
  rw[<-hlen];exact hv
 ·refine key b _ hv ha fun J' a' => .inr ⟨b,?_,a',by rw[Er,C8]⟩
  rw[<-hlen];exact hv
end
theorem tc:∀m,m<8->LA .u8 (AA 128) m=MI .u8 (AA 1) (7-m):=by decide
def Xm (F:List V->H->AH):Prop:=∀(J:H) (w:Nat) (u:V) (L:List Nat) (c:Nat),Pw J w u L->Af J->L.length<9000000->c<2 ->
 ∃u' J',F [.ptr w 0,.int .i64 (AA c)] J=some (.tup [],J')/\D1 J w u J' u' (L++[c])
section
variable {E:EB} {D:Az} {W:AM} {N:Nat}
theorem Iz {a o:Nat} (U:Bool->AH):SV .ptr (.ptr a o) .nilp U=U false:=rfl
theorem tR:Xm (j7 E D W N):=by
 intro J w u L c h ht hl hc
 have hbin:PK (L++[c]):=fun b hb=>by
  rcases Fe.1 hb with hb|hb
  ·exact h.bin b hb
  ·rw[JN.1 hb];exact hc
 have eO:H2 (L++[c]) L.length=H2 L L.length:=dQ (AN _)
 have a:=h.at_
 have hq:JX .i64 (AA L.length) (AA 8)=AA (L.length / 8):=tk (by omega)
 have lenw:(nI (FB (L++[c]) (L.length / 8))).length=L.length / 8:=by rw[Bf,It]
 obtain⟨u1,J1,g1,d1,n1,m1,a1,f1⟩:∃u1 J1,(∀K,Qp E D W K (.ptr w 0) (AA c) J=K (.ptr w 0) (AA c) J1) /\
   GH J1 1 (nI (FB (L++[c]) (L.length / 8))++AA (part (L++[c]) (L.length / 8) (L.length % 8))::[]).length u1 (H0 (nI (FB (L++[c]) (L.length / 8))++AA (part (L++[c]) (L.length / 8) (L.length % 8))::[]))/\¬Ai u1 w /\
   (∀b,Ai u1 b->Ai u b\/J.next<=b)/\B8 J1 w [u1,.int .i64 (AA L.length)]/\Fr (Ht w u) J J1:=by
  by_cases h8:L.length % 8=0
  ·obtain⟨J1,e1,f1,b1,n1⟩:=Ay ht [.int .u8 (AA 0)]
   have x:EY J1 1 1 (V.sl J.next 0 1 (.ex 1)) [.int .u8 (AA 0)] := .inr ⟨_,_,_,_,rfl,b1,AN _,rfl⟩
   obtain⟨u2,J2,g2,d2,m2,f2⟩:=HP (E:=E) (bytes:=1) (h.d.fr f1 ht (fun _ _ h=>h)) f1.tidy x rfl (by
    unfold CV Cs
    simp only[C8,AK,BC];omega)
   have a2:B8 J2 w [u,.int .i64 (AA L.length)]:=f2.at_ (f1.at_ a ht (fun h=>h)) f1.tidy h.ne
   have lw:=a.lt ht
   have ne2:¬Ai u2 w:=fun hb=>by
    rcases m2 w hb with h'|h'
    ·exact h.ne h'
    ·omega
   obtain⟨J3,e3,f3,a3⟩:=Ci f2.tidy a2 [u2,.int .i64 (AA L.length)]
   have o:=d2.one
   refine⟨u2,J3,fun K=>?_,?_,ne2,fun b hb=>?_,a3,?_⟩
   ·have st:∀U:H->AH,Dt 1 w 0 u2 J2 U=U J3:=fun U=>by
     obtain⟨o1,o2⟩:=Hi o
     rw[Cg a2 (by rw[o2];cases u2<;>first | rfl | cases o),o2]
     show U (EV J2 w (.cells [u2,.int .i64 (AA L.length)]))=_
     rw[e3]
    have dm:decide (L.length % 8=0)=true:=decide_eq_true h8
    unfold Qp
    simp -implicitDefEqProofs only [↓rP,rS,DY,↓Iz,↓AY a,Wb,dm,↓e1,↓g2,↓CM o,↓st]
   ·have hw:H2 L L.length=FB (L++[c]) (L.length / 8):=by
     rw[<-eO];unfold H2;rw[if_pos h8,Am]
    rw[hw]at d2
    rw[h8,show part (L++[c]) (L.length / 8) 0=0 from rfl,HF]
    have d3:=d2.fr f3 f2.tidy (fun b hb e=>ne2 (by cases e;exact hb))
    rw[AL,lenw,show ([AA 0]:List Int).length=1 from rfl]
    rw[show Cs L.length=L.length / 8 by unfold Cs;omega]at d3
    exact d3
   ·rcases m2 b hb with h'|h'
    ·exact .inl h'
    ·exact .inr (by omega)
   ·exact((f1.mono (fun _ _ h=>h.elim):Fr (Ht w u) J J1).trans f2 (fun _ _ h => .inr h)).trans f3 (fun _ _ h => .inl h)
  ·refine⟨u,J,fun K=>?_,?_,h.ne,fun _ hb => .inl hb,a,Fr.refl ht⟩
   ·have dm:decide (L.length % 8=0)=false:=decide_eq_false h8
    unfold Qp
    simp -implicitDefEqProofs only [↓rP,rS,DY,↓Iz,↓AY a,Wb,dm]
   ·have d:=h.d
    rw[<-eO,show H2 (L++[c]) L.length=FB (L++[c]) (L.length / 8)++[part (L++[c]) (L.length / 8) (L.length % 8)] by unfold H2;rw[if_neg h8],Lc]at d
    rw[AL,lenw]
    rw[show Cs L.length=L.length / 8+1 by unfold Cs;omega]at d
    exact d
 have le1:=f1.le
 have lw1:=a1.lt f1.tidy
 have e8:8*(L.length / 8)+L.length % 8=L.length:=by omega
 have bc:FE (L++[c]) L.length=c:=by unfold FE;simp
 have eN:H2 (L++[c]) (L++[c]).length=FB (L++[c]) (L.length / 8)++[part (L++[c]) (L.length / 8) (L.length % 8+1)]:=by rw[AL];exact SK _ _
 have eL:(L++[c]).length=L.length+1:=by simp
 have pN:Cs (L.length+1)=L.length / 8+1:=by unfold Cs;omega
 obtain⟨J2,g2,d2,a2,f2⟩:∃J2,(∀K,Qo E D W K (.ptr w 0) (AA c) J1=K (.ptr w 0) J2)/\GH J2 1 (L.length / 8+1) u1 (H0 (nI (FB (L++[c]) (L.length / 8))++[AA (part (L++[c]) (L.length / 8) (L.length % 8+1))])) /\
   B8 J2 w [u1,.int .i64 (AA L.length)]/\Fr (Ai u1) J1 J2:=by
  have hpart:part (L++[c]) (L.length / 8) (L.length % 8+1)=part (L++[c]) (L.length / 8) (L.length % 8)+c*2 ^ (7-L.length % 8):=by rw[part,e8,bc]
  have:c=0\/c=1:=by omega
  rcases this with rfl|rfl
  ·refine⟨J1,fun K=>?_,?_,a1,Fr.refl f1.tidy⟩
   ·unfold Qo
    simp -implicitDefEqProofs only [↓rP,rA,AD,AG,AB]
   ·rw[hpart,M5,ES]
    rw[AL,lenw]at d1
    exact d1
  ·obtain⟨b,J2,nb,ia,rd,st,h3,f3⟩:=nH (E:=E) d1 f1.tidy (AA (part (L++[1]) (L.length / 8) (L.length % 8+1)))
   rw[lenw]at ia rd st
   have nbw:b≠w:=fun e=>n1 (e ▸ nb)
   refine⟨J2,fun K=>?_,?_,f3.at_ a1 f1.tidy (fun e=>nbw e.symm),f3.mono fun b' _ e=>by cases e;exact nb⟩
   ·have hor:Yz .u8 (AA (part (L++[1]) (L.length / 8) (L.length % 8))) (LA .u8 (AA 128) (L.length % 8))=AA (part (L++[1]) (L.length / 8) (L.length % 8+1)):=by
     rw[tc _ (Re _ (by decide))]
     obtain⟨q,e⟩:=Pr (L++[1]) (L.length / 8) (L.length % 8) (by omega)
     have hlt:=TS hbin (L.length / 8) (L.length % 8+1) (by omega)
     have hp:0<2 ^ (8-(L.length % 8+1)):=Nat.pow_pos (by decide)
     rw[hpart]at hlt ⊢
     rw[e,show 8-L.length % 8=(7-L.length % 8)+1 by omega]at hlt ⊢
     exact qz (by omega) (by decide) (by omega)
    unfold Qo
    simp -implicitDefEqProofs only [↓rP,rA,AD,AG,AB,↓AY a1,hq,↓ia,↓rd,Wb,HJ,hor,↓st]
   ·rw[AL,lenw]at h3
    exact h3
 obtain⟨J3,e3,f3,a3⟩:=Ci f2.tidy a2 [u1,.int .i64 (AA (L.length+1))]
 refine⟨u1,J3,?_,⟨by rw[eL];exact a3,?_,n1,hbin⟩,?_,m1⟩
 ·show Qp E D W (Qo E D W (W7 E D W)) (.ptr w 0) (AA c) J=_
  rw[g1,g2]
  have st:∀U:H->AH,Dt 1 w 1 (.int .i64 (AA (L.length+1))) J2 U=U J3:=fun U=>by
   rw[Cg a2 rfl]
   show U (EV J2 w (.cells [u1,.int .i64 (AA (L.length+1))]))=_
   rw[e3]
  unfold W7
  simp -implicitDefEqProofs only [↓rP,rS,↓AY a2,BX (show L.length+1<=9223372036854775807 by omega),↓st]
 ·rw[eN,eL,pN,Lc]
  exact d2.fr f3 f2.tidy (fun b hb e=>n1 (by cases e;exact hb))
 ·refine(f1.trans f2 (fun b hb hn=>?_)).trans f3 (fun _ _ h => .inl h)
  rcases m1 b hn with h'|h'
  ·exact .inr h'
  ·omega
end
def PC (F:List V->H->AH):Prop:=∀(J:H) (w:Nat) (u:V) (L:List Nat) (v n:Nat) (m:Int),Pw J w u L->Af J->L.length<8000000->v<=4294967295->n<=32->GW (AA 0) (HL m (AA 32))=AA n ->
 ∃u' J',F [.ptr w 0,.int .u32 (AA v),.int .i64 m] J=some (.tup [],J')/\D1 J w u J' u' (L++Bq n v)
def Ip (F:List V->H->AH):Prop:=∀(J:H) (w:Nat) (u:V) (L:List Nat) (v n:Nat),Pw J w u L->Af J->L.length<8000000->v<=4294967295->n<=32 ->
 ∃u' J',F [.ptr w 0,.int .u64 (AA v),.int .i64 (AA n)] J=some (.tup [],J')/\D1 J w u J' u' (L++Bq n v)
def Ss (m:Nat) (F:List V->H->AH):Prop:=∀(J:H) (n:Int),F [.int .i64 n] J=some (.int .i64 (GW (AA 0) (HL n (AA m))),J)
theorem Vf {v n:Nat} (hv:v<=4294967295) (hn:n<=32):BP .i64 (Je .u32 (LA .u32 (AA v) n) (AA 1))=AA (v / 2 ^ n % 2):=by
 rw[MH hn,Vj (Ae (kz _ _) hv),BV (by rw[Dc];omega)]
theorem AAC:∀n,n<=32->GW (AA 0) (HL (E6 .i64 (AA n) (AA 32)) (AA 32))=AA 0:=by
 have:∀n:Fin 33,GW (AA 0) (HL (E6 .i64 (AA n.val) (AA 32)) (AA 32))=AA 0:=by decide
 exact fun n h=>this ⟨n,by omega⟩
section
variable {E:EB} {D:Az} {W:AM} {N:Nat}
theorem na:Ss 32 (bn E D W N):=fun J n=>by
 show XW E D W n J=_
 rfl
theorem nZ:Ss 64 (yu E D W N):=fun J n=>by
 show fY E D W n J=_
 rfl
theorem dA (hB:Xm (D 250)) (hM:Ss 32 (D 154)) (hN:64<N):PC (ba E D W N):=by
 intro J w u L v n m h ht hl hv hn hm
 have loop:∀(k n':Nat) (u:V) (J:H) (L:List Nat),k<=32->k<n'->Pw J w u L->Af J->L.length+k<9000000 ->
   ∃u' J',UZ E D W N n' (.ptr w 0) (AA v) (Lh k) J=some (.tup [],J')/\D1 J w u J' u' (L++Bq k v):=by
  intro k
  induction k with
  | zero=>
   intro n' u J L hk hn' h ht hl
   obtain⟨n',rfl⟩:∃k,n'=k+1:=⟨n'-1,by omega⟩
   refine⟨u,J,rfl,?_⟩
   rw[show Bq 0 v=[] from rfl,Am];exact D1.refl h ht
  | succ k ih=>
   intro n' u J L hk hn' h ht hl
   obtain⟨n',rfl⟩:∃k,n'=k+1:=⟨n'-1,by omega⟩
   obtain⟨u1,J1,g1,s1⟩:=hB J w u L (v / 2 ^ k % 2) h ht (by omega) (Re _ (by decide))
   obtain⟨u2,J2,g2,s2⟩:=ih n' u1 J1 _ (by omega) (by omega) s1.wr s1.f.tidy (by simp only[AL,Aj,CA];omega)
   refine⟨u2,J2,?_,?_⟩
   ·have key:∀R,Tp E D W R (.ptr w 0) (AA v) (Lh (k+1)) J=R (.ptr w 0) (AA v) (Lh k) J1:=by
     intro R
     unfold Tp
     show AS (Hk (AA 0) (AA k)) (Pz (AA k) _) _=_
     have d1:Hk (AA 0) (AA k)=true:=by rw[HN];exact decide_eq_true (CH _)
     simp -implicitDefEqProofs only [↓rP,rS,d1,HJ,Vf hv (show k<=32 by omega),↓g1]
     rw[show Lh (k+1)=AA k from rfl,Ic (by omega)]
    exact(key _).trans g2
   ·have:=s1.trans s2
    rw[Ab]at this
    exact this
 obtain⟨u',J',g,s⟩:=loop n N u J L hn (by omega) h ht (by omega)
 refine⟨u',J',?_,s⟩
 show Tq E D W (UZ E D W N N) (.ptr w 0) (AA v) m J=_
 have gm:=hM J m
 rw[hm]at gm
 unfold Tq
 simp -implicitDefEqProofs only [↓rP,rS,↓gm]
 rw[Ic (by omega)]
 exact g
theorem cO (hB:PC (D 232)) (hM:Ss 64 (D 82)):Ip (kF E D W N):=by
 intro J w u L v n h ht hl hv hn
 obtain⟨u1,J1,g1,s1⟩:=hB J w u L 0 0 (E6 .i64 (AA n) (AA 32)) h ht hl (by decide) (by decide) (AAC n hn)
 rw[show Bq 0 0=[] from rfl,Am]at s1
 obtain⟨u2,J2,g2,s2⟩:=hB J1 w u1 L v n (AA n) s1.wr s1.f.tidy hl hv hn (by rw[HK hn,Ld])
 refine⟨u2,J2,?_,s1.trans s2⟩
 have gm:=hM J (AA n)
 rw[HK (show n<=64 by omega),Ld]at gm
 have eh:BP .u32 (LA .u64 (AA v) 32)=AA 0:=by
  rw[MH (show 32<=IntKind.bits .u64 by decide),Nat.div_eq_of_lt (show v<2 ^ 32 by omega)];rfl
 have el:BP .u32 (AA v)=AA v:=BV hv
 show XM E D W (.ptr w 0) (AA v) (AA n) J=_
 unfold XM
 simp -implicitDefEqProofs only [↓rP,rS,↓Iz,↓gm,eh,el,↓g1,HK hn,↓g2]
def Gq (F:List V->H->AH):Prop:=∀(J:H) (eb w:Nat) (u:V) (L:List Nat) (c:Bool) (r:List V),B8 J eb (.ptr w 0::r)->Pw J w u L->Af J->L.length<8000000 ->
 ∃u' J',F [.ptr eb 0,.bool c] J=some (.tup [],J')/\D1 J w u J' u' (L++[if c=true then 1 else 0])
theorem nG (hB:Ip (D 193)):Gq (kO E D W N):=by
 intro J eb w u L c r a h ht hl
 have ld:∀U:V->AH,BL E J eb 0 U=U (.ptr w 0):=fun U=>(AY a).trans rfl
 cases c with
 | true=>
  obtain⟨u1,J1,g1,s1⟩:=hB J w u L 1 1 h ht hl (by decide) (by decide)
  refine⟨u1,J1,?_,s1⟩
  show Q2 E D W eb 0 true J=_
  unfold Q2
  simp -implicitDefEqProofs only [↓rP,rS,↓ld,↓g1]
 | false=>
  obtain⟨u1,J1,g1,s1⟩:=hB J w u L 0 1 h ht hl (by decide) (by decide)
  refine⟨u1,J1,?_,s1⟩
  show Q2 E D W eb 0 false J=_
  unfold Q2
  simp -implicitDefEqProofs only [↓rP,rS,↓ld,↓g1]
def No (F:List V->H->AH):Prop:=∀(J:H) (w:Nat) (u:V) (L:List Nat),Pw J w u L->F [.ptr w 0] J=some (.int .i64 (AA L.length),J)
theorem mR:No (kB E D W N):=by
 intro J w u L h
 have a:=h.at_
 show XE E D W (.ptr w 0) J=_
 unfold XE
 simp -implicitDefEqProofs only [↓rP,rS,↓Iz,↓AY a]
theorem lP (hL:No (D 209)):No (kN E D W N):=by
 intro J w u L h
 have g:=hL J w u L h
 show XY E D W (.ptr w 0) J=_
 unfold XY
 simp -implicitDefEqProofs only [↓rP,rS,↓Iz,↓g]
def Fx (F:List V->H->AH):Prop:=∀(J:H) (w:Nat) (u:V) (L:List Nat),Pw J w u L->Af J->L.length<8000000->0<L.length ->
 ∃v J',F [.ptr w 0] J=some (v,J')/\Nb J J' v (nI (Es L))/\Fr AJ J J'
theorem Pw.by_ {J:H} {w:Nat} {u:V} {L:List Nat} (h:Pw J w u L):By J u (nI (Es L)):=by
 have d:=h.d
 rw[VD]at d
 have:=d.src
 unfold By
 rw[Bf,Dg];exact this
theorem aG:Fx (kM E D W N):=by
 intro J w u L h ht hl h0
 obtain⟨v,J1,g1,n1,f1,_⟩:=To (E:=E) (Nb.nil J J) (Fr.refl ht) h.by_ (by rw[Bf,Dg];unfold Cs;simp only[CA];omega)
 rw[Cy]at n1
 have a:=h.at_
 refine⟨v,J1,?_,n1,f1⟩
 show XX E D W (.ptr w 0) J=_
 unfold XX
 simp -implicitDefEqProofs only [↓rP,rS,↓Iz,↓AY a,↓g1,↓CM n1.1.one]
theorem Z9 (hL:No (D 132)) (hB:Fx (D 133)):Fx (F63 E D W N):=by
 intro J w u L h ht hl h0
 obtain⟨v,J1,g1,n1,f1⟩:=hB J w u L h ht hl h0
 refine⟨v,J1,?_,n1,f1⟩
 have gl:=hL J w u L h
 have dz:decide (L.length=0)=false:=decide_eq_false (by omega)
 show fe E D W (.ptr w 0) J=_
 unfold fe
 simp -implicitDefEqProofs only [↓rP,rA,AD,AG,AB,↓Iz,↓gl,dz,↓g1,↓CM n1.1.one]
end
def Xl (F:List V->H->AH):Prop:=∀(J:H) (w p:Nat) (u x:V) (L O:List Nat),Pw J w u L->Af J->L.length+8*O.length<8000000->O.length<=70000->(∀c∈O,c<256) ->
 B8 J p [x]->By J x (nI O)->E4 J w u p->(∀b,Ai x b->E4 J w u b) ->
 ∃u' J',F [.ptr w 0,.sl p 0 1 (.ex 1)] J=some (.tup [],J')/\D1 J w u J' u' (L++A1 O)
def PB (F:List V->H->AH):Prop:=∀(J:H) (w:Nat) (u x:V) (L O:List Nat),Pw J w u L->Af J->L.length+8*O.length<8000000->O.length<=70000->(∀c∈O,c<256) ->
 By J x (nI O)->(∀b,Ai x b->E4 J w u b) ->
 ∃u' J',F [.ptr w 0,x] J=some (.tup [],J')/\D1 J w u J' u' (L++A1 O)
def Xj (F:List V->H->AH):Prop:=∀(J:H) (w:Nat) (u:V) (L:List Nat) (n:Nat),Pw J w u L->Af J->L.length<7000000->n<128 ->
 ∃u' J',F [.ptr w 0,.int .i64 (AA n),.bool false] J=some (.tup [],J')/\D1 J w u J' u' (L++Bq 8 n)
def PH (F:List V->H->AH):Prop:=∀(J:H) (p:Nat) (x:V) (O:List Nat),Af J->B8 J p [x]->By J x (nI O)->O.length<=70000 ->
 ∃y J',F [.sl p 0 1 (.ex 1)] J=some (y,J')/\Nb J J' y (nI O)/\Fr AJ J J'
def UE (F:List V->H->AH):Prop:=∀(J:H) (n:Nat),Af J->n<16384 ->
 ∃b J',F [.int .i64 (AA n)] J=some (.sl b 0 1 (.op 1),J')/\B8 J' b [.int .i64 (AA n)]/\Fr AJ J J'/\J.next<=b
def UB (F:List V->H->AH):Prop:=∀(J:H) (w p:Nat) (u x:V) (L O:List Nat),Pw J w u L->Af J->L.length+8*O.length<6000000->O.length<128->(∀c∈O,c<256) ->
 B8 J p [x]->By J x (nI O) ->
 ∃u' J',F [.ptr w 0,.sl p 0 1 (.ex 1)] J=some (.tup [],J')/\D1 J w u J' u' (L++(Bq 8 O.length++A1 O))
theorem GH.cap1 {J:H} {k:Nat} {v:V} {l:List V} (h:GH J 1 k v l):Uh v:=by
 rcases h with (⟨_,rfl,_⟩|⟨b,rfl,_⟩)|⟨b,rfl,_⟩
 ·exact trivial
 ·exact rfl
 ·exact AN _
theorem Yn {E:EB} {J:H} {x:V} {l:List Int} (h:Sq E J x l) (hc:Uh x) (U:V->AH):gK (CP 1 x none (some (.int .i64 (AA l.length))) none) U=U x:=by
 have key:∀b o c,x = .sl b o l.length c->CP 1 x none (some (.int .i64 (AA l.length))) none=some x:=by
  intro b o c hx
  subst hx
  cases c with
  | ex c=>exact qk hc
  | op e=>
   have hc:e=1:=hc
   subst hc
   exact qj
 rcases h with ⟨rfl,rfl⟩|⟨b,o,c,rfl,hx⟩|⟨b,o,c,M,hx,ha,hl,hm⟩
 ·rfl
 ·rw[key b o c hx];rfl
 ·rw[key b o c hx];rfl
section
variable {E:EB} {D:Az} {W:AM} {N:Nat}
theorem mQ (hB:PC (D 232)) (hN:70002<N):Xl (YH E D W N):=by
 intro J w p u x L O h ht hl hO hc ap hx op ox
 have b8:GW (AA 0) (HL (AA 8) (AA 32))=AA 8:=rfl
 have sx:∀U:Nat->AH,BA x U=U O.length:=fun U=>by rw[hx.slen,Bf]
 have loop:∀(P:V->V->Int->Int->H->AH) (m n' i:Nat) (u:V) (J:H) (L:List Nat),i+m=O.length->m<n'->Pw J w u L->Af J->L.length+8*m<8000000->B8 J p [x]->By J x (nI O)->E4 J w u p->(∀b,Ai x b->E4 J w u b) ->
   ∃u' J',Nu E D W N P n' (.ptr w 0) (.sl p 0 1 (.ex 1)) (AA 1) (AA 0) x (AA O.length) (AA i) J=P (.ptr w 0) (.sl p 0 1 (.ex 1)) (AA 1) (AA 1) J'/\D1 J w u J' u' (L++A1 (O.drop i)):=by
  intro P m
  induction m with
  | zero=>
   intro n' i u J L hi hn' h ht hl ap hx op ox
   obtain⟨n',rfl⟩:∃k,n'=k+1:=⟨n'-1,by omega⟩
   refine⟨u,J,?_,?_⟩
   ·show IG E D W (XJ E D W P) _ (.ptr w 0) (.sl p 0 1 (.ex 1)) (AA 1) (AA 0) x (AA O.length) (AA i) J=_
    have key:∀K R,IG E D W K R (.ptr w 0) (.sl p 0 1 (.ex 1)) (AA 1) (AA 0) x (AA O.length) (AA i) J=K (.ptr w 0) (.sl p 0 1 (.ex 1)) (AA 1) (AA 0) J:=by
     intro K R
     unfold IG
     have d1:decide (i<O.length)=false:=decide_eq_false (by omega)
     simp -implicitDefEqProofs only [↓rP,rA,AD,AG,AB,d1]
    rw[key]
    rfl
   ·rw[show O.drop i=[] from DD (by omega),show A1 []=[] from rfl,Am];exact D1.refl h ht
  | succ m ih=>
   intro n' i u J L hi hn' h ht hl ap hx op ox
   obtain⟨n',rfl⟩:∃k,n'=k+1:=⟨n'-1,by omega⟩
   have hlt:i<O.length:=by omega
   have hO':O[i]? = some O[i]:=AZ hlt
   have hb:O[i]<256:=hc _ (DK hlt)
   obtain⟨u1,J1,g1,s1⟩:=hB J w u L O[i] 8 (AA 8) h ht (by omega) (by omega) (by decide) b8
   obtain⟨u2,J2,g2,s2⟩:=ih n' (i+1) u1 J1 _ (by omega) (by omega) s1.wr s1.f.tidy (by simp only[AL,A2];omega) (s1.at_ ht op ap) (s1.row ht ox hx) (s1.off op) (fun b hb=>s1.off (ox b hb))
   refine⟨u2,J2,?_,?_⟩
   ·have key:∀K R,IG E D W K R (.ptr w 0) (.sl p 0 1 (.ex 1)) (AA 1) (AA 0) x (AA O.length) (AA i) J=R (.ptr w 0) (.sl p 0 1 (.ex 1)) (AA 1) (AA 0) x (AA O.length) (AA (i+1)) J1:=by
     intro K R
     unfold IG
     have d1:decide (i<O.length)=true:=decide_eq_true hlt
     have rd:∀U,AT 1 x (AA i) (fun b o=>BL E J b o U)=U (.int .u8 (AA O[i])):=fun U=>Vb (Sq.of hx) (P0 hO') U
     have e1:BP .u32 (AA O[i])=AA O[i]:=BV (by rw[IZ];omega)
     simp -implicitDefEqProofs only [↓rP,rA,AD,AG,AB,d1,↓rd,e1,↓g1,BX (show i+1<=9223372036854775807 by omega)]
    exact(key _ _).trans g2
   ·have:=s1.trans s2
    rw[Ab,<-show A1 (O.drop i)=Bq 8 O[i]++A1 (O.drop (i+1))by rw[B4 hlt];rfl]at this
    exact this
 obtain⟨M,rfl⟩:∃k,N=k+2:=⟨N-2,by omega⟩
 obtain⟨u',J',g,s⟩:=loop (Lz E D W (M+2) (M+1)) O.length (M+2) 0 u J L (by omega) (by omega) h ht hl ap hx op ox
 refine⟨u',J',?_,by rw[CO]at s;exact s⟩
 have ia:∀U:Nat->Nat->AH,AT 1 (.sl p 0 1 (.ex 1)) (AA 0) U=U p 0:=fun U=>CR (Bz 0)
 show Gi E D W (Nu E D W (M+2) (Lz E D W (M+2) (M+1)) (M+2)) (.ptr w 0) (.sl p 0 1 (.ex 1)) (AA 1) (AA 0) J=_
 have k1:∀K,Gi E D W K (.ptr w 0) (.sl p 0 1 (.ex 1)) (AA 1) (AA 0) J=K (.ptr w 0) (.sl p 0 1 (.ex 1)) (AA 1) (AA 0) x (AA O.length) (AA 0) J:=by
  intro K
  unfold Gi
  simp -implicitDefEqProofs only [↓rP,rA,AD,AG,AB,↓ia,↓AY ap,↓sx]
 have k2:∀K,Gi E D W K (.ptr w 0) (.sl p 0 1 (.ex 1)) (AA 1) (AA 1) J'=some (.tup [],J'):=by
  intro K
  unfold Gi
  simp -implicitDefEqProofs only [↓rP,rA,AD,AG,AB,CD]
 rw[k1,g]
 exact k2 _
theorem lO (hO:Xl (D 201)):PB (bp E D W N):=by
 intro J w u x L O h ht hl hO' hc hx ox
 obtain⟨J1,e1,f1,a1,n1⟩:=Ay ht [x]
 obtain⟨u',J2,g2,s2⟩:=hO J1 w J.next u x L O (h.fr f1 ht) f1.tidy hl hO' hc a1 (EY.fr hx f1 ht fun _ _ h=>h) (E4.pw h ht (AN _) (by omega)) (fun b hb=>(ox b hb).fr f1)
 refine⟨u',J2,?_,D1.behind f1 s2⟩
 have xo:x.one=true:=EY.one hx
 show Q1 E D W (.ptr w 0) x J=_
 unfold Q1
 simp -implicitDefEqProofs only [↓rP,rS,↓Iz,↓eF xo,xo,↓e1,↓g2]
theorem uE (hB:Ip (D 193)):Xj (bf E D W N):=by
 intro J w u L n h ht hl hn
 obtain⟨u1,J1,g1,s1⟩:=hB J w u L n 8 h ht (by omega) (by omega) (by decide)
 refine⟨u1,J1,?_,s1⟩
 have ew:BP .u64 (AA n)=AA n:=BV (by rw[Db];omega)
 have d1:decide (n<128)=true:=decide_eq_true hn
 show I9 E D W (.ptr w 0) (AA n) false J=_
 unfold I9
 simp -implicitDefEqProofs only [↓rP,rA,AD,AG,AB,d1,ew,↓g1]
theorem mq (hN:3<N):PH (bg E D W N):=by
 intro J p x O ht ap hx hO
 obtain⟨M,rfl⟩:∃k,N=k+2:=⟨N-2,by omega⟩
 obtain⟨y,J1,g1,n1,f1,_⟩:=To (E:=E) (Nb.nil J J) (Fr.refl ht) hx (by rw[Bf];simp only[CA];omega)
 rw[Cy]at n1
 refine⟨y,J1,?_,n1,f1⟩
 have ia:∀U:Nat->Nat->AH,AT 1 (.sl p 0 1 (.ex 1)) (AA 0) U=U p 0:=fun U=>CR (Bz 0)
 show KM E D W (XK E D W) (KM E D W (XK E D W) (X8 E D W (M+2) M)) .nils (.sl p 0 1 (.ex 1)) (AA 1) (AA 0) J=_
 have k1:∀K R,KM E D W K R .nils (.sl p 0 1 (.ex 1)) (AA 1) (AA 0) J=R y (.sl p 0 1 (.ex 1)) (AA 1) (AA 1) J1:=by
  intro K R
  unfold KM
  simp -implicitDefEqProofs only [↓rP,rA,AD,AG,AB,↓ia,↓AY ap,↓g1,↓CM n1.1.one,BX (show 0+1<=9223372036854775807 by omega)]
 have k2:∀K R,KM E D W K R y (.sl p 0 1 (.ex 1)) (AA 1) (AA 1) J1=K y J1:=by
  intro K R
  unfold KM
  simp -implicitDefEqProofs only [↓rP,rA,AD,AG,AB,CD]
 rw[k1,k2];rfl
theorem uJ {J:H} {n:Nat} (hn:n<16384):bZ E D W N [.int .i64 (AA n)] J=some (.tup [.int .i64 (AA n),.bool false],J):=by
 have d1:decide (n<16384)=true:=decide_eq_true hn
 show Qq E D W (AA n) J=_
 unfold Qq
 simp -implicitDefEqProofs only [↓rP,rA,AD,AG,AB,d1]
theorem mn (hC:∀(J:H) (n:Nat),n<16384->D 233 [.int .i64 (AA n)] J=some (.tup [.int .i64 (AA n),.bool false],J)) (hN:3<N):UE (YI E D W N):=by
 intro J n ht hn
 obtain⟨M,rfl⟩:∃k,N=k+2:=⟨N-2,by omega⟩
 obtain⟨J1,e1,f1,a1,n1⟩:=Ay ht [.int .i64 (AA n)]
 have xs:EY J1 1 1 (V.sl J.next 0 1 (.ex 1)) [.int .i64 (AA n)] := .inr ⟨_,_,_,_,rfl,a1,AN _,rfl⟩
 obtain⟨J2,g2,a2,n2,f2⟩:=Qh (E:=E) (bytes:=8) (GH.nil J1 1) f1.tidy xs (Nat.succ_pos 0) rfl (by decide)
 refine⟨J1.next,J2,?_,a2,f1.trans f2 (fun _ _ h=>h.elim),by omega⟩
 have c1:=hC J n hn
 show Eg E D W (G4 E D W) (Eg E D W (G4 E D W) (RL E D W (M+2) M)) (GW (AA n) (AA 0)) .nils true J=_
 have k1:∀K R,Eg E D W K R (AA n) .nils true J=R (E6 .i64 (AA n) (AA n)) (.sl J1.next 0 1 (.op 1)) false J2:=by
  intro K R
  unfold Eg
  simp -implicitDefEqProofs only [↓rP,rA,AD,AG,AB,↓c1,↓e1,↓g2]
 rw[Ia,Jg (CH n),k1]
 rfl
theorem uK (hJ:PH (D 198)) (hC:UE (D 199)) (hP:Xj (D 200)) (hO:PB (D 124)) (hN:3<N):UB (YM E D W N):=by
 intro J w p u x L O h ht hl hO' hc ap hx
 obtain⟨M,rfl⟩:∃k,N=k+2:=⟨N-2,by omega⟩
 obtain⟨y,J1,g1,n1,f1⟩:=hJ J p x O ht ap hx (by omega)
 obtain⟨b,J2,g2,a2,f2,nb⟩:=hC J1 O.length f1.tidy (by omega)
 have f02:Fr AJ J J2:=f1.trans f2 (fun _ _ h=>h)
 have le1:=f1.le
 have y2:=n1.fr f2 f1.tidy
 have lb:=a2.lt f2.tidy
 obtain⟨u3,J3,g3,s3⟩:=hP J2 w u L O.length (h.fr f02 ht) f2.tidy (by omega) hO'
 have ob:E4 J2 w u b:=E4.pw h ht (by omega) lb
 have oy:∀c,Ai y c->E4 J2 w u c:=fun c hc=>E4.pw h ht (n1.2 c hc) (y2.1.lt f2.tidy hc)
 have a3:=s3.at_ f2.tidy ob a2
 have y3:By J3 y (nI O):=s3.row f2.tidy oy y2.by_
 have gz:∀U:V->AH,gK (CP 1 y none (some (.int .i64 (AA O.length))) none) U=U y:=by
  have:=Yn (E:=E) (Sq.of y3) (GH.cap1 y2.1)
  rwa [Bf]at this
 obtain⟨u4,J4,g4,s4⟩:=hO J3 w u3 y _ O s3.wr s3.f.tidy (by rw[AL,A2];omega) (by omega) hc y3 (fun c hc=>s3.off (oy c hc))
 have s24:=s3.trans s4
 have a4:=s4.at_ s3.f.tidy (s3.off ob) a3
 have y4:By J4 y (nI O):=s24.row f2.tidy oy y2.by_
 obtain⟨t,gt⟩:=TL (E:=E) (Sq.of y4) (GH.cap1 y2.1)
 rw[Bf]at gt
 refine⟨u4,J4,?_,by have:=D1.behind f02 s24;rw[Ab]at this;exact this⟩
 have ia:∀U:Nat->Nat->AH,AT 1 (.sl b 0 1 (.op 1)) (AA 0) U=U b 0:=fun U=>CR (Bz 0)
 have sy:∀U:Nat->AH,BA y U=U O.length:=fun U=>by rw[n1.by_.slen,Bf]
 have dl:decide (16384<=O.length)=false:=decide_eq_false (by omega)
 show KN E D W (Fb E D W (Fb E D W (Ue E D W (M+2) M))) (.ptr w 0) (.sl p 0 1 (.ex 1)) J=_
 have k0:∀K,KN E D W K (.ptr w 0) (.sl p 0 1 (.ex 1)) J=K (.ptr w 0) y (.sl b 0 1 (.op 1)) (AA 1) (AA 0) J2:=by
  intro K
  unfold KN
  simp -implicitDefEqProofs only [↓rP,rS,↓g1,↓CM n1.1.one,↓sy,↓g2]
 have k1:∀R,Fb E D W R (.ptr w 0) y (.sl b 0 1 (.op 1)) (AA 1) (AA 0) J2=R (.ptr w 0) t (.sl b 0 1 (.op 1)) (AA 1) (AA 1) J4:=by
  intro R
  unfold Fb
  simp -implicitDefEqProofs only [↓rP,rA,AD,AG,AB,↓ia,↓AY a2,dl,↓g3,↓gz,↓g4,↓gt,BX (show 0+1<=9223372036854775807 by omega)]
 have k2:∀R,Fb E D W R (.ptr w 0) t (.sl b 0 1 (.op 1)) (AA 1) (AA 1) J4=some (.tup [],J4):=by
  intro R
  unfold Fb
  simp -implicitDefEqProofs only [↓rP,rA,AD,AG,AB,CD]
 rw[k0,k1,k2]
end
def Emp (z:V):Prop:=z.one=true/\(∀U:Nat->AH,BA z U=U 0)/\CP 1 z none (some (.int .i64 (AA 0))) none=some z/\CP 1 z (some (.int .i64 (AA 0))) none none=some z
def T5 (F:List V->H->AH):Prop:=∀(J:H) (w:Nat) (u z:V) (L:List Nat),Pw J w u L->Af J->Emp z ->
 ∃J',F [.ptr w 0,z] J=some (.tup [],J')/\D1 J w u J' u L
def Cut (n:Nat):Prop:=n<16384\/∃k,1<=k/\k<=4/\n=k*16384
def O9 (F:List V->H->AH):Prop:=∀(J:H) (w:Nat) (u:V) (L:List Nat) (n:Nat),Pw J w u L->Af J->L.length<7000000->Cut n ->
 ∃X u' J',(8<=X.length/\X.length<=16)/\F [.ptr w 0,.int .i64 (AA n),.bool (decide (16384<=n))] J=some (.tup [],J')/\D1 J w u J' u' (L++X)
section
variable {E:EB} {D:Az} {W:AM} {N:Nat}
theorem lQ (hB:Ip (D 193)):O9 (bf E D W N):=by
 intro J w u L n h ht hl hn
 rcases hn with hn|⟨k,hk,hk',rfl⟩
 ·have df:decide (16384<=n)=false:=decide_eq_false (by omega)
  rw[df]
  have ew:BP .u64 (AA n)=AA n:=BV (by rw[Db];omega)
  by_cases h1:n<128
  ·obtain⟨u1,J1,g1,s1⟩:=hB J w u L n 8 h ht (by omega) (by omega) (by decide)
   refine⟨_,u1,J1,by simp only[A2];decide,?_,s1⟩
   show I9 E D W (.ptr w 0) (AA n) false J=_
   unfold I9
   simp -implicitDefEqProofs only [↓rP,rA,AD,AG,AB,decide_eq_true h1,ew,↓g1]
  ·obtain⟨u1,J1,g1,s1⟩:=hB J w u L 2 2 h ht (by omega) (by omega) (by decide)
   obtain⟨u2,J2,g2,s2⟩:=hB J1 w u1 _ n 14 s1.wr s1.f.tidy (by rw[AL,A2];omega) (by omega) (by decide)
   have s12:=s1.trans s2
   rw[Ab]at s12
   refine⟨_,u2,J2,by simp only[AL,A2];decide,?_,s12⟩
   show I9 E D W (.ptr w 0) (AA n) false J=_
   unfold I9
   simp -implicitDefEqProofs only [↓rP,rA,AD,AG,AB,decide_eq_false h1,ew,↓g1,↓g2]
 ·have df:decide (16384<=k*16384)=true:=decide_eq_true (by omega)
  rw[df]
  obtain⟨u1,J1,g1,s1⟩:=hB J w u L 3 2 h ht (by omega) (by omega) (by decide)
  obtain⟨u2,J2,g2,s2⟩:=hB J1 w u1 _ k 6 s1.wr s1.f.tidy (by rw[AL,A2];omega) (by omega) (by decide)
  have s12:=s1.trans s2
  rw[Ab]at s12
  have eq:BP .u64 (JX .i64 (AA (k*16384)) (AA 16384))=AA k:=by
   have e1:JX .i64 (AA (k*16384)) (AA 16384)=AA k:=by
    show BP .i64 (AA (k*16384 / 16384))=_
    rw[D9 _ (by decide)]
    exact BV (by rw[Dc];omega)
   rw[e1];exact BV (by rw[Db];omega)
  refine⟨_,u2,J2,by simp only[AL,A2];decide,?_,s12⟩
  show I9 E D W (.ptr w 0) (AA (k*16384)) true J=_
  unfold I9
  simp -implicitDefEqProofs only [↓rP,rA,AD,AG,AB,eq,↓g1,↓g2]
theorem mj {J:H} {n:Nat} (hn:16384<=n) (hn':n<69000):bZ E D W N [.int .i64 (AA n)] J=some (.tup [.int .i64 (AA (TZ n)),.bool true],J):=by
 have d1:decide (n<16384)=false:=decide_eq_false (by omega)
 show Qq E D W (AA n) J=_
 unfold Qq
 simp -implicitDefEqProofs only [↓rP,rA,AD,AG,AB,d1,nN hn']
theorem dv (hC:∀(J:H) (n:Nat),n<16384->D 233 [.int .i64 (AA n)] J=some (.tup [.int .i64 (AA n),.bool false],J)) (hC':∀(J:H) (n:Nat),16384<=n->n<69000->D 233 [.int .i64 (AA n)] J=some (.tup [.int .i64 (AA (TZ n)),.bool true],J)) (hN:3<N):Xx (YI E D W N):=by
 intro J n ht hn
 obtain⟨M,rfl⟩:∃k,N=k+3:=⟨N-3,by omega⟩
 have last:∀(r k:Nat) (v:V) (J1:H) (l:List Nat),r<16384->k<=4->Fr AJ J J1->Nw J J1 1 k v (Ig l)->∃v' J',(∀R,Eg E D W (G4 E D W) (Eg E D W (G4 E D W) R) (AA r) v true J1=some (v',J'))/\Nw J J' 1 (k+1) v' (Ig (l++[r]))/\Fr AJ J J':=by
  intro r k v J1 l hr hk f1 hv
  obtain⟨J2,e2,f2,a2,n2⟩:=Ay f1.tidy [.int .i64 (AA r)]
  have xs:EY J2 1 1 (V.sl J1.next 0 1 (.ex 1)) [.int .i64 (AA r)] := .inr ⟨_,_,_,_,rfl,a2,AN _,rfl⟩
  obtain⟨v3,J3,g3,h3,f3⟩:=Wa (E:=E) (bytes:=8) (hv.fr f2 f1.tidy) (f1.trans f2 (fun _ _ h=>h)) xs rfl (by unfold CV;simp only[AK,BC];omega)
  refine⟨v3,J3,fun R=>?_,by unfold Ig at h3 ⊢;rw[PN];exact h3,f3⟩
  have c1:=hC J1 r hr
  have k1:∀R,Eg E D W (G4 E D W) R (AA r) v true J1=R (E6 .i64 (AA r) (AA r)) v3 false J3:=by
   intro R
   unfold Eg
   simp -implicitDefEqProofs only [↓rP,rA,AD,AG,AB,↓c1,↓e2,↓g3,↓CM h3.1.one]
  rw[k1]
  unfold Eg G4
  simp -implicitDefEqProofs only [↓rP,rA,AD,AG,AB]
 by_cases h:n<16384
 ·obtain⟨v,J1,g,hv,f1⟩:=last n 0 .nils J [] h (by decide) (Fr.refl ht) (Nw.nil J J 1)
  refine⟨v,J1,?_,by unfold VT;rw[if_pos h];exact hv,f1⟩
  show Eg E D W (G4 E D W) (Eg E D W (G4 E D W) (RL E D W (M+3) (M+1))) (GW (AA n) (AA 0)) .nils true J=_
  rw[Ia,Jg (CH n)]
  exact g _
 ·obtain⟨J2,e2,f2,a2,n2⟩:=Ay ht [.int .i64 (AA (TZ n))]
  have xs:EY J2 1 1 (V.sl J.next 0 1 (.ex 1)) [.int .i64 (AA (TZ n))] := .inr ⟨_,_,_,_,rfl,a2,AN _,rfl⟩
  obtain⟨v3,J3,g3,h3,f3⟩:=Wa (E:=E) (bytes:=8) (Nw.nil J J2 1) f2 xs rfl (by decide)
  have hle:=uD n
  obtain⟨v4,J4,g4,h4,f4⟩:=last (n-TZ n) 1 v3 J3 [TZ n] (dY n) (by decide) f3 h3
  refine⟨v4,J4,?_,by unfold VT;rw[if_neg h];exact h4,f4⟩
  have c1:=hC' J n (by omega) hn
  have sb:E6 .i64 (AA n) (AA (TZ n))=AA (n-TZ n):=Fs hle (by omega)
  have k1:∀K R,Eg E D W K R (AA n) .nils true J=R (AA (n-TZ n)) v3 true J3:=by
   intro K R
   unfold Eg
   simp -implicitDefEqProofs only [↓rP,rA,AD,AG,AB,↓c1,sb,↓e2,↓g3,↓CM h3.1.one]
  show Eg E D W (G4 E D W) (Eg E D W (G4 E D W) (Eg E D W (G4 E D W) (RL E D W (M+3) M))) (GW (AA n) (AA 0)) .nils true J=_
  rw[Ia,Jg (CH n),k1]
  exact g4 _
theorem c9 {J:H} {w p:Nat} {z:V} (hz:Emp z) (ap:B8 J p [z]) (hN:3<N):YH E D W N [.ptr w 0,.sl p 0 1 (.ex 1)] J=some (.tup [],J):=by
 obtain⟨M,rfl⟩:∃k,N=k+3:=⟨N-3,by omega⟩
 have ia:∀U:Nat->Nat->AH,AT 1 (.sl p 0 1 (.ex 1)) (AA 0) U=U p 0:=fun U=>CR (Bz 0)
 have sz:=hz.2.1
 show Gi E D W (Nu E D W (M+3) (Lz E D W (M+3) (M+2)) (M+3)) (.ptr w 0) (.sl p 0 1 (.ex 1)) (AA 1) (AA 0) J=_
 have k1:∀K,Gi E D W K (.ptr w 0) (.sl p 0 1 (.ex 1)) (AA 1) (AA 0) J=K (.ptr w 0) (.sl p 0 1 (.ex 1)) (AA 1) (AA 0) z (AA 0) (AA 0) J:=by
  intro K
  unfold Gi
  simp -implicitDefEqProofs only [↓rP,rA,AD,AG,AB,↓ia,↓AY ap,↓sz]
 have k3:∀K R,IG E D W K R (.ptr w 0) (.sl p 0 1 (.ex 1)) (AA 1) (AA 0) z (AA 0) (AA 0) J=K (.ptr w 0) (.sl p 0 1 (.ex 1)) (AA 1) (AA 0) J:=by
  intro K R
  unfold IG
  simp -implicitDefEqProofs only [↓rP,rA,AD,AG,AB,CD]
 have k2:∀K,Gi E D W K (.ptr w 0) (.sl p 0 1 (.ex 1)) (AA 1) (AA 1) J=some (.tup [],J):=by
  intro K
  unfold Gi
  simp -implicitDefEqProofs only [↓rP,rA,AD,AG,AB,CD]
 rw[k1]
 show IG E D W (XJ E D W (Lz E D W (M+3) (M+2))) _ (.ptr w 0) (.sl p 0 1 (.ex 1)) (AA 1) (AA 0) z (AA 0) (AA 0) J=_
 rw[k3]
 show Gi E D W (Nu E D W (M+3) (Lz E D W (M+3) (M+1)) (M+3)) (.ptr w 0) (.sl p 0 1 (.ex 1)) (AA 1) (AA 1) J=_
 exact k2 _
theorem cM (hO:∀(J:H) (w p:Nat) (z:V),Emp z->B8 J p [z]->D 201 [.ptr w 0,.sl p 0 1 (.ex 1)] J=some (.tup [],J)):T5 (bp E D W N):=by
 intro J w u z L h ht hz
 obtain⟨J1,e1,f1,a1,n1⟩:=Ay ht [z]
 have g1:=hO J1 w J.next z hz a1
 refine⟨J1,?_,D1.behind f1 (D1.refl (h.fr f1 ht) f1.tidy)⟩
 have xo:z.one=true:=hz.1
 show Q1 E D W (.ptr w 0) z J=_
 unfold Q1
 simp -implicitDefEqProofs only [↓rP,rS,↓Iz,↓eF xo,xo,↓e1,↓g1]
end
section
variable {E:EB} {D:Az} {W:AM} {N:Nat}
theorem mF {J J3 J4:H} {w m i k:Nat} {y y1 z cv:V} {cs:List Nat} (pre:CP 1 y none (some (.int .i64 (AA k))) none=some y1) (suf:CP 1 y (some (.int .i64 (AA k))) none none=some z) (hcv:EY J 1 m cv (Ig cs)) (hi:cs[i]? = some k) (hm:i<m) (hm':m<=1000)
  (g3:D 200 [.ptr w 0,.int .i64 (AA k),.bool (decide (16384<=k))] J=some (.tup [],J3)) (g4:D 124 [.ptr w 0,y1] J3=some (.tup [],J4)) :
  ∀R,Fb E D W R (.ptr w 0) y cv (AA m) (AA i) J=R (.ptr w 0) z cv (AA m) (AA (i+1)) J4:=by
 intro R
 have r1:∀U,AT 1 cv (AA i) (fun b o=>BL E J b o U)=U (.int .i64 (AA k)):=fun U=>Jm hcv (by unfold Ig;rw[BM,hi];rfl) U
 have gp:∀U:V->AH,gK (CP 1 y none (some (.int .i64 (AA k))) none) U=U y1:=fun U=>by rw[pre];rfl
 have gs:∀U:V->AH,gK (CP 1 y (some (.int .i64 (AA k))) none none) U=U z:=fun U=>by rw[suf];rfl
 unfold Fb
 simp -implicitDefEqProofs only [↓rP,rA,AD,AG,AB,decide_eq_true hm,↓r1,↓g3,↓gp,↓g4,↓gs,BX (show i+1<=9223372036854775807 by omega)]
end
def vc (k n:Int) (b l:V) (r:Int) (m:V):List V:=[.int .i64 k,.int .i64 n,b,l,.int .i64 r,m]
def nV (u:Int) (k:Nat):Bool:=!Cu (Je .i64 u (AA k)) (AA 0)
def TR (u k n:Int) (nb nl:Nat) (r:Int) (nm:Nat):Bool:=
 (((nV u 1 || Cu n (AA 0))&&(nV u 2 || Cu (AA nb) (AA 0)))&&(nV u 4 || Cu (AA nl) (AA 0)))&&(nV u 8 || (Cu r (AA 0)&&Cu (AA nm) (AA 0)))
def H6 (F:List V->H->AH):Prop:=∀(J:H) (u k n r:Int) (b l m:V) (nb nl nm:Nat),Af J->NB b nb->NB l nl->NB m nm ->
 ∃J',F [.agg (vc k n b l r m),.int .i64 u] J=some (.bool (TR u k n nb nl r nm),J')/\Fr AJ J J'
section
variable {E:EB} {D:Az} {W:AM} {N:Nat}
theorem mV:H6 (kQ E D W N):=by
 intro J u k n r b l m nb nl nm ht hb hl hm
 obtain⟨J1,e1,f1,a1,n1⟩:=Ay ht (vc k n b l r m)
 refine⟨J1,?_,f1⟩
 unfold vc at *
 show Xc E D W k n b l r m u J=_
 unfold Xc
 simp -implicitDefEqProofs only [E8,Hb,NU,Bd,Bo,DN,Gu,Iu,Px,TV,MV,EN,fB,Kj,Kk,WR,WQ,WO,WN,TI,PY,GR,Jr,NI,NJ,NL,NH,Jq,NK,LV,Pj,Ph,LR,Pf,KD,I0,Co,Td,QI,Te,Nat.add_eq,CJ,Cn,FN,rC,hb.1,hl.1,hm.1,e1,AY a1,BT a1,hb.2,hl.2,hm.2]
 rfl
theorem Qk (hP:H6 (D 111)) {J:H} (ht:Af J) {k n r:Int} {b l m:V} {nb nl nm:Nat} (hb:NB b nb) (hl:NB l nl) (hm:NB m nm) :
  ∃J',WE E D W N [.agg (vc k n b l r m)] J=some (.bool (Cu k (AA 0)&&TR (AA 0) k n nb nl r nm),J')/\Fr AJ J J':=by
 obtain⟨J1,e1,f1,a1,n1⟩:=Ay ht (vc k n b l r m)
 obtain⟨J2,g2,f2⟩:=hP J1 (AA 0) k n r b l m nb nl nm f1.tidy hb hl hm
 unfold vc at e1 a1 g2 ⊢
 show ∃J',XO E D W k n b l r m J=_/\_
 unfold XO
 simp -implicitDefEqProofs only [E8,Hb,NU,Bd,Bo,DN,Gu,Iu,Px,TV,MV,EN,fB,Kj,Kk,WR,WQ,WO,WN,TI,PY,GR,Jr,NI,NJ,NL,NH,Jq,NK,LV,Pj,Ph,LR,Pf,KD,I0,Co,Td,QI,Te,Nat.add_eq,CJ,Cn,FN,rC,hb.1,hl.1,hm.1,e1,AY a1,BT a1,g2]
 cases Cu k (AA 0)with
 | true=>exact⟨J2,rfl,f1.trans f2 (fun _ _ h=>h)⟩
 | false=>exact⟨J1,rfl,f1⟩
structure Ty where
 kind:Int
 tags:V
 has:Bool
 hasLow:Bool
 hasHigh:Bool
 conMore:Bool
 low:Int
 high:Int
 items:V
 fields:V
 root:Int
 more:Bool
 of_:Int
 oneT:tags.one=true
 oneI:items.one=true
 oneF:fields.one=true
def Ty.c (x:Ty):List V:=[.int .i64 x.kind,x.tags,.bool x.has,.bool x.hasLow,.bool x.hasHigh,.bool x.conMore,.int .i64 x.low,.int .i64 x.high,x.items,x.fields,.int .i64 x.root,.bool x.more,.int .i64 x.of_]
structure Fd where
 name:BS
 type:Int
 opt:Bool
 has:Bool
 d0:Int
 d1:Int
 d2:V
 d3:V
 d4:Int
 d5:V
 group:Int
 one2:d2.one=true
 one3:d3.one=true
 one5:d5.one=true
def Fd.c (x:Fd):List V:=[.str x.name,.int .i64 x.type,.bool x.opt,.bool x.has,.int .i64 x.d0,.int .i64 x.d1,x.d2,x.d3,.int .i64 x.d4,x.d5,.int .i64 x.group]
def lH (L:List V) (esz k:Nat) (c:List V):Prop:=k*esz+esz<=L.length/\(L.drop (k*esz)).take esz=c
theorem lH.sub {L:List V} {esz k:Nat} {c:List V} (h:lH L esz k c) (U:List V->AH):Gs L (0+k*esz) esz U=U c:=by
 rw[CJ,Ot h.1,h.2]
theorem lH.get {L:List V} {esz k:Nat} {c:List V} (h:lH L esz k c) {j:Nat} {v:V} (hj:c[j]? = some v) (U:V->AH):JZ L (0+k*esz+j) U=U v:=by
 refine Oy ?_
 rw[MW,<-hj,<-h.2]
 obtain⟨hlt,_⟩:=Eo.1 hj
 have hc:c.length<=esz:=by rw[<-h.2];simp only[IM];omega
 rw[Ey,if_pos (by omega),DC,CJ]
structure GO (J:H) (esz n:Nat) (v:V) (g:Nat->List V):Prop where
 is:(n=0/\v = .nils)\/∃b c L,v = .sl b 0 n c/\B8 J b L/\∀k,k<n->lH L esz k (g k)
theorem GO.len {J:H} {esz n:Nat} {v:V} {g:Nat->List V} (h:GO J esz n v g):NB v n:=by
 rcases h.is with ⟨rfl,rfl⟩|⟨b,c,L,rfl,_⟩
 ·exact NB.nils
 ·exact NB.sl
theorem GO.fr {S:Nat->Prop} {J J':H} {esz n:Nat} {v:V} {g:Nat->List V} (h:GO J esz n v g) (f:Fr S J J') (ht:Af J) (hS:∀b,Ai v b->¬S b):GO J' esz n v g:=by
 rcases h.is with h|⟨b,c,L,rfl,ha,hc⟩
 ·exact⟨.inl h⟩
 ·exact⟨.inr ⟨b,c,L,rfl,f.at_ ha ht (hS b rfl),hc⟩⟩
theorem GO.fr0 {J J':H} {esz n:Nat} {v:V} {g:Nat->List V} (h:GO J esz n v g) (f:Fr AJ J J') (ht:Af J):GO J' esz n v g:=h.fr f ht (fun _ _ h=>h)
theorem GO.all {E:EB} {J:H} {esz n:Nat} {v:V} {g:Nat->List V} (h:GO J esz n v g) {k:Nat} (hk:k<n) (U:List V->AH) :
  AT esz v (AA k) (fun b o=>BQ E J b o esz U)=U (g k):=by
 rcases h.is with ⟨rfl,rfl⟩|⟨b,c,L,rfl,ha,hc⟩
 ·omega
 ·rw[CR hk]
  show BQ E J b (0+k*esz) esz U=_
  rw[BT ha,(hc k hk).sub]
theorem GO.one {E:EB} {J:H} {esz n:Nat} {v:V} {g:Nat->List V} (h:GO J esz n v g) {k:Nat} (hk:k<n) {j:Nat} {u:V} (hj:(g k)[j]? = some u) (U:V->AH) :
  AT esz v (AA k) (fun b o=>BL E J b (o+j) U)=U u:=by
 rcases h.is with ⟨rfl,rfl⟩|⟨b,c,L,rfl,ha,hc⟩
 ·omega
 ·rw[CR hk]
  show BL E J b (0+k*esz+j) U=_
  rw[AY ha,(hc k hk).get hj]
theorem mf {J:H} (ht:Af J) (x:Ty) {nf:Nat} {fd:Nat->Fd} (hf:GO J 11 nf x.fields fun k=>(fd k).c) {k:Nat} (hk:k<nf) :
  ∃J',bj E D W N [.agg x.c,.int .i64 (AA k)] J=some (.bool (((fd k).opt || (fd k).has) || Hk x.root (AA k)),J')/\Fr AJ J J':=by
 obtain⟨J1,e1,f1,a1,n1⟩:=Ay ht x.c
 refine⟨J1,?_,f1⟩
 have hf1:=hf.fr0 f1 ht
 have r2:∀U,AT 11 x.fields (AA k) (fun b o=>BL E J1 b (o+2) U)=U (.bool (fd k).opt):=fun U=>hf1.one hk rfl U
 have r3:∀U,AT 11 x.fields (AA k) (fun b o=>BL E J1 b (o+3) U)=U (.bool (fd k).has):=fun U=>hf1.one hk rfl U
 unfold Ty.c at e1 a1
 show XN E D W x.kind x.tags x.has x.hasLow x.hasHigh x.conMore x.low x.high x.items x.fields x.root x.more x.of_ (AA k) J=_
 unfold XN
 simp -implicitDefEqProofs only [E8,Hb,NU,Bd,Bo,DN,Gu,Iu,Px,TV,MV,EN,fB,Kj,Kk,WR,WQ,WO,WN,TI,PY,GR,Jr,NI,NJ,NL,NH,Jq,NK,LV,Pj,Ph,LR,Pf,KD,I0,Co,Td,QI,Te,Nat.add_eq,CJ,Cn,FN,rC,x.oneT,x.oneI,x.oneF,e1,AY a1,BT a1,r2,r3]
end
structure Ck (J:H) (p nT:Nat) (ty:Nat->Ty) (nm:BS) (nv rv tv:V) (rest:List V):Prop where
 at_:B8 J p ([.str nm,nv,rv,tv]++rest)
 n1:nv.one=true
 r1:rv.one=true
 t1:tv.one=true
 row:GO J 13 nT tv fun i=>(ty i).c
 apart:∀b,Ai tv b->b≠p
section
variable {E:EB} {D:Az} {W:AM} {N:Nat} {J J':H} {p nT:Nat} {ty:Nat->Ty} {nm:BS} {nv rv tv:V} {rest:List V}
theorem Ck.fr (h:Ck J p nT ty nm nv rv tv rest) (f:Fr AJ J J') (ht:Af J):Ck J' p nT ty nm nv rv tv rest:=⟨f.at_ h.at_ ht (fun h=>h),h.n1,h.r1,h.t1,h.row.fr0 f ht,h.apart⟩
theorem Ck.types {E:EB} (h:Ck J p nT ty nm nv rv tv rest) (U:V->AH):BL E J p 3 U=U tv:=by
 rw[AY h.at_];rfl
end
end
end Go.Proofs.YtcpdffccolffaaaGreatDoor
