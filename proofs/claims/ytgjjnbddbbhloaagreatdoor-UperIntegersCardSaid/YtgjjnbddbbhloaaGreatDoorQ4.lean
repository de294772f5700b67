/- What the last text leans on, part 5 of 7: merged out of smaller texts. No condition. -/
import Derived.Deep.Slices
import Derived.Carry
import Derived.Test.YtgjjnbddbbhloaaGreatDoorQ3
set_option linter.all false
namespace Go.Og
noncomputable section
mutual
def V.rn (ρ:Nat→Nat):V→V
 | .ptr b o => .ptr (ρ b) o
 | .sl b o n c => .sl (ρ b) o n c
 | .sle b o k e => .sle (ρ b) o k e
 | .mp b => .mp (ρ b)
 | .fn f a c => .fn f (rns ρ a) (rns ρ c)
 | .ifc t v => .ifc t (V.rn ρ v)
 | .agg l => .agg (rns ρ l)
 | .tup l => .tup (rns ρ l)
 | v=>v
def rns (ρ:Nat→Nat):List V→List V
 | []=>[]
 | v::l=>V.rn ρ v::rns ρ l
end
mutual
def V.inn (p:Nat→Bool):V→Bool
 | .dead=>false
 | .ptr b _=>p b
 | .sl b _ _ _=>p b
 | .sle b _ _ _=>p b
 | .mp b=>p b
 | .fn _ a c=>inns p a&&inns p c
 | .ifc _ v=>V.inn p v
 | .agg l=>inns p l
 | .tup l=>inns p l
 | _=>true
def inns (p:Nat→Bool):List V→Bool
 | []=>true
 | v::l=>V.inn p v&&inns p l
end
section
variable {R S:Ren} {p:Nat→Bool} {ρ:Nat→Nat}
mutual
theorem conc_rn (h:∀b,p b=true→S (ρ b)=R b):∀v:V,V.inn p v=true→conc S (V.rn ρ v)=conc R v
 | .dead,hc=>by simp[V.inn]at hc
 | .ptr b o,hc=>by
  simp only[V.inn]at hc
  simp only[V.rn,conc,h b hc]
 | .sl b o n (.ex c),hc=>by
  simp only[V.inn]at hc
  simp only[V.rn,conc,h b hc]
 | .sl b o n (.op c),hc=>by
  simp only[V.inn]at hc
  simp only[V.rn,conc,h b hc]
 | .sle b o k e,hc=>by
  simp only[V.inn]at hc
  simp only[V.rn,conc,h b hc]
 | .mp b,hc=>by
  simp only[V.inn]at hc
  simp only[V.rn,conc,h b hc]
 | .bool _,_=>rfl
 | .int _ _,_=>rfl
 | .str _,_=>rfl
 | .nilp,_=>rfl
 | .nils,_=>rfl
 | .nilm,_=>rfl
 | .nilf,_=>rfl
 | .nili,_=>rfl
 | .fn f a c,hc=>by
  simp only[V.inn,Bool.and_eq_true]at hc
  simp only[V.rn,conc,concs_rn h a hc.1,concs_rn h c hc.2]
 | .ifc t v,hc=>by
  simp only[V.inn]at hc
  simp only[V.rn,conc,conc_rn h v hc]
 | .agg l,hc=>by
  simp only[V.inn]at hc
  simp only[V.rn,conc,concs_rn h l hc]
 | .tup l,hc=>by
  simp only[V.inn]at hc
  simp only[V.rn,conc,concs_rn h l hc]
theorem concs_rn (h:∀b,p b=true→S (ρ b)=R b):∀l:List V,inns p l=true→concs S (rns ρ l)=concs R l
 | [],_=>rfl
 | v::l,hc=>by
  simp only[inns,Bool.and_eq_true]at hc
  simp only[rns,concs,conc_rn h v hc.1,concs_rn h l hc.2]
end
theorem rns_get:∀(l:List V) (k:Nat),(rns ρ l)[k]? = (l[k]?).map (V.rn ρ)
 | [],k=>by simp[rns]
 | v::l,0=>by simp[rns]
 | v::l,k+1=>by simpa[rns]using rns_get l k
theorem rns_length:∀(l:List V),(rns ρ l).length=l.length
 | []=>rfl
 | v::l=>by simp[rns,rns_length l]
theorem inns_get:∀{l:List V} {k:Nat} {v:V},inns p l=true→l[k]? = some v→V.inn p v=true
 | [],k,v,_,h=>by simp at h
 | u::l,0,v,hc,h=>by
  simp only[inns,Bool.and_eq_true]at hc
  simp at h;subst h;exact hc.1
 | u::l,k+1,v,hc,h=>by
  simp only[inns,Bool.and_eq_true]at hc
  exact inns_get hc.2 (by simpa using h)
def rnp (ρ:Nat→Nat):List (V × V)→List (V × V)
 | []=>[]
 | q::l=>(V.rn ρ q.1,V.rn ρ q.2)::rnp ρ l
def innp (p:Nat→Bool):List (V × V)→Bool
 | []=>true
 | q::l=>V.inn p q.1&&V.inn p q.2&&innp p l
def Blk.rn (ρ:Nat→Nat):Blk→Blk
 | .cells l => .cells (rns ρ l)
 | .map l => .map (rnp ρ l)
 | .siter s q => .siter s q
 | .unit t => .unit t
def Blk.inn (p:Nat→Bool):Blk→Bool
 | .cells l=>inns p l
 | .map l=>innp p l
 | .siter _ _=>true
 | .unit _=>true
theorem MapHolds.rn (h:∀b,p b=true→S (ρ b)=R b):∀{l:List (V × V)} {es:List MapEntry},innp p l=true→(MapHolds S (rnp ρ l) es↔MapHolds R l es)
 | [],[],_=>Iff.rfl
 | (a,b)::l,e::es,hc=>by
  simp only[innp,Bool.and_eq_true]at hc
  simp only[rnp,MapHolds,conc_rn h a hc.1.1,conc_rn h b hc.1.2,MapHolds.rn h hc.2]
 | [],_::_,_=>Iff.rfl
 | _::_,[],_=>Iff.rfl
theorem Holds.rn (h:∀b,p b=true→S (ρ b)=R b) {s:Nat} {l:List V} {arr:Array Value} (hc:inns p l=true):Holds S s (rns ρ l) arr↔Holds R s l arr:=by
 constructor
 ·intro hh k v hk
  obtain⟨a,ha,h1,h2⟩:=hh k (V.rn ρ v) (by rw[rns_get,hk];rfl)
  exact⟨a,(conc_rn h v (inns_get hc hk)).symm.trans ha,h1,h2⟩
 ·intro hh k v hk
  rw[rns_get,Option.map_eq_some_iff]at hk
  obtain⟨u,hu,rfl⟩:=hk
  obtain⟨a,ha,h1,h2⟩:=hh k u hu
  exact⟨a,(conc_rn h u (inns_get hc hu)).trans ha,h1,h2⟩
theorem OwnOk.rn (h:∀b,p b=true→S (ρ b)=R b) {i:BI} {b:Blk} {w:World} (hc:b.inn p=true):OwnOk S i (b.rn ρ) w↔OwnOk R i b w:=by
 cases b with
 | cells l=>
  have e:=@Holds.rn R S p ρ h i.shift l
  constructor
  ·rintro⟨arr,el,lo,hi,h1,h2,h3,h4,h5⟩
   exact⟨arr,el,lo,hi,h1,(e hc).1 h2,h3,by rw[rns_length]at h4;exact h4,h5⟩
  ·rintro⟨arr,el,lo,hi,h1,h2,h3,h4,h5⟩
   exact⟨arr,el,lo,hi,h1,(e hc).2 h2,h3,by rw[rns_length];exact h4,h5⟩
 | map l=>
  constructor
  ·rintro⟨es,clock,h1,h2⟩
   exact⟨es,clock,h1,(MapHolds.rn h hc).1 h2⟩
  ·rintro⟨es,clock,h1,h2⟩
   exact⟨es,clock,h1,(MapHolds.rn h hc).2 h2⟩
 | siter s q=>exact Iff.rfl
 | unit t=>exact Iff.rfl
end
structure Few where
 n0:Nat
 args:List V
 bl0:List (Nat × Blk)
 v:V
 n1:Nat
 bl1:List (Nat × Blk)
def domB (l:List (Nat × Blk)) (b:Nat):Bool:=match lookF l b with
 | some _=>true
 | none=>false
def allIds (l:List (Nat × Blk)) (q:Nat→Bool):Bool:=l.all fun x=>q x.1
def allBl (l:List (Nat × Blk)) (q:Nat→Bool):Bool:=l.all fun x=>x.2.inn q
def Few.right (ng:Nat) (F:List V→H→Ans) (e:Few):Bool:=match F e.args ⟨e.n0,e.bl0⟩with
 | some (v,σ)=>V.beq v e.v&&(inBl e.bl1 σ.bl&&(Nat.beq σ.next e.n1&&(Nat.ble e.n0 e.n1&&(Nat.ble ng e.n0&&(allIds e.bl0 (fun b=>Nat.ble ng b&&Nat.blt b e.n0)&&(allBl e.bl0 (domB e.bl0)&&(inns (domB e.bl0) e.args &&
   (allIds e.bl1 (fun b=>Nat.ble e.n0 b || domB e.bl0 b)&&(allBl e.bl1 (domB e.bl1)&&V.inn (domB e.bl1) e.v)))))))))
 | none=>false
def Few.to (e:Few) (ρ:Nat→Nat) (σ:H) (id:Nat):Nat:=if id<e.n0 then ρ id else id-e.n0+σ.next
def rnBl (ρ:Nat→Nat) (l:List (Nat × Blk)):List (Nat × Blk):=l.map fun x=>(ρ x.1,x.2.rn ρ)
def Few.old (e:Few) (ρ:Nat→Nat) (id:Nat):Bool:=e.bl0.any fun x=>Nat.beq (ρ x.1) id
def Few.ans (e:Few) (ρ:Nat→Nat) (σ:H):V × H:=(e.v.rn (e.to ρ σ),⟨σ.next+(e.n1-e.n0),rnBl (e.to ρ σ) e.bl1++σ.bl.filter fun x=>!e.old ρ x.1⟩)
structure Few.Fits (e:Few) (ρ:Nat→Nat) (args:List V) (σ:H):Prop where
 args:args=rns ρ e.args
 bl:∀id b,look e.bl0 id=some b→look σ.bl (ρ id)=some (b.rn ρ)
 inj:∀id id',domB e.bl0 id=true→domB e.bl0 id'=true→ρ id=ρ id'→id=id'
theorem domB_iff {l:List (Nat × Blk)} {b:Nat}:domB l b=true↔∃c,look l b=some c:=by
 unfold domB;rw[lookF_eq]
 cases look l b<;>simp
theorem allIds_look {l:List (Nat × Blk)} {q:Nat→Bool} (h:allIds l q=true) {id:Nat} {b:Blk} (hb:look l id=some b):q id=true:=by
 have:=List.all_eq_true.1 h (id,b) (look_mem hb)
 exact this
theorem allBl_look {l:List (Nat × Blk)} {q:Nat→Bool} (h:allBl l q=true) {id:Nat} {b:Blk} (hb:look l id=some b):b.inn q=true:=by
 have:=List.all_eq_true.1 h (id,b) (look_mem hb)
 exact this
theorem look_rnBl {ρ:Nat→Nat}:∀{l:List (Nat × Blk)} {id:Nat} {b:Blk},look (rnBl ρ l) id=some b→∃k c,(k,c)∈l∧id=ρ k∧b=c.rn ρ
 | [],id,b,h=>by cases h
 | (k,c)::l,id,b,h=>by
  simp only[rnBl,List.map_cons,look]at h
  split at h
  ·rename_i he
   have he:=Nat.eq_of_beq_eq_true he
   simp only[Option.some.injEq]at h
   exact⟨k,c,List.mem_cons_self,he.symm,h.symm⟩
  ·obtain⟨k',c',h1,h2,h3⟩:=look_rnBl (l:=l) h
   exact⟨k',c',List.mem_cons_of_mem _ h1,h2,h3⟩
theorem look_filter {q:Nat→Bool}:∀(l:List (Nat × Blk)) (id:Nat),look (l.filter fun x=>q x.1) id=if q id=true then look l id else none
 | [],id=>by simp[look]
 | (k,c)::l,id=>by
  by_cases hq:q k=true
  ·rw[List.filter_cons_of_pos (by exact hq)]
   simp only[look,look_filter l id]
   by_cases hk:Nat.beq k id=true
   ·have:=Nat.eq_of_beq_eq_true hk;subst this
    simp[hq]
   ·simp[hk]
  ·rw[List.filter_cons_of_neg (by exact hq),look_filter l id]
   simp only[look]
   by_cases hk:Nat.beq k id=true
   ·have:=Nat.eq_of_beq_eq_true hk;subst this
    simp[hq]
   ·simp[hk]
theorem old_iff {e:Few} {ρ:Nat→Nat} {id:Nat}:e.old ρ id=true↔∃k c,(k,c)∈e.bl0∧ρ k=id:=by
 unfold Few.old
 rw[List.any_eq_true]
 constructor
 ·rintro⟨⟨k,c⟩,h1,h2⟩;exact⟨k,c,h1,Nat.eq_of_beq_eq_true h2⟩
 ·rintro⟨k,c,h1,h2⟩;exact⟨(k,c),h1,by subst h2;exact Nat.beq_refl _⟩
theorem dom_of_mem:∀{l:List (Nat × Blk)} {k:Nat} {c:Blk},(k,c)∈l→∃d,look l k=some d
 | (j,d)::l,k,c,h=>by
  simp only[look]
  by_cases hk:Nat.beq j k=true
  ·exact⟨d,by simp[hk]⟩
  ·simp only[hk]
   rcases List.mem_cons.1 h with h|h
   ·cases h;exact(hk (Nat.beq_refl _)).elim
   ·simpa using dom_of_mem h
theorem loc_ok {P:Program} {G:Nat→Bool} {f:FuncId} {F:List V→H→Ans} (hS:SoundFn P [] G f F) {ng:Nat} (hG:∀g,G g=true→g<ng) {e:Few} (h:e.right ng F=true)
  {C:Cx} (hGC:C.G=G) {R:Ren} {σ:H} {w:World} {args:List V} {xs:List Value} {ρ:Nat→Nat} (hm:e.Fits ρ args σ) (hrel:Rel C R σ w) (hxs:concs R args=some xs) :
  callOk P f=true∧Calls P f xs.toArray w fun en w'=>∃R' x,Ext σ.next R R'∧σ.next≤(e.ans ρ σ).2.next∧Rel C R' (e.ans ρ σ).2 w'∧conc R' (e.ans ρ σ).1=some x∧en = .returned x:=by
 unfold Few.right at h
 cases hr:F e.args ⟨e.n0,e.bl0⟩with
 | none=>rw[hr]at h;cases h
 | some q=>
  obtain⟨v,σ1⟩:=q
  rw[hr]at h
  simp only[Bool.and_eq_true,Nat.ble_eq]at h
  obtain⟨hv,hin,hnx,hn01,hng,hi0,hb0,ha0,hi1,hb1,hv1⟩:=h
  have hv:=beq_ok _ _ hv
  subst hv
  have hin:=inBl_ok hin
  have hnx:=Nat.eq_of_beq_eq_true hnx
  let R0:Ren:=fun id=>match domB e.bl0 id with
   | true=>R (ρ id)
   | false=>if id<ng then some ⟨id,0,0⟩else none
  have hR0:∀b,domB e.bl0 b=true→R (ρ b)=R0 b:=fun b hb=>by
   show R (ρ b)=(match domB e.bl0 b with | true=>R (ρ b) | false=>_)
   rw[hb]
  have hlt0:∀{id b},look e.bl0 id=some b→ng≤id∧id<e.n0:=fun hb=>by
   have:=allIds_look hi0 hb
   simpa[Nat.blt_eq]using this
  have hxs0:concs R0 e.args=some xs:=by
   rw[hm.args,concs_rn hR0 _ ha0]at hxs;exact hxs
  have own0:∀id b,look e.bl0 id=some b→∃i,R (ρ id)=some i∧R0 id=some i∧C.O i.blk∧OwnOk R0 i b w:=fun id b hb=>by
   obtain⟨i,hi,hO,hok⟩:=hrel.own _ _ (hm.bl id b hb)
   exact⟨i,hi,(hR0 id (domB_iff.2 ⟨_,hb⟩)).symm.trans hi,hO,(OwnOk.rn hR0 (allBl_look hb0 hb)).1 hok⟩
  let O0:Nat→Prop:=fun blk=>(∃id b i,look e.bl0 id=some b∧R (ρ id)=some i∧i.blk=blk)∨w.heap.size≤blk
  have hrel0:Rel ⟨O0,w,[],G⟩ R0 ⟨e.n0,e.bl0⟩ w:=by
   refine⟨?_,?_,?_,fun id b hb=>by simp[look]at hb,?_,fun _ _=>rfl,Nat.le_refl _,fun blk hb => .inr hb,rfl,rfl,rfl⟩
   ·intro id hid
    have hid':e.n0≤id:=hid
    have hd:domB e.bl0 id=false:=by
     cases hc:domB e.bl0 id with
     | false=>rfl
     | true=>
      obtain⟨b,hb⟩:=domB_iff.1 hc
      have:=(hlt0 hb).2;omega
    show (match domB e.bl0 id with | true=>R (ρ id) | false=>_)=none
    rw[hd]
    exact if_neg (by omega)
   ·intro id b hb
    obtain⟨i,hi,hi0',_,hok⟩:=own0 id b hb
    exact⟨i,hi0',.inl ⟨id,b,i,hb,hi,rfl⟩,hok⟩
   ·intro id id' b b' i i' hb hb' hi hi' hbl
    obtain⟨j,hj,hj0,_,_⟩:=own0 id b hb
    obtain⟨j',hj',hj0',_,_⟩:=own0 id' b' hb'
    rw[hj0]at hi;cases hi
    rw[hj0']at hi';cases hi'
    exact hm.inj id id' (domB_iff.2 ⟨_,hb⟩) (domB_iff.2 ⟨_,hb'⟩) (hrel.inj _ _ _ _ _ _ (hm.bl _ _ hb) (hm.bl _ _ hb') hj hj' hbl)
   ·intro g hg
    have hgn:=hG g hg
    refine⟨⟨g,0,0⟩,?_,rfl,rfl⟩
    have hd:domB e.bl0 g=false:=by
     cases hc:domB e.bl0 g with
     | false=>rfl
     | true=>
      obtain⟨b,hb⟩:=domB_iff.1 hc
      have:=(hlt0 hb).1;omega
    show (match domB e.bl0 g with | true=>R (ρ g) | false=>_)=_
    rw[hd]
    exact if_pos hgn
  obtain⟨hok,hc⟩:=hS ⟨O0,w,[],G⟩ rfl rfl R0 ⟨e.n0,e.bl0⟩ w e.args xs _ σ1 hr hrel0 hxs0
  refine⟨hok,hc.mono ?_⟩
  rintro en w' ⟨R1,x,hE1,_,h3,h4,rfl⟩
  have hE1:∀id,id<e.n0→R1 id=R0 id:=hE1
  have keep:∀blk,¬O0 blk→w'.heap[blk]? = w.heap[blk]? := fun blk hb=>h3.fr blk hb
  let R':Ren:=fun id=>if id<σ.next then R id else R1 (id-σ.next+e.n0)
  have hext:Ext σ.next R R':=fun id hid=>by show (if id<σ.next then _ else _)=_;rw[if_pos hid]
  have hle:Le R R':=hext.le hrel.fresh
  have hto:∀b,domB e.bl1 b=true→R' (e.to ρ σ b)=R1 b:=fun b hb=>by
   obtain⟨c,hc1⟩:=domB_iff.1 hb
   have hid:=allIds_look hi1 hc1
   unfold Few.to
   by_cases hl:b<e.n0
   ·rw[if_pos hl]
    have hd:domB e.bl0 b=true:=by
     simp only[Bool.or_eq_true,Nat.ble_eq]at hid
     rcases hid with h|h
     ·omega
     ·exact h
    obtain⟨c0,hc0⟩:=domB_iff.1 hd
    have hlt:=hrel.next_of_own (hm.bl b c0 hc0)
    rw[hext _ hlt,hE1 b hl,hR0 b hd]
   ·rw[if_neg hl]
    show (if b-e.n0+σ.next<σ.next then _ else R1 (b-e.n0+σ.next-σ.next+e.n0))=_
    rw[if_neg (by omega)]
    congr 1;omega
  have hnew:∀{id b},look (rnBl (e.to ρ σ) e.bl1) id=some b→∃k c i,id=e.to ρ σ k∧look σ1.bl k=some c∧R1 k=some i∧R' id=some i∧O0 i.blk∧C.O i.blk∧OwnOk R' i b w':=fun {id b} hb=>by
   obtain⟨k,c,hk,rfl,rfl⟩:=look_rnBl hb
   have hl1:=hin (k,c) hk
   obtain⟨d,hd⟩:=dom_of_mem hk
   have hdb:domB e.bl1 k=true:=domB_iff.2 ⟨_,hd⟩
   obtain⟨i,hi,hO,hok'⟩:=h3.own k c hl1
   have hcin:c.inn (domB e.bl1)=true:=List.all_eq_true.1 hb1 (k,c) hk
   refine⟨k,c,i,rfl,hl1,hi,(hto k hdb).trans hi,hO,?_,(OwnOk.rn hto hcin).2 hok'⟩
   rcases hO with ⟨id',b',i',hb',hi',heq⟩|hO
   ·obtain⟨j,hj,_,hOj,_⟩:=own0 id' b' hb'
    rw[hj]at hi';cases hi'
    rw[←heq];exact hOj
   ·exact hrel.new _ (Nat.le_trans hrel.size hO)
  have hrest:∀{id b},look (σ.bl.filter fun x=>!e.old ρ x.1) id=some b→id<σ.next∧look σ.bl id=some b∧e.old ρ id=false:=fun {id b} hb=>by
   rw[look_filter (q:=fun k=>!e.old ρ k)]at hb
   split at hb
   ·rename_i hq
    exact⟨hrel.next_of_own hb,hb,by simpa using hq⟩
   ·cases hb
  have hkeep:∀{id b i},look σ.bl id=some b→e.old ρ id=false→R id=some i→¬O0 i.blk:=fun {id b i} hb ho hi hO=>by
   obtain⟨j,hj,_,hok'⟩:=hrel.own id b hb
   rw[hi]at hj;cases hj
   rcases hO with ⟨id',b',i',hb',hi',heq⟩|hO
   ·have:=hrel.inj _ _ _ _ _ _ hb (hm.bl id' b' hb') hi hi' heq.symm
    have:e.old ρ id=true:=old_iff.2 ⟨id',b',look_mem hb',this.symm⟩
    rw[this]at ho;cases ho
   ·have:=hok'.lt;omega
  have hsplit:∀{id b},look (rnBl (e.to ρ σ) e.bl1++σ.bl.filter fun x=>!e.old ρ x.1) id=some b→look (rnBl (e.to ρ σ) e.bl1) id=some b∨(id<σ.next∧look σ.bl id=some b∧e.old ρ id=false):=fun {id b} hb=>by
   rw[look_app]at hb
   cases hs:look (rnBl (e.to ρ σ) e.bl1) id with
   | some c=>rw[hs]at hb;exact .inl hb
   | none=>rw[hs]at hb;exact .inr (hrest hb)
  refine⟨R',x,hext,Nat.le_add_right _ _,⟨?_,?_,?_,?_,?_,?_,Nat.le_trans hrel.size h3.size,hrel.new,h3.os.trans hrel.os,h3.tape.trans hrel.tape,h3.output.trans hrel.output⟩,(conc_rn hto _ hv1).trans h4,rfl⟩
  ·intro id hid
   have hid':σ.next+(e.n1-e.n0)≤id:=hid
   show (if id<σ.next then _ else R1 (id-σ.next+e.n0))=none
   rw[if_neg (by omega)]
   exact h3.fresh _ (by rw[hnx];omega)
  ·intro id b hb
   rcases hsplit hb with hb|⟨hl,hb,ho⟩
   ·obtain⟨k,c,i,_,_,_,hi,_,hO,hok'⟩:=hnew hb
    exact⟨i,hi,hO,hok'⟩
   ·obtain⟨i,hi,hO,hok'⟩:=hrel.own id b hb
    exact⟨i,hle _ _ hi,hO,hok'.mono hle (keep _ (hkeep hb ho hi))⟩
  ·intro id id' b b' i i' hb hb' hi hi' hbl
   have olds:∀{id b i},look σ.bl id=some b→R' id=some i→R id=some i:=fun {id b i} hb hi=>by
    obtain⟨j,hj,_,_⟩:=hrel.own id b hb
    have:=hle _ _ hj
    rw[hi]at this;cases this
    exact hj
   rcases hsplit hb with hb|⟨hl,hb,ho⟩<;>rcases hsplit hb' with hb'|⟨hl',hb',ho'⟩
   ·obtain⟨k,c,j,h1,h5,h6,h7,_⟩:=hnew hb
    obtain⟨k',c',j',h1',h5',h6',h7',_⟩:=hnew hb'
    rw[h7]at hi;cases hi
    rw[h7']at hi';cases hi'
    have:=h3.inj k k' c c' _ _ h5 h5' h6 h6' hbl
    rw[h1,h1',this]
   ·obtain⟨k,c,j,h1,h5,h6,h7,h8,_⟩:=hnew hb
    rw[h7]at hi;cases hi
    have hR:=olds hb' hi'
    exact(hkeep hb' ho' hR (hbl ▸ h8)).elim
   ·obtain⟨k,c,j,h1,h5,h6,h7,h8,_⟩:=hnew hb'
    rw[h7]at hi';cases hi'
    have hR:=olds hb hi
    exact(hkeep hb ho hR (hbl ▸ h8)).elim
   ·exact hrel.inj id id' b b' i i' hb hb' (olds hb hi) (olds hb' hi') hbl
  ·intro id b hb
   obtain⟨i,hi,hO,hok'⟩:=hrel.ext id b hb
   refine⟨i,hle _ _ hi,hO,hok'.mono hle (keep _ ?_)⟩
   rintro(⟨id',b',i',hb',hi',heq⟩|hn)
   ·obtain⟨j,hj,_,hOj,_⟩:=own0 id' b' hb'
    rw[hj]at hi';cases hi'
    exact hO (heq ▸ hOj)
   ·have:=hok'.lt;omega
  ·intro g hg
   obtain⟨i,hi,hb⟩:=hrel.glob g hg
   exact⟨i,hle _ _ hi,hb⟩
  ·intro blk hn
   rw[←hrel.fr blk hn]
   refine keep blk ?_
   rintro(⟨id',b',i',hb',hi',heq⟩|hn')
   ·obtain⟨j,hj,_,hOj,_⟩:=own0 id' b' hb'
    rw[hj]at hi';cases hi'
    exact hn (heq ▸ hOj)
   ·exact hn (hrel.new _ (Nat.le_trans hrel.size hn'))
def locF (l:List Few) (F:List V→H→Ans):List V→H→Ans:=fun args σ=>by
 classical
 exact if h:∃q:Few × (Nat→Nat),q.1∈l∧q.1.Fits q.2 args σ then some ((Classical.choose h).1.ans (Classical.choose h).2 σ)else F args σ
theorem locF_hit {l:List Few} {F:List V→H→Ans} {args:List V} {σ:H} {e:Few} {ρ:Nat→Nat} (he:e∈l) (hm:e.Fits ρ args σ) :
  ∃e' ρ',e'∈l∧e'.Fits ρ' args σ∧locF l F args σ=some (e'.ans ρ' σ):=by
 have h:∃q:Few × (Nat→Nat),q.1∈l∧q.1.Fits q.2 args σ:=⟨(e,ρ),he,hm⟩
 refine⟨(Classical.choose h).1,(Classical.choose h).2,(Classical.choose_spec h).1,(Classical.choose_spec h).2,?_⟩
 unfold locF
 exact dif_pos h
theorem locF_ok {P:Program} {G:Nat→Bool} {f:FuncId} {F F':List V→H→Ans} {E:List (Nat × Blk)} (hF:SoundFn P E G f F) (hF':SoundFn P [] G f F') {ng:Nat} (hG:∀g,G g=true→g<ng) {l:List Few} (hl:∀e∈l,e.right ng F'=true):SoundFn P E G f (locF l F):=by
 intro C hE hGC R σ w args xs v σ' hr hrel hxs
 unfold locF at hr
 split at hr
 ·rename_i h
  simp only[Option.some.injEq]at hr
  have:=loc_ok hF' hG (hl _ (Classical.choose_spec h).1) hGC (Classical.choose_spec h).2 hrel hxs
  rw[hr]at this
  exact this
 ·exact hF C hE hGC R σ w args xs v σ' hr hrel hxs
end
end Go.Og
namespace Go.Og
noncomputable section
def Has (l:List (Nat × Blk)) (ρ:Nat→Nat) (σ:H):Prop:=∀id b,look l id=some b→lookF σ.bl (ρ id)=some (b.rn ρ)
def Inj (l:List (Nat × Blk)) (ρ:Nat→Nat):Prop:=∀id id',domB l id=true→domB l id'=true→ρ id=ρ id'→id=id'
theorem fits_of {e:Few} {ρ:Nat→Nat} {args:List V} {σ:H} (ha:args=rns ρ e.args) (hb:Has e.bl0 ρ σ) (hi:Inj e.bl0 ρ):e.Fits ρ args σ:=
 ⟨ha,fun id b h=>by rw[←lookF_eq];exact hb id b h,hi⟩
def Few.shape (e:Few):Bool:=allIds e.bl0 (fun b=>Nat.blt b e.n0)&&(allIds e.bl1 (fun b=>(Nat.ble e.n0 b || domB e.bl0 b)&&Nat.blt b e.n1)&&Nat.ble e.n0 e.n1)
section
variable {e:Few} {ρ:Nat→Nat} {args:List V} {σ:H}
theorem Few.shape0 (h:e.shape=true) {id:Nat} (hd:domB e.bl0 id=true):id<e.n0:=by
 unfold Few.shape at h
 simp only[Bool.and_eq_true]at h
 obtain⟨c,hc⟩:=domB_iff.1 hd
 simpa[Nat.blt_eq]using allIds_look h.1 hc
theorem Few.shape1 (h:e.shape=true) {id:Nat} (hd:domB e.bl1 id=true):id<e.n1∧(e.n0≤id∨domB e.bl0 id=true):=by
 unfold Few.shape at h
 simp only[Bool.and_eq_true]at h
 obtain⟨c,hc⟩:=domB_iff.1 hd
 have:=allIds_look h.2.1 hc
 simp only[Bool.and_eq_true,Bool.or_eq_true,Nat.ble_eq,Nat.blt_eq]at this
 exact⟨this.2,this.1⟩
theorem Few.shapeN (h:e.shape=true):e.n0≤e.n1:=by
 unfold Few.shape at h
 simp only[Bool.and_eq_true,Nat.ble_eq]at h
 exact h.2.2
theorem Few.Fits.lt (hm:e.Fits ρ args σ) (ht:Tidy σ) {id:Nat} (hd:domB e.bl0 id=true):ρ id<σ.next:=by
 obtain⟨c,hc⟩:=domB_iff.1 hd
 have h:=hm.bl id c hc
 rcases Nat.lt_or_ge (ρ id) σ.next with hl|hl
 ·exact hl
 ·have:=ht _ hl;rw[lookF_eq,h]at this;cases this
theorem Few.to_inj (hs:e.shape=true) (hm:e.Fits ρ args σ) (ht:Tidy σ):Inj e.bl1 (e.to ρ σ):=by
 intro id id' hd hd' h
 have h1:=(Few.shape1 hs hd).2
 have h2:=(Few.shape1 hs hd').2
 unfold Few.to at h
 by_cases ha:id<e.n0
 ·have hda:domB e.bl0 id=true:=by rcases h1 with h1 | h1;omega;exact h1
  by_cases hb:id'<e.n0
  ·have hdb:domB e.bl0 id'=true:=by rcases h2 with h2 | h2;omega;exact h2
   rw[if_pos ha,if_pos hb]at h
   exact hm.inj _ _ hda hdb h
  ·rw[if_pos ha,if_neg hb]at h
   have:=hm.lt ht hda;omega
 ·by_cases hb:id'<e.n0
  ·have hdb:domB e.bl0 id'=true:=by rcases h2 with h2 | h2;omega;exact h2
   rw[if_neg ha,if_pos hb]at h
   have:=hm.lt ht hdb;omega
  ·rw[if_neg ha,if_neg hb]at h;omega
theorem look_rn {l:List (Nat × Blk)} {τ:Nat→Nat} (hi:∀id id',domB l id=true→domB l id'=true→τ id=τ id'→id=id'):∀{m:List (Nat × Blk)} {id:Nat} {b:Blk},(∀x∈m,domB l x.1=true)→look m id=some b→look (rnBl τ m) (τ id)=some (b.rn τ)
 | [],id,b,_,h=>by cases h
 | (k,c)::m,id,b,hm,h=>by
  simp only[look]at h
  simp only[rnBl,List.map_cons,look]
  by_cases hk:Nat.beq k id=true
  ·have:=Nat.eq_of_beq_eq_true hk;subst this
   rw[if_pos hk]at h
   cases h
   rw[if_pos (Nat.beq_refl _)]
  ·rw[if_neg hk]at h
   have hkd:domB l k=true:=hm (k,c) List.mem_cons_self
   have hid:domB l id=true:=hm (id,b) (List.mem_cons_of_mem _ (look_mem h))
   rw[if_neg (fun hh=>hk (by have:=hi k id hkd hid (Nat.eq_of_beq_eq_true hh);subst this;exact Nat.beq_refl _))]
   exact look_rn hi (fun x hx=>hm x (List.mem_cons_of_mem _ hx)) h
theorem Few.has (hs:e.shape=true) (hm:e.Fits ρ args σ) (ht:Tidy σ):Has e.bl1 (e.to ρ σ) (e.ans ρ σ).2:=by
 intro id b hb
 show lookF (rnBl (e.to ρ σ) e.bl1++σ.bl.filter fun x=>!e.old ρ x.1) _=_
 rw[lookF_eq,look_app]
 rw[look_rn (l:=e.bl1) (Few.to_inj hs hm ht) (fun x hx=>by
  obtain⟨d,hd⟩:=dom_of_mem (k:=x.1) (c:=x.2) hx
  exact domB_iff.2 ⟨_,hd⟩) hb]
theorem Few.fr (hs:e.shape=true) (hm:e.Fits ρ args σ) (ht:Tidy σ):Fr (fun b=>e.old ρ b=true) σ (e.ans ρ σ).2:=by
 have hn:=Few.shapeN hs
 refine⟨fun b hb=>?_,Nat.le_add_right _ _,fun b hb hS=>?_⟩
 ·have hb':σ.next+(e.n1-e.n0)≤b:=hb
  show lookF (rnBl (e.to ρ σ) e.bl1++σ.bl.filter fun x=>!e.old ρ x.1) b=none
  rw[lookF_eq,look_app]
  cases hc:look (rnBl (e.to ρ σ) e.bl1) b with
  | some c=>
   exfalso
   obtain⟨k,c',hk,he,_⟩:=look_rnBl hc
   obtain⟨d,hd⟩:=dom_of_mem hk
   have hkd:=Few.shape1 hs (domB_iff.2 ⟨d,hd⟩)
   unfold Few.to at he
   by_cases hl:k<e.n0
   ·rw[if_pos hl]at he
    have hda:domB e.bl0 k=true:=by rcases hkd.2 with h | h;omega;exact h
    have:=hm.lt ht hda;omega
   ·rw[if_neg hl]at he
    have:=hkd.1;omega
  | none=>
   simp only[]
   rw[look_filter (q:=fun k=>!e.old ρ k)]
   split
   ·rw[←lookF_eq];exact ht b (by omega)
   ·rfl
 ·show lookF (rnBl (e.to ρ σ) e.bl1++σ.bl.filter fun x=>!e.old ρ x.1) b=_
  rw[lookF_eq,look_app]
  cases hc:look (rnBl (e.to ρ σ) e.bl1) b with
  | some c=>
   exfalso
   obtain⟨k,c',hk,he,_⟩:=look_rnBl hc
   obtain⟨d,hd⟩:=dom_of_mem hk
   have hkd:=Few.shape1 hs (domB_iff.2 ⟨d,hd⟩)
   unfold Few.to at he
   by_cases hl:k<e.n0
   ·rw[if_pos hl]at he
    have hda:domB e.bl0 k=true:=by rcases hkd.2 with h | h;omega;exact h
    obtain⟨c0,hc0⟩:=domB_iff.1 hda
    exact hS (old_iff.2 ⟨k,c0,look_mem hc0,he.symm⟩)
   ·rw[if_neg hl]at he;omega
  | none=>
   simp only[]
   rw[look_filter (q:=fun k=>!e.old ρ k),if_pos (by
    cases ho:e.old ρ b with
    | true=>exact(hS ho).elim
    | false=>rfl),lookF_eq]
theorem Few.tidy (hs:e.shape=true) (hm:e.Fits ρ args σ) (ht:Tidy σ):Tidy (e.ans ρ σ).2:=(Few.fr hs hm ht).tidy
theorem Has.fr {l:List (Nat × Blk)} {S:Nat→Prop} {σ σ':H} (h:Has l ρ σ) (f:Fr S σ σ') (ht:Tidy σ) (hS:∀id,domB l id=true→¬S (ρ id)):Has l ρ σ':=fun id b hb=>by
 have h1:=h id b hb
 have hlt:ρ id<σ.next:=by
  rcases Nat.lt_or_ge (ρ id) σ.next with hl|hl
  ·exact hl
  ·have:=ht _ hl;rw[h1]at this;cases this
 rw[f.same _ hlt (hS id (domB_iff.2 ⟨_,hb⟩))]
 exact h1
theorem Has.lt {l:List (Nat × Blk)} {σ:H} (h:Has l ρ σ) (ht:Tidy σ) {id:Nat} (hd:domB l id=true):ρ id<σ.next:=by
 obtain⟨c,hc⟩:=domB_iff.1 hd
 have h1:=h id c hc
 rcases Nat.lt_or_ge (ρ id) σ.next with hl|hl
 ·exact hl
 ·have:=ht _ hl;rw[h1]at this;cases this
end
end
end Go.Og
namespace Go.Og
noncomputable section
section
variable {p:Nat→Bool} {ρ τ:Nat→Nat}
mutual
theorem rn_congr (h:∀b,p b=true→ρ b=τ b):∀v:V,V.inn p v=true→V.rn ρ v=V.rn τ v
 | .dead,hc=>by simp[V.inn]at hc
 | .ptr b o,hc=>by simp only[V.inn]at hc;simp only[V.rn,h b hc]
 | .sl b o n c,hc=>by simp only[V.inn]at hc;simp only[V.rn,h b hc]
 | .sle b o k e,hc=>by simp only[V.inn]at hc;simp only[V.rn,h b hc]
 | .mp b,hc=>by simp only[V.inn]at hc;simp only[V.rn,h b hc]
 | .bool _,_=>rfl
 | .int _ _,_=>rfl
 | .str _,_=>rfl
 | .nilp,_=>rfl
 | .nils,_=>rfl
 | .nilm,_=>rfl
 | .nilf,_=>rfl
 | .nili,_=>rfl
 | .fn f a c,hc=>by
  simp only[V.inn,Bool.and_eq_true]at hc
  simp only[V.rn,rns_congr h a hc.1,rns_congr h c hc.2]
 | .ifc t v,hc=>by
  simp only[V.inn]at hc
  simp only[V.rn,rn_congr h v hc]
 | .agg l,hc=>by
  simp only[V.inn]at hc
  simp only[V.rn,rns_congr h l hc]
 | .tup l,hc=>by
  simp only[V.inn]at hc
  simp only[V.rn,rns_congr h l hc]
theorem rns_congr (h:∀b,p b=true→ρ b=τ b):∀l:List V,inns p l=true→rns ρ l=rns τ l
 | [],_=>rfl
 | v::l,hc=>by
  simp only[inns,Bool.and_eq_true]at hc
  simp only[rns,rn_congr h v hc.1,rns_congr h l hc.2]
end
theorem rnp_congr (h:∀b,p b=true→ρ b=τ b):∀l:List (V × V),innp p l=true→rnp ρ l=rnp τ l
 | [],_=>rfl
 | q::l,hc=>by
  simp only[innp,Bool.and_eq_true]at hc
  simp only[rnp,rn_congr h q.1 hc.1.1,rn_congr h q.2 hc.1.2,rnp_congr h l hc.2]
theorem Blk.rn_congr (h:∀b,p b=true→ρ b=τ b) {b:Blk} (hc:b.inn p=true):b.rn ρ=b.rn τ:=by
 cases b with
 | cells l=>exact congrArg Blk.cells (rns_congr h l hc)
 | map l=>exact congrArg Blk.map (rnp_congr h l hc)
 | siter s q=>rfl
 | unit t=>rfl
end
def Few.still (e:Few):Bool:=inBl e.bl0 e.bl1&&(allBl e.bl0 (domB e.bl0)&&inBl e.bl0 e.bl0)
section
variable {e:Few} {ρ:Nat→Nat} {args:List V} {σ:H}
theorem Few.fr0 (hs:e.shape=true) (hw:e.still=true) (hm:e.Fits ρ args σ) (ht:Tidy σ):Fr Nowhere σ (e.ans ρ σ).2:=by
 have f:=Few.fr hs hm ht
 have hh:=Few.has hs hm ht
 unfold Few.still at hw
 simp only[Bool.and_eq_true]at hw
 obtain⟨h1,h2,h3⟩:=hw
 refine⟨f.tidy,f.le,fun b hb _=>?_⟩
 by_cases ho:e.old ρ b=true
 ·obtain⟨k,c,hk,rfl⟩:=old_iff.1 ho
  have l0:=inBl_ok h3 (k,c) hk
  have l1:=inBl_ok h1 (k,c) hk
  have hd:domB e.bl0 k=true:=domB_iff.2 ⟨_,l0⟩
  have hlt:=Few.shape0 hs hd
  have a1:=hh k c l1
  have et:e.to ρ σ k=ρ k:=by unfold Few.to;rw[if_pos hlt]
  rw[et]at a1
  rw[a1,lookF_eq,hm.bl k c l0]
  congr 1
  refine(Blk.rn_congr (p:=domB e.bl0) (fun b hb=>?_) (allBl_look h2 l0)).symm
  unfold Few.to
  rw[if_pos (Few.shape0 hs hb)]
 ·exact f.same b hb ho
end
end
end Go.Og
namespace Go.Og
noncomputable section
section
variable {E:List (Nat × Blk)} {σ σ':H} {b b':Nat} {l m:List V}
theorem ldK_is {κ:V→Ans} {o:Nat} (h:Atc σ b l):ldK E σ b o κ=nthK l o κ:=rdK_at h
theorem ldnK_is {κ:List V→Ans} {o n:Nat} (h:Atc σ b l):ldnK E σ b o n κ=subK l o n κ:=rdK_at h
theorem nthK_zero {a:V} {κ:V→Ans}:nthK (a::l) 0 κ=κ a:=rfl
theorem nthK_succ {a:V} {n:Nat} {κ:V→Ans}:nthK (a::l) (n+1) κ=nthK l n κ:=rfl
theorem subK_2 {a b:V} {κ:List V→Ans}:subK [a,b] 0 2 κ=κ [a,b]:=rfl
theorem subK_4 {a b c d:V} {κ:List V→Ans}:subK [a,b,c,d] 0 4 κ=κ [a,b,c,d]:=rfl
theorem subK_5 {a b c d e:V} {κ:List V→Ans}:subK [a,b,c,d,e] 0 4 κ=κ [a,b,c,d]:=rfl
theorem subK_6 {a b c d e f:V} {κ:List V→Ans}:subK [a,b,c,d,e,f] 0 6 κ=κ [a,b,c,d,e,f]:=rfl
theorem subK_13 {a b c d e f g h i j k l m:V} {κ:List V→Ans}:subK [a,b,c,d,e,f,g,h,i,j,k,l,m] 0 13 κ=κ [a,b,c,d,e,f,g,h,i,j,k,l,m]:=rfl
theorem subK_con {a b c d e f g h i j k l m:V} {κ:List V→Ans}:subK [a,b,c,d,e,f,g,h,i,j,k,l,m] 2 6 κ=κ [c,d,e,f,g,h]:=rfl
theorem cells_agg (l:List V):(V.agg l).cells=l:=rfl
theorem cells_int (k:IntKind) (n:Int):(V.int k n).cells=[.int k n]:=rfl
theorem cells_ptr (b o:Nat):(V.ptr b o).cells=[.ptr b o]:=rfl
theorem allOne_cons (v:V) (l:List V):allOne (v::l)=(v.one&&allOne l):=rfl
theorem allOne_nil:allOne []=true:=rfl
theorem one_int (k:IntKind) (n:Int):(V.int k n).one=true:=rfl
theorem one_bool (c:Bool):(V.bool c).one=true:=rfl
theorem one_str (s:BS):(V.str s).one=true:=rfl
theorem one_nils:V.nils.one=true:=rfl
theorem one_sl (b o n:Nat) (c:Cap):(V.sl b o n c).one=true:=rfl
theorem one_ptr (b o:Nat):(V.ptr b o).one=true:=rfl
theorem chk_t (a:Ans):chk true a=a:=rfl
theorem rtOne_nils {a:Ans}:rtOne .nils a=a:=rfl
theorem rtOne_pt {b o:Nat} {a:Ans}:rtOne (.ptr b o) a=a:=rfl
theorem rtOne_of {v:V} {a:Ans} (h:v.one=true):rtOne v a=a:=by cases v<;>first | rfl | cases h
theorem slenK_nils {κ:Nat→Ans}:slenK .nils κ=κ 0:=rfl
theorem slenK_sl {b o n:Nat} {c:Cap} {κ:Nat→Ans}:slenK (.sl b o n c) κ=κ n:=rfl
theorem nnK_nat {n:Nat} {κ:Nat→Ans}:nnK (Int.ofNat n) κ=κ n:=rfl
theorem condK_ift {c:Bool} {a b:Ans} (h:c=true):condK c a b=a:=by rw[h];rfl
theorem condK_iff {c:Bool} {a b:Ans} (h:c=false):condK c a b=b:=by rw[h];rfl
theorem chk_if {c:Bool} {a:Ans} (h:c=true):chk c a=a:=by rw[h];rfl
theorem join_or (f:Bool→H→Ans) (c d:Bool) (σ:H):joinB f (fun k=>condK c (k true σ) (k d σ))=f (c || d) σ:=by cases c<;>rfl
theorem join_and (f:Bool→H→Ans) (c d:Bool) (σ:H):joinB f (fun k=>condK c (k d σ) (k false σ))=f (c&&d) σ:=by cases c<;>rfl
theorem join_id (f:Bool→H→Ans) (c:Bool) (σ:H):joinB f (fun k=>k c σ)=f c σ:=rfl
def Src (σ:H) (esz n:Nat) (x:V) (m:List V):Prop:=(n=0∧x = .nils∧m=[])∨∃b o c L,x = .sl b o n c∧Atc σ b L∧o+n*esz≤L.length∧m=(L.drop o).take (n*esz)
def Dst (σ:H) (esz k:Nat) (v:V) (l:List V):Prop:=Sl σ esz k v l∨∃b,v = .sl b 0 k (.ex k)∧Atc σ b l∧l.length=k*esz
theorem Src.one {esz n:Nat} {x:V} (h:Src σ esz n x m):x.one=true:=by
 rcases h with ⟨_,rfl,_⟩|⟨_,_,_,_,rfl,_⟩<;>rfl
theorem Src.slen {esz n:Nat} {x:V} {κ:Nat→Ans} (h:Src σ esz n x m):slenK x κ=κ n:=by
 rcases h with ⟨rfl,rfl,_⟩|⟨_,_,_,_,rfl,_⟩<;>rfl
theorem Src.length {esz n:Nat} {x:V} (h:Src σ esz n x m):m.length=n*esz:=by
 rcases h with ⟨rfl,_,rfl⟩|⟨_,o,_,L,_,_,h,rfl⟩
 ·simp
 ·simp only[List.length_take,List.length_drop];omega
theorem Src.srcK {esz n:Nat} {x:V} {κ:Nat→List V→Ans} (h:Src σ esz n x m):srcK E σ esz x κ=κ n m:=by
 rcases h with ⟨rfl,rfl,rfl⟩|⟨b,o,c,L,rfl,ha,hl,rfl⟩
 ·rfl
 ·exact srcK_ex ha hl
theorem Src.cells {esz n:Nat} {x:V} (h:Src σ esz n x m):srcCells E σ esz x=some (n,m):=by
 rcases h with ⟨rfl,rfl,rfl⟩|⟨b,o,c,L,rfl,ha,hl,rfl⟩
 ·rfl
 ·show (rdN E σ b o (n*esz)).map _=_
  unfold rdN rd
  rw[←lookF_eq,show lookF σ.bl b=some (.cells L)from ha]
  simp only[]
  rw[show Nat.ble (o+n*esz) L.length=true from ble_of hl]
  rfl
theorem Src.fr {S:Nat→Prop} {esz n:Nat} {x:V} (h:Src σ esz n x m) (f:Fr S σ σ') (ht:Tidy σ) (hn:∀b,Names x b→¬S b):Src σ' esz n x m:=by
 rcases h with h|⟨b,o,c,L,rfl,ha,hl,rfl⟩
 ·exact .inl h
 ·exact .inr ⟨b,o,c,L,rfl,f.at_ ha ht (hn b rfl),hl,rfl⟩
theorem Src.lt {esz n:Nat} {x:V} (h:Src σ esz n x m) (ht:Tidy σ) (hb:Names x b):b<σ.next:=by
 rcases h with ⟨_,rfl,_⟩|⟨_,_,_,_,rfl,ha,_⟩
 ·exact hb.elim
 ·cases hb;exact ha.lt ht
theorem Dst.nil (σ:H) (esz:Nat):Dst σ esz 0 .nils [] := .inl (Sl.nil σ esz)
theorem Dst.length {esz k:Nat} {v:V} (h:Dst σ esz k v l):l.length=k*esz:=by
 rcases h with h|⟨_,_,_,h⟩
 ·exact h.length
 ·exact h
theorem Dst.one {esz k:Nat} {v:V} (h:Dst σ esz k v l):v.one=true:=by
 rcases h with h|⟨_,rfl,_⟩
 ·exact h.one
 ·rfl
theorem Dst.slen {esz k:Nat} {v:V} {κ:Nat→Ans} (h:Dst σ esz k v l):slenK v κ=κ k:=by
 rcases h with h|⟨_,rfl,_⟩
 ·exact h.slen
 ·rfl
theorem Dst.lt {esz k:Nat} {v:V} (h:Dst σ esz k v l) (ht:Tidy σ) (hb:Names v b):b<σ.next:=by
 rcases h with h|⟨_,rfl,ha,_⟩
 ·exact h.lt ht hb
 ·cases hb;exact ha.lt ht
theorem Dst.fr {S:Nat→Prop} {esz k:Nat} {v:V} (h:Dst σ esz k v l) (f:Fr S σ σ') (ht:Tidy σ) (hn:∀b,Names v b→¬S b):Dst σ' esz k v l:=by
 rcases h with h|⟨b,rfl,ha,hl⟩
 ·exact .inl (h.fr f ht hn)
 ·exact .inr ⟨b,rfl,f.at_ ha ht (hn b rfl),hl⟩
theorem Dst.src {esz k:Nat} {v:V} (h:Dst σ esz k v l):Src σ esz k v l:=by
 rcases h with (⟨rfl,rfl,rfl⟩|⟨b,rfl,ha,_,hl⟩)|⟨b,rfl,ha,hl⟩
 ·exact .inl ⟨rfl,rfl,rfl⟩
 ·exact .inr ⟨b,0,_,l,rfl,ha,by omega,by rw[List.drop_zero,←hl,List.take_length]⟩
 ·exact .inr ⟨b,0,_,l,rfl,ha,by omega,by rw[List.drop_zero,←hl,List.take_length]⟩
def Len (v:V) (n:Nat):Prop:=v.one=true∧∀κ:Nat→Ans,slenK v κ=κ n
theorem Len.nils:Len .nils 0:=⟨rfl,fun _=>rfl⟩
theorem Len.sl {b o n:Nat} {c:Cap}:Len (.sl b o n c) n:=⟨rfl,fun _=>rfl⟩
theorem Src.len {σ:H} {esz n:Nat} {x:V} {m:List V} (h:Src σ esz n x m):Len x n:=⟨h.one,fun _=>h.slen⟩
theorem app_none {esz bytes k:Nat} {v x:V} {κ:V→H→Ans} (h:Dst σ esz k v l) (hx:Src σ esz 0 x m):appK E esz bytes v x σ κ=κ v σ:=by
 unfold appK
 rw[hx.srcK]
 rcases h with (⟨rfl,rfl,rfl⟩|⟨b,rfl,ha,_,hl⟩)|⟨b,rfl,ha,hl⟩
 ·show callK (appendV E esz bytes .nils x σ) κ=_
  unfold appendV;rw[hx.cells];rfl
 ·rfl
 ·show callK (appendV E esz bytes (.sl b 0 k (.ex k)) x σ) κ=_
  unfold appendV;rw[hx.cells]
  simp only[]
  rw[if_pos (show Nat.ble (k+0) k=true from ble_of (Nat.le_refl _))]
  rfl
theorem app_some {esz bytes k n:Nat} {v x:V} (h:Dst σ esz k v l) (ht:Tidy σ) (hx:Src σ esz n x m) (hn:0<n) (ho:allOne m=true) (hg:growable (k+n) bytes=true) :
  ∃σ',(∀κ:V→H→Ans,appK E esz bytes v x σ κ=κ (.sl σ.next 0 (k+n) (.op esz)) σ')∧Atc σ' σ.next (l++m)∧σ'.next=σ.next+1∧Fr (Names v) σ σ':=by
 obtain⟨n',rfl⟩:∃q,n=q+1:=⟨n-1,by omega⟩
 rcases h with (⟨rfl,rfl,rfl⟩|⟨b,rfl,ha,hk,hl⟩)|⟨b,rfl,ha,hl⟩
 ·refine⟨newB σ (.cells m),fun κ=>?_,by rw[List.nil_append];exact Atc_newB m,rfl,Fr.new ht _⟩
  unfold appK
  rw[hx.srcK]
  show callK (appendV E esz bytes .nils x σ) κ=_
  unfold appendV;rw[hx.cells]
  simp only[]
  rw[Nat.zero_add]at hg ⊢
  rw[if_neg (by omega),if_pos hg]
  rfl
 ·refine⟨⟨σ.next+1,(σ.next,.cells (l++m))::drop σ.bl b⟩,fun κ=>?_,?_,rfl,?_⟩
  ·unfold appK
   rw[hx.srcK]
   show (match lookF σ.bl b with
    | some (.cells l)=>chk (Nat.beq l.length (k*esz)&&Nat.beq esz esz&&growable (k+(n'+1)) bytes&&allOne m) (forceD σ.bl b fun bl'=>κ (.sl σ.next 0 (k+(n'+1)) (.op esz)) ⟨σ.next+1,(σ.next,.cells (l++m))::bl'⟩)
    | _=>none)=_
   rw[show lookF σ.bl b=some (.cells l)from ha]
   simp only[]
   rw[chk_true (by rw[hg,ho,hl];simp),forceD_eq]
  ·show lookF ((σ.next,Blk.cells (l++m))::_) _=_
   rw[lookF_cons,if_pos rfl]
  ·refine⟨fun k' hk'=>?_,Nat.le_succ _,fun k' hk' hn=>?_⟩
   ·have hk2:σ.next+1≤k':=hk'
    show lookF ((σ.next,_)::drop σ.bl b) k'=none
    rw[lookF_cons,if_neg (by simp only[];omega),lookF_drop]
    split
    ·rfl
    ·exact ht k' (by omega)
   ·show lookF ((σ.next,_)::drop σ.bl b) k'=_
    rw[lookF_cons,if_neg (by simp only[];omega),lookF_drop,if_neg]
    intro hbk
    exact hn hbk.symm
 ·refine⟨newB σ (.cells (l++m)),fun κ=>?_,Atc_newB _,rfl,Fr.new ht _⟩
  unfold appK
  rw[hx.srcK]
  show callK (appendV E esz bytes (.sl b 0 k (.ex k)) x σ) κ=_
  unfold appendV;rw[hx.cells]
  simp only[]
  rw[if_neg (show ¬Nat.ble (k+(n'+1)) k=true from fun h=>by rw[Nat.ble_eq]at h;omega),if_pos hg]
  have hr:rdN E σ b 0 (k*esz)=some l:=by
   unfold rdN rd
   rw[←lookF_eq,show lookF σ.bl b=some (.cells l)from ha]
   simp only[]
   rw[show Nat.ble (0+k*esz) l.length=true from ble_of (by omega)]
   rw[List.drop_zero,←hl,List.take_length];rfl
  rw[hr]
  rfl
theorem app_all {esz bytes k n:Nat} {v x:V} (h:Dst σ esz k v l) (ht:Tidy σ) (hx:Src σ esz n x m) (ho:allOne m=true) (hg:growable (k+n) bytes=true) :
  ∃u σ',(∀κ:V→H→Ans,appK E esz bytes v x σ κ=κ u σ')∧Dst σ' esz (k+n) u (l++m)∧(∀b,Names u b→Names v b∨σ.next≤b)∧Fr (Names v) σ σ':=by
 cases n with
 | zero=>
  have hm:m=[]:=List.eq_nil_of_length_eq_zero (by rw[hx.length];omega)
  subst hm
  exact⟨v,σ,fun κ=>app_none h hx,by rw[List.append_nil];exact h,fun b hb => .inl hb,Fr.refl ht⟩
 | succ n=>
  obtain⟨σ',g,a,nx,f⟩:=app_some (E:=E) h ht hx (Nat.succ_pos n) ho hg
  refine⟨_,σ',g,.inl (.inr ⟨σ.next,rfl,a,by omega,?_⟩),fun b hb => .inr (by cases hb;exact Nat.le_refl _),f⟩
  rw[List.length_append,h.length,hx.length,←Nat.add_mul]
theorem rP:(∀(a:V) (l:List V) (κ:V→Ans),nthK (a::l) 0 κ=κ a)∧(∀(a:V) (l:List V) (n:Nat) (κ:V→Ans),nthK (a::l) (n+1) κ=nthK l n κ) ∧
  (∀(a b:V) (κ:List V→Ans),subK [a,b] 0 2 κ=κ [a,b])∧(∀(a b c d:V) (κ:List V→Ans),subK [a,b,c,d] 0 4 κ=κ [a,b,c,d])∧(∀(a b c d e:V) (κ:List V→Ans),subK [a,b,c,d,e] 0 4 κ=κ [a,b,c,d]) ∧
  (∀(a b c d e f:V) (κ:List V→Ans),subK [a,b,c,d,e,f] 0 6 κ=κ [a,b,c,d,e,f])∧(∀(a b c d e f g h i j k l m:V) (κ:List V→Ans),subK [a,b,c,d,e,f,g,h,i,j,k,l,m] 0 13 κ=κ [a,b,c,d,e,f,g,h,i,j,k,l,m]) ∧
  (∀(a b c d e f g h i j k l m:V) (κ:List V→Ans),subK [a,b,c,d,e,f,g,h,i,j,k,l,m] 2 6 κ=κ [c,d,e,f,g,h]) ∧
  (∀(k:IntKind) (n:Int) (κ:Int→Ans),rtInt k (.int k n) κ=κ n)∧(∀(b:Bool) (κ:Bool→Ans),rtBool (.bool b) κ=κ b)∧(∀(s:BS) (κ:BS→Ans),rtStr (.str s) κ=κ s)∧(∀(b o:Nat) (κ:Nat→Nat→Ans),rtPtr (.ptr b o) κ=κ b o) ∧
  (∀(l:List V) (κ:List V→Ans),rtAgg (.agg l) κ=κ l)∧(∀(l:List V) (κ:List V→Ans),rtTup (.tup l) κ=κ l)∧(∀(v:V) (l:List V) (κ:V→List V→Ans),rtCons (v::l) κ=κ v l)∧(∀a:Ans,rtNil [] a=a) ∧
  (∀a:Ans,rtOne .nils a=a)∧(∀(b o:Nat) (a:Ans),rtOne (.ptr b o) a=a)∧(∀(b o n:Nat) (c:Cap) (a:Ans),rtOne (.sl b o n c) a=a)∧(∀κ:Nat→Ans,slenK .nils κ=κ 0)∧(∀(b o n:Nat) (c:Cap) (κ:Nat→Ans),slenK (.sl b o n c) κ=κ n) ∧
  (∀(v:V) (σ:H) (κ:V→H→Ans),callK (some (v,σ)) κ=κ v σ)∧(∀(c:Bool) (a b:Ans),c=true→condK c a b=a)∧(∀(c:Bool) (a b:Ans),c=false→condK c a b=b)∧(∀(c:Bool) (a:Ans),c=true→chk c a=a) ∧
  (∀(f:Bool→H→Ans) (g:(Bool→H→Ans)→Ans),joinB f g=g f)∧(∀(k:IntKind) (n:Int) (l:List V) (κ:Int→List V→Ans),xcI k (.int k n::l) κ=κ n l)∧(∀(b:Bool) (l:List V) (κ:Bool→List V→Ans),xcB (.bool b::l) κ=κ b l)∧(∀(s:BS) (l:List V) (κ:BS→List V→Ans),xcS (.str s::l) κ=κ s l)∧(∀(l:List V) (σ:H) (κ:H→Ans),nbK l σ κ=chk (allOne l) (κ (newB σ (.cells l)))):=
 ⟨fun _ _ _=>rfl,fun _ _ _ _=>rfl,fun _ _ _=>rfl,fun _ _ _ _ _=>rfl,fun _ _ _ _ _ _=>rfl,fun _ _ _ _ _ _ _=>rfl,fun _ _ _ _ _ _ _ _ _ _ _ _ _ _=>rfl,fun _ _ _ _ _ _ _ _ _ _ _ _ _ _=>rfl,
  rtInt_int,fun _ _=>rfl,fun _ _=>rfl,fun _ _ _=>rfl,fun _ _=>rfl,fun _ _=>rfl,fun _ _ _=>rfl,fun _=>rfl,fun _=>rfl,fun _ _ _=>rfl,fun _ _ _ _ _=>rfl,fun _=>rfl,fun _ _ _ _ _=>rfl,
  fun _ _ _=>rfl,fun _ _ _ h=>condK_ift h,fun _ _ _ h=>condK_iff h,fun _ _ h=>chk_if h,fun _ _=>rfl,fun k n l κ=>rtInt_int k n fun n=>κ n l,fun _ _ _=>rfl,fun _ _ _=>rfl,fun _ _ _=>rfl⟩
theorem rC:(∀(k:IntKind) (n:Int) (l:List V) (κ:Int→List V→Ans),xcI k (.int k n::l) κ=κ n l)∧(∀(b:Bool) (l:List V) (κ:Bool→List V→Ans),xcB (.bool b::l) κ=κ b l)∧(∀(s:BS) (l:List V) (κ:BS→List V→Ans),xcS (.str s::l) κ=κ s l)∧(∀(l:List V) (σ:H) (κ:H→Ans),nbK l σ κ=chk (allOne l) (κ (newB σ (.cells l)))):=
 ⟨fun k n l κ=>rtInt_int k n fun n=>κ n l,fun _ _ _=>rfl,fun _ _ _=>rfl,fun _ _ _=>rfl⟩
theorem rS:(∀l:List V,(V.agg l).cells=l)∧(∀(k:IntKind) (n:Int),(V.int k n).cells=[.int k n])∧(∀b o:Nat,(V.ptr b o).cells=[.ptr b o])∧(∀(v:V) (l:List V),allOne (v::l)=(v.one&&allOne l))∧(allOne []=true) ∧
  (∀(k:IntKind) (n:Int),(V.int k n).one=true)∧(∀c:Bool,(V.bool c).one=true)∧(∀s:BS,(V.str s).one=true)∧(V.nils.one=true)∧(∀(b o n:Nat) (c:Cap),(V.sl b o n c).one=true)∧(∀b o:Nat,(V.ptr b o).one=true) ∧
  (∀b:Bool,(b&&true)=b)∧(∀a b:Nat,Nat.add a b=a+b)∧(∀n:Nat,0+n=n)∧((!true)=false)∧((!false)=true):=
 ⟨fun _=>rfl,fun _ _=>rfl,fun _ _=>rfl,fun _ _=>rfl,rfl,fun _ _=>rfl,fun _=>rfl,fun _=>rfl,rfl,fun _ _ _ _=>rfl,fun _ _=>rfl,Bool.and_true,fun _ _=>rfl,Nat.zero_add,rfl,rfl⟩
theorem rQ:(∀m n:Nat,eqF (Int.ofNat m) (Int.ofNat n)=decide (m=n))∧(∀m n:Nat,ltF (Int.ofNat m) (Int.ofNat n)=decide (m<n))∧(∀m n:Nat,leF (Int.ofNat m) (Int.ofNat n)=decide (m≤n)) ∧
  (∀b:Bool,(false || b)=b)∧(∀b:Bool,(true || b)=true)∧(∀b:Bool,(b || false)=b)∧(∀b:Bool,(b || true)=true)∧(∀b:Bool,(false&&b)=false)∧(∀b:Bool,(true&&b)=b)∧(∀b:Bool,(b&&false)=false):=
 ⟨eqF_nat,ltF_nat,leF_nat,Bool.false_or,Bool.true_or,Bool.or_false,Bool.or_true,Bool.false_and,Bool.true_and,Bool.and_false⟩
theorem rD:(∀h:Decidable False,@decide False h=false)∧(∀h:Decidable True,@decide True h=true):=⟨fun _=>decide_false _,fun _=>decide_true _⟩
theorem rA:type_of% (And.intro rS (And.intro rQ rD)):=⟨rS,rQ,rD⟩
end
end
end Go.Og
set_option maxRecDepth 100000
namespace Go.Og
open Go Go.RowKit Go.Deep
section
variable {H:Type} {enc:TypeId × Value→H} {P:Program} {w:World} {t e:TypeId} {d:DataW H} {ps:List MemPlace} {blk off len cap:Nat}
end
end Go.Og
namespace Go.Og
noncomputable section
def OldLd (E:List (Nat × Blk)) (σ:H) (n:Nat) (S:Nat→Prop) (o:AOp) (e:Env) (v:V):Prop:=V.beq v v=true∧∀(nx:Nat) (h:List (Nat × Blk)) (p:Nat→Bool),(∀id,id<σ.next→¬S id→look h id=look σ.bl id)→aopL E o e ⟨nx,hideB σ.next n p h⟩=some v
structure RegOk (E:List (Nat × Blk)) (σ:H) (n:Nat) (S:Nat→Prop) (nx:Nat) (ss:List (List (Nat × Blk))) (am:Nat) (ls:List (Nat × AOp × Env × V)) (σc:H):Prop where
 hd:nx=σc.next∧∃r,ss=σc.bl::r
 big:σ.next+n≤nx
 fr:Fr S σ σc
 old:∀h∈ss,∀id,id<σ.next→¬S id→look h id=look σ.bl id
 gap:∀h∈ss,∀i,i<n→am.testBit i=false→look h (σ.next+i)=none
 ld:∀x∈ls,OldLd E σ n S x.2.1 x.2.2.1 x.2.2.2
def Goes (E:List (Nat × Blk)) (D:Den) (σ:H) (n i:Nat) (S:Nat→Prop) (ops:List AOper) (pl:List DP) (s:DS) (env:Env) (σ':H):Prop:=∃s',dsteps E D σ.next n i ops pl s=some s'∧s'.e=env∧RegOk E σ n S s'.nx s'.ss s'.am s'.ls σ'
section
variable {E:List (Nat × Blk)} {D:Den} {σ σc σ':H} {n i:Nat} {S:Nat→Prop} {d:Option Nat} {o:AOp} {l:List AOper} {anc:Nat} {lk:List Nat} {pl:List DP} {e env:Env} {nx am:Nat} {ss:List (List (Nat × Blk))} {ks:List Nat} {ls:List (Nat × AOp × Env × V)}
theorem go_nil (hr:RegOk E σ n S nx ss am ls σc):Goes E D σ n i S [] pl ⟨e,nx,ss,ks,am,ls⟩ e σc:=⟨_,dsteps_nil,rfl,hr⟩
theorem go_p (v:V) (hc:o.cls = .p) (hv:aopP o (restr lk e)=some v) (k:Goes E D σ n (i+1) S l pl ⟨putE e d v,nx,ss,ks,am,ls⟩ env σ'):Goes E D σ n i S (⟨d,o,none⟩::l) (⟨anc,lk⟩::pl) ⟨e,nx,ss,ks,am,ls⟩ env σ':=by
 obtain⟨s',h1,h2,h3⟩:=k
 exact⟨s',(dp v hc hv).trans h1,h2,h3⟩
theorem go_l (v:V) (hr:RegOk E σ n S nx ss am ls σc) (hc:o.cls = .l) (hv:OldLd E σ n S o (restr lk e) v) (k:∀ls',RegOk E σ n S nx ss am ls' σc→Goes E D σ n (i+1) S l pl ⟨putE e d v,nx,ss,ks,am,ls'⟩ env σ') :
  Goes E D σ n i S (⟨d,o,none⟩::l) (⟨anc,lk⟩::pl) ⟨e,nx,ss,ks,am,ls⟩ env σ':=by
 obtain⟨⟨hn,r,rfl⟩,h2,h3,h4,h5,h6⟩:=hr
 obtain⟨s',k1,k2,k3⟩:=k ((i,o,restr lk e,v)::ls) ⟨⟨hn,r,rfl⟩,h2,h3,h4,h5,fun x hx=>by
  rcases List.mem_cons.1 hx with rfl|hx
  ·exact hv
  ·exact h6 x hx⟩
 exact⟨s',(dl v hc (hv.2 nx σc.bl _ (h4 _ List.mem_cons_self))).trans k1,k2,k3⟩
theorem go_a (v:V) (b:Blk) (am':Nat) (hr:RegOk E σ n S nx ss am ls σc) (hc:o.cls = .a) (hi:i<n) (ham:am ||| 2 ^ i=am') (hv:aopA o (restr lk e) (σ.next+i)=some (v,b))
  (k:∀ss',RegOk E σ n S nx ss' am' ls ⟨σc.next,(σ.next+i,b)::σc.bl⟩→Goes E D σ n (i+1) S l pl ⟨putE e d v,nx,ss',ks,am',ls⟩ env σ') :
  Goes E D σ n i S (⟨d,o,none⟩::l) (⟨anc,lk⟩::pl) ⟨e,nx,ss,ks,am,ls⟩ env σ':=by
 obtain⟨⟨hn,r,rfl⟩,h2,h3,h4,h5,h6⟩:=hr
 subst ham
 suffices hr':RegOk E σ n S nx ((σc.bl::r).map ((σ.next+i,b)::·)) (am ||| 2 ^ i) ls ⟨σc.next,(σ.next+i,b)::σc.bl⟩by
  obtain⟨s',k1,k2,k3⟩:=k _ hr'
  exact⟨s',(da v b (σ.next+i) _ hc rfl rfl hv).trans k1,k2,k3⟩
 refine⟨⟨hn,_,rfl⟩,h2,⟨fun c hc=>?_,h3.le,fun c hc hS=>?_⟩,fun h hh id hid hS=>?_,fun h hh j hj hb=>?_,h6⟩
 ·have hc:σc.next≤c:=hc
  show lookF ((σ.next+i,b)::σc.bl) c=none
  rw[lookF_cons,if_neg (by simp only[];omega)];exact h3.tidy c hc
 ·show lookF ((σ.next+i,b)::σc.bl) c=_
  rw[lookF_cons,if_neg (by simp only[];omega)];exact h3.same c hc hS
 ·obtain⟨h',hh',rfl⟩:=List.mem_map.1 hh
  rw[look_cons_ne (by omega)];exact h4 _ hh' id hid hS
 ·obtain⟨h',hh',rfl⟩:=List.mem_map.1 hh
  rw[Nat.testBit_or,Bool.or_eq_false_iff]at hb
  have hne:i≠j:=fun he=>by
   subst he
   have:=hb.2
   rw[Nat.testBit_two_pow_self]at this
   cases this
  rw[look_cons_ne (by omega)];exact h5 _ hh' j hj hb.1
theorem go_k (v:V) {σ2:H} (hr:RegOk E σ n S nx ss am ls σc) (hc:o.cls = .k) (hva:∀j,j<n→am.testBit j=true→anc.testBit j=true) {S':Nat→Prop} (hf:Fr S' σc σ2) (hS:∀b,b<σ.next→S' b→S b) (hg:∀b,S' b→σ.next≤b→b<σ.next+n→False) (hv:den1 E D o (restr lk e) σc=some (v,σ2))
  (k:∀nx' ss' ks',RegOk E σ n S nx' ss' am ls σ2→Goes E D σ n (i+1) S l pl ⟨putE e d v,nx',ss',ks',am,ls⟩ env σ') :
  Goes E D σ n i S (⟨d,o,none⟩::l) (⟨anc,lk⟩::pl) ⟨e,nx,ss,ks,am,ls⟩ env σ':=by
 obtain⟨⟨hn,r,rfl⟩,h2,h3,h4,h5,h6⟩:=hr
 subst hn
 have le:=hf.le
 have f02:Fr S σ σ2:=h3.trans hf hS
 suffices hr':RegOk E σ n S σ2.next (σ2.bl::σc.bl::r) am ls σ2 by
  obtain⟨s',k1,k2,k3⟩:=k σ2.next (σ2.bl::σc.bl::r) (i::ks) hr'
  refine⟨s',(dk v σ2.next σ2.bl hc (hide_keep fun j hj hp=>?_) hv).trans k1,k2,k3⟩
  refine h5 _ List.mem_cons_self j hj ?_
  cases ha:am.testBit j with
  | false=>rfl
  | true=>
   exfalso
   unfold visK at hp
   rw[ha,hva j hj ha]at hp
   cases hp
 refine⟨⟨rfl,_,rfl⟩,by omega,f02,fun h hh id hid hS=>?_,fun h hh j hj hb=>?_,h6⟩
 ·rcases List.mem_cons.1 hh with rfl|hh
  ·rw[←lookF_eq,←lookF_eq];exact f02.same id hid hS
  ·exact h4 _ hh id hid hS
 ·rcases List.mem_cons.1 hh with rfl|hh
  ·have:=hf.same (σ.next+j) (by omega) (fun hs=>hg _ hs (by omega) (by omega))
   rw[←lookF_eq,this,lookF_eq]
   exact h5 _ List.mem_cons_self j hj hb
  ·exact h5 _ hh j hj hb
theorem go_start (ht:Tidy σ):RegOk E σ n S (σ.next+n) [σ.bl] 0 [] ⟨σ.next+n,σ.bl⟩:=
  ⟨⟨rfl,[],rfl⟩,Nat.le_refl _,⟨ht.wide n,Nat.le_add_right _ _,fun _ _ _=>rfl⟩,fun h hh id hid _=>by rw[List.mem_singleton.1 hh],fun h hh i hi _=>by
    rw[List.mem_singleton.1 hh];exact ht.gap n _ (by omega) (by omega),fun x hx=>by cases hx⟩
theorem check_all {op:AOp} {em:Env} {v:V} {j:Nat} (hv:OldLd E σ n S op em v):∀(ss:List (List (Nat × Blk))) (ks more:List Nat),(∀h∈ss,∀id,id<σ.next→¬S id→look h id=look σ.bl id)→checkL E σ.next n pl am j op em v ss ks more=true
 | [],_,_,_=>by unfold checkL;rfl
 | h::ss,ks,more,ho=>by
  unfold checkL
  rw[hv.2 0 h _ (ho h List.mem_cons_self)]
  simp only[hv.1,Bool.or_true,Bool.true_and]
  cases ks with
  | nil=>rfl
  | cons k ks=>exact check_all hv ss ks (k::more) fun h' hh=>ho h' (List.mem_cons_of_mem _ hh)
theorem go_draw {ops:List AOper} (h:Goes E D σ ops.length 0 S ops pl ⟨e,σ.next+ops.length,[σ.bl],[],0,[]⟩ env σ'):drawW E D ops pl e σ=some (env,σ')∧Fr S σ σ':=by
 obtain⟨s',h1,rfl,⟨hn,r,hs⟩,_,h3,h4,h5,h6⟩:=h
 refine⟨?_,h3⟩
 rw[drawW_of h1 (List.all_eq_true.2 fun x hx=>check_all (h6 x hx) _ _ _ h4) hs]
 have:=(hide_keep (n0:=σ.next) (n:=ops.length) (p:=fun k=>s'.am.testBit k) (l:=σ'.bl) fun i hi hp=>h5 _ (by rw[hs];exact List.mem_cons_self) i hi hp).1
 rw[this,hn]
theorem old_ld1 {x:AO} {em:Env} {b off:Nat} {c:List V} {v:V} (hx:opv em x = .ptr b off) (ha:Atc σ b c) (hv:c[off]? = some v) (ht:Tidy σ) (hS:¬S b) (hb:V.beq v v=true):OldLd E σ n S (.load none x) em v:=
  ⟨hb,fun nx h p ho=>load_of hx (by
    have lt:=ha.lt ht
    rw[look_hide_old lt,ho b lt hS,←lookF_eq];exact ha) hv⟩
theorem loadn_of {x:AO} {e:Env} {b off nx n:Nat} {h:List (Nat × Blk)} {c:List V} (hx:opv e x = .ptr b off) (hl:look h b=some (.cells c)) (hv:Nat.ble (off+n) c.length=true) :
  aopL E (.load (some n) x) e ⟨nx,h⟩=some (.agg ((c.drop off).take n)):=by
 unfold aopL
 simp only[hx,rdN,rd,hl]
 rw[if_pos hv]
theorem old_ldn {x:AO} {em:Env} {b off m:Nat} {c c':List V} (hx:opv em x = .ptr b off) (ha:Atc σ b c) (hv:Nat.ble (off+m) c.length=true) (hc:(c.drop off).take m=c') (ht:Tidy σ) (hS:¬S b) (hb:V.beq (.agg c') (.agg c')=true):OldLd E σ n S (.load (some m) x) em (.agg c'):=
  ⟨hb,fun nx h p ho=>by
    have lt:=ha.lt ht
    rw[←hc]
    exact loadn_of hx (by rw[look_hide_old lt,ho b lt hS,←lookF_eq];exact ha) hv⟩
theorem build1 {ty:TypeId} {x:AO} {em:Env} {id:Nat} {u:V} (hx:opv em x=u) (h:u.one=true):aopA (.buildSlice ty 1 [.nils] [(0,1,x)]) em id=some (.sl id 0 1 (.ex 1),.cells [u]):=by
 have h12:u.live=true∧u.cells=[u]:=by cases u<;>first | exact⟨rfl,rfl⟩ | cases h
 show (match fillA [(0,1,opv em x)] [V.nils]with
  | some l=>if allOne l then some (V.sl id 0 1 (.ex 1),Blk.cells l)else none
  | none=>none)=_
 rw[hx]
 unfold fillA
 rw[h12.1,h12.2]
 show (if(u.one&&true)=true then _ else none)=_
 rw[h];rfl
end
section
variable {E:List (Nat × Blk)} {D:Den} {σ:H}
theorem call_of {f:FuncId} {args:List AO} {e:Env} {vs:List V} {r:Ans} (hx:opvs e args=vs) (hl:vs.all V.live=true) (g:D f vs σ=r):den1 E D (.call f args) e σ=r:=by
 show (if(opvs e args).all V.live then D f (opvs e args) σ else none)=r
 rw[hx,hl];exact g
end
theorem getL_of {e:Env} {t:Nat} {v:V} {κ:V→Ans} (h:Go.Og.look e t=some v) (hl:v.live=true):getL e t κ=κ v:=by
 unfold getL
 rw[h]
 exact chk_true hl
theorem app_den {E:List (Nat × Blk)} {D:Den} {σ σ':H} {el esz bytes:Nat} {s x:AO} {e:Env} {v y u:V} (hs:opv e s=v) (hx:opv e x=y) (g:∀κ:V→H→Ans,appK E esz bytes v y σ κ=κ u σ'):den1 E D (.append el esz bytes s x) e σ=some (u,σ'):=by
 show appendV E esz bytes (opv e s) (opv e x) σ=_
 rw[hs,hx]
 obtain⟨w,σ1,h1,h2⟩:=appK_some (g fun v σ=>some (v,σ))
 rw[h1]
 exact h2
mutual
theorem beq_self:∀v:V,V.inn (fun _=>true) v=true→V.beq v v=true
 | .dead,h=>by simp[V.inn]at h
 | .ptr b o,_=>by simp[V.beq]
 | .sl b o n (.ex c),_=>by simp[V.beq]
 | .sl b o n (.op c),_=>by simp[V.beq]
 | .sle b o k e,_=>by simp[V.beq]
 | .mp b,_=>by simp[V.beq]
 | .bool b,_=>by simp[V.beq]
 | .int k n,_=>by simp[V.beq]
 | .str s,_=>by simp[V.beq]
 | .nilp,_=>rfl
 | .nils,_=>rfl
 | .nilm,_=>rfl
 | .nilf,_=>rfl
 | .nili,_=>rfl
 | .fn f a c,h=>by
  simp only[V.inn,Bool.and_eq_true]at h
  simp[V.beq,beqs_self a h.1,beqs_self c h.2]
 | .ifc t v,h=>by
  simp only[V.inn]at h
  simp[V.beq,beq_self v h]
 | .agg l,h=>by
  simp only[V.inn]at h
  simp[V.beq,beqs_self l h]
 | .tup l,h=>by
  simp only[V.inn]at h
  simp[V.beq,beqs_self l h]
theorem beqs_self:∀l:List V,inns (fun _=>true) l=true→beqs l l=true
 | [],_=>rfl
 | v::l,h=>by
  simp only[inns,Bool.and_eq_true]at h
  simp[beqs,beq_self v h.1,beqs_self l h.2]
end
end
end Go.Og
namespace Go.Og
noncomputable section
def GoesQ (Q:DS→Prop) (E:List (Nat × Blk)) (D:Den) (σ:H) (n i:Nat) (ops:List AOper) (pl:List DP) (s:DS):Prop:=∃s',dsteps E D σ.next n i ops pl s=some s'∧Q s'
section
variable {Q:DS→Prop} {E:List (Nat × Blk)} {D:Den} {σ σc σ':H} {n i:Nat} {S:Nat→Prop} {d:Option Nat} {o:AOp} {l:List AOper} {anc:Nat} {lk:List Nat} {pl:List DP} {e env:Env} {nx am:Nat} {ss:List (List (Nat × Blk))} {ks:List Nat} {ls:List (Nat × AOp × Env × V)}
theorem goq_p (v:V) (hc:o.cls = .p) (hv:aopP o (restr lk e)=some v) (k:GoesQ Q E D σ n (i+1) l pl ⟨putE e d v,nx,ss,ks,am,ls⟩):GoesQ Q E D σ n i (⟨d,o,none⟩::l) (⟨anc,lk⟩::pl) ⟨e,nx,ss,ks,am,ls⟩:=by
 obtain⟨s',h1,h2⟩:=k
 exact⟨s',(dp v hc hv).trans h1,h2⟩
theorem goq_l (v:V) (hr:RegOk E σ n S nx ss am ls σc) (hc:o.cls = .l) (hv:OldLd E σ n S o (restr lk e) v) (k:RegOk E σ n S nx ss am ((i,o,restr lk e,v)::ls) σc→GoesQ Q E D σ n (i+1) l pl ⟨putE e d v,nx,ss,ks,am,(i,o,restr lk e,v)::ls⟩) :
  GoesQ Q E D σ n i (⟨d,o,none⟩::l) (⟨anc,lk⟩::pl) ⟨e,nx,ss,ks,am,ls⟩:=by
 obtain⟨⟨hn,r,rfl⟩,h2,h3,h4,h5,h6⟩:=hr
 obtain⟨s',k1,k2⟩:=k ⟨⟨hn,r,rfl⟩,h2,h3,h4,h5,fun x hx=>by
  rcases List.mem_cons.1 hx with rfl|hx
  ·exact hv
  ·exact h6 x hx⟩
 exact⟨s',(dl v hc (hv.2 nx σc.bl _ (h4 _ List.mem_cons_self))).trans k1,k2⟩
theorem goq_a (v:V) (b:Blk) (am':Nat) (hr:RegOk E σ n S nx ss am ls σc) (hc:o.cls = .a) (hi:i<n) (ham:am ||| 2 ^ i=am') (hv:aopA o (restr lk e) (σ.next+i)=some (v,b))
  (k:∀ss',RegOk E σ n S nx ss' am' ls ⟨σc.next,(σ.next+i,b)::σc.bl⟩→GoesQ Q E D σ n (i+1) l pl ⟨putE e d v,nx,ss',ks,am',ls⟩) :
  GoesQ Q E D σ n i (⟨d,o,none⟩::l) (⟨anc,lk⟩::pl) ⟨e,nx,ss,ks,am,ls⟩:=by
 obtain⟨⟨hn,r,rfl⟩,h2,h3,h4,h5,h6⟩:=hr
 subst ham
 suffices hr':RegOk E σ n S nx ((σc.bl::r).map ((σ.next+i,b)::·)) (am ||| 2 ^ i) ls ⟨σc.next,(σ.next+i,b)::σc.bl⟩by
  obtain⟨s',k1,k2⟩:=k _ hr'
  exact⟨s',(da v b (σ.next+i) _ hc rfl rfl hv).trans k1,k2⟩
 refine⟨⟨hn,_,rfl⟩,h2,⟨fun c hc=>?_,h3.le,fun c hc hS=>?_⟩,fun h hh id hid hS=>?_,fun h hh j hj hb=>?_,h6⟩
 ·have hc:σc.next≤c:=hc
  show lookF ((σ.next+i,b)::σc.bl) c=none
  rw[lookF_cons,if_neg (by simp only[];omega)];exact h3.tidy c hc
 ·show lookF ((σ.next+i,b)::σc.bl) c=_
  rw[lookF_cons,if_neg (by simp only[];omega)];exact h3.same c hc hS
 ·obtain⟨h',hh',rfl⟩:=List.mem_map.1 hh
  rw[look_cons_ne (by omega)];exact h4 _ hh' id hid hS
 ·obtain⟨h',hh',rfl⟩:=List.mem_map.1 hh
  rw[Nat.testBit_or,Bool.or_eq_false_iff]at hb
  have hne:i≠j:=fun he=>by
   subst he
   have:=hb.2
   rw[Nat.testBit_two_pow_self]at this
   cases this
  rw[look_cons_ne (by omega)];exact h5 _ hh' j hj hb.1
theorem goq_k (v:V) {σ2:H} (hr:RegOk E σ n S nx ss am ls σc) (hc:o.cls = .k) (hva:∀j,j<n→am.testBit j=true→anc.testBit j=true) {S':Nat→Prop} (hf:Fr S' σc σ2) (hS:∀b,b<σ.next→S' b→S b) (hg:∀b,S' b→σ.next≤b→b<σ.next+n→False) (hv:den1 E D o (restr lk e) σc=some (v,σ2))
  (k:∀nx' ss',RegOk E σ n S nx' ss' am ls σ2→GoesQ Q E D σ n (i+1) l pl ⟨putE e d v,nx',ss',i::ks,am,ls⟩) :
  GoesQ Q E D σ n i (⟨d,o,none⟩::l) (⟨anc,lk⟩::pl) ⟨e,nx,ss,ks,am,ls⟩:=by
 obtain⟨⟨hn,r,rfl⟩,h2,h3,h4,h5,h6⟩:=hr
 subst hn
 have le:=hf.le
 have f02:Fr S σ σ2:=h3.trans hf hS
 suffices hr':RegOk E σ n S σ2.next (σ2.bl::σc.bl::r) am ls σ2 by
  obtain⟨s',k1,k2⟩:=k σ2.next (σ2.bl::σc.bl::r) hr'
  refine⟨s',(dk v σ2.next σ2.bl hc (hide_keep fun j hj hp=>?_) hv).trans k1,k2⟩
  refine h5 _ List.mem_cons_self j hj ?_
  cases ha:am.testBit j with
  | false=>rfl
  | true=>
   exfalso
   unfold visK at hp
   rw[ha,hva j hj ha]at hp
   cases hp
 refine⟨⟨rfl,_,rfl⟩,by omega,f02,fun h hh id hid hS=>?_,fun h hh j hj hb=>?_,h6⟩
 ·rcases List.mem_cons.1 hh with rfl|hh
  ·rw[←lookF_eq,←lookF_eq];exact f02.same id hid hS
  ·exact h4 _ hh id hid hS
 ·rcases List.mem_cons.1 hh with rfl|hh
  ·have:=hf.same (σ.next+j) (by omega) (fun hs=>hg _ hs (by omega) (by omega))
   rw[←lookF_eq,this,lookF_eq]
   exact h5 _ List.mem_cons_self j hj hb
  ·exact h5 _ hh j hj hb
def EndSt (E:List (Nat × Blk)) (σ:H) (n:Nat) (pl:List DP) (env:Env) (σ':H) (s:DS):Prop:=
 s.e=env∧s.nx=σ'.next∧(∃r,s.ss=σ'.bl::r)∧s.ls.all (fun(j,op,em,v)=>checkL E σ.next n pl s.am j op em v s.ss s.ks [])=true∧∀i,i<n→s.am.testBit i=false→look σ'.bl (σ.next+i)=none
theorem goq_end {pl0:List DP} {S2:Nat→Prop} {σ2:H} (v:V) (hr:RegOk E σ n S nx ss am ls σc) (hc:o.cls = .k) (hva:∀j,j<n→am.testBit j=true→anc.testBit j=true) (hf:Fr S2 σc σ2) (hg:∀b,S2 b→σ.next≤b→b<σ.next+n→False)
  (hv:den1 E D o (restr lk e) σc=some (v,σ2)) (hl:∀x∈ls,legal pl0 x.1 (i::ks) []=false):GoesQ (EndSt E σ n pl0 (putE e d v) σ2) E D σ n i [⟨d,o,none⟩] [⟨anc,lk⟩] ⟨e,nx,ss,ks,am,ls⟩:=by
 obtain⟨⟨hn,r,rfl⟩,h2,h3,h4,h5,h6⟩:=hr
 subst hn
 refine⟨_,(dk v σ2.next σ2.bl hc (hide_keep fun j hj hp=>?_) hv).trans dsteps_nil,rfl,rfl,⟨_,rfl⟩,?_,fun j hj hb=>?_⟩
 ·refine h5 _ List.mem_cons_self j hj ?_
  cases ha:am.testBit j with
  | false=>rfl
  | true=>
   exfalso
   unfold visK at hp
   rw[ha,hva j hj ha]at hp
   cases hp
 ·refine List.all_eq_true.2 fun x hx=>?_
  show checkL E σ.next n pl0 am x.1 x.2.1 x.2.2.1 x.2.2.2 (σ2.bl::σc.bl::r) (i::ks) []=true
  rw[check_skip (hl x hx)]
  exact check_all (h6 x hx) _ _ _ h4
 ·have:=hf.same (σ.next+j) (by omega) (fun hs=>hg _ hs (by omega) (by omega))
  rw[←lookF_eq,this,lookF_eq]
  exact h5 _ List.mem_cons_self j hj hb
theorem goq_draw {ops:List AOper} (h:GoesQ (EndSt E σ ops.length pl env σ') E D σ ops.length 0 ops pl ⟨e,σ.next+ops.length,[σ.bl],[],0,[]⟩):drawW E D ops pl e σ=some (env,σ'):=by
 obtain⟨s',h1,rfl,hn,⟨r,hs⟩,hc,hg⟩:=h
 rw[drawW_of h1 hc hs]
 have:=(hide_keep (n0:=σ.next) (n:=ops.length) (p:=fun k=>s'.am.testBit k) (l:=σ'.bl) fun i hi hp=>hg i hi hp).1
 rw[this,hn]
end
end
end Go.Og
namespace Go.Og
noncomputable section
theorem st_den {E:List (Nat × Blk)} {D:Den} {σ:H} {b off n:Nat} {l cs:List V} {x y:AO} {e:Env} (ht:Tidy σ) (h:Atc σ b l) (hx:opv e x = .ptr b off) (hy:(opv e y).cells=cs) (hc:(Nat.beq cs.length n&&Nat.ble (off+n) l.length&&allOne cs)=true) :
  ∃σ',den1 E D (.store n x y) e σ=some (.dead,σ')∧Fr (fun k=>k=b) σ σ'∧Atc σ' b (spl l off cs):=by
 have hl:look σ.bl b=some (.cells l):=by rw[←lookF_eq];exact h
 refine⟨σ.set b (.cells (spl l off cs)),?_,⟨fun k hk=>?_,Nat.le_refl _,fun k hk hn=>?_⟩,?_⟩
 ·show (match opv e x with
   | .ptr b off=>match look σ.bl b with
    | some (.cells l)=>if(Nat.beq (opv e y).cells.length n&&Nat.ble (off+n) l.length&&allOne (opv e y).cells)=true then some (V.dead,σ.set b (.cells (spl l off (opv e y).cells)))else none
    | _=>none
   | _=>none)=_
  rw[hx]
  simp only[hl]
  rw[hy,if_pos hc]
 ·have hk:σ.next≤k:=hk
  have:=h.lt ht
  show lookF (repl σ.bl b _) k=none
  rw[lookF_eq,look_repl,if_neg (by omega),←lookF_eq]
  exact ht k hk
 ·show lookF (repl σ.bl b _) k=_
  rw[lookF_eq,look_repl,if_neg (fun e=>hn e.symm),lookF_eq]
 ·show lookF (repl σ.bl b _) b=_
  rw[lookF_eq,look_repl,if_pos rfl,hl];rfl
end
noncomputable section
section
variable {E:List (Nat × Blk)} {D:Den} {σ σc σ':H} {n i:Nat} {S:Nat→Prop} {d:Option Nat} {o:AOp} {g:Option (Nat × Bool)} {l:List AOper} {anc:Nat} {lk:List Nat} {pl:List DP} {e env:Env} {nx am:Nat} {ss:List (List (Nat × Blk))} {ks:List Nat} {ls:List (Nat × AOp × Env × V)}
end
end
end Go.Og
namespace Go.Og
noncomputable section
section
variable {E:List (Nat × Blk)} {D:Den} {σ σc σ':H} {n i:Nat} {S:Nat→Prop} {d:Option Nat} {o:AOp} {l:List AOper} {anc:Nat} {lk:List Nat} {pl:List DP} {e env:Env} {nx am:Nat} {ss:List (List (Nat × Blk))} {ks:List Nat} {ls:List (Nat × AOp × Env × V)}
end
end
end Go.Og
namespace Go.Og
noncomputable section
end
noncomputable section
def byteAt (v:Int) (j:Nat):Int:=(v / 2 ^ (8*j)) % 256
def octBE (v:Int):Nat→List Int
 | 0=>[]
 | n+1=>byteAt v n::octBE v n
theorem octBE_length (v:Int):∀n,(octBE v n).length=n
 | 0=>rfl
 | n+1=>by simp[octBE,octBE_length v n]
theorem octBE_get (v:Int):∀{n i:Nat},i<n→(octBE v n)[i]? = some (byteAt v (n-1-i))
 | n+1,0,_=>rfl
 | n+1,i+1,h=>by
  have:=octBE_get v (n:=n) (i:=i) (by omega)
  simp only[octBE,List.getElem?_cons_succ,this]
  congr 2;omega
def enough (v:Int) (n:Nat):Bool:=decide (v / 2 ^ (8*n-1)=0) || decide (v / 2 ^ (8*n-1) = -1)
def lenS (v:Int):Nat:=if enough v 1=true then 1 else if enough v 2=true then 2 else if enough v 3=true then 3 else if enough v 4=true then 4 else if enough v 5=true then 5 else if enough v 6=true then 6 else if enough v 7=true then 7 else 8
theorem lenS_range (v:Int):1≤lenS v∧lenS v≤8:=by
 unfold lenS
 repeat' split
 all_goals omega
theorem lenS_less (v:Int) {n:Nat} (h1:1≤n) (h2:n<lenS v):enough v n=false:=by
  unfold lenS at h2
  repeat' split at h2
  all_goals first
    | omega
    | (have:n=1∨n=2∨n=3∨n=4∨n=5∨n=6∨n=7:=by omega
       rcases this with rfl|rfl|rfl|rfl|rfl|rfl|rfl<;>first|omega|simp_all)
theorem lenS_at (v:Int) (h:lenS v<8):enough v (lenS v)=true:=by
 unfold lenS at h ⊢
 repeat' split
 all_goals first | assumption | (exfalso;simp_all)
def In64i (v:Int):Prop:=-9223372036854775808≤v∧v≤9223372036854775807
theorem lenS_enough {v:Int} (hv:In64i v):enough v (lenS v)=true:=by
 have hr:=lenS_range v
 rcases Nat.lt_or_ge (lenS v) 8 with h|h
 ·exact lenS_at v h
 ·have e:lenS v=8:=by omega
  rw[e]
  unfold enough
  simp only[show (2:Int) ^ (8*8-1)=9223372036854775808 from rfl,Bool.or_eq_true,decide_eq_true_eq]
  obtain⟨h1,h2⟩:=hv
  omega
theorem fdiv_pow (a:Int) (n:Nat):a.fdiv (2 ^ n)=a / 2 ^ n:=Int.fdiv_eq_ediv_of_nonneg _ (Int.le_of_lt (Int.pow_pos (by decide)))
theorem shr_i64 (v:Int) {n:Nat} (h:n≤64):shrF .i64 v n=v / 2 ^ n:=by
 rw[shrF_eq,show Nat.min n (IntKind.bits .i64)=n from Nat.min_eq_left h,fdiv_pow]
theorem shr_u64 (v:Int) {n:Nat} (h:n≤64):shrF .u64 v n=v / 2 ^ n:=by
 rw[shrF_eq,show Nat.min n (IntKind.bits .u64)=n from Nat.min_eq_left h,fdiv_pow]
theorem wrap_u8 (v:Int):wrapF .u8 v=v % 256:=by rw[wrapF_eq];rfl
theorem wrap_u64 (v:Int):wrapF .u64 v=v % 18446744073709551616:=by rw[wrapF_eq];rfl
theorem byte_u64 (v:Int) {j:Nat} (h:j<8):wrapF .u8 (shrF .u64 (wrapF .u64 v) (8*j))=byteAt v j:=by
 rw[shr_u64 _ (by omega),wrap_u8,wrap_u64]
 unfold byteAt
 have:j=0∨j=1∨j=2∨j=3∨j=4∨j=5∨j=6∨j=7:=by omega
 rcases this with rfl|rfl|rfl|rfl|rfl|rfl|rfl|rfl
 ·simp only[show (2:Int) ^ (8*0)=1 from rfl];omega
 ·simp only[show (2:Int) ^ (8*1)=256 from rfl];omega
 ·simp only[show (2:Int) ^ (8*2)=65536 from rfl];omega
 ·simp only[show (2:Int) ^ (8*3)=16777216 from rfl];omega
 ·simp only[show (2:Int) ^ (8*4)=4294967296 from rfl];omega
 ·simp only[show (2:Int) ^ (8*5)=1099511627776 from rfl];omega
 ·simp only[show (2:Int) ^ (8*6)=281474976710656 from rfl];omega
 ·simp only[show (2:Int) ^ (8*7)=72057594037927936 from rfl];omega
theorem spl_at:∀(a:List V) (x:V) (r:List V) (c:V),spl (a++x::r) a.length [c]=a++c::r
 | [],x,r,c=>by cases r<;>simp[spl]
 | y::a,x,r,c=>by
  show y::spl (a++x::r) a.length [c]=_
  rw[spl_at a x r c];rfl
def u8s (l:List Int):List V:=l.map fun c => .int .u8 c
theorem u8s_length (l:List Int):(u8s l).length=l.length:=by simp[u8s]
theorem u8s_app (l m:List Int):u8s (l++m)=u8s l++u8s m:=by simp[u8s]
theorem u8s_one:∀l:List Int,allOne (u8s l)=true
 | []=>rfl
 | c::l=>u8s_one l
theorem u8s_bytes:∀l:List Int,bytesOf (u8s l)=some (l.map fun c=>UInt8.ofNat c.toNat)
 | []=>rfl
 | c::l=>by
  show (bytesOf (u8s l)).map _=_
  rw[u8s_bytes l];rfl
def By (σ:H) (v:V) (l:List Int):Prop:=Src σ 1 l.length v (u8s l)
def Nb (σ0 σ:H) (v:V) (l:List Int):Prop:=Dst σ 1 l.length v (u8s l)∧∀b,Names v b→σ0.next≤b
theorem Nb.by_ {σ0 σ:H} {v:V} {l:List Int} (h:Nb σ0 σ v l):By σ v l:=h.1.src
theorem By.one {σ:H} {v:V} {l:List Int} (h:By σ v l):v.one=true:=Src.one h
theorem By.slen {σ:H} {v:V} {l:List Int} (h:By σ v l) (κ:Nat→Ans):slenK v κ=κ l.length:=Src.slen h
theorem By.fr {σ σ':H} {v:V} {l:List Int} (h:By σ v l) (f:Fr Nowhere σ σ') (ht:Tidy σ):By σ' v l:=Src.fr h f ht (fun _ _ h=>h)
theorem Nb.fr {σ0 σ σ':H} {v:V} {l:List Int} (h:Nb σ0 σ v l) (f:Fr Nowhere σ σ') (ht:Tidy σ):Nb σ0 σ' v l:=⟨h.1.fr f ht (fun _ _ h=>h),h.2⟩
theorem Nb.mono {σ0 σ1 σ:H} {v:V} {l:List Int} (h:Nb σ1 σ v l) (hl:σ0.next≤σ1.next):Nb σ0 σ v l:=⟨h.1,fun b hb=>Nat.le_trans hl (h.2 b hb)⟩
theorem Nb.nil (σ0 σ:H):Nb σ0 σ .nils []:=⟨Dst.nil σ 1,fun _ h=>h.elim⟩
theorem Nb.lit {σ0 σ:H} {b:Nat} {l:List Int} (ha:Atc σ b (u8s l)) (hb:σ0.next≤b):Nb σ0 σ (.sl b 0 l.length (.ex l.length)) l:=
 ⟨.inr ⟨b,rfl,ha,by rw[u8s_length,Nat.mul_one]⟩,fun c hc=>by cases hc;exact hb⟩
theorem By.str {E:List (Nat × Blk)} {σ:H} {v:V} {l:List Int} (h:By σ v l) (κ:BS→Ans):toStrK E σ v κ=κ (BS.ofList (l.map fun c=>UInt8.ofNat c.toNat)):=by
 have hs:∀κ',srcK E σ 1 v κ'=κ' l.length (u8s l):=fun κ'=>Src.srcK h
 unfold toStrK
 rcases h with ⟨_,rfl,_⟩|⟨_,_,_,_,rfl,_⟩
 ·simp only[];rw[hs,u8s_bytes]
 ·simp only[];rw[hs,u8s_bytes]
theorem app_by {E:List (Nat × Blk)} {σ0 σ:H} {v x:V} {l m:List Int} (h:Nb σ0 σ v l) (f0:Fr Nowhere σ0 σ) (hx:By σ x m) (hs:l.length+m.length≤10000000) :
  ∃u σ',(∀κ:V→H→Ans,appK E 1 1 v x σ κ=κ u σ')∧Nb σ0 σ' u (l++m)∧Fr Nowhere σ0 σ'∧Fr (fun b=>σ0.next≤b) σ σ':=by
 obtain⟨u,σ',g,d,n,f⟩:=app_all (E:=E) (bytes:=1) h.1 f0.tidy hx (u8s_one m) (by
  unfold growable
  simp only[Nat.mul_one,Bool.and_eq_true,Nat.ble_eq];omega)
 have hle:=f0.le
 refine⟨u,σ',g,⟨by rw[List.length_append,u8s_app];exact d,fun b hb=>?_⟩,f0.trans f (fun b hb hn=>by have:=h.2 b hn;omega),f.mono fun b _ hb=>h.2 b hb⟩
 rcases n b hb with h'|h'
 ·exact h.2 b h'
 ·omega
theorem one_live {v:V} (h:v.one=true):v.live=true∧v.cells=[v]:=by
 cases v<;>first | exact⟨rfl,rfl⟩ | cases h
theorem fill1 {u:V} (h:u.one=true) (κ:List V→Ans):fillK [(0,1,u)] [.nils] κ=κ [u]:=by
 obtain⟨h1,h2⟩:=one_live h
 unfold fillK fillA
 rw[h1,h2]
 rfl
end
noncomputable section
def bitsOf:Nat→Nat→List Nat
 | 0,_=>[]
 | n+1,v=>(v / 2 ^ n) % 2::bitsOf n v
theorem bitsOf_length:∀n v,(bitsOf n v).length=n
 | 0,_=>rfl
 | n+1,v=>by simp[bitsOf,bitsOf_length n v]
theorem bitsOf_bin:∀n v,∀b∈bitsOf n v,b<2
 | 0,_,b,h=>by cases h
 | n+1,v,b,h=>by
  rcases List.mem_cons.1 h with rfl|h
  ·exact Nat.mod_lt _ (by decide)
  ·exact bitsOf_bin n v b h
def bit (L:List Nat) (i:Nat):Nat:=L.getD i 0
def packB (L:List Nat) (j:Nat):Nat:=128*bit L (8*j)+64*bit L (8*j+1)+32*bit L (8*j+2)+16*bit L (8*j+3)+8*bit L (8*j+4)+4*bit L (8*j+5)+2*bit L (8*j+6)+bit L (8*j+7)
def packN (n:Nat):Nat:=(n+7) / 8
def pack (L:List Nat):List Nat:=(List.range (packN L.length)).map (packB L)
def Bin (L:List Nat):Prop:=∀b∈L,b<2
theorem bit_lt {L:List Nat} (h:Bin L) (i:Nat):bit L i<2:=by
 unfold bit
 by_cases hi:i<L.length
 ·rw[List.getD_eq_getElem?_getD,List.getElem?_eq_getElem hi];exact h _ (List.getElem_mem hi)
 ·rw[List.getD_eq_getElem?_getD,List.getElem?_eq_none (by omega)];decide
theorem pack_length (L:List Nat):(pack L).length=packN L.length:=by simp[pack]
end
noncomputable section
theorem ofInt_nat (n a:Nat):(BitVec.ofInt n (Int.ofNat a)).toNat=a % 2 ^ n:=by
 rw[show Int.ofNat a=((a:Nat):Int)from rfl,BitVec.ofInt_natCast,BitVec.toNat_ofNat]
theorem wrapK_nat {k:IntKind} {m:Nat} (h:m≤maxN k):k.wrap (Int.ofNat m)=Int.ofNat m:=by
 rw[←wrapF_eq];exact wrapF_nat h
theorem maxN_u8:maxN .u8=255:=rfl
theorem maxN_u32:maxN .u32=4294967295:=rfl
theorem maxN_u64:maxN .u64=18446744073709551615:=rfl
theorem maxN_i64:maxN .i64=9223372036854775807:=rfl
theorem and1_u32 {a:Nat} (h:a≤4294967295):andF .u32 (Int.ofNat a) (Int.ofNat 1)=Int.ofNat (a % 2):=by
 rw[andF_eq,BitVec.toNat_and,ofInt_nat,ofInt_nat,show IntKind.bits .u32=32 from rfl,Nat.mod_eq_of_lt (show a<2 ^ 32 by omega),show 1 % 2 ^ 32=1 from rfl,Nat.and_one_is_mod]
 exact wrapK_nat (by rw[maxN_u32];omega)
theorem and1_u64 {a:Nat} (h:a≤18446744073709551615):andF .u64 (Int.ofNat a) (Int.ofNat 1)=Int.ofNat (a % 2):=by
 rw[andF_eq,BitVec.toNat_and,ofInt_nat,ofInt_nat,show IntKind.bits .u64=64 from rfl,Nat.mod_eq_of_lt (show a<2 ^ 64 by omega),show 1 % 2 ^ 64=1 from rfl,Nat.and_one_is_mod]
 exact wrapK_nat (by rw[maxN_u64];omega)
theorem shr_nat {k:IntKind} {a n:Nat} (h:n≤k.bits):shrF k (Int.ofNat a) n=Int.ofNat (a / 2 ^ n):=by
 rw[shrF_eq,show Nat.min n k.bits=n from Nat.min_eq_left h,fdiv_pow]
 rw[show Int.ofNat a=((a:Nat):Int)from rfl,show Int.ofNat (a / 2 ^ n)=((a / 2 ^ n:Nat):Int)from rfl,Int.natCast_ediv,Int.natCast_pow];rfl
theorem or_low {a b n:Nat} (hb:b<2 ^ n):(a*2 ^ n) ||| b=a*2 ^ n+b:=by
 rw[Nat.mul_comm,←Nat.two_pow_add_eq_or_of_lt hb]
def nI (L:List Nat):List Int:=L.map Int.ofNat
theorem nI_length (L:List Nat):(nI L).length=L.length:=by simp[nI]
theorem nI_app (L M:List Nat):nI (L++M)=nI L++nI M:=by simp[nI]
def bitsO:List Nat→List Nat
 | []=>[]
 | c::l=>bitsOf 8 c++bitsO l
end
end Go.Og
set_option maxHeartbeats 0
namespace Go.Proofs.YtgjjnbddbbhloaaGreatDoor
open Go Go.Og
noncomputable section
def eAw:Few:=⟨100,[],
 [],
 .bool true,521,
 []⟩
theorem eAw_right:eAw.right 2 ((DT [] 100000 60) 11)=true:=by kernel_rfl
theorem eAw_shape:eAw.shape=true:=by kernel_rfl
def kn:List (Nat × List Few):=[(11,[eAw])]
def TW (E:List (Nat × Blk)) (d:Nat):Den:=Nat.rec (fun _ _ _=>none) (fun _ ih f=>match lookF kn f with
 | some l=>locF l (BD E 600000 ih f)
 | none=>BD E 600000 ih f) d
theorem kn_right:∀p∈kn,∀e∈p.2,e.right 2 (DT [] 100000 60 p.1)=true:=by
 unfold kn
 simp only[List.forall_mem_cons,List.not_mem_nil,false_implies,implies_true,and_true]
 exact eAw_right
theorem TW_ok (E:List (Nat × Blk)):∀(d:Nat) (f:FuncId),SoundFn Tryz.prog E glob f (TW E d f):=by
 intro d
 induction d with
 | zero=>intro f C _ _ R σ w args xs v σ' h;cases h
 | succ d ih=>
  intro f
  show SoundFn Tryz.prog E glob f (match lookF kn f with
   | some l=>locF l (BD E 600000 (TW E d) f)
   | none=>BD E 600000 (TW E d) f)
  split
  ·rename_i l hl
   rw[lookF_eq]at hl
   exact locF_ok (BD_ok E 600000 (TW E d) ih f) (DT_ok [] 100000 60 f) globLt (kn_right _ (look_mem hl))
  ·exact BD_ok E 600000 (TW E d) ih f
abbrev tw (E:List (Nat × Blk)) (d:Nat) (F:List (Nat × Blk)→Den→DrawFn→Nat→List V→H→Ans):List V→H→Ans:=F E (TW E d) (drawW E (TW E d)) 600000
section
variable (E:List (Nat × Blk)) (d:Nat)
theorem DE12:TW E (d+1) 12=tw E d F12:=by kernel_rfl
theorem DE13:TW E (d+1) 13=tw E d F13:=by kernel_rfl
theorem DE14:TW E (d+1) 14=tw E d F14:=by kernel_rfl
theorem DE15:TW E (d+1) 15=tw E d F15:=by kernel_rfl
theorem DE16:TW E (d+1) 16=tw E d F16:=by kernel_rfl
theorem DE20:TW E (d+1) 20=tw E d F20:=by kernel_rfl
theorem DE22:TW E (d+1) 22=tw E d F22:=by kernel_rfl
theorem DE23:TW E (d+1) 23=tw E d F23:=by kernel_rfl
theorem DE24:TW E (d+1) 24=tw E d F24:=by kernel_rfl
theorem DE25:TW E (d+1) 25=tw E d F25:=by kernel_rfl
theorem DE26:TW E (d+1) 26=tw E d F26:=by kernel_rfl
theorem DE27:TW E (d+1) 27=tw E d F27:=by kernel_rfl
theorem DE28:TW E (d+1) 28=tw E d F28:=by kernel_rfl
theorem DE29:TW E (d+1) 29=tw E d F29:=by kernel_rfl
theorem DE34:TW E (d+1) 34=tw E d F34:=by kernel_rfl
theorem DE35:TW E (d+1) 35=tw E d F35:=by kernel_rfl
theorem DE36:TW E (d+1) 36=tw E d F36:=by kernel_rfl
theorem DE37:TW E (d+1) 37=tw E d F37:=by kernel_rfl
theorem DE38:TW E (d+1) 38=tw E d F38:=by kernel_rfl
theorem DE39:TW E (d+1) 39=tw E d F39:=by kernel_rfl
theorem DE40:TW E (d+1) 40=tw E d F40:=by kernel_rfl
theorem DE41:TW E (d+1) 41=tw E d F41:=by kernel_rfl
theorem DE45:TW E (d+1) 45=tw E d F45:=by kernel_rfl
theorem DE56:TW E (d+1) 56=tw E d F56:=by kernel_rfl
theorem DE57:TW E (d+1) 57=tw E d F57:=by kernel_rfl
theorem DE58:TW E (d+1) 58=tw E d F58:=by kernel_rfl
theorem DE59:TW E (d+1) 59=tw E d F59:=by kernel_rfl
theorem DE60:TW E (d+1) 60=tw E d F60:=by kernel_rfl
theorem DE62:TW E (d+1) 62=tw E d F62:=by kernel_rfl
theorem DE63:TW E (d+1) 63=tw E d F63:=by kernel_rfl
theorem DE64:TW E (d+1) 64=tw E d F64:=by kernel_rfl
theorem DE65:TW E (d+1) 65=tw E d F65:=by kernel_rfl
theorem DE66:TW E (d+1) 66=tw E d F66:=by kernel_rfl
theorem DE67:TW E (d+1) 67=tw E d F67:=by kernel_rfl
theorem DE68:TW E (d+1) 68=tw E d F68:=by kernel_rfl
theorem DE69:TW E (d+1) 69=tw E d F69:=by kernel_rfl
theorem DE71:TW E (d+1) 71=tw E d F71:=by kernel_rfl
theorem DE72:TW E (d+1) 72=tw E d F72:=by kernel_rfl
theorem DE74:TW E (d+1) 74=tw E d F74:=by kernel_rfl
theorem DE77:TW E (d+1) 77=tw E d F77:=by kernel_rfl
theorem DE85:TW E (d+1) 85=tw E d F85:=by kernel_rfl
theorem DE86:TW E (d+1) 86=tw E d F86:=by kernel_rfl
theorem DE117:TW E (d+1) 117=tw E d F117:=by kernel_rfl
theorem DE118:TW E (d+1) 118=tw E d F118:=by kernel_rfl
theorem DE119:TW E (d+1) 119=tw E d F119:=by kernel_rfl
theorem DE120:TW E (d+1) 120=tw E d F120:=by kernel_rfl
theorem DE121:TW E (d+1) 121=tw E d F121:=by kernel_rfl
theorem DE122:TW E (d+1) 122=tw E d F122:=by kernel_rfl
theorem DE123:TW E (d+1) 123=tw E d F123:=by kernel_rfl
theorem DE124:TW E (d+1) 124=tw E d F124:=by kernel_rfl
theorem DE125:TW E (d+1) 125=tw E d F125:=by kernel_rfl
theorem DE127:TW E (d+1) 127=tw E d F127:=by kernel_rfl
theorem DE131:TW E (d+1) 131=tw E d F131:=by kernel_rfl
theorem DE132:TW E (d+1) 132=tw E d F132:=by kernel_rfl
theorem DE137:TW E (d+1) 137=tw E d F137:=by kernel_rfl
theorem DE138:TW E (d+1) 138=tw E d F138:=by kernel_rfl
theorem DE139:TW E (d+1) 139=tw E d F139:=by kernel_rfl
theorem DE140:TW E (d+1) 140=tw E d F140:=by kernel_rfl
theorem DE141:TW E (d+1) 141=tw E d F141:=by kernel_rfl
theorem DE142:TW E (d+1) 142=tw E d F142:=by kernel_rfl
theorem DE143:TW E (d+1) 143=tw E d F143:=by kernel_rfl
theorem DE147:TW E (d+1) 147=tw E d F147:=by kernel_rfl
theorem DE148:TW E (d+1) 148=tw E d F148:=by kernel_rfl
theorem DE149:TW E (d+1) 149=tw E d F149:=by kernel_rfl
theorem DE151:TW E (d+1) 151=tw E d F151:=by kernel_rfl
theorem DE162:TW E (d+1) 162=tw E d F162:=by kernel_rfl
theorem DE182:TW E (d+1) 182=tw E d F182:=by kernel_rfl
theorem DE205:TW E (d+1) 205=tw E d F205:=by kernel_rfl
theorem DE206:TW E (d+1) 206=tw E d F206:=by kernel_rfl
theorem DE207:TW E (d+1) 207=tw E d F207:=by kernel_rfl
theorem DE208:TW E (d+1) 208=tw E d F208:=by kernel_rfl
theorem DE209:TW E (d+1) 209=tw E d F209:=by kernel_rfl
theorem DE210:TW E (d+1) 210=tw E d F210:=by kernel_rfl
theorem DE213:TW E (d+1) 213=tw E d F213:=by kernel_rfl
theorem DE214:TW E (d+1) 214=tw E d F214:=by kernel_rfl
theorem DE216:TW E (d+1) 216=tw E d F216:=by kernel_rfl
theorem DE220:TW E (d+1) 220=tw E d F220:=by kernel_rfl
theorem DE221:TW E (d+1) 221=tw E d F221:=by kernel_rfl
theorem DE234:TW E (d+1) 234=tw E d F234:=by kernel_rfl
theorem DE235:TW E (d+1) 235=tw E d F235:=by kernel_rfl
theorem DE236:TW E (d+1) 236=tw E d F236:=by kernel_rfl
theorem DE237:TW E (d+1) 237=tw E d F237:=by kernel_rfl
theorem DE238:TW E (d+1) 238=tw E d F238:=by kernel_rfl
theorem DE244:TW E (d+1) 244=tw E d F244:=by kernel_rfl
theorem DE260:TW E (d+1) 260=tw E d F260:=by kernel_rfl
theorem DE274:TW E (d+1) 274=tw E d F274:=by kernel_rfl
theorem DE289:TW E (d+1) 289=tw E d F289:=by kernel_rfl
theorem DE290:TW E (d+1) 290=tw E d F290:=by kernel_rfl
end
theorem DE11 (E:List (Nat × Blk)) (d:Nat):TW E (d+1) 11=locF [eAw] (BD E 600000 (TW E d) 11):=by kernel_rfl
theorem mk_new {σ:H} (ht:Tidy σ) (z:List V):∃σ1,newB σ (.cells z)=σ1∧Fr Nowhere σ σ1∧Atc σ1 σ.next z∧σ1.next=σ.next+1:=⟨_,rfl,Fr.new ht _,Atc_newB _,rfl⟩
theorem mk_set {σ:H} {b:Nat} {l:List V} (ht:Tidy σ) (h:Atc σ b l) (z:List V):∃σ1,setF σ b (.cells z)=σ1∧Fr (fun k=>k=b) σ σ1∧Atc σ1 b z:=⟨_,rfl,Fr.set ht (h.lt ht) _,Atc_setF _⟩
structure Wr (σ:H) (w:Nat) (u:V) (L:List Nat):Prop where
 at_:Atc σ w [u]
 d:Dst σ 1 L.length u (u8s (nI L))
 ne:¬Names u w
def Own1 (w:Nat) (u:V):Nat→Prop:=fun b=>b=w∨Names u b
structure Wst (σ:H) (w:Nat) (u:V) (σ':H) (u':V) (L':List Nat):Prop where
 wr:Wr σ' w u' L'
 f:Fr (Own1 w u) σ σ'
 g:∀b,Names u' b→Names u b∨σ.next≤b
section
variable {E:List (Nat × Blk)} {σ σ1 σ2:H} {w:Nat} {u u1 u2:V} {L L1 L2:List Nat}
theorem Wst.refl (h:Wr σ w u L) (ht:Tidy σ):Wst σ w u σ u L:=⟨h,Fr.refl ht,fun _ hb => .inl hb⟩
theorem Wst.trans (h:Wst σ w u σ1 u1 L1) (k:Wst σ1 w u1 σ2 u2 L2):Wst σ w u σ2 u2 L2:=by
 refine⟨k.wr,h.f.trans k.f (fun b hb hn=>?_),fun b hb=>?_⟩
 ·rcases hn with hn|hn
  ·exact .inl hn
  ·rcases h.g b hn with h'|h'
   ·exact .inr h'
   ·omega
 ·rcases k.g b hb with h'|h'
  ·exact h.g b h'
  ·exact .inr (Nat.le_trans h.f.le h')
theorem Wr.fr (h:Wr σ w u L) (f:Fr Nowhere σ σ1) (ht:Tidy σ):Wr σ1 w u L:=⟨f.at_ h.at_ ht (fun h=>h),h.d.fr f ht (fun _ _ h=>h),h.ne⟩
theorem Wst.behind (f:Fr Nowhere σ σ1) (k:Wst σ1 w u σ2 u2 L2):Wst σ w u σ2 u2 L2:=
 ⟨k.wr,f.mono (fun _ _ h=>h.elim) |>.trans k.f (fun _ _ h=>h),fun b hb=>(k.g b hb).imp id (fun h=>Nat.le_trans f.le h)⟩
theorem Wst.and (h:Wst σ w u σ1 u1 L1) (f:Fr Nowhere σ1 σ2):Wst σ w u σ2 u1 L1:=
 ⟨h.wr.fr f h.f.tidy,h.f.trans f (fun _ _ h=>h.elim),h.g⟩
theorem wr_put (h:Wr σ w u L) (ht:Tidy σ) (c:Nat) (hl:L.length<9000000):∃u' σ',(∀κ:H→Ans,(appK E 1 1 u (V.sl (H.next σ) 0 1 (.ex 1)) (newB σ (.cells [.int .u8 (Int.ofNat c)])) fun u3 s4=>rtOne u3 (stK 1 w 0 u3 s4 fun s5=>κ s5))=κ σ')∧Wst σ w u σ' u' (L++[c]):=by
 obtain⟨σ1,e1,f1,a1,n1⟩:=mk_new ht [.int .u8 (Int.ofNat c)]
 rw[e1]
 have x:Src σ1 1 1 (V.sl σ.next 0 1 (.ex 1)) [.int .u8 (Int.ofNat c)] := .inr ⟨_,_,_,_,rfl,a1,Nat.le_refl _,rfl⟩
 obtain⟨u',σ2,g2,d2,m2,f2⟩:=app_all (E:=E) (bytes:=1) (h.d.fr f1 ht (fun _ _ h=>h)) f1.tidy x rfl (by
  unfold growable
  simp only[Nat.mul_one,Bool.and_eq_true,Nat.ble_eq];omega)
 have a2:Atc σ2 w [u]:=f2.at_ (f1.at_ h.at_ ht (fun h=>h)) f1.tidy h.ne
 have lw:=h.at_.lt ht
 have ne':¬Names u' w:=fun hb=>by
  rcases m2 w hb with h'|h'
  ·exact h.ne h'
  ·omega
 obtain⟨σ3,e3,f3,a3⟩:=mk_set f2.tidy a2 [u']
 have o:=d2.one
 obtain⟨o1,o2⟩:=one_live o
 refine⟨u',σ3,fun κ=>?_,⟨a3,?_,ne'⟩,?_,?_⟩
 ·rw[g2,rtOne_of o,stK_at a2 (by rw[o2];cases u'<;>first | rfl | cases o),o2]
  show κ (setF σ2 w (.cells [u']))=_
  rw[e3]
 ·rw[List.length_append,nI_app,u8s_app]
  exact d2.fr f3 f2.tidy (fun b hb hw=>ne' (by cases hw;exact hb))
 ·exact((f1.mono (fun _ _ h=>h.elim):Fr (Own1 w u) σ σ1).trans f2 (fun _ _ h => .inr h)).trans f3 (fun _ _ h => .inl h)
 ·intro b hb
  rcases m2 b hb with h'|h'
  ·exact .inl h'
  ·exact .inr (by omega)
def Off (σ:H) (w:Nat) (u:V) (b:Nat):Prop:=b<σ.next∧b≠w∧¬Names u b
theorem Wst.off (h:Wst σ w u σ1 u1 L1) {b:Nat} (o:Off σ w u b):Off σ1 w u1 b:=
 ⟨Nat.lt_of_lt_of_le o.1 h.f.le,o.2.1,fun hb=>(h.g b hb).elim o.2.2 (by have:=o.1;omega)⟩
theorem Off.not {b:Nat} (o:Off σ w u b):¬Own1 w u b:=fun h=>h.elim o.2.1 o.2.2
theorem Off.fr {b:Nat} (o:Off σ w u b) (f:Fr Nowhere σ σ1):Off σ1 w u b:=⟨Nat.lt_of_lt_of_le o.1 f.le,o.2⟩
theorem Off.new (h:Wr σ w u L) (ht:Tidy σ) {b:Nat} (hb:σ.next≤b) (hb':b<σ1.next):Off σ1 w u b:=
 ⟨hb',fun e=>by have:=h.at_.lt ht;omega,fun hn=>by have:=h.d.lt ht hn;omega⟩
theorem Wst.at_ (h:Wst σ w u σ1 u1 L1) (ht:Tidy σ) {b:Nat} {l:List V} (o:Off σ w u b) (ha:Atc σ b l):Atc σ1 b l:=h.f.at_ ha ht o.not
theorem Wst.by_ (h:Wst σ w u σ1 u1 L1) (ht:Tidy σ) {x:V} {l:List Int} (o:∀b,Names x b→Off σ w u b) (hx:By σ x l):By σ1 x l:=Src.fr hx h.f ht fun b hb=>(o b hb).not
def AtE (E:List (Nat × Blk)) (σ:H) (b:Nat) (l:List V):Prop:=lookF σ.bl b=some (.cells l)∨(lookF σ.bl b=none∧lookF E b=some (.cells l))
def Sq (E:List (Nat × Blk)) (σ:H) (x:V) (l:List Int):Prop:=(l=[]∧x = .nils)∨(∃b o c,l=[]∧x = .sl b o 0 c)∨∃b o c M,x = .sl b o l.length c∧AtE E σ b M∧o+l.length≤M.length∧u8s l=(M.drop o).take l.length
theorem Sq.of {x:V} {l:List Int} (h:By σ x l):Sq E σ x l:=by
 rcases h with ⟨h0,rfl,_⟩|⟨b,o,c,M,rfl,ha,hl,hm⟩
 ·exact .inl ⟨List.eq_nil_of_length_eq_zero h0,rfl⟩
 ·exact .inr (.inr ⟨b,o,c,M,rfl,.inl ha,by omega,by rw[hm,Nat.mul_one]⟩)
theorem Sq.one {x:V} {l:List Int} (h:Sq E σ x l):x.one=true:=by
 rcases h with ⟨_,rfl⟩|⟨_,_,_,_,rfl⟩|⟨_,_,_,_,rfl,_⟩<;>rfl
theorem Sq.slen {x:V} {l:List Int} (h:Sq E σ x l) (κ:Nat→Ans):slenK x κ=κ l.length:=by
 rcases h with ⟨rfl,rfl⟩|⟨_,_,_,rfl,rfl⟩|⟨_,_,_,_,rfl,_⟩<;>rfl
theorem Sq.keep {x:V} {l:List Int} (h:Sq E σ x l) (hs:∀b,Names x b→lookF σ1.bl b=lookF σ.bl b):Sq E σ1 x l:=by
 rcases h with h|h|⟨b,o,c,M,rfl,ha,hl,hm⟩
 ·exact .inl h
 ·exact .inr (.inl h)
 ·refine .inr (.inr ⟨b,o,c,M,rfl,?_,hl,hm⟩)
  unfold AtE at *
  rw[hs b rfl];exact ha
theorem Sq.fr {x:V} {l:List Int} (hx:Sq E σ x l) (f:Fr Nowhere σ σ1) (o:∀b,Names x b→b<σ.next):Sq E σ1 x l:=hx.keep fun b hb=>f.same b (o b hb) fun h=>h
theorem by_at {x:V} {l:List Int} {k:Nat} {c:Int} (h:Sq E σ x l) (hk:l[k]? = some c) (κ:V→Ans):iaddrSK 1 x (Int.ofNat k) (fun b o=>ldK E σ b o κ)=κ (.int .u8 c):=by
 have hlt:k<l.length:=by
  rcases Nat.lt_or_ge k l.length with h|h
  ·exact h
  ·rw[List.getElem?_eq_none h]at hk;cases hk
 rcases h with ⟨h0,_⟩|⟨_,_,_,h0,_⟩|⟨b,o,cp,M,rfl,ha,hl,hm⟩
 ·rw[h0]at hlt;simp at hlt
 ·rw[h0]at hlt;simp at hlt
 ·rw[iaddrSK_lt hlt]
  have h2:(u8s l)[k]? = some (.int .u8 c):=by unfold u8s;rw[List.getElem?_map,hk];rfl
  rw[hm,List.getElem?_take,if_pos hlt,List.getElem?_drop]at h2
  show ldK E σ b (o+k*1) κ=_
  rw[Nat.mul_one]
  have e:∀κ':List V→Ans,rdK E σ b κ'=κ' M:=fun κ'=>by
   unfold rdK
   rcases ha with ha|⟨h0,ha⟩
   ·rw[ha]
   ·rw[h0,ha]
  unfold ldK
  rw[e]
  exact nthK_of (by rw[nthF_eq];exact h2)
theorem nI_get {O:List Nat} {k c:Nat} (h:O[k]? = some c):(nI O)[k]? = some (Int.ofNat c):=by unfold nI;rw[List.getElem?_map,h];rfl
theorem bit_of_u64 {v n:Nat} (hv:v≤18446744073709551615) (hn:n≤64):wrapF .i64 (andF .u64 (shrF .u64 (Int.ofNat v) n) (Int.ofNat 1))=Int.ofNat (v / 2 ^ n % 2):=by
 rw[shr_nat hn,and1_u64 (Nat.le_trans (Nat.div_le_self _ _) hv),wrapF_nat (by rw[maxN_i64];omega)]
def less:Nat→Int
 | 0=>Int.negSucc 0
 | k+1=>Int.ofNat k
theorem less_sub {k:Nat} (h:k≤1000):subF .i64 (Int.ofNat k) (Int.ofNat 1)=less k:=by
 cases k with
 | zero=>rfl
 | succ k=>rw[subF_nat (by omega) (by omega)];rfl
theorem minF_min (a b:Nat):minF (Int.ofNat a) (Int.ofNat b)=Int.ofNat (min a b):=by
 unfold minF
 split
 ·rename_i h;have h:(b:Int)<(a:Int):=h;rw[Nat.min_eq_right (by omega)]
 ·rename_i h;have h:¬(b:Int)<(a:Int):=h;rw[Nat.min_eq_left (by omega)]
theorem maxF_max (a b:Nat):maxF (Int.ofNat a) (Int.ofNat b)=Int.ofNat (max a b):=by
 unfold maxF
 split
 ·rename_i h;have h:(b:Int) > (a:Int):=h;rw[Nat.max_eq_right (by omega)]
 ·rename_i h;have h:¬(b:Int) > (a:Int):=h;rw[Nat.max_eq_left (by omega)]
theorem maxF_0 (a:Nat):maxF (Int.ofNat 0) (Int.ofNat a)=Int.ofNat a:=by rw[maxF_max,Nat.max_eq_right (Nat.zero_le a)]
theorem minF_le {a b:Nat} (h:a≤b):minF (Int.ofNat a) (Int.ofNat b)=Int.ofNat a:=by rw[minF_min,Nat.min_eq_left h]
end
def SpBit (F:List V→H→Ans):Prop:=∀(σ:H) (w:Nat) (u:V) (L:List Nat) (c:Nat),Wr σ w u L→Tidy σ→L.length<9000000→c<2 →
 ∃u' σ',F [.ptr w 0,.int .i64 (Int.ofNat c)] σ=some (.tup [],σ')∧Wst σ w u σ' u' (L++[c])
def SpBits (F:List V→H→Ans):Prop:=∀(σ:H) (w:Nat) (u:V) (L:List Nat) (v n:Nat),Wr σ w u L→Tidy σ→L.length<8000000→v≤18446744073709551615→n≤64 →
 ∃u' σ',F [.ptr w 0,.int .u64 (Int.ofNat v),.int .i64 (Int.ofNat n)] σ=some (.tup [],σ')∧Wst σ w u σ' u' (L++bitsOf n v)
section
variable {E:List (Nat × Blk)} {D:Den} {W:DrawFn} {N:Nat}
theorem r01bit_F:SpBit (F41 E D W N):=by
 intro σ w u L c h ht hl hc
 obtain⟨u',σ',g,k⟩:=wr_put (E:=E) h ht c hl
 refine⟨u',σ',?_,k⟩
 show T41_0 E D W w 0 (Int.ofNat c) σ=_
 unfold T41_0
 have a:=h.at_
 have:c=0∨c=1:=by omega
 rcases this with rfl|rfl
 ·simp -implicitDefEqProofs only [↓rP,rA,Nat.reduceEqDiff,Nat.reduceLT,Nat.reduceLeDiff,↓ldK_is a]
  exact g _
 ·simp -implicitDefEqProofs only [↓rP,rA,Nat.reduceEqDiff,Nat.reduceLT,Nat.reduceLeDiff,↓ldK_is a]
  exact g _
theorem bits_F (hB:SpBit (D 41)) (hN:64<N):SpBits (F20 E D W N):=by
 intro σ w u L v n h ht hl hv hn
 have loop:∀(k n':Nat) (u:V) (σ:H) (L:List Nat),k≤64→k<n'→Wr σ w u L→Tidy σ→L.length+k<9000000 →
   ∃u' σ',L20_1 E D W N n' w 0 (Int.ofNat v) (less k) σ=some (.tup [],σ')∧Wst σ w u σ' u' (L++bitsOf k v):=by
  intro k
  induction k with
  | zero=>
   intro n' u σ L hk hn' h ht hl
   obtain⟨n',rfl⟩:∃k,n'=k+1:=⟨n'-1,by omega⟩
   refine⟨u,σ,rfl,?_⟩
   rw[show bitsOf 0 v=[] from rfl,List.append_nil];exact Wst.refl h ht
  | succ k ih=>
   intro n' u σ L hk hn' h ht hl
   obtain⟨n',rfl⟩:∃k,n'=k+1:=⟨n'-1,by omega⟩
   obtain⟨u1,σ1,g1,s1⟩:=hB σ w u L (v / 2 ^ k % 2) h ht (by omega) (Nat.mod_lt _ (by decide))
   obtain⟨u2,σ2,g2,s2⟩:=ih n' u1 σ1 _ (by omega) (by omega) s1.wr s1.f.tidy (by simp only[List.length_append,List.length_cons,List.length_nil];omega)
   refine⟨u2,σ2,?_,?_⟩
   ·have key:∀R,T20_1 E D W R w 0 (Int.ofNat v) (less (k+1)) σ=R w 0 (Int.ofNat v) (less k) σ1:=by
     intro R
     unfold T20_1
     have e1:wrapF .u64 (Int.ofNat k)=Int.ofNat k:=wrapF_nat (by rw[maxN_u64];omega)
     show condK (leF (Int.ofNat 0) (Int.ofNat k)) (nnK (wrapF .u64 (Int.ofNat k)) _) _=_
     have d1:leF (Int.ofNat 0) (Int.ofNat k)=true:=by rw[leF_nat];exact decide_eq_true (Nat.zero_le _)
     simp -implicitDefEqProofs only [↓rP,rS,d1,e1,nnK_nat,bit_of_u64 hv (show k≤64 by omega),↓g1]
     rw[show less (k+1)=Int.ofNat k from rfl,less_sub (by omega)]
    exact(key _).trans g2
   ·have:=s1.trans s2
    rw[List.append_assoc]at this
    exact this
 obtain⟨u',σ',g,s⟩:=loop n N u σ L hn (by omega) h ht (by omega)
 refine⟨u',σ',?_,s⟩
 show T20_0 E D W (L20_1 E D W N N) w 0 (Int.ofNat v) (Int.ofNat n) σ=_
 unfold T20_0
 rw[minF_le hn,maxF_0,less_sub (by omega)]
 exact g
end
section
variable {E:List (Nat × Blk)} {D:Den} {W:DrawFn} {N:Nat}
end
def part (L:List Nat) (j:Nat):Nat→Nat
 | 0=>0
 | m+1=>part L j m+bit L (8*j+m)*2 ^ (7-m)
theorem part_dvd (L:List Nat) (j:Nat):∀m,m≤8→∃q,part L j m=q*2 ^ (8-m)
 | 0,_=>⟨0,rfl⟩
 | m+1,h=>by
  obtain⟨q,e⟩:=part_dvd L j m (by omega)
  refine⟨q*2+bit L (8*j+m),?_⟩
  rw[part,e,show 8-m=(7-m)+1 by omega,show 8-(m+1)=7-m by omega,Nat.pow_succ,Nat.add_mul,Nat.mul_assoc,Nat.mul_comm 2]
theorem part_lt {L:List Nat} (hb:Bin L) (j:Nat):∀m,m≤8→part L j m+2 ^ (8-m)≤256
 | 0,_=>by show 0+2 ^ 8≤256;decide
 | m+1,h=>by
  have e:=part_lt hb j m (by omega)
  have b:=bit_lt hb (8*j+m)
  rw[part,show 8-(m+1)=7-m by omega]
  rw[show 8-m=(7-m)+1 by omega,Nat.pow_succ]at e
  have:bit L (8*j+m)=0∨bit L (8*j+m)=1:=by omega
  rcases this with h0|h0<;>rw[h0]<;>omega
theorem part_8 (L:List Nat) (j:Nat):part L j 8=packB L j:=by
 simp only[part,packB,Nat.add_zero,show 2 ^ (7-0)=128 from rfl,show 2 ^ (7-1)=64 from rfl,show 2 ^ (7-2)=32 from rfl,show 2 ^ (7-3)=16 from rfl,show 2 ^ (7-4)=8 from rfl,show 2 ^ (7-5)=4 from rfl,show 2 ^ (7-6)=2 from rfl,show 2 ^ (7-7)=1 from rfl]
 omega
theorem bit_ge {L:List Nat} {i:Nat} (h:L.length≤i):bit L i=0:=by
 unfold bit;rw[List.getD_eq_getElem?_getD,List.getElem?_eq_none h];rfl
theorem part_more {L:List Nat} {j m:Nat} (h:L.length≤8*j+m):∀k,m≤k→part L j k=part L j m:=by
 intro k hk
 induction k with
 | zero=>rw[show m=0 by omega]
 | succ k ih=>
  rcases Nat.lt_or_ge k m with h'|h'
  ·rw[show m=k+1 by omega]
  ·rw[part,ih h',bit_ge (by omega),Nat.zero_mul,Nat.add_zero]
def whole (L:List Nat) (n:Nat):List Nat:=(List.range n).map (packB L)
theorem whole_length (L:List Nat) (n:Nat):(whole L n).length=n:=by simp[whole]
theorem whole_succ (L:List Nat) (n:Nat):whole L (n+1)=whole L n++[packB L n]:=by simp[whole,List.range_succ]
def octs (L:List Nat) (i:Nat):List Nat:=whole L (i / 8)++(if i % 8=0 then [] else [part L (i / 8) (i % 8)])
theorem octs_succ (L:List Nat) (i:Nat):octs L (i+1)=whole L (i / 8)++[part L (i / 8) (i % 8+1)]:=by
 unfold octs
 by_cases h:i % 8=7
 ·rw[show (i+1) % 8=0 by omega,if_pos rfl,show (i+1) / 8=i / 8+1 by omega,whole_succ,h,part_8,List.append_nil]
 ·rw[if_neg (by omega),show (i+1) / 8=i / 8 by omega,show (i+1) % 8=i % 8+1 by omega]
theorem octs_all (L:List Nat):octs L L.length=pack L:=by
 unfold octs
 show _=whole L (packN L.length)
 by_cases h:L.length % 8=0
 ·rw[if_pos h,List.append_nil,show packN L.length=L.length / 8 by unfold packN;omega]
 ·rw[if_neg h,show packN L.length=L.length / 8+1 by unfold packN;omega,whole_succ,←part_8]
  congr 2
  exact(part_more (by omega) 8 (by omega)).symm
theorem or_u8 {q b n:Nat} (hn:n≤7) (hb:b<2) (h:q*2 ^ (n+1)+b*2 ^ n≤255):orF .u8 (Int.ofNat (q*2 ^ (n+1))) (shlF .u8 (Int.ofNat b) n)=Int.ofNat (q*2 ^ (n+1)+b*2 ^ n):=by
 have hlt:b*2 ^ n<2 ^ (n+1):=by
  rw[Nat.pow_succ,Nat.mul_comm]
  exact Nat.mul_lt_mul_of_pos_left hb (Nat.pow_pos (by decide))
 rw[shlF_eq,show Nat.min n (IntKind.bits .u8)=n from Nat.min_eq_left (Nat.le_trans hn (by decide)),show Int.ofNat b*2 ^ n=Int.ofNat (b*2 ^ n)by
  rw[show Int.ofNat (b*2 ^ n)=((b*2 ^ n:Nat):Int)from rfl,Int.natCast_mul,Int.natCast_pow];rfl,wrapK_nat (by rw[maxN_u8];omega),orF_eq,BitVec.toNat_or,ofInt_nat,ofInt_nat,show IntKind.bits .u8=8 from rfl,Nat.mod_eq_of_lt (show q*2 ^ (n+1)<2 ^ 8 by omega),Nat.mod_eq_of_lt (show b*2 ^ n<2 ^ 8 by omega),or_low hlt]
 exact wrapK_nat (by rw[maxN_u8];omega)
theorem quo8 {i:Nat} (h:i≤9223372036854775807):quoF .i64 (Int.ofNat i) (Int.ofNat 8)=Int.ofNat (i / 8):=by
 rw[quoF_eq,show (Int.ofNat i).tdiv (Int.ofNat 8)=Int.ofNat (i / 8)from rfl]
 exact wrapK_nat (by rw[maxN_i64];omega)
theorem mod8 (i:Nat):Int.tmod (Int.ofNat i) (Int.ofNat 8)=Int.ofNat (i % 8):=rfl
section
variable {E:List (Nat × Blk)} {σ0 σ:H} {v:V} {a r:List Int} {c:Int}
theorem nb_set (h:Nb σ0 σ v (a++c::r)) (f0:Fr Nowhere σ0 σ) (d:Int) :
  ∃b σ',(∀κ:Nat→Nat→Ans,iaddrSK 1 v (Int.ofNat a.length) κ=κ b a.length)∧(∀κ:V→Ans,ldK E σ b a.length κ=κ (.int .u8 c))∧(∀κ:H→Ans,stK 1 b a.length (.int .u8 d) σ κ=κ σ')∧Nb σ0 σ' v (a++d::r)∧Fr Nowhere σ0 σ'∧Fr (fun b=>σ0.next≤b) σ σ':=by
 obtain⟨hd,hn⟩:=h
 have hlen:(a++c::r).length=(a++d::r).length:=by simp
 have key:∀b (cp:Cap),v = .sl b 0 (a++c::r).length cp→Atc σ b (u8s (a++c::r))→(∀σ',Atc σ' b (u8s (a++d::r))→Dst σ' 1 (a++d::r).length v (u8s (a++d::r)))→∃b σ',(∀κ:Nat→Nat→Ans,iaddrSK 1 v (Int.ofNat a.length) κ=κ b a.length)∧(∀κ:V→Ans,ldK E σ b a.length κ=κ (.int .u8 c))∧(∀κ:H→Ans,stK 1 b a.length (.int .u8 d) σ κ=κ σ')∧Nb σ0 σ' v (a++d::r)∧Fr Nowhere σ0 σ'∧Fr (fun b=>σ0.next≤b) σ σ':=by
  intro b cp hv ha hd'
  obtain⟨σ',e,f,a'⟩:=mk_set f0.tidy ha (u8s (a++d::r))
  have nb:σ0.next≤b:=hn b (by rw[hv];rfl)
  refine⟨b,σ',fun κ=>?_,fun κ=>?_,fun κ=>?_,⟨hd' σ' a',hn⟩,f0.trans f (fun b' hb' e'=>by subst e';omega),f.mono (fun b' _ e'=>by subst e';exact nb)⟩
  ·rw[hv,iaddrSK_lt (by simp)]
   show κ b (0+a.length*1)=_
   rw[Nat.zero_add,Nat.mul_one]
  ·exact ldK_get ha (by unfold u8s;rw[List.getElem?_map,List.getElem?_append_right (Nat.le_refl _),Nat.sub_self];rfl)
  ·rw[stK_at ha (by
    simp only[cells_int,List.length_cons,List.length_nil,u8s_length,List.length_append,Bool.and_eq_true,Nat.beq_eq_true_eq,Nat.ble_eq]
    refine⟨⟨rfl,?_⟩,rfl⟩
    show a.length+1≤_
    omega)]
   rw[show spl (u8s (a++c::r)) a.length (V.int .u8 d).cells=u8s (a++d::r)from by
    have:=spl_at (u8s a) (.int .u8 c) (u8s r) (.int .u8 d)
    rw[u8s_length]at this
    rw[u8s_app,u8s_app]
    exact this,e]
 rcases hd with (⟨h0,_⟩|⟨b,hv,ha,h0,hl⟩)|⟨b,hv,ha,hl⟩
 ·simp at h0
 ·refine key b _ hv ha fun σ' a' => .inl (.inr ⟨b,?_,a',by rw[←hlen];exact h0,by rw[u8s_length,Nat.mul_one]⟩)
  rw[←hlen];exact hv
 ·refine key b _ hv ha fun σ' a' => .inr ⟨b,?_,a',by rw[u8s_length,Nat.mul_one]⟩
  rw[←hlen];exact hv
end
def SpBytes (B:Nat) (F:List V→H→Ans):Prop:=∀(σ:H) (w:Nat) (u:V) (L:List Nat),Wr σ w u L→Tidy σ→Bin L→L.length≤B →
 ∃v σ',F [.ptr w 0] σ=some (v,σ')∧Nb σ σ' v (nI (pack L))∧Fr Nowhere σ σ'
theorem octs_length (L:List Nat) (i:Nat):(octs L i).length=packN i:=by
 unfold octs packN
 rw[List.length_append,whole_length]
 split
 ·simp only[List.length_nil];omega
 ·simp only[List.length_cons,List.length_nil];omega
theorem dst_get {E:List (Nat × Blk)} {σ:H} {u:V} {L:List Nat} {i:Nat} (h:Dst σ 1 L.length u (u8s (nI L))) (hi:i<L.length) (κ:V→Ans):iaddrSK 1 u (Int.ofNat i) (fun b o=>ldK E σ b o κ)=κ (.int .u8 (Int.ofNat (bit L i))):=by
 have hx:By σ u (nI L):=by
  show Src σ 1 (nI L).length u _
  rw[nI_length];exact h.src
 refine by_at (Sq.of hx) ?_ κ
 refine nI_get ?_
 unfold bit
 rw[List.getD_eq_getElem?_getD,List.getElem?_eq_getElem hi];rfl
section
variable {E:List (Nat × Blk)} {D:Den} {W:DrawFn} {N B:Nat}
theorem r01bytes_F (hN:B+1<N) (hB:B≤9000000):SpBytes B (F45 E D W N):=by
 intro σ w u L h ht hb hl
 have loop:∀(m n' i:Nat) (v:V) (σ1:H),i+m=L.length→m<n'→Fr Nowhere σ σ1→Nb σ σ1 v (nI (octs L i)) →
   ∃v' σ',L45_2 E D W N n' w 0 v (Int.ofNat i) σ1=some (v',σ')∧Nb σ σ' v' (nI (pack L))∧Fr Nowhere σ σ':=by
  intro m
  induction m with
  | zero=>
   intro n' i v σ1 hi hn' f1 hv
   obtain⟨n',rfl⟩:∃k,n'=k+1:=⟨n'-1,by omega⟩
   have h1:=h.fr f1 ht
   refine⟨v,σ1,?_,by rw[←octs_all,←(show i=L.length by omega)];exact hv,f1⟩
   have key:∀K1 K2,T45_2 E D W K1 K2 w 0 v (Int.ofNat i) σ1=K1 v σ1:=by
    intro K1 K2
    unfold T45_2
    have a:=h1.at_
    have d1:decide (i<L.length)=false:=decide_eq_false (by omega)
    simp -implicitDefEqProofs only [↓rP,rA,Nat.reduceEqDiff,Nat.reduceLT,Nat.reduceLeDiff,↓ldK_is a,↓h1.d.slen,d1]
   exact(key _ _).trans rfl
  | succ m ih=>
   intro n' i v σ1 hi hn' f1 hv
   obtain⟨n',rfl⟩:∃k,n'=k+1:=⟨n'-1,by omega⟩
   have hlt:i<L.length:=by omega
   have h1:=h.fr f1 ht
   obtain⟨v2,σ2,g2,h2,f2⟩:∃v2 σ2,(∀K1 K4,T45_2 E D W K1 K4 w 0 v (Int.ofNat i) σ1=K4 w 0 v2 (Int.ofNat i) σ2)∧Nb σ σ2 v2 (nI (whole L (i / 8))++Int.ofNat (part L (i / 8) (i % 8))::[])∧Fr Nowhere σ σ2:=by
    have d1:decide (i<L.length)=true:=decide_eq_true hlt
    have a:=h1.at_
    by_cases h8:i % 8=0
    ·obtain⟨σ2,e2,f2,a2,n2⟩:=mk_new f1.tidy [.int .u8 (Int.ofNat 0)]
     have x:By σ2 (V.sl σ1.next 0 1 (.ex 1)) [Int.ofNat 0] := .inr ⟨_,_,_,_,rfl,a2,Nat.le_refl _,rfl⟩
     obtain⟨v3,σ3,g3,h3,f3,_⟩:=app_by (E:=E) (hv.fr f2 f1.tidy) (f1.trans f2 (fun _ _ h=>h)) x (by rw[nI_length,octs_length];unfold packN;simp only[List.length_cons,List.length_nil];omega)
     refine⟨v3,σ3,fun K1 K4=>?_,?_,f3⟩
     ·unfold T45_2
      have d2:eqF (Int.tmod (Int.ofNat i) (Int.ofNat 8)) (Int.ofNat 0)=true:=by rw[mod8,eqF_nat];exact decide_eq_true h8
      simp -implicitDefEqProofs only [↓rP,rA,Nat.reduceEqDiff,Nat.reduceLT,Nat.reduceLeDiff,↓ldK_is a,↓h1.d.slen,d1,d2,↓e2,↓g3,↓rtOne_of h3.1.one]
     ·have e:octs L i=whole L (i / 8):=by unfold octs;rw[if_pos h8,List.append_nil]
      rw[e]at h3
      rw[h8];exact h3
    ·refine⟨v,σ1,fun K1 K4=>?_,?_,f1⟩
     ·unfold T45_2
      have d2:eqF (Int.tmod (Int.ofNat i) (Int.ofNat 8)) (Int.ofNat 0)=false:=by rw[mod8,eqF_nat];exact decide_eq_false h8
      simp -implicitDefEqProofs only [↓rP,rA,Nat.reduceEqDiff,Nat.reduceLT,Nat.reduceLeDiff,↓ldK_is a,↓h1.d.slen,d1,d2]
     ·have e:octs L i=whole L (i / 8)++[part L (i / 8) (i % 8)]:=by unfold octs;rw[if_neg h8]
      rw[e,nI_app]at hv
      exact hv
   have hh:=h.fr f2 ht
   have lw:(nI (whole L (i / 8))).length=i / 8:=by rw[nI_length,whole_length]
   obtain⟨b,σ3,ia,rd,st,h3,f3,_⟩:=nb_set (E:=E) h2 f2 (Int.ofNat (part L (i / 8) (i % 8+1)))
   rw[lw]at ia rd st
   obtain⟨v4,σ4,g4,h4,f4⟩:=ih n' (i+1) v2 σ3 (by omega) (by omega) f3 (by rw[octs_succ,nI_app];exact h3)
   refine⟨v4,σ4,?_,h4,f4⟩
   have key:∀K,T45_4 E D W K w 0 v2 (Int.ofNat i) σ2=K w 0 v2 (Int.ofNat i) σ3:=by
    intro K
    unfold T45_4
    have a:=hh.at_
    have gt:∀κ,iaddrSK 1 u (Int.ofNat i) (fun b o=>ldK E σ2 b o κ)=κ (.int .u8 (Int.ofNat (bit L i))):=fun κ=>dst_get hh.d hlt κ
    have sh:wrapF .u64 (subF .i64 (Int.ofNat 7) (Int.ofNat (i % 8)))=Int.ofNat (7-i % 8):=by
     rw[subF_nat (by omega) (by omega),wrapF_nat (by rw[maxN_u64];omega)]
    have hq:orF .u8 (Int.ofNat (part L (i / 8) (i % 8))) (shlF .u8 (Int.ofNat (bit L i)) (7-i % 8))=Int.ofNat (part L (i / 8) (i % 8+1)):=by
     obtain⟨q,e⟩:=part_dvd L (i / 8) (i % 8) (by omega)
     have hlt':=part_lt hb (i / 8) (i % 8+1) (by omega)
     have hp:0<2 ^ (8-(i % 8+1)):=Nat.pow_pos (by decide)
     rw[part,show 8*(i / 8)+i % 8=i by omega]at hlt' ⊢
     rw[e,show 8-i % 8=(7-i % 8)+1 by omega]at hlt' ⊢
     exact or_u8 (by omega) (bit_lt hb i) (by omega)
    simp -implicitDefEqProofs only [↓rP,rS,quo8 (show i≤9223372036854775807 by omega),mod8,↓ia,↓rd,↓ldK_is a,↓gt,sh,nnK_nat,hq,↓st]
   show T45_2 E D W _ (T45_4 E D W (T45_3 E D W (L45_2 E D W N n'))) w 0 v (Int.ofNat i) σ1=_
   rw[g2,key]
   show L45_2 E D W N n' w 0 v2 (addF .i64 (Int.ofNat i) (Int.ofNat 1)) σ3=_
   rw[addF_nat (by omega)]
   exact g4
 obtain⟨v,σ',g,h1,f1⟩:=loop L.length N 0 .nils σ (by omega) (by omega) (Fr.refl ht) (Nb.nil σ σ)
 exact⟨v,σ',g,h1,f1⟩
end
def Cap1 (x:V):Prop:=match x with
 | .sl _ _ n (.ex c)=>n≤c
 | .sl _ _ _ (.op e)=>e=1
 | _=>True
section
variable {E:List (Nat × Blk)} {σ:H} {x:V} {l:List Int}
theorem bnd_len (l:List Int) (d:Nat):bnd (some (.int .i64 (Int.ofNat l.length))) d=some l.length:=by
 show (if(0:Int)≤Int.ofNat l.length then some (Int.ofNat l.length).toNat else none)=_
 exact if_pos (Int.natCast_nonneg l.length)
theorem to_ex {b o c:Nat} (hc:l.length≤c):sliceV 1 (.sl b o l.length (.ex c)) none (some (.int .i64 (Int.ofNat l.length))) none=some (.sl b o l.length (.ex c)):=by
 unfold sliceV
 simp only[bnd_len,show bnd none c=some c from rfl,show bnd none 0=some 0 from rfl]
 rw[if_pos (by simp[hc])]
 simp
theorem to_op {b o:Nat}:sliceV 1 (.sl b o l.length (.op 1)) none (some (.int .i64 (Int.ofNat l.length))) none=some (.sl b o l.length (.op 1)):=by
 unfold sliceV
 simp only[bnd_len,show bnd none 0=some 0 from rfl]
 rw[if_pos (by simp)]
 by_cases h0:l.length=0
 ·simp[h0]
 ·rw[if_neg (fun h=>h0 (Nat.eq_of_beq_eq_true h).symm)];simp
theorem from_ex {b o c:Nat} (hc:l.length≤c):∃y,sliceV 1 (.sl b o l.length (.ex c)) (some (.int .i64 (Int.ofNat l.length))) none none=some y:=by
 unfold sliceV
 simp only[bnd_len,show bnd none c=some c from rfl,show bnd none l.length=some l.length from rfl]
 rw[if_pos (by simp[hc])]
 exact⟨_,rfl⟩
theorem from_op {b o:Nat}:∃y,sliceV 1 (.sl b o l.length (.op 1)) (some (.int .i64 (Int.ofNat l.length))) none none=some y:=by
 unfold sliceV
 simp only[bnd_len,show bnd none l.length=some l.length from rfl]
 rw[if_pos (by simp),if_pos (by simp)]
 by_cases h0:l.length=0
 ·rw[if_pos (by simp[h0])];exact⟨_,rfl⟩
 ·rw[if_neg (fun h=>h0 (by simpa using h))];exact⟨_,rfl⟩
theorem sl_from (h:Sq E σ x l) (hc:Cap1 x):∃y,(∀κ:V→Ans,gK (sliceV 1 x (some (.int .i64 (Int.ofNat l.length))) none none) κ=κ y):=by
 have key:∀b o c,x = .sl b o l.length c→∃y,sliceV 1 x (some (.int .i64 (Int.ofNat l.length))) none none=some y:=by
  intro b o c hx
  subst hx
  cases c with
  | ex c=>exact from_ex hc
  | op e=>
   have hc:e=1:=hc
   subst hc
   exact from_op
 rcases h with ⟨rfl,rfl⟩|⟨b,o,c,rfl,hx⟩|⟨b,o,c,M,hx,ha,hl,hm⟩
 ·exact⟨.nils,fun κ=>rfl⟩
 ·obtain⟨y,e⟩:=key b o c hx;exact⟨y,fun κ=>by rw[e];rfl⟩
 ·obtain⟨y,e⟩:=key b o c hx;exact⟨y,fun κ=>by rw[e];rfl⟩
variable {D:Den} {W:DrawFn} {N:Nat}
end
theorem bit_app {L M:List Nat} {i:Nat} (h:i<L.length):bit (L++M) i=bit L i:=by
 unfold bit;rw[List.getD_eq_getElem?_getD,List.getD_eq_getElem?_getD,List.getElem?_append_left h]
theorem part_app {L M:List Nat} {j:Nat}:∀{m:Nat},8*j+m≤L.length→part (L++M) j m=part L j m
 | 0,_=>rfl
 | m+1,h=>by rw[part,part,part_app (m:=m) (by omega),bit_app (by omega)]
theorem octs_app {L M:List Nat} {i:Nat} (h:i≤L.length):octs (L++M) i=octs L i:=by
 unfold octs
 have e1:whole (L++M) (i / 8)=whole L (i / 8):=by
  unfold whole
  refine List.map_congr_left fun j hj=>?_
  have:=List.mem_range.1 hj
  rw[←part_8,←part_8,part_app (by omega)]
 rw[e1]
 split
 ·rfl
 ·rw[part_app (by omega)]
structure Pw (σ:H) (w:Nat) (u:V) (L:List Nat):Prop where
 at_:Atc σ w [u,.int .i64 (Int.ofNat L.length)]
 d:Dst σ 1 (packN L.length) u (u8s (nI (octs L L.length)))
 ne:¬Names u w
 bin:Bin L
structure Pst (σ:H) (w:Nat) (u:V) (σ':H) (u':V) (L':List Nat):Prop where
 wr:Pw σ' w u' L'
 f:Fr (Own1 w u) σ σ'
 g:∀b,Names u' b→Names u b∨σ.next≤b
section
variable {E:List (Nat × Blk)} {σ σ1 σ2:H} {w:Nat} {u u1 u2:V} {L L1 L2:List Nat}
theorem Pw.fr (h:Pw σ w u L) (f:Fr Nowhere σ σ1) (ht:Tidy σ):Pw σ1 w u L:=⟨f.at_ h.at_ ht (fun h=>h),h.d.fr f ht (fun _ _ h=>h),h.ne,h.bin⟩
theorem Pst.refl (h:Pw σ w u L) (ht:Tidy σ):Pst σ w u σ u L:=⟨h,Fr.refl ht,fun _ hb => .inl hb⟩
theorem Pst.trans (h:Pst σ w u σ1 u1 L1) (k:Pst σ1 w u1 σ2 u2 L2):Pst σ w u σ2 u2 L2:=by
 refine⟨k.wr,h.f.trans k.f (fun b hb hn=>?_),fun b hb=>?_⟩
 ·rcases hn with hn|hn
  ·exact .inl hn
  ·rcases h.g b hn with h'|h'
   ·exact .inr h'
   ·omega
 ·rcases k.g b hb with h'|h'
  ·exact h.g b h'
  ·exact .inr (Nat.le_trans h.f.le h')
theorem Pst.behind (f:Fr Nowhere σ σ1) (k:Pst σ1 w u σ2 u2 L2):Pst σ w u σ2 u2 L2:=
 ⟨k.wr,f.mono (fun _ _ h=>h.elim) |>.trans k.f (fun _ _ h=>h),fun b hb=>(k.g b hb).imp id (fun h=>Nat.le_trans f.le h)⟩
theorem Pst.and (h:Pst σ w u σ1 u1 L1) (f:Fr Nowhere σ1 σ2):Pst σ w u σ2 u1 L1:=⟨h.wr.fr f h.f.tidy,h.f.trans f (fun _ _ h=>h.elim),h.g⟩
theorem Pst.off (h:Pst σ w u σ1 u1 L1) {b:Nat} (o:Off σ w u b):Off σ1 w u1 b:=⟨Nat.lt_of_lt_of_le o.1 h.f.le,o.2.1,fun hb=>(h.g b hb).elim o.2.2 (by have:=o.1;omega)⟩
theorem Pst.at_ (h:Pst σ w u σ1 u1 L1) (ht:Tidy σ) {b:Nat} {l:List V} (o:Off σ w u b) (ha:Atc σ b l):Atc σ1 b l:=h.f.at_ ha ht o.not
theorem Pst.row {esz n:Nat} {v:V} {m:List V} (h:Pst σ w u σ1 u1 L1) (ht:Tidy σ) (o:∀b,Names v b→Off σ w u b) (hx:Src σ esz n v m):Src σ1 esz n v m:=hx.fr h.f ht fun b hb=>(o b hb).not
theorem Off.pw (h:Pw σ w u L) (ht:Tidy σ) {b:Nat} (hb:σ.next≤b) (hb':b<σ1.next):Off σ1 w u b:=
 ⟨hb',fun e=>by have:=h.at_.lt ht;omega,fun hn=>by have:=h.d.lt ht hn;omega⟩
theorem dst_set {v:V} {a r:List Int} {c:Int} (hd:Dst σ 1 (a++c::r).length v (u8s (a++c::r))) (ht:Tidy σ) (d:Int) :
  ∃b σ',Names v b∧(∀κ:Nat→Nat→Ans,iaddrSK 1 v (Int.ofNat a.length) κ=κ b a.length)∧(∀κ:V→Ans,ldK E σ b a.length κ=κ (.int .u8 c))∧(∀κ:H→Ans,stK 1 b a.length (.int .u8 d) σ κ=κ σ')∧Dst σ' 1 (a++d::r).length v (u8s (a++d::r))∧Fr (fun k=>k=b) σ σ':=by
 have hlen:(a++c::r).length=(a++d::r).length:=by simp
 have key:∀b (cp:Cap),v = .sl b 0 (a++c::r).length cp→Atc σ b (u8s (a++c::r))→(∀σ',Atc σ' b (u8s (a++d::r))→Dst σ' 1 (a++d::r).length v (u8s (a++d::r)))→∃b σ',Names v b∧(∀κ:Nat→Nat→Ans,iaddrSK 1 v (Int.ofNat a.length) κ=κ b a.length)∧(∀κ:V→Ans,ldK E σ b a.length κ=κ (.int .u8 c))∧(∀κ:H→Ans,stK 1 b a.length (.int .u8 d) σ κ=κ σ')∧Dst σ' 1 (a++d::r).length v (u8s (a++d::r))∧Fr (fun k=>k=b) σ σ':=by
  intro b cp hv ha hd'
  obtain⟨σ',e,f,a'⟩:=mk_set ht ha (u8s (a++d::r))
  refine⟨b,σ',by rw[hv];rfl,fun κ=>?_,fun κ=>?_,fun κ=>?_,hd' σ' a',f⟩
  ·rw[hv,iaddrSK_lt (by simp)]
   show κ b (0+a.length*1)=_
   rw[Nat.zero_add,Nat.mul_one]
  ·exact ldK_get ha (by unfold u8s;rw[List.getElem?_map,List.getElem?_append_right (Nat.le_refl _),Nat.sub_self];rfl)
  ·rw[stK_at ha (by
    simp only[cells_int,List.length_cons,List.length_nil,u8s_length,List.length_append,Bool.and_eq_true,Nat.beq_eq_true_eq,Nat.ble_eq]
    refine⟨⟨rfl,?_⟩,rfl⟩
    show a.length+1≤_
    omega)]
   rw[show spl (u8s (a++c::r)) a.length (V.int .u8 d).cells=u8s (a++d::r)from by
    have:=spl_at (u8s a) (.int .u8 c) (u8s r) (.int .u8 d)
    rw[u8s_length]at this
    rw[u8s_app,u8s_app]
    exact this,e]
 rcases hd with (⟨h0,_⟩|⟨b,hv,ha,h0,hl⟩)|⟨b,hv,ha,hl⟩
 ·simp at h0
 ·refine key b _ hv ha fun σ' a' => .inl (.inr ⟨b,?_,a',by rw[←hlen];exact h0,by rw[u8s_length,Nat.mul_one]⟩)
  rw[←hlen];exact hv
 ·refine key b _ hv ha fun σ' a' => .inr ⟨b,?_,a',by rw[u8s_length,Nat.mul_one]⟩
  rw[←hlen];exact hv
end
theorem shr128:∀m,m<8→shrF .u8 (Int.ofNat 128) m=shlF .u8 (Int.ofNat 1) (7-m):=by decide
def SpWBit (F:List V→H→Ans):Prop:=∀(σ:H) (w:Nat) (u:V) (L:List Nat) (c:Nat),Pw σ w u L→Tidy σ→L.length<9000000→c<2 →
 ∃u' σ',F [.ptr w 0,.int .i64 (Int.ofNat c)] σ=some (.tup [],σ')∧Pst σ w u σ' u' (L++[c])
section
variable {E:List (Nat × Blk)} {D:Den} {W:DrawFn} {N:Nat}
theorem eqK_pn {a o:Nat} (κ:Bool→Ans):eqK .ptr (.ptr a o) .nilp κ=κ false:=rfl
theorem wbit_F:SpWBit (F289 E D W N):=by
 intro σ w u L c h ht hl hc
 have hbin:Bin (L++[c]):=fun b hb=>by
  rcases List.mem_append.1 hb with hb|hb
  ·exact h.bin b hb
  ·rw[List.mem_singleton.1 hb];exact hc
 have eO:octs (L++[c]) L.length=octs L L.length:=octs_app (Nat.le_refl _)
 have a:=h.at_
 have hq:quoF .i64 (Int.ofNat L.length) (Int.ofNat 8)=Int.ofNat (L.length / 8):=quo8 (by omega)
 have lenw:(nI (whole (L++[c]) (L.length / 8))).length=L.length / 8:=by rw[nI_length,whole_length]
 obtain⟨u1,σ1,g1,d1,n1,m1,a1,f1⟩:∃u1 σ1,(∀K,T289_0 E D W K (.ptr w 0) (Int.ofNat c) σ=K (.ptr w 0) (Int.ofNat c) σ1) ∧
   Dst σ1 1 (nI (whole (L++[c]) (L.length / 8))++Int.ofNat (part (L++[c]) (L.length / 8) (L.length % 8))::[]).length u1 (u8s (nI (whole (L++[c]) (L.length / 8))++Int.ofNat (part (L++[c]) (L.length / 8) (L.length % 8))::[]))∧¬Names u1 w ∧
   (∀b,Names u1 b→Names u b∨σ.next≤b)∧Atc σ1 w [u1,.int .i64 (Int.ofNat L.length)]∧Fr (Own1 w u) σ σ1:=by
  by_cases h8:L.length % 8=0
  ·obtain⟨σ1,e1,f1,b1,n1⟩:=mk_new ht [.int .u8 (Int.ofNat 0)]
   have x:Src σ1 1 1 (V.sl σ.next 0 1 (.ex 1)) [.int .u8 (Int.ofNat 0)] := .inr ⟨_,_,_,_,rfl,b1,Nat.le_refl _,rfl⟩
   obtain⟨u2,σ2,g2,d2,m2,f2⟩:=app_all (E:=E) (bytes:=1) (h.d.fr f1 ht (fun _ _ h=>h)) f1.tidy x rfl (by
    unfold growable packN
    simp only[Nat.mul_one,Bool.and_eq_true,Nat.ble_eq];omega)
   have a2:Atc σ2 w [u,.int .i64 (Int.ofNat L.length)]:=f2.at_ (f1.at_ a ht (fun h=>h)) f1.tidy h.ne
   have lw:=a.lt ht
   have ne2:¬Names u2 w:=fun hb=>by
    rcases m2 w hb with h'|h'
    ·exact h.ne h'
    ·omega
   obtain⟨σ3,e3,f3,a3⟩:=mk_set f2.tidy a2 [u2,.int .i64 (Int.ofNat L.length)]
   have o:=d2.one
   refine⟨u2,σ3,fun K=>?_,?_,ne2,fun b hb=>?_,a3,?_⟩
   ·have st:∀κ:H→Ans,stK 1 w 0 u2 σ2 κ=κ σ3:=fun κ=>by
     obtain⟨o1,o2⟩:=one_live o
     rw[stK_at a2 (by rw[o2];cases u2<;>first | rfl | cases o),o2]
     show κ (setF σ2 w (.cells [u2,.int .i64 (Int.ofNat L.length)]))=_
     rw[e3]
    have dm:decide (L.length % 8=0)=true:=decide_eq_true h8
    unfold T289_0
    simp -implicitDefEqProofs only [↓rP,rS,eqF_nat,↓eqK_pn,↓ldK_is a,mod8,dm,↓e1,↓g2,↓rtOne_of o,↓st]
   ·have hw:octs L L.length=whole (L++[c]) (L.length / 8):=by
     rw[←eO];unfold octs;rw[if_pos h8,List.append_nil]
    rw[hw]at d2
    rw[h8,show part (L++[c]) (L.length / 8) 0=0 from rfl,u8s_app]
    have d3:=d2.fr f3 f2.tidy (fun b hb e=>ne2 (by cases e;exact hb))
    rw[List.length_append,lenw,show ([Int.ofNat 0]:List Int).length=1 from rfl]
    rw[show packN L.length=L.length / 8 by unfold packN;omega]at d3
    exact d3
   ·rcases m2 b hb with h'|h'
    ·exact .inl h'
    ·exact .inr (by omega)
   ·exact((f1.mono (fun _ _ h=>h.elim):Fr (Own1 w u) σ σ1).trans f2 (fun _ _ h => .inr h)).trans f3 (fun _ _ h => .inl h)
  ·refine⟨u,σ,fun K=>?_,?_,h.ne,fun _ hb => .inl hb,a,Fr.refl ht⟩
   ·have dm:decide (L.length % 8=0)=false:=decide_eq_false h8
    unfold T289_0
    simp -implicitDefEqProofs only [↓rP,rS,eqF_nat,↓eqK_pn,↓ldK_is a,mod8,dm]
   ·have d:=h.d
    rw[←eO,show octs (L++[c]) L.length=whole (L++[c]) (L.length / 8)++[part (L++[c]) (L.length / 8) (L.length % 8)] by unfold octs;rw[if_neg h8],nI_app]at d
    rw[List.length_append,lenw]
    rw[show packN L.length=L.length / 8+1 by unfold packN;omega]at d
    exact d
 have le1:=f1.le
 have lw1:=a1.lt f1.tidy
 have e8:8*(L.length / 8)+L.length % 8=L.length:=by omega
 have bc:bit (L++[c]) L.length=c:=by unfold bit;simp
 have eN:octs (L++[c]) (L++[c]).length=whole (L++[c]) (L.length / 8)++[part (L++[c]) (L.length / 8) (L.length % 8+1)]:=by rw[List.length_append];exact octs_succ _ _
 have eL:(L++[c]).length=L.length+1:=by simp
 have pN:packN (L.length+1)=L.length / 8+1:=by unfold packN;omega
 obtain⟨σ2,g2,d2,a2,f2⟩:∃σ2,(∀K,T289_1 E D W K (.ptr w 0) (Int.ofNat c) σ1=K (.ptr w 0) σ2)∧Dst σ2 1 (L.length / 8+1) u1 (u8s (nI (whole (L++[c]) (L.length / 8))++[Int.ofNat (part (L++[c]) (L.length / 8) (L.length % 8+1))])) ∧
   Atc σ2 w [u1,.int .i64 (Int.ofNat L.length)]∧Fr (Names u1) σ1 σ2:=by
  have hpart:part (L++[c]) (L.length / 8) (L.length % 8+1)=part (L++[c]) (L.length / 8) (L.length % 8)+c*2 ^ (7-L.length % 8):=by rw[part,e8,bc]
  have:c=0∨c=1:=by omega
  rcases this with rfl|rfl
  ·refine⟨σ1,fun K=>?_,?_,a1,Fr.refl f1.tidy⟩
   ·unfold T289_1
    simp -implicitDefEqProofs only [↓rP,rA,Nat.reduceEqDiff,Nat.reduceLT,Nat.reduceLeDiff]
   ·rw[hpart,Nat.zero_mul,Nat.add_zero]
    rw[List.length_append,lenw]at d1
    exact d1
  ·obtain⟨b,σ2,nb,ia,rd,st,h3,f3⟩:=dst_set (E:=E) d1 f1.tidy (Int.ofNat (part (L++[1]) (L.length / 8) (L.length % 8+1)))
   rw[lenw]at ia rd st
   have nbw:b≠w:=fun e=>n1 (e ▸ nb)
   refine⟨σ2,fun K=>?_,?_,f3.at_ a1 f1.tidy (fun e=>nbw e.symm),f3.mono fun b' _ e=>by cases e;exact nb⟩
   ·have hor:orF .u8 (Int.ofNat (part (L++[1]) (L.length / 8) (L.length % 8))) (shrF .u8 (Int.ofNat 128) (L.length % 8))=Int.ofNat (part (L++[1]) (L.length / 8) (L.length % 8+1)):=by
     rw[shr128 _ (Nat.mod_lt _ (by decide))]
     obtain⟨q,e⟩:=part_dvd (L++[1]) (L.length / 8) (L.length % 8) (by omega)
     have hlt:=part_lt hbin (L.length / 8) (L.length % 8+1) (by omega)
     have hp:0<2 ^ (8-(L.length % 8+1)):=Nat.pow_pos (by decide)
     rw[hpart]at hlt ⊢
     rw[e,show 8-L.length % 8=(7-L.length % 8)+1 by omega]at hlt ⊢
     exact or_u8 (by omega) (by decide) (by omega)
    unfold T289_1
    simp -implicitDefEqProofs only [↓rP,rA,Nat.reduceEqDiff,Nat.reduceLT,Nat.reduceLeDiff,↓ldK_is a1,hq,↓ia,↓rd,mod8,nnK_nat,hor,↓st]
   ·rw[List.length_append,lenw]at h3
    exact h3
 obtain⟨σ3,e3,f3,a3⟩:=mk_set f2.tidy a2 [u1,.int .i64 (Int.ofNat (L.length+1))]
 refine⟨u1,σ3,?_,⟨by rw[eL];exact a3,?_,n1,hbin⟩,?_,m1⟩
 ·show T289_0 E D W (T289_1 E D W (T289_2 E D W)) (.ptr w 0) (Int.ofNat c) σ=_
  rw[g1,g2]
  have st:∀κ:H→Ans,stK 1 w 1 (.int .i64 (Int.ofNat (L.length+1))) σ2 κ=κ σ3:=fun κ=>by
   rw[stK_at a2 rfl]
   show κ (setF σ2 w (.cells [u1,.int .i64 (Int.ofNat (L.length+1))]))=_
   rw[e3]
  unfold T289_2
  simp -implicitDefEqProofs only [↓rP,rS,↓ldK_is a2,addF_nat (show L.length+1≤9223372036854775807 by omega),↓st]
 ·rw[eN,eL,pN,nI_app]
  exact d2.fr f3 f2.tidy (fun b hb e=>n1 (by cases e;exact hb))
 ·refine(f1.trans f2 (fun b hb hn=>?_)).trans f3 (fun _ _ h => .inl h)
  rcases m1 b hn with h'|h'
  ·exact .inr h'
  ·omega
end
def SpWBits (F:List V→H→Ans):Prop:=∀(σ:H) (w:Nat) (u:V) (L:List Nat) (v n:Nat) (m:Int),Pw σ w u L→Tidy σ→L.length<8000000→v≤4294967295→n≤32→maxF (Int.ofNat 0) (minF m (Int.ofNat 32))=Int.ofNat n →
 ∃u' σ',F [.ptr w 0,.int .u32 (Int.ofNat v),.int .i64 m] σ=some (.tup [],σ')∧Pst σ w u σ' u' (L++bitsOf n v)
def SpWWBits (F:List V→H→Ans):Prop:=∀(σ:H) (w:Nat) (u:V) (L:List Nat) (v n:Nat),Pw σ w u L→Tidy σ→L.length<8000000→v≤4294967295→n≤32 →
 ∃u' σ',F [.ptr w 0,.int .u64 (Int.ofNat v),.int .i64 (Int.ofNat n)] σ=some (.tup [],σ')∧Pst σ w u σ' u' (L++bitsOf n v)
def SpBdd (m:Nat) (F:List V→H→Ans):Prop:=∀(σ:H) (n:Int),F [.int .i64 n] σ=some (.int .i64 (maxF (Int.ofNat 0) (minF n (Int.ofNat m))),σ)
theorem bit_of_u32i {v n:Nat} (hv:v≤4294967295) (hn:n≤32):wrapF .i64 (andF .u32 (shrF .u32 (Int.ofNat v) n) (Int.ofNat 1))=Int.ofNat (v / 2 ^ n % 2):=by
 rw[shr_nat hn,and1_u32 (Nat.le_trans (Nat.div_le_self _ _) hv),wrapF_nat (by rw[maxN_i64];omega)]
theorem low32:∀n,n≤32→maxF (Int.ofNat 0) (minF (subF .i64 (Int.ofNat n) (Int.ofNat 32)) (Int.ofNat 32))=Int.ofNat 0:=by
 have:∀n:Fin 33,maxF (Int.ofNat 0) (minF (subF .i64 (Int.ofNat n.val) (Int.ofNat 32)) (Int.ofNat 32))=Int.ofNat 0:=by decide
 exact fun n h=>this ⟨n,by omega⟩
section
variable {E:List (Nat × Blk)} {D:Den} {W:DrawFn} {N:Nat}
theorem bdd32_F:SpBdd 32 (F260 E D W N):=fun σ n=>by
 show T260_0 E D W n σ=_
 rfl
theorem bdd64_F:SpBdd 64 (F182 E D W N):=fun σ n=>by
 show T182_0 E D W n σ=_
 rfl
theorem pwbits_F (hB:SpWBit (D 289)) (hM:SpBdd 32 (D 260)) (hN:64<N):SpWBits (F234 E D W N):=by
 intro σ w u L v n m h ht hl hv hn hm
 have loop:∀(k n':Nat) (u:V) (σ:H) (L:List Nat),k≤32→k<n'→Pw σ w u L→Tidy σ→L.length+k<9000000 →
   ∃u' σ',L234_1 E D W N n' (.ptr w 0) (Int.ofNat v) (less k) σ=some (.tup [],σ')∧Pst σ w u σ' u' (L++bitsOf k v):=by
  intro k
  induction k with
  | zero=>
   intro n' u σ L hk hn' h ht hl
   obtain⟨n',rfl⟩:∃k,n'=k+1:=⟨n'-1,by omega⟩
   refine⟨u,σ,rfl,?_⟩
   rw[show bitsOf 0 v=[] from rfl,List.append_nil];exact Pst.refl h ht
  | succ k ih=>
   intro n' u σ L hk hn' h ht hl
   obtain⟨n',rfl⟩:∃k,n'=k+1:=⟨n'-1,by omega⟩
   obtain⟨u1,σ1,g1,s1⟩:=hB σ w u L (v / 2 ^ k % 2) h ht (by omega) (Nat.mod_lt _ (by decide))
   obtain⟨u2,σ2,g2,s2⟩:=ih n' u1 σ1 _ (by omega) (by omega) s1.wr s1.f.tidy (by simp only[List.length_append,List.length_cons,List.length_nil];omega)
   refine⟨u2,σ2,?_,?_⟩
   ·have key:∀R,T234_1 E D W R (.ptr w 0) (Int.ofNat v) (less (k+1)) σ=R (.ptr w 0) (Int.ofNat v) (less k) σ1:=by
     intro R
     unfold T234_1
     show condK (leF (Int.ofNat 0) (Int.ofNat k)) (nnK (Int.ofNat k) _) _=_
     have d1:leF (Int.ofNat 0) (Int.ofNat k)=true:=by rw[leF_nat];exact decide_eq_true (Nat.zero_le _)
     simp -implicitDefEqProofs only [↓rP,rS,d1,nnK_nat,bit_of_u32i hv (show k≤32 by omega),↓g1]
     rw[show less (k+1)=Int.ofNat k from rfl,less_sub (by omega)]
    exact(key _).trans g2
   ·have:=s1.trans s2
    rw[List.append_assoc]at this
    exact this
 obtain⟨u',σ',g,s⟩:=loop n N u σ L hn (by omega) h ht (by omega)
 refine⟨u',σ',?_,s⟩
 show T234_0 E D W (L234_1 E D W N N) (.ptr w 0) (Int.ofNat v) m σ=_
 have gm:=hM σ m
 rw[hm]at gm
 unfold T234_0
 simp -implicitDefEqProofs only [↓rP,rS,↓gm]
 rw[less_sub (by omega)]
 exact g
theorem wwbits_F (hB:SpWBits (D 234)) (hM:SpBdd 64 (D 182)):SpWWBits (F139 E D W N):=by
 intro σ w u L v n h ht hl hv hn
 obtain⟨u1,σ1,g1,s1⟩:=hB σ w u L 0 0 (subF .i64 (Int.ofNat n) (Int.ofNat 32)) h ht hl (by decide) (by decide) (low32 n hn)
 rw[show bitsOf 0 0=[] from rfl,List.append_nil]at s1
 obtain⟨u2,σ2,g2,s2⟩:=hB σ1 w u1 L v n (Int.ofNat n) s1.wr s1.f.tidy hl hv hn (by rw[minF_le hn,maxF_0])
 refine⟨u2,σ2,?_,s1.trans s2⟩
 have gm:=hM σ (Int.ofNat n)
 rw[minF_le (show n≤64 by omega),maxF_0]at gm
 have eh:wrapF .u32 (shrF .u64 (Int.ofNat v) 32)=Int.ofNat 0:=by
  rw[shr_nat (show 32≤IntKind.bits .u64 by decide),Nat.div_eq_of_lt (show v<2 ^ 32 by omega)];rfl
 have el:wrapF .u32 (Int.ofNat v)=Int.ofNat v:=wrapF_nat hv
 show T139_0 E D W (.ptr w 0) (Int.ofNat v) (Int.ofNat n) σ=_
 unfold T139_0
 simp -implicitDefEqProofs only [↓rP,rS,↓eqK_pn,↓gm,eh,el,↓g1,minF_le hn,↓g2]
def SpEFlag (F:List V→H→Ans):Prop:=∀(σ:H) (eb w:Nat) (u:V) (L:List Nat) (c:Bool) (r:List V),Atc σ eb (.ptr w 0::r)→Pw σ w u L→Tidy σ→L.length<8000000 →
 ∃u' σ',F [.ptr eb 0,.bool c] σ=some (.tup [],σ')∧Pst σ w u σ' u' (L++[if c=true then 1 else 0])
theorem eflag_F (hB:SpWWBits (D 139)):SpEFlag (F71 E D W N):=by
 intro σ eb w u L c r a h ht hl
 have ld:∀κ:V→Ans,ldK E σ eb 0 κ=κ (.ptr w 0):=fun κ=>(ldK_is a).trans rfl
 cases c with
 | true=>
  obtain⟨u1,σ1,g1,s1⟩:=hB σ w u L 1 1 h ht hl (by decide) (by decide)
  refine⟨u1,σ1,?_,s1⟩
  show T71_0 E D W eb 0 true σ=_
  unfold T71_0
  simp -implicitDefEqProofs only [↓rP,rS,↓ld,↓g1]
 | false=>
  obtain⟨u1,σ1,g1,s1⟩:=hB σ w u L 0 1 h ht hl (by decide) (by decide)
  refine⟨u1,σ1,?_,s1⟩
  show T71_0 E D W eb 0 false σ=_
  unfold T71_0
  simp -implicitDefEqProofs only [↓rP,rS,↓ld,↓g1]
def SpWLen (F:List V→H→Ans):Prop:=∀(σ:H) (w:Nat) (u:V) (L:List Nat),Pw σ w u L→F [.ptr w 0] σ=some (.int .i64 (Int.ofNat L.length),σ)
theorem pwlen_F:SpWLen (F162 E D W N):=by
 intro σ w u L h
 have a:=h.at_
 show T162_0 E D W (.ptr w 0) σ=_
 unfold T162_0
 simp -implicitDefEqProofs only [↓rP,rS,↓eqK_pn,↓ldK_is a]
theorem wwlen_F (hL:SpWLen (D 162)):SpWLen (F85 E D W N):=by
 intro σ w u L h
 have g:=hL σ w u L h
 show T85_0 E D W (.ptr w 0) σ=_
 unfold T85_0
 simp -implicitDefEqProofs only [↓rP,rS,↓eqK_pn,↓g]
def SpWBytes (F:List V→H→Ans):Prop:=∀(σ:H) (w:Nat) (u:V) (L:List Nat),Pw σ w u L→Tidy σ→L.length<8000000→0<L.length →
 ∃v σ',F [.ptr w 0] σ=some (v,σ')∧Nb σ σ' v (nI (pack L))∧Fr Nowhere σ σ'
theorem Pw.by_ {σ:H} {w:Nat} {u:V} {L:List Nat} (h:Pw σ w u L):By σ u (nI (pack L)):=by
 have d:=h.d
 rw[octs_all]at d
 have:=d.src
 unfold By
 rw[nI_length,pack_length];exact this
theorem pwbytes_F:SpWBytes (F86 E D W N):=by
 intro σ w u L h ht hl h0
 obtain⟨v,σ1,g1,n1,f1,_⟩:=app_by (E:=E) (Nb.nil σ σ) (Fr.refl ht) h.by_ (by rw[nI_length,pack_length];unfold packN;simp only[List.length_nil];omega)
 rw[List.nil_append]at n1
 have a:=h.at_
 refine⟨v,σ1,?_,n1,f1⟩
 show T86_0 E D W (.ptr w 0) σ=_
 unfold T86_0
 simp -implicitDefEqProofs only [↓rP,rS,↓eqK_pn,↓ldK_is a,↓g1,↓rtOne_of n1.1.one]
end
def SpWOct (F:List V→H→Ans):Prop:=∀(σ:H) (w p:Nat) (u x:V) (L O:List Nat),Pw σ w u L→Tidy σ→L.length+8*O.length<8000000→O.length≤70000→(∀c∈O,c<256) →
 Atc σ p [x]→By σ x (nI O)→Off σ w u p→(∀b,Names x b→Off σ w u b) →
 ∃u' σ',F [.ptr w 0,.sl p 0 1 (.ex 1)] σ=some (.tup [],σ')∧Pst σ w u σ' u' (L++bitsO O)
def SpWOct1 (F:List V→H→Ans):Prop:=∀(σ:H) (w:Nat) (u x:V) (L O:List Nat),Pw σ w u L→Tidy σ→L.length+8*O.length<8000000→O.length≤70000→(∀c∈O,c<256) →
 By σ x (nI O)→(∀b,Names x b→Off σ w u b) →
 ∃u' σ',F [.ptr w 0,x] σ=some (.tup [],σ')∧Pst σ w u σ' u' (L++bitsO O)
def SpWput (F:List V→H→Ans):Prop:=∀(σ:H) (w:Nat) (u:V) (L:List Nat) (n:Nat),Pw σ w u L→Tidy σ→L.length<7000000→n<128 →
 ∃u' σ',F [.ptr w 0,.int .i64 (Int.ofNat n),.bool false] σ=some (.tup [],σ')∧Pst σ w u σ' u' (L++bitsOf 8 n)
def SpJoin1 (F:List V→H→Ans):Prop:=∀(σ:H) (p:Nat) (x:V) (O:List Nat),Tidy σ→Atc σ p [x]→By σ x (nI O)→O.length≤70000 →
 ∃y σ',F [.sl p 0 1 (.ex 1)] σ=some (y,σ')∧Nb σ σ' y (nI O)∧Fr Nowhere σ σ'
def SpCuts1 (F:List V→H→Ans):Prop:=∀(σ:H) (n:Nat),Tidy σ→n<16384 →
 ∃b σ',F [.int .i64 (Int.ofNat n)] σ=some (.sl b 0 1 (.op 1),σ')∧Atc σ' b [.int .i64 (Int.ofNat n)]∧Fr Nowhere σ σ'∧σ.next≤b
def SpLPut (F:List V→H→Ans):Prop:=∀(σ:H) (w p:Nat) (u x:V) (L O:List Nat),Pw σ w u L→Tidy σ→L.length+8*O.length<6000000→O.length<128→(∀c∈O,c<256) →
 Atc σ p [x]→By σ x (nI O) →
 ∃u' σ',F [.ptr w 0,.sl p 0 1 (.ex 1)] σ=some (.tup [],σ')∧Pst σ w u σ' u' (L++(bitsOf 8 O.length++bitsO O))
theorem Dst.cap1 {σ:H} {k:Nat} {v:V} {l:List V} (h:Dst σ 1 k v l):Cap1 v:=by
 rcases h with (⟨_,rfl,_⟩|⟨b,rfl,_⟩)|⟨b,rfl,_⟩
 ·exact trivial
 ·exact rfl
 ·exact Nat.le_refl _
theorem sl_same {E:List (Nat × Blk)} {σ:H} {x:V} {l:List Int} (h:Sq E σ x l) (hc:Cap1 x) (κ:V→Ans):gK (sliceV 1 x none (some (.int .i64 (Int.ofNat l.length))) none) κ=κ x:=by
 have key:∀b o c,x = .sl b o l.length c→sliceV 1 x none (some (.int .i64 (Int.ofNat l.length))) none=some x:=by
  intro b o c hx
  subst hx
  cases c with
  | ex c=>exact to_ex hc
  | op e=>
   have hc:e=1:=hc
   subst hc
   exact to_op
 rcases h with ⟨rfl,rfl⟩|⟨b,o,c,rfl,hx⟩|⟨b,o,c,M,hx,ha,hl,hm⟩
 ·rfl
 ·rw[key b o c hx];rfl
 ·rw[key b o c hx];rfl
section
variable {E:List (Nat × Blk)} {D:Den} {W:DrawFn} {N:Nat}
theorem pwoct_F (hB:SpWBits (D 234)) (hN:70002<N):SpWOct (F151 E D W N):=by
 intro σ w p u x L O h ht hl hO hc ap hx op ox
 have b8:maxF (Int.ofNat 0) (minF (Int.ofNat 8) (Int.ofNat 32))=Int.ofNat 8:=rfl
 have sx:∀κ:Nat→Ans,slenK x κ=κ O.length:=fun κ=>by rw[hx.slen,nI_length]
 have loop:∀(P:V→V→Int→Int→H→Ans) (m n' i:Nat) (u:V) (σ:H) (L:List Nat),i+m=O.length→m<n'→Pw σ w u L→Tidy σ→L.length+8*m<8000000→Atc σ p [x]→By σ x (nI O)→Off σ w u p→(∀b,Names x b→Off σ w u b) →
   ∃u' σ',L151_3 E D W N P n' (.ptr w 0) (.sl p 0 1 (.ex 1)) (Int.ofNat 1) (Int.ofNat 0) x (Int.ofNat O.length) (Int.ofNat i) σ=P (.ptr w 0) (.sl p 0 1 (.ex 1)) (Int.ofNat 1) (Int.ofNat 1) σ'∧Pst σ w u σ' u' (L++bitsO (O.drop i)):=by
  intro P m
  induction m with
  | zero=>
   intro n' i u σ L hi hn' h ht hl ap hx op ox
   obtain⟨n',rfl⟩:∃k,n'=k+1:=⟨n'-1,by omega⟩
   refine⟨u,σ,?_,?_⟩
   ·show T151_3 E D W (T151_2 E D W P) _ (.ptr w 0) (.sl p 0 1 (.ex 1)) (Int.ofNat 1) (Int.ofNat 0) x (Int.ofNat O.length) (Int.ofNat i) σ=_
    have key:∀K R,T151_3 E D W K R (.ptr w 0) (.sl p 0 1 (.ex 1)) (Int.ofNat 1) (Int.ofNat 0) x (Int.ofNat O.length) (Int.ofNat i) σ=K (.ptr w 0) (.sl p 0 1 (.ex 1)) (Int.ofNat 1) (Int.ofNat 0) σ:=by
     intro K R
     unfold T151_3
     have d1:decide (i<O.length)=false:=decide_eq_false (by omega)
     simp -implicitDefEqProofs only [↓rP,rA,Nat.reduceEqDiff,Nat.reduceLT,Nat.reduceLeDiff,d1]
    rw[key]
    rfl
   ·rw[show O.drop i=[] from List.drop_eq_nil_of_le (by omega),show bitsO []=[] from rfl,List.append_nil];exact Pst.refl h ht
  | succ m ih=>
   intro n' i u σ L hi hn' h ht hl ap hx op ox
   obtain⟨n',rfl⟩:∃k,n'=k+1:=⟨n'-1,by omega⟩
   have hlt:i<O.length:=by omega
   have hO':O[i]? = some O[i]:=List.getElem?_eq_getElem hlt
   have hb:O[i]<256:=hc _ (List.getElem_mem hlt)
   obtain⟨u1,σ1,g1,s1⟩:=hB σ w u L O[i] 8 (Int.ofNat 8) h ht (by omega) (by omega) (by decide) b8
   obtain⟨u2,σ2,g2,s2⟩:=ih n' (i+1) u1 σ1 _ (by omega) (by omega) s1.wr s1.f.tidy (by simp only[List.length_append,bitsOf_length];omega) (s1.at_ ht op ap) (s1.row ht ox hx) (s1.off op) (fun b hb=>s1.off (ox b hb))
   refine⟨u2,σ2,?_,?_⟩
   ·have key:∀K R,T151_3 E D W K R (.ptr w 0) (.sl p 0 1 (.ex 1)) (Int.ofNat 1) (Int.ofNat 0) x (Int.ofNat O.length) (Int.ofNat i) σ=R (.ptr w 0) (.sl p 0 1 (.ex 1)) (Int.ofNat 1) (Int.ofNat 0) x (Int.ofNat O.length) (Int.ofNat (i+1)) σ1:=by
     intro K R
     unfold T151_3
     have d1:decide (i<O.length)=true:=decide_eq_true hlt
     have rd:∀κ,iaddrSK 1 x (Int.ofNat i) (fun b o=>ldK E σ b o κ)=κ (.int .u8 (Int.ofNat O[i])):=fun κ=>by_at (Sq.of hx) (nI_get hO') κ
     have e1:wrapF .u32 (Int.ofNat O[i])=Int.ofNat O[i]:=wrapF_nat (by rw[maxN_u32];omega)
     simp -implicitDefEqProofs only [↓rP,rA,Nat.reduceEqDiff,Nat.reduceLT,Nat.reduceLeDiff,d1,↓rd,e1,↓g1,addF_nat (show i+1≤9223372036854775807 by omega)]
    exact(key _ _).trans g2
   ·have:=s1.trans s2
    rw[List.append_assoc,←show bitsO (O.drop i)=bitsOf 8 O[i]++bitsO (O.drop (i+1))by rw[List.drop_eq_getElem_cons hlt];rfl]at this
    exact this
 obtain⟨M,rfl⟩:∃k,N=k+2:=⟨N-2,by omega⟩
 obtain⟨u',σ',g,s⟩:=loop (L151_1 E D W (M+2) (M+1)) O.length (M+2) 0 u σ L (by omega) (by omega) h ht hl ap hx op ox
 refine⟨u',σ',?_,by rw[List.drop_zero]at s;exact s⟩
 have ia:∀κ:Nat→Nat→Ans,iaddrSK 1 (.sl p 0 1 (.ex 1)) (Int.ofNat 0) κ=κ p 0:=fun κ=>iaddrSK_lt (Nat.lt_succ_self 0)
 show T151_1 E D W (L151_3 E D W (M+2) (L151_1 E D W (M+2) (M+1)) (M+2)) (.ptr w 0) (.sl p 0 1 (.ex 1)) (Int.ofNat 1) (Int.ofNat 0) σ=_
 have k1:∀K,T151_1 E D W K (.ptr w 0) (.sl p 0 1 (.ex 1)) (Int.ofNat 1) (Int.ofNat 0) σ=K (.ptr w 0) (.sl p 0 1 (.ex 1)) (Int.ofNat 1) (Int.ofNat 0) x (Int.ofNat O.length) (Int.ofNat 0) σ:=by
  intro K
  unfold T151_1
  simp -implicitDefEqProofs only [↓rP,rA,Nat.reduceEqDiff,Nat.reduceLT,Nat.reduceLeDiff,↓ia,↓ldK_is ap,↓sx]
 have k2:∀K,T151_1 E D W K (.ptr w 0) (.sl p 0 1 (.ex 1)) (Int.ofNat 1) (Int.ofNat 1) σ'=some (.tup [],σ'):=by
  intro K
  unfold T151_1
  simp -implicitDefEqProofs only [↓rP,rA,Nat.reduceEqDiff,Nat.reduceLT,Nat.reduceLeDiff,Nat.lt_irrefl]
 rw[k1,g]
 exact k2 _
theorem wwoct_F (hO:SpWOct (D 151)):SpWOct1 (F77 E D W N):=by
 intro σ w u x L O h ht hl hO' hc hx ox
 obtain⟨σ1,e1,f1,a1,n1⟩:=mk_new ht [x]
 obtain⟨u',σ2,g2,s2⟩:=hO σ1 w σ.next u x L O (h.fr f1 ht) f1.tidy hl hO' hc a1 (Src.fr hx f1 ht fun _ _ h=>h) (Off.pw h ht (Nat.le_refl _) (by omega)) (fun b hb=>(ox b hb).fr f1)
 refine⟨u',σ2,?_,Pst.behind f1 s2⟩
 have xo:x.one=true:=Src.one hx
 show T77_0 E D W (.ptr w 0) x σ=_
 unfold T77_0
 simp -implicitDefEqProofs only [↓rP,rS,↓eqK_pn,↓fill1 xo,xo,↓e1,↓g2]
theorem lput_F (hB:SpWWBits (D 139)):SpWput (F149 E D W N):=by
 intro σ w u L n h ht hl hn
 obtain⟨u1,σ1,g1,s1⟩:=hB σ w u L n 8 h ht (by omega) (by omega) (by decide)
 refine⟨u1,σ1,?_,s1⟩
 have ew:wrapF .u64 (Int.ofNat n)=Int.ofNat n:=wrapF_nat (by rw[maxN_u64];omega)
 have d1:decide (n<128)=true:=decide_eq_true hn
 show T149_0 E D W (.ptr w 0) (Int.ofNat n) false σ=_
 unfold T149_0
 simp -implicitDefEqProofs only [↓rP,rA,Nat.reduceEqDiff,Nat.reduceLT,Nat.reduceLeDiff,d1,ew,↓g1]
theorem join1_F (hN:3<N):SpJoin1 (F147 E D W N):=by
 intro σ p x O ht ap hx hO
 obtain⟨M,rfl⟩:∃k,N=k+2:=⟨N-2,by omega⟩
 obtain⟨y,σ1,g1,n1,f1,_⟩:=app_by (E:=E) (Nb.nil σ σ) (Fr.refl ht) hx (by rw[nI_length];simp only[List.length_nil];omega)
 rw[List.nil_append]at n1
 refine⟨y,σ1,?_,n1,f1⟩
 have ia:∀κ:Nat→Nat→Ans,iaddrSK 1 (.sl p 0 1 (.ex 1)) (Int.ofNat 0) κ=κ p 0:=fun κ=>iaddrSK_lt (Nat.lt_succ_self 0)
 show T147_2 E D W (T147_1 E D W) (T147_2 E D W (T147_1 E D W) (L147_2 E D W (M+2) M)) .nils (.sl p 0 1 (.ex 1)) (Int.ofNat 1) (Int.ofNat 0) σ=_
 have k1:∀K R,T147_2 E D W K R .nils (.sl p 0 1 (.ex 1)) (Int.ofNat 1) (Int.ofNat 0) σ=R y (.sl p 0 1 (.ex 1)) (Int.ofNat 1) (Int.ofNat 1) σ1:=by
  intro K R
  unfold T147_2
  simp -implicitDefEqProofs only [↓rP,rA,Nat.reduceEqDiff,Nat.reduceLT,Nat.reduceLeDiff,↓ia,↓ldK_is ap,↓g1,↓rtOne_of n1.1.one,addF_nat (show 0+1≤9223372036854775807 by omega)]
 have k2:∀K R,T147_2 E D W K R y (.sl p 0 1 (.ex 1)) (Int.ofNat 1) (Int.ofNat 1) σ1=K y σ1:=by
  intro K R
  unfold T147_2
  simp -implicitDefEqProofs only [↓rP,rA,Nat.reduceEqDiff,Nat.reduceLT,Nat.reduceLeDiff,Nat.lt_irrefl]
 rw[k1,k2];rfl
theorem lcut_F {σ:H} {n:Nat} (hn:n<16384):F244 E D W N [.int .i64 (Int.ofNat n)] σ=some (.tup [.int .i64 (Int.ofNat n),.bool false],σ):=by
 have d1:decide (n<16384)=true:=decide_eq_true hn
 show T244_0 E D W (Int.ofNat n) σ=_
 unfold T244_0
 simp -implicitDefEqProofs only [↓rP,rA,Nat.reduceEqDiff,Nat.reduceLT,Nat.reduceLeDiff,d1]
theorem lCuts_F (hC:∀(σ:H) (n:Nat),n<16384→D 244 [.int .i64 (Int.ofNat n)] σ=some (.tup [.int .i64 (Int.ofNat n),.bool false],σ)) (hN:3<N):SpCuts1 (F148 E D W N):=by
 intro σ n ht hn
 obtain⟨M,rfl⟩:∃k,N=k+2:=⟨N-2,by omega⟩
 obtain⟨σ1,e1,f1,a1,n1⟩:=mk_new ht [.int .i64 (Int.ofNat n)]
 have xs:Src σ1 1 1 (V.sl σ.next 0 1 (.ex 1)) [.int .i64 (Int.ofNat n)] := .inr ⟨_,_,_,_,rfl,a1,Nat.le_refl _,rfl⟩
 obtain⟨σ2,g2,a2,n2,f2⟩:=app_some (E:=E) (bytes:=8) (Dst.nil σ1 1) f1.tidy xs (Nat.succ_pos 0) rfl (by decide)
 refine⟨σ1.next,σ2,?_,a2,f1.trans f2 (fun _ _ h=>h.elim),by omega⟩
 have c1:=hC σ n hn
 show T148_2 E D W (T148_1 E D W) (T148_2 E D W (T148_1 E D W) (L148_2 E D W (M+2) M)) (maxF (Int.ofNat n) (Int.ofNat 0)) .nils true σ=_
 have k1:∀K R,T148_2 E D W K R (Int.ofNat n) .nils true σ=R (subF .i64 (Int.ofNat n) (Int.ofNat n)) (.sl σ1.next 0 1 (.op 1)) false σ2:=by
  intro K R
  unfold T148_2
  simp -implicitDefEqProofs only [↓rP,rA,Nat.reduceEqDiff,Nat.reduceLT,Nat.reduceLeDiff,↓c1,↓e1,↓g2]
 rw[maxF_max,Nat.max_eq_left (Nat.zero_le n),k1]
 rfl
theorem lPut_F (hJ:SpJoin1 (D 147)) (hC:SpCuts1 (D 148)) (hP:SpWput (D 149)) (hO:SpWOct1 (D 77)) (hN:3<N):SpLPut (F74 E D W N):=by
 intro σ w p u x L O h ht hl hO' hc ap hx
 obtain⟨M,rfl⟩:∃k,N=k+2:=⟨N-2,by omega⟩
 obtain⟨y,σ1,g1,n1,f1⟩:=hJ σ p x O ht ap hx (by omega)
 obtain⟨b,σ2,g2,a2,f2,nb⟩:=hC σ1 O.length f1.tidy (by omega)
 have f02:Fr Nowhere σ σ2:=f1.trans f2 (fun _ _ h=>h)
 have le1:=f1.le
 have y2:=n1.fr f2 f1.tidy
 have lb:=a2.lt f2.tidy
 obtain⟨u3,σ3,g3,s3⟩:=hP σ2 w u L O.length (h.fr f02 ht) f2.tidy (by omega) hO'
 have ob:Off σ2 w u b:=Off.pw h ht (by omega) lb
 have oy:∀c,Names y c→Off σ2 w u c:=fun c hc=>Off.pw h ht (n1.2 c hc) (y2.1.lt f2.tidy hc)
 have a3:=s3.at_ f2.tidy ob a2
 have y3:By σ3 y (nI O):=s3.row f2.tidy oy y2.by_
 have gz:∀κ:V→Ans,gK (sliceV 1 y none (some (.int .i64 (Int.ofNat O.length))) none) κ=κ y:=by
  have:=sl_same (E:=E) (Sq.of y3) (Dst.cap1 y2.1)
  rwa [nI_length]at this
 obtain⟨u4,σ4,g4,s4⟩:=hO σ3 w u3 y _ O s3.wr s3.f.tidy (by rw[List.length_append,bitsOf_length];omega) (by omega) hc y3 (fun c hc=>s3.off (oy c hc))
 have s24:=s3.trans s4
 have a4:=s4.at_ s3.f.tidy (s3.off ob) a3
 have y4:By σ4 y (nI O):=s24.row f2.tidy oy y2.by_
 obtain⟨t,gt⟩:=sl_from (E:=E) (Sq.of y4) (Dst.cap1 y2.1)
 rw[nI_length]at gt
 refine⟨u4,σ4,?_,by have:=Pst.behind f02 s24;rw[List.append_assoc]at this;exact this⟩
 have ia:∀κ:Nat→Nat→Ans,iaddrSK 1 (.sl b 0 1 (.op 1)) (Int.ofNat 0) κ=κ b 0:=fun κ=>iaddrSK_lt (Nat.lt_succ_self 0)
 have sy:∀κ:Nat→Ans,slenK y κ=κ O.length:=fun κ=>by rw[n1.by_.slen,nI_length]
 have dl:decide (16384≤O.length)=false:=decide_eq_false (by omega)
 show T74_0 E D W (T74_1 E D W (T74_1 E D W (L74_1 E D W (M+2) M))) (.ptr w 0) (.sl p 0 1 (.ex 1)) σ=_
 have k0:∀K,T74_0 E D W K (.ptr w 0) (.sl p 0 1 (.ex 1)) σ=K (.ptr w 0) y (.sl b 0 1 (.op 1)) (Int.ofNat 1) (Int.ofNat 0) σ2:=by
  intro K
  unfold T74_0
  simp -implicitDefEqProofs only [↓rP,rS,↓g1,↓rtOne_of n1.1.one,↓sy,↓g2]
 have k1:∀R,T74_1 E D W R (.ptr w 0) y (.sl b 0 1 (.op 1)) (Int.ofNat 1) (Int.ofNat 0) σ2=R (.ptr w 0) t (.sl b 0 1 (.op 1)) (Int.ofNat 1) (Int.ofNat 1) σ4:=by
  intro R
  unfold T74_1
  simp -implicitDefEqProofs only [↓rP,rA,Nat.reduceEqDiff,Nat.reduceLT,Nat.reduceLeDiff,↓ia,↓ldK_is a2,dl,↓g3,↓gz,↓g4,↓gt,addF_nat (show 0+1≤9223372036854775807 by omega)]
 have k2:∀R,T74_1 E D W R (.ptr w 0) t (.sl b 0 1 (.op 1)) (Int.ofNat 1) (Int.ofNat 1) σ4=some (.tup [],σ4):=by
  intro R
  unfold T74_1
  simp -implicitDefEqProofs only [↓rP,rA,Nat.reduceEqDiff,Nat.reduceLT,Nat.reduceLeDiff,Nat.lt_irrefl]
 rw[k0,k1,k2]
end
def vc (k n:Int) (b l:V) (r:Int) (m:V):List V:=[.int .i64 k,.int .i64 n,b,l,.int .i64 r,m]
def bitU (u:Int) (k:Nat):Bool:=!eqF (andF .i64 u (Int.ofNat k)) (Int.ofNat 0)
def plainB (u k n:Int) (nb nl:Nat) (r:Int) (nm:Nat):Bool:=
 (((bitU u 1 || eqF n (Int.ofNat 0))&&(bitU u 2 || eqF (Int.ofNat nb) (Int.ofNat 0)))&&(bitU u 4 || eqF (Int.ofNat nl) (Int.ofNat 0)))&&(bitU u 8 || (eqF r (Int.ofNat 0)&&eqF (Int.ofNat nm) (Int.ofNat 0)))
def SpPlain (F:List V→H→Ans):Prop:=∀(σ:H) (u k n r:Int) (b l m:V) (nb nl nm:Nat),Tidy σ→Len b nb→Len l nl→Len m nm →
 ∃σ',F [.agg (vc k n b l r m),.int .i64 u] σ=some (.bool (plainB u k n nb nl r nm),σ')∧Fr Nowhere σ σ'
section
variable {E:List (Nat × Blk)} {D:Den} {W:DrawFn} {N:Nat}
theorem plain_F:SpPlain (F131 E D W N):=by
 intro σ u k n r b l m nb nl nm ht hb hl hm
 obtain⟨σ1,e1,f1,a1,n1⟩:=mk_new ht (vc k n b l r m)
 refine⟨σ1,?_,f1⟩
 unfold vc at *
 show T131_0 E D W k n b l r m u σ=_
 unfold T131_0
 simp -implicitDefEqProofs only [cells_agg,cells_int,cells_ptr,allOne_cons,allOne_nil,one_int,one_bool,one_str,one_nils,one_sl,one_ptr,Bool.and_true,chk_t,nthK_zero,nthK_succ,subK_2,subK_4,subK_5,subK_6,subK_13,subK_con,rtInt_int,rtBool_bool,rtStr_str,rtPtr_ptr,rtAgg_agg,rtTup_tup,rtCons_cons,rtNil_nil,rtOne_nils,rtOne_pt,rtOne_sl,slenK_nils,slenK_sl,callK_some_,condK_true,condK_false,join_or,join_and,join_id,Nat.add_eq,Nat.zero_add,Bool.not_true,Bool.not_false,rC,hb.1,hl.1,hm.1,e1,ldK_is a1,ldnK_is a1,hb.2,hl.2,hm.2]
 rfl
def withinB (h hl hh:Bool) (lo hi v:Int):Bool:=!h || ((!hl || leF lo v)&&(!hh || leF v hi))
theorem within_F {σ:H} (ht:Tidy σ) (h hl hh mo:Bool) (lo hi v:Int) :
  ∃σ',F132 E D W N [.agg [.bool h,.bool hl,.bool hh,.bool mo,.int .i64 lo,.int .i64 hi],.int .i64 v] σ=some (.bool (withinB h hl hh lo hi v),σ')∧Fr Nowhere σ σ':=by
 obtain⟨σ1,e1,f1,a1,n1⟩:=mk_new ht [.bool h,.bool hl,.bool hh,.bool mo,.int .i64 lo,.int .i64 hi]
 refine⟨σ1,?_,f1⟩
 show T132_0 E D W h hl hh mo lo hi v σ=_
 unfold T132_0
 simp -implicitDefEqProofs only [cells_agg,cells_int,cells_ptr,allOne_cons,allOne_nil,one_int,one_bool,one_str,one_nils,one_sl,one_ptr,Bool.and_true,chk_t,nthK_zero,nthK_succ,subK_2,subK_4,subK_5,subK_6,subK_13,subK_con,rtInt_int,rtBool_bool,rtStr_str,rtPtr_ptr,rtAgg_agg,rtTup_tup,rtCons_cons,rtNil_nil,rtOne_nils,rtOne_pt,rtOne_sl,slenK_nils,slenK_sl,callK_some_,condK_true,condK_false,join_or,join_and,join_id,Nat.add_eq,Nat.zero_add,Bool.not_true,Bool.not_false,rC,e1,ldK_is a1,ldnK_is a1]
 rfl
structure Ty where
 kind:Int
 tags:V
 has:Bool
 hasLow:Bool
 hasHigh:Bool
 conMore:Bool
 low:Int
 high:Int
 items:V
 fields:V
 root:Int
 more:Bool
 of_:Int
 oneT:tags.one=true
 oneI:items.one=true
 oneF:fields.one=true
def Ty.c (x:Ty):List V:=[.int .i64 x.kind,x.tags,.bool x.has,.bool x.hasLow,.bool x.hasHigh,.bool x.conMore,.int .i64 x.low,.int .i64 x.high,x.items,x.fields,.int .i64 x.root,.bool x.more,.int .i64 x.of_]
structure Fd where
 name:BS
 type:Int
 opt:Bool
 has:Bool
 d0:Int
 d1:Int
 d2:V
 d3:V
 d4:Int
 d5:V
 group:Int
 one2:d2.one=true
 one3:d3.one=true
 one5:d5.one=true
def Fd.c (x:Fd):List V:=[.str x.name,.int .i64 x.type,.bool x.opt,.bool x.has,.int .i64 x.d0,.int .i64 x.d1,x.d2,x.d3,.int .i64 x.d4,x.d5,.int .i64 x.group]
def Cel (L:List V) (esz k:Nat) (c:List V):Prop:=k*esz+esz≤L.length∧(L.drop (k*esz)).take esz=c
theorem Cel.sub {L:List V} {esz k:Nat} {c:List V} (h:Cel L esz k c) (κ:List V→Ans):subK L (0+k*esz) esz κ=κ c:=by
 rw[Nat.zero_add,subK_of h.1,h.2]
theorem Cel.get {L:List V} {esz k:Nat} {c:List V} (h:Cel L esz k c) {j:Nat} {v:V} (hj:c[j]? = some v) (κ:V→Ans):nthK L (0+k*esz+j) κ=κ v:=by
 refine nthK_of ?_
 rw[nthF_eq,←hj,←h.2]
 obtain⟨hlt,_⟩:=List.getElem?_eq_some_iff.1 hj
 have hc:c.length≤esz:=by rw[←h.2];simp only[List.length_take];omega
 rw[List.getElem?_take,if_pos (by omega),List.getElem?_drop,Nat.zero_add]
structure Row (σ:H) (esz n:Nat) (v:V) (g:Nat→List V):Prop where
 is:(n=0∧v = .nils)∨∃b c L,v = .sl b 0 n c∧Atc σ b L∧∀k,k<n→Cel L esz k (g k)
theorem Row.len {σ:H} {esz n:Nat} {v:V} {g:Nat→List V} (h:Row σ esz n v g):Len v n:=by
 rcases h.is with ⟨rfl,rfl⟩|⟨b,c,L,rfl,_⟩
 ·exact Len.nils
 ·exact Len.sl
theorem Row.fr {S:Nat→Prop} {σ σ':H} {esz n:Nat} {v:V} {g:Nat→List V} (h:Row σ esz n v g) (f:Fr S σ σ') (ht:Tidy σ) (hS:∀b,Names v b→¬S b):Row σ' esz n v g:=by
 rcases h.is with h|⟨b,c,L,rfl,ha,hc⟩
 ·exact⟨.inl h⟩
 ·exact⟨.inr ⟨b,c,L,rfl,f.at_ ha ht (hS b rfl),hc⟩⟩
theorem Row.fr0 {σ σ':H} {esz n:Nat} {v:V} {g:Nat→List V} (h:Row σ esz n v g) (f:Fr Nowhere σ σ') (ht:Tidy σ):Row σ' esz n v g:=h.fr f ht (fun _ _ h=>h)
theorem Row.all {E:List (Nat × Blk)} {σ:H} {esz n:Nat} {v:V} {g:Nat→List V} (h:Row σ esz n v g) {k:Nat} (hk:k<n) (κ:List V→Ans) :
  iaddrSK esz v (Int.ofNat k) (fun b o=>ldnK E σ b o esz κ)=κ (g k):=by
 rcases h.is with ⟨rfl,rfl⟩|⟨b,c,L,rfl,ha,hc⟩
 ·omega
 ·rw[iaddrSK_lt hk]
  show ldnK E σ b (0+k*esz) esz κ=_
  rw[ldnK_is ha,(hc k hk).sub]
theorem Row.one {E:List (Nat × Blk)} {σ:H} {esz n:Nat} {v:V} {g:Nat→List V} (h:Row σ esz n v g) {k:Nat} (hk:k<n) {j:Nat} {u:V} (hj:(g k)[j]? = some u) (κ:V→Ans) :
  iaddrSK esz v (Int.ofNat k) (fun b o=>ldK E σ b (o+j) κ)=κ u:=by
 rcases h.is with ⟨rfl,rfl⟩|⟨b,c,L,rfl,ha,hc⟩
 ·omega
 ·rw[iaddrSK_lt hk]
  show ldK E σ b (0+k*esz+j) κ=_
  rw[ldK_is ha,(hc k hk).get hj]
end
def SpWithin (F:List V→H→Ans):Prop:=∀(σ:H) (h hl hh mo:Bool) (lo hi v:Int),Tidy σ→∃σ',F [.agg [.bool h,.bool hl,.bool hh,.bool mo,.int .i64 lo,.int .i64 hi],.int .i64 v] σ=some (.bool (withinB h hl hh lo hi v),σ')∧Fr Nowhere σ σ'
structure Ck (σ:H) (p nT:Nat) (ty:Nat→Ty) (nm:BS) (nv rv tv:V) (rest:List V):Prop where
 at_:Atc σ p ([.str nm,nv,rv,tv]++rest)
 n1:nv.one=true
 r1:rv.one=true
 t1:tv.one=true
 row:Row σ 13 nT tv fun i=>(ty i).c
 apart:∀b,Names tv b→b≠p
section
variable {E:List (Nat × Blk)} {D:Den} {W:DrawFn} {N:Nat} {σ σ':H} {p nT:Nat} {ty:Nat→Ty} {nm:BS} {nv rv tv:V} {rest:List V}
theorem Ck.fr (h:Ck σ p nT ty nm nv rv tv rest) (f:Fr Nowhere σ σ') (ht:Tidy σ):Ck σ' p nT ty nm nv rv tv rest:=⟨f.at_ h.at_ ht (fun h=>h),h.n1,h.r1,h.t1,h.row.fr0 f ht,h.apart⟩
theorem Ck.types {E:List (Nat × Blk)} (h:Ck σ p nT ty nm nv rv tv rest) (κ:V→Ans):ldK E σ p 3 κ=κ tv:=by
 rw[ldK_is h.at_];rfl
def intC (n:Int):List V:=vc (Int.ofNat 2) n .nils .nils (Int.ofNat 0) .nils
end
structure Vc where
 k:Int
 n:Int
 b:V
 l:V
 r:Int
 m:V
 oneB:b.one=true
 oneL:l.one=true
 oneM:m.one=true
def Vc.c (x:Vc):List V:=[.int .i64 x.k,.int .i64 x.n,x.b,x.l,.int .i64 x.r,x.m]
def Vc.int (n:Int):Vc:=⟨Int.ofNat 2,n,.nils,.nils,Int.ofNat 0,.nils,rfl,rfl,rfl⟩
def findF (p:Nat→Bool):Nat→Nat→Int
 | 0,_=>Int.negSucc 0
 | m+1,i=>if p i=true then Int.ofNat i else findF p m (i+1)
def anyF (p:Nat→Bool):Nat→Nat→Bool
 | 0,_=>false
 | m+1,i=>p i || anyF p m (i+1)
theorem find_any (p:Nat→Bool):∀m i,leF (Int.ofNat 0) (findF p m i)=anyF p m i
 | 0,i=>rfl
 | m+1,i=>by
  unfold findF anyF
  by_cases h:p i=true
  ·rw[if_pos h,h];simp only[leF_nat,Nat.zero_le,decide_true,Bool.true_or]
  ·rw[if_neg h,find_any p m (i+1)];simp only[Bool.not_eq_true]at h;rw[h,Bool.false_or]
theorem any_none {p:Nat→Bool}:∀{m i:Nat},(∀k,i≤k→k<i+m→p k=false)→anyF p m i=false
 | 0,i,_=>rfl
 | m+1,i,h=>by
  unfold anyF
  rw[h i (Nat.le_refl _) (by omega),any_none (fun k h1 h2=>h k (by omega) (by omega))];rfl
section
variable {E:List (Nat × Blk)} {D:Den} {W:DrawFn} {N:Nat} {σ σ':H} {p nT:Nat} {ty:Nat→Ty} {nm:BS} {nv rv tv:V} {rest:List V}
def Asks (D:Den) (σ:H) (f:Nat) (caps:List V) (n:Nat) (g:Nat→Vc) (q:Nat→Bool):Prop:=∀(σ1:H) (k:Nat),k<n→Fr Nowhere σ σ1→∃σ2,D f ([]++[.agg (g k).c]++caps) σ1=some (.bool (q k),σ2)∧Fr Nowhere σ1 σ2
theorem ixV_F {v:V} {n:Nat} {g:Nat→Vc} {f:Nat} {caps:List V} {q:Nat→Bool} (ht:Tidy σ) (hr:Row σ 6 n v fun k=>(g k).c) (hq:Asks D σ f caps n g q) (hN:n<N) (hn:n≤1000000) :
  ∃σ',F138 E D W N [v,.fn f [] caps] σ=some (.int .i64 (findF q n 0),σ')∧Fr Nowhere σ σ':=by
 have loop:∀(m n' i:Nat) (σ1:H),i+m=n→m<n'→Fr Nowhere σ σ1→∃σ2,L138_2 E D W N n' v (.fn f [] caps) (Int.ofNat n) (Int.ofNat i) σ1=some (.int .i64 (findF q m i),σ2)∧Fr Nowhere σ σ2:=by
  intro m
  induction m with
  | zero=>
   intro n' i σ1 hi hn' f1
   obtain⟨n',rfl⟩:∃k,n'=k+1:=⟨n'-1,by omega⟩
   refine⟨σ1,?_,f1⟩
   show T138_2 E D W _ _ v (.fn f [] caps) (Int.ofNat n) (Int.ofNat i) σ1=_
   unfold T138_2
   rw[ltF_nat,decide_eq_false (by omega),condK_false];rfl
  | succ m ih=>
   intro n' i σ1 hi hn' f1
   obtain⟨n',rfl⟩:∃k,n'=k+1:=⟨n'-1,by omega⟩
   have hlt:i<n:=by omega
   have r1:=hr.fr0 f1 ht
   have rd:∀κ,iaddrSK 6 v (Int.ofNat i) (fun b o=>ldnK E σ1 b o 6 κ)=κ (g i).c:=fun κ=>r1.all hlt κ
   obtain⟨σ2,g2,f2⟩:=hq σ1 i hlt f1
   have f12:=f1.trans f2 (fun _ _ h=>h)
   show ∃σ',T138_2 E D W _ (L138_2 E D W N n') v (.fn f [] caps) (Int.ofNat n) (Int.ofNat i) σ1=_∧_
   unfold T138_2
   have cv:∀κ,callvK D (.fn f [] caps) [.agg (g i).c] σ1 κ=κ (.bool (q i)) σ2:=fun κ=>by
    show callK (D f ([]++[.agg (g i).c]++caps) σ1) κ=_
    rw[g2];rfl
   unfold Vc.c at rd cv
   have d1:decide (i<n)=true:=decide_eq_true hlt
   simp -implicitDefEqProofs only [↓rP,rA,Nat.reduceEqDiff,Nat.reduceLT,Nat.reduceLeDiff,d1,↓rd,(g i).oneB,(g i).oneL,(g i).oneM,↓cv]
   unfold findF
   by_cases hqi:q i=true
   ·rw[hqi,condK_true,if_pos rfl]
    exact⟨σ2,rfl,f12⟩
   ·rw[Bool.not_eq_true]at hqi
    rw[hqi,condK_false,if_neg (by simp),addF_nat (by omega)]
    exact ih n' (i+1) σ2 (by omega) (by omega) f12
 obtain⟨σ2,h1,h2⟩:=loop n N 0 σ (by omega) hN (Fr.refl ht)
 refine⟨σ2,?_,h2⟩
 show T138_0 E D W (L138_2 E D W N N) v (.fn f [] caps) σ=_
 unfold T138_0
 rw[hr.len.2]
 exact h1
def SpIx (F:List V→H→Ans) (D:Den):Prop:=∀{σ:H} {v:V} {n:Nat} {g:Nat→Vc} {f:Nat} {caps:List V} {q:Nat→Bool},Tidy σ→Row σ 6 n v (fun k=>(g k).c)→Asks D σ f caps n g q→n≤10000 →
  ∃σ',F [v,.fn f [] caps] σ=some (.int .i64 (findF q n 0),σ')∧Fr Nowhere σ σ'
def SpCf (F:List V→H→Ans) (D:Den):Prop:=∀{σ:H} {v:V} {n:Nat} {g:Nat→Vc} {f:Nat} {caps:List V} {q:Nat→Bool},Tidy σ→Row σ 6 n v (fun k=>(g k).c)→Asks D σ f caps n g q→n≤10000 →
  ∃σ',F [v,.fn f [] caps] σ=some (.bool (anyF q n 0),σ')∧Fr Nowhere σ σ'
theorem cfV_F {D':Den} (hI:SpIx (D 138) D'):SpCf (F69 E D W N) D':=by
 intro σ v n g f caps q ht hr hq hn
 obtain⟨σ2,h1,h2⟩:=hI ht hr hq hn
 refine⟨σ2,?_,h2⟩
 show T69_0 E D W v (.fn f [] caps) σ=_
 unfold T69_0
 rw[h1,callK_some_,rtInt_int,find_any]
end
structure Wk (σ0 σ:H) (eb w:Nat) (u:V) (cs:List V) (L:List Nat):Prop where
 pw:Pw σ w u L
 f:Fr Nowhere σ0 σ
 lo:∀b,Own1 w u b→σ0.next≤b
 e:Atc σ eb (.ptr w 0::cs)
 eo:Off σ w u eb
structure Tb (σ:H) (nT:Nat) (ty:Nat→Ty) (nv rv tv:V):Prop where
 row:Row σ 13 nT tv fun i=>(ty i).c
 n1:nv.one=true
 r1:rv.one=true
 t1:tv.one=true
section
variable {σ0 σ σ1:H} {eb w:Nat} {u u1:V} {cs:List V} {L L1:List Nat} {nT:Nat} {ty:Nat→Ty} {nm:BS} {nv rv tv:V}
theorem Tb.fr (h:Tb σ nT ty nv rv tv) (f:Fr Nowhere σ σ1) (ht:Tidy σ):Tb σ1 nT ty nv rv tv:=⟨h.row.fr0 f ht,h.n1,h.r1,h.t1⟩
theorem Wk.tidy (k:Wk σ0 σ eb w u cs L):Tidy σ:=k.f.tidy
theorem Wk.step (k:Wk σ0 σ eb w u cs L) (s:Pst σ w u σ1 u1 L1):Wk σ0 σ1 eb w u1 cs L1:=by
 refine⟨s.wr,k.f.trans s.f (fun b hb hn=>?_),fun b hb=>?_,s.at_ k.tidy k.eo k.e,s.off k.eo⟩
 ·have:=k.lo b hn;omega
 ·rcases hb with hb|hb
  ·exact k.lo b (.inl hb)
  ·rcases s.g b hb with h|h
   ·exact k.lo b (.inr h)
   ·exact Nat.le_trans k.f.le h
theorem Wk.fr (k:Wk σ0 σ eb w u cs L) (f:Fr Nowhere σ σ1):Wk σ0 σ1 eb w u cs L:=
 ⟨k.pw.fr f k.tidy,k.f.trans f (fun _ _ h=>h),k.lo,f.at_ k.e k.tidy (fun h=>h),k.eo.fr f⟩
theorem Wk.still (k:Wk σ0 σ eb w u cs L) (s:Pst σ w u σ1 u1 L1):Fr Nowhere σ0 σ1:=(k.step s).f
theorem Wk.enc {E:List (Nat × Blk)} (k:Wk σ0 σ eb w u cs L) (κ:V→Ans):ldK E σ eb 0 κ=κ (.ptr w 0):=(ldK_is k.e).trans rfl
end
section
variable {E:List (Nat × Blk)} {D:Den} {W:DrawFn} {N:Nat}
def Ty.con (x:Ty):List V:=[.bool x.has,.bool x.hasLow,.bool x.hasHigh,.bool x.conMore,.int .i64 x.low,.int .i64 x.high]
end
section
variable {E:List (Nat × Blk)} {D:Den} {W:DrawFn} {N:Nat} {σ σ':H} {p nT:Nat} {ty:Nat→Ty} {nm:BS} {nv rv tv:V} {rest:List V}
theorem count_F {v:Vc} {n:Nat} {g:Nat→Vc} (hN:n<N) (hn:n≤10000) (ht:Tidy σ) (hr:Row σ 6 n v.l fun k=>(g k).c)
  (hq:∀(σ1:H) (k:Nat),k<n→Fr Nowhere σ σ1→∃σ2,D 66 [.agg (g k).c] σ1=some (.int .i64 (Int.ofNat 1),σ2)∧Fr Nowhere σ1 σ2) :
  ∃σ',F66 E D W N [.agg v.c] σ=some (.int .i64 (Int.ofNat (1+n)),σ')∧Fr Nowhere σ σ':=by
 have loop:∀(m n' i:Nat) (σ1:H),i+m=n→m<n'→Fr Nowhere σ σ1→∃σ2,L66_2 E D W N n' (Int.ofNat (1+i)) v.l (Int.ofNat n) (Int.ofNat i) σ1=some (.int .i64 (Int.ofNat (1+n)),σ2)∧Fr Nowhere σ σ2:=by
  intro m
  induction m with
  | zero=>
   intro n' i σ1 hi hn' f1
   obtain⟨n',rfl⟩:∃k,n'=k+1:=⟨n'-1,by omega⟩
   refine⟨σ1,?_,f1⟩
   show T66_2 E D W _ _ (Int.ofNat (1+i)) v.l (Int.ofNat n) (Int.ofNat i) σ1=_
   unfold T66_2
   rw[ltF_nat,decide_eq_false (by omega),condK_false]
   obtain rfl:i=n:=by omega
   rfl
  | succ m ih=>
   intro n' i σ1 hi hn' f1
   obtain⟨n',rfl⟩:∃k,n'=k+1:=⟨n'-1,by omega⟩
   have hlt:i<n:=by omega
   have rd:∀κ,iaddrSK 6 v.l (Int.ofNat i) (fun b o=>ldnK E σ1 b o 6 κ)=κ (g i).c:=fun κ=>(hr.fr0 f1 ht).all hlt κ
   obtain⟨σ2,g2,f2⟩:=hq σ1 i hlt f1
   obtain⟨σ3,g3,f3⟩:=ih n' (i+1) σ2 (by omega) (by omega) (f1.trans f2 (fun _ _ h=>h))
   refine⟨σ3,?_,f3⟩
   unfold Vc.c at rd g2
   have d1:decide (i<n)=true:=decide_eq_true hlt
   have key:∀K1 K2,T66_2 E D W K1 K2 (Int.ofNat (1+i)) v.l (Int.ofNat n) (Int.ofNat i) σ1=K2 (Int.ofNat (1+(i+1))) v.l (Int.ofNat n) (Int.ofNat (i+1)) σ2:=by
    intro K1 K2
    unfold T66_2
    simp -implicitDefEqProofs only [↓rP,rA,Nat.reduceEqDiff,Nat.reduceLT,Nat.reduceLeDiff,d1,↓rd,(g i).oneB,(g i).oneL,(g i).oneM,↓g2,addF_nat (show 1+i+1≤9223372036854775807 by omega),addF_nat (show i+1≤9223372036854775807 by omega),Nat.add_assoc]
   exact(key _ _).trans g3
 obtain⟨σ1,e1,f1,a1,n1⟩:=mk_new ht v.c
 obtain⟨σ2,h1,h2⟩:=loop n N 0 σ1 (by omega) hN f1
 refine⟨σ2,?_,h2⟩
 unfold Vc.c at e1 a1
 have hln:=hr.len.2
 have key:∀K,T66_0 E D W K v.k v.n v.b v.l v.r v.m σ=K (Int.ofNat 1) v.l (Int.ofNat n) (Int.ofNat 0) σ1:=by
  intro K
  unfold T66_0
  simp -implicitDefEqProofs only [↓rP,rA,Nat.reduceEqDiff,Nat.reduceLT,Nat.reduceLeDiff,v.oneB,v.oneL,v.oneM,↓e1,↓hln,↓ldK_is a1]
 exact(key _).trans h1
theorem rules_F {D':Den} (hC:SpCf (D 69) D') {v:Vc} {n:Nat} {g:Nat→Vc} {ru:Int} (hn:n≤10000) (hv:(eqF v.r (Int.ofNat 0) || eqF v.r ru)=true) (ht:Tidy σ) (hr:Row σ 6 n v.l fun k=>(g k).c)
  (hq:∀(σ1:H) (q k:Nat),k<n→Fr Nowhere σ σ1→Atc σ1 q [.int .i64 ru]→∃σ2,D' 70 ([]++[.agg (g k).c]++[.ptr q 0]) σ1=some (.bool false,σ2)∧Fr Nowhere σ1 σ2) :
  ∃σ',F38 E D W N [.agg v.c,.int .i64 ru] σ=some (.bool true,σ')∧Fr Nowhere σ σ':=by
 obtain⟨σ1,e1,f1,a1,n1⟩:=mk_new ht v.c
 obtain⟨σ2,e2,f2,a2,n2⟩:=mk_new f1.tidy [.int .i64 ru]
 have f02:=f1.trans f2 (fun _ _ h=>h)
 have a12:=f2.at_ a1 f1.tidy (fun h=>h)
 obtain⟨σ3,g3,f3⟩:=hC (σ:=σ2) (caps:=[.ptr σ1.next 0]) (f:=70) (q:=fun _=>false) f02.tidy (hr.fr0 f02 ht) (fun σ9 k hk f9=>hq σ9 σ1.next k hk (f02.trans f9 (fun _ _ h=>h)) (f9.at_ a2 f02.tidy (fun h=>h))) hn
 rw[any_none (fun _ _ _=>rfl)]at g3
 refine⟨σ3,?_,f02.trans f3 (fun _ _ h=>h)⟩
 unfold Vc.c at e1 a12
 show T38_0 E D W v.k v.n v.b v.l v.r v.m ru σ=_
 unfold T38_0
 cases h0:eqF v.r (Int.ofNat 0)with
 | true=>simp -implicitDefEqProofs only [↓rP,rS,ltF_nat,leF_nat,v.oneB,v.oneL,v.oneM,↓e1,↓e2,↓ldK_is a12,↓ldK_is a2,h0,↓g3]
 | false=>
  rw[h0,Bool.false_or]at hv
  simp -implicitDefEqProofs only [↓rP,rS,ltF_nat,leF_nat,v.oneB,v.oneL,v.oneM,↓e1,↓e2,↓ldK_is a12,↓ldK_is a2,h0,hv,↓g3]
theorem Fits_F {i n:Nat} {v:Vc} (hn:n≤5000) (ht:Tidy σ) (hr:Row σ 13 nT tv fun i=>(ty i).c) (h1:nv.one=true) (h2:rv.one=true) (h3:tv.one=true)
  (hF:∀(σ1:H) (p:Nat),Tidy σ1→Fr Nowhere σ σ1→Ck σ1 p nT ty nm nv rv tv [.bool false]→∃σ2,D 65 [.ptr p 0,.int .i64 (Int.ofNat i),.agg v.c,.int .i64 (Int.ofNat 1)] σ1=some (.bool true,σ2)∧Fr Nowhere σ1 σ2)
  (hC:∀σ1:H,Tidy σ1→Fr Nowhere σ σ1→∃σ2,D 66 [.agg v.c] σ1=some (.int .i64 (Int.ofNat n),σ2)∧Fr Nowhere σ1 σ2) :
  ∃σ',F36 E D W N [.agg [.str nm,nv,rv,tv],.int .i64 (Int.ofNat i),.agg v.c] σ=some (.bool true,σ')∧Fr Nowhere σ σ':=by
 obtain⟨σ1,e1,f1,a1,n1⟩:=mk_new ht [.str nm,nv,rv,tv]
 obtain⟨σ2,e2,f2,a2,n2⟩:=mk_new f1.tidy v.c
 obtain⟨σ3,e3,f3,a3,n3⟩:=mk_new f2.tidy [.str nm,nv,rv,tv,.bool false]
 have f02:=f1.trans f2 (fun _ _ h=>h)
 have f03:=f02.trans f3 (fun _ _ h=>h)
 have r3:=hr.fr0 f03 ht
 have c3:Ck σ3 σ2.next nT ty nm nv rv tv [.bool false]:=⟨a3,h1,h2,h3,r3,fun b hb e=>by
  subst e
  have lo:=f02.le
  rcases hr.is with ⟨_,rfl⟩|⟨b,c,L,rfl,ha,_⟩
  ·exact hb
  ·have:=ha.lt ht
   have hb:σ2.next=b:=hb
   omega⟩
 obtain⟨σ4,g4,f4⟩:=hF σ3 σ2.next f3.tidy f03 c3
 have f04:=f03.trans f4 (fun _ _ h=>h)
 obtain⟨σ5,g5,f5⟩:=hC σ4 f4.tidy f04
 have a12:=f2.at_ a1 f1.tidy (fun h=>h)
 have a23:=f3.at_ a2 f2.tidy (fun h=>h)
 have a24:=f4.at_ a23 f3.tidy (fun h=>h)
 have d1:decide (n≤5000)=true:=decide_eq_true hn
 refine⟨σ5,?_,f04.trans f5 (fun _ _ h=>h)⟩
 unfold Vc.c at e2 a2 a23 a24 g4 g5
 show T36_0 E D W nm nv rv tv (Int.ofNat i) v.k v.n v.b v.l v.r v.m σ=_
 unfold T36_0
 simp -implicitDefEqProofs only [↓rP,rA,Nat.reduceEqDiff,Nat.reduceLT,Nat.reduceLeDiff,h1,h2,h3,v.oneB,v.oneL,v.oneM,↓e1,↓e2,↓e3,↓ldnK_is a12,↓ldnK_is a23,↓ldnK_is a24,↓g4,↓g5,d1]
end
section
variable {E:List (Nat × Blk)} {D:Den} {W:DrawFn} {N:Nat} {nT:Nat} {ty:Nat→Ty} {nm:BS} {nv rv tv:V}
end
theorem mkN {σ:H} (ht:Tidy σ) (z:List V):∃σ1,newB σ (.cells z)=σ1∧Fr Nowhere σ σ1∧Atc σ1 σ.next z∧σ1.next=σ.next+1:=⟨_,rfl,Fr.new ht _,Atc_newB _,rfl⟩
theorem mkS {σ:H} {b:Nat} {l:List V} (ht:Tidy σ) (h:Atc σ b l) (z:List V):∃σ1,setF σ b (.cells z)=σ1∧Fr (fun k=>k=b) σ σ1∧Atc σ1 b z:=⟨_,rfl,Fr.set ht (h.lt ht) _,Atc_setF _⟩
def letB (c:Nat):Bool:=(decide (97≤c)&&decide (c≤122)) || (decide (65≤c)&&decide (c≤90))
def digB (c:Nat):Bool:=decide (48≤c)&&decide (c≤57)
def isWs (c:Nat):Bool:=((decide (c=32) || decide (c=9)) || decide (c=10)) || decide (c=13)
def dash (c:Nat) (r:List Nat):Bool:=decide (c=45)&&decide (r.headD 0=45)
def rmk:List Nat→List Nat
 | []=>[]
 | c::r=>match decide (c=10)with
  | true=>c::r
  | false=>match dash c r with
   | true=>r.drop 1
   | false=>rmk r
def wht:Nat→List Nat→List Nat
 | 0,r=>r
 | _+1,[]=>[]
 | n+1,c::r=>match isWs c with
  | true=>wht n r
  | false=>match dash c r with
   | true=>wht n (rmk (r.drop 1))
   | false=>c::r
theorem rmk_le:∀r:List Nat,(rmk r).length≤r.length
 | []=>Nat.le_refl _
 | c::r=>by
  unfold rmk
  have:=rmk_le r
  split
  ·exact Nat.le_refl _
  ·split
   ·simp;omega
   ·simp;omega
theorem wht_le:∀(n:Nat) (r:List Nat),(wht n r).length≤r.length
 | 0,_=>Nat.le_refl _
 | _+1,[]=>Nat.le_refl _
 | n+1,c::r=>by
  unfold wht
  split
  ·exact Nat.le_succ_of_le (wht_le n r)
  ·split
   ·have h1:=wht_le n (rmk (r.drop 1))
    have h2:=rmk_le (r.drop 1)
    simp only[List.length_cons,List.length_drop]at *;omega
   ·exact Nat.le_refl _
structure At5 (s:BS) (i:Nat) (r:List Nat):Prop where
 r:Rst s i r
 few:s.len≤10000
section
variable {s:BS} {i c:Nat} {r:List Nat}
theorem At5.len (h:At5 s i r):i+r.length=s.len:=h.r.len
theorem At5.le (h:At5 s i r):i≤10000:=by have:=h.len;have:=h.few;omega
theorem At5.tl (h:At5 s i (c::r)):At5 s (i+1) r:=⟨h.r.tail,h.few⟩
theorem At5.dr (h:At5 s i r) {k:Nat} (hk:k≤r.length):At5 s (i+k) (r.drop k):=⟨h.r.drop hk,h.few⟩
theorem At5.lt (h:At5 s i (c::r)):i<s.len:=by have:=h.len;simp at this;omega
theorem At5.ix (h:At5 s i (c::r)) (κ:Int→Ans):idxStrX s (Int.ofNat i) κ=κ (Int.ofNat c):=by
 rw[idxStrX_nat h.lt]
 have:=h.r.getD_lt (k:=0) h.lt
 rw[Nat.add_zero]at this
 rw[←this];rfl
theorem At5.nil (h:At5 s i []):i=s.len:=by have:=h.len;simpa using this
theorem At5.hd (h:At5 s i r) (κ:Int→Ans) (hi:i<s.len):idxStrX s (Int.ofNat i) κ=κ (Int.ofNat (r.headD 0)):=by
 cases r with
 | nil=>have:=h.nil;omega
 | cons c r=>exact h.ix κ
end
def SpRat (F:List V→H→Ans):Prop:=∀(σ:H) (s:BS) (i:Nat) (r:List Nat),At5 s i r→F [.str s,.int .i64 (Int.ofNat i)] σ=some (.int .u8 (Int.ofNat (r.headD 0)),σ)
def SpLet (F:List V→H→Ans):Prop:=∀(σ:H) (c:Nat),F [.int .u8 (Int.ofNat c)] σ=some (.bool (letB c),σ)
def SpDig (F:List V→H→Ans):Prop:=∀(σ:H) (c:Nat),F [.int .u8 (Int.ofNat c)] σ=some (.bool (digB c),σ)
def SpWht (N:Nat) (F:List V→H→Ans):Prop:=∀(σ:H) (s:BS) (i:Nat) (r:List Nat),At5 s i r→∃k,k≤r.length∧wht N r=r.drop k∧F [.str s,.int .i64 (Int.ofNat i)] σ=some (.int .i64 (Int.ofNat (i+k)),σ)
section
variable {E:List (Nat × Blk)} {D:Den} {W:DrawFn} {N:Nat}
theorem rat_F:SpRat (F205 E D W N):=by
 intro σ s i r h
 show T205_0 E D W s (Int.ofNat i) σ=_
 unfold T205_0
 cases r with
 | nil=>
  have d2:decide (s.len≤i)=true:=decide_eq_true (by have:=h.nil;omega)
  simp -implicitDefEqProofs only [↓rP,rA,Nat.reduceEqDiff,Nat.reduceLT,Nat.reduceLeDiff,Nat.not_lt_zero,d2]
  rfl
 | cons c r=>
  have d2:decide (s.len≤i)=false:=decide_eq_false (by have:=h.lt;omega)
  have e:=h.ix
  simp -implicitDefEqProofs only [↓rP,rA,Nat.reduceEqDiff,Nat.reduceLT,Nat.reduceLeDiff,Nat.not_lt_zero,d2,↓e]
  rfl
theorem rlet_F:SpLet (F206 E D W N):=by
 intro σ c
 show T206_0 E D W (Int.ofNat c) σ=_
 unfold T206_0 letB
 simp -implicitDefEqProofs only [cells_agg,cells_int,cells_ptr,allOne_cons,allOne_nil,one_int,one_bool,one_str,one_nils,one_sl,one_ptr,Bool.and_true,chk_t,nthK_zero,nthK_succ,subK_2,subK_4,subK_5,subK_6,subK_13,subK_con,rtInt_int,rtBool_bool,rtStr_str,rtPtr_ptr,rtAgg_agg,rtTup_tup,rtCons_cons,rtNil_nil,rtOne_nils,rtOne_pt,rtOne_sl,slenK_nils,slenK_sl,callK_some_,condK_true,condK_false,join_or,join_and,join_id,Nat.add_eq,Nat.zero_add,Bool.not_true,Bool.not_false,rC,rQ,decide_false,decide_true,Nat.reduceEqDiff,Nat.reduceLT,Nat.reduceLeDiff]
theorem rdig_F:SpDig (F209 E D W N):=by
 intro σ c
 show T209_0 E D W (Int.ofNat c) σ=_
 unfold T209_0 digB
 simp -implicitDefEqProofs only [cells_agg,cells_int,cells_ptr,allOne_cons,allOne_nil,one_int,one_bool,one_str,one_nils,one_sl,one_ptr,Bool.and_true,chk_t,nthK_zero,nthK_succ,subK_2,subK_4,subK_5,subK_6,subK_13,subK_con,rtInt_int,rtBool_bool,rtStr_str,rtPtr_ptr,rtAgg_agg,rtTup_tup,rtCons_cons,rtNil_nil,rtOne_nils,rtOne_pt,rtOne_sl,slenK_nils,slenK_sl,callK_some_,condK_true,condK_false,join_or,join_and,join_id,Nat.add_eq,Nat.zero_add,Bool.not_true,Bool.not_false,rC,rQ,decide_false,decide_true,Nat.reduceEqDiff,Nat.reduceLT,Nat.reduceLeDiff]
theorem rmk_L (hA:SpRat (D 205)) (K:BS→Int→H→Ans) (σ:H) (s:BS):∀(r:List Nat) (n i:Nat),r.length<n→At5 s i r→∃k,k≤r.length∧rmk r=r.drop k∧L117_3 E D W N K n s (Int.ofNat i) σ=K s (Int.ofNat (i+k)) σ
 | [],n,i,hn,h=>by
  obtain⟨n,rfl⟩:∃m,n=m+1:=⟨n-1,by omega⟩
  refine⟨0,Nat.le_refl _,rfl,?_⟩
  show T117_3 E D W K _ s (Int.ofNat i) σ=_
  have d1:decide (i<s.len)=false:=decide_eq_false (by have:=h.nil;omega)
  have key:∀R,T117_3 E D W K R s (Int.ofNat i) σ=K s (Int.ofNat i) σ:=by
   intro R
   unfold T117_3
   simp -implicitDefEqProofs only [↓rP,rA,Nat.reduceEqDiff,Nat.reduceLT,Nat.reduceLeDiff,d1]
  exact key _
 | c::r,n,i,hn,h=>by
  obtain⟨n,rfl⟩:∃m,n=m+1:=⟨n-1,by omega⟩
  have e:=h.ix
  have hl:=h.lt
  have hle:=h.le
  have d1:decide (i<s.len)=true:=decide_eq_true hl
  have g:=hA σ s (i+1) r h.tl
  have a1:addF .i64 (Int.ofNat i) (Int.ofNat 1)=Int.ofNat (i+1):=addF_nat (by omega)
  have a2:addF .i64 (Int.ofNat i) (Int.ofNat 2)=Int.ofNat (i+2):=addF_nat (by omega)
  show ∃k,k≤_∧rmk (c::r)=_∧T117_3 E D W K (L117_3 E D W N K n) s (Int.ofNat i) σ=_
  by_cases h10:c=10
  ·refine⟨0,Nat.zero_le _,by unfold rmk;rw[decide_eq_true h10];rfl,?_⟩
   have d2:decide (c=10)=true:=decide_eq_true h10
   have key:∀R,T117_3 E D W K R s (Int.ofNat i) σ=K s (Int.ofNat i) σ:=by
    intro R
    unfold T117_3
    simp -implicitDefEqProofs only [↓rP,rA,Nat.reduceEqDiff,Nat.reduceLT,Nat.reduceLeDiff,d1,↓e,d2]
   exact key _
  ·have d2:decide (c=10)=false:=decide_eq_false h10
   cases hd:dash c r with
   | true=>
    obtain⟨k,hk,hk'⟩:∃k,k≤(c::r).length∧rmk (c::r)=(c::r).drop 2:=by
     refine⟨0,Nat.zero_le _,?_⟩
     unfold rmk;rw[d2,hd];rfl
    have hr:r≠[]:=fun e=>by subst e;simp[dash]at hd
    refine⟨2,by cases r with | nil=>exact absurd rfl hr | cons _ _=>simp,hk',?_⟩
    unfold dash at hd
    rw[Bool.and_eq_true]at hd
    have key:∀R,T117_3 E D W K R s (Int.ofNat i) σ=K s (Int.ofNat (i+2)) σ:=by
     intro R
     unfold T117_3
     simp -implicitDefEqProofs only [↓rP,rA,Nat.reduceEqDiff,Nat.reduceLT,Nat.reduceLeDiff,d1,↓e,d2,hd.1,a1,a2,↓g,hd.2]
    exact key _
   | false=>
    obtain⟨k,h1,h2,h3⟩:=rmk_L hA K σ s r n (i+1) (by simp at hn;omega) h.tl
    refine⟨k+1,by simp;omega,by unfold rmk;rw[d2,hd];exact h2,?_⟩
    unfold dash at hd
    have key:∀R,T117_3 E D W K R s (Int.ofNat i) σ=R s (Int.ofNat (i+1)) σ:=by
     intro R
     unfold T117_3
     cases h45:decide (c=45)with
     | true=>
      rw[h45,Bool.true_and]at hd
      simp -implicitDefEqProofs only [↓rP,rA,Nat.reduceEqDiff,Nat.reduceLT,Nat.reduceLeDiff,d1,↓e,d2,h45,a1,↓g,hd]
     | false=>simp -implicitDefEqProofs only [↓rP,rA,Nat.reduceEqDiff,Nat.reduceLT,Nat.reduceLeDiff,d1,↓e,d2,h45,a1]
    rw[key,h3,show i+1+k=i+(k+1)by omega]
theorem wht_L (hA:SpRat (D 205)) (hN:10000<N) (σ:H) (s:BS):∀(n:Nat) (r:List Nat) (i:Nat),r.length<n→At5 s i r→∃k,k≤r.length∧wht n r=r.drop k∧L117_2 E D W N n s (Int.ofNat i) σ=some (.int .i64 (Int.ofNat (i+k)),σ)
 | 0,r,i,hn,h=>by omega
 | n+1,[],i,hn,h=>by
  refine⟨0,Nat.le_refl _,rfl,?_⟩
  show T117_2 E D W (J117_1 E D W N) (L117_3 E D W N (L117_2 E D W N n) N) (L117_2 E D W N n) s (Int.ofNat i) σ=_
  have d1:decide (i<s.len)=false:=decide_eq_false (by have:=h.nil;omega)
  have key:∀K3 R,T117_2 E D W (T117_1 E D W) K3 R s (Int.ofNat i) σ=some (.int .i64 (Int.ofNat i),σ):=by
   intro K3 R
   unfold T117_2 T117_1
   simp -implicitDefEqProofs only [↓rP,rA,Nat.reduceEqDiff,Nat.reduceLT,Nat.reduceLeDiff,d1]
  exact key _ _
 | n+1,c::r,i,hn,h=>by
  have e:=h.ix
  have hl:=h.lt
  have hle:=h.le
  have d1:decide (i<s.len)=true:=decide_eq_true hl
  have g:=hA σ s (i+1) r h.tl
  have a1:addF .i64 (Int.ofNat i) (Int.ofNat 1)=Int.ofNat (i+1):=addF_nat (by omega)
  have a2:addF .i64 (Int.ofNat i) (Int.ofNat 2)=Int.ofNat (i+2):=addF_nat (by omega)
  show ∃k,k≤_∧wht (n+1) (c::r)=_∧T117_2 E D W (J117_1 E D W N) (L117_3 E D W N (L117_2 E D W N n) N) (L117_2 E D W N n) s (Int.ofNat i) σ=_
  have key:∀K1 K3 R,T117_2 E D W K1 K3 R s (Int.ofNat i) σ=condK (isWs c) (R s (Int.ofNat (i+1)) σ) (condK (dash c r) (K3 s (Int.ofNat (i+2)) σ) (some (.int .i64 (Int.ofNat i),σ))):=by
   intro K1 K3 R
   unfold T117_2 isWs dash
   simp -implicitDefEqProofs only [cells_agg,cells_int,cells_ptr,allOne_cons,allOne_nil,one_int,one_bool,one_str,one_nils,one_sl,one_ptr,Bool.and_true,chk_t,nthK_zero,nthK_succ,subK_2,subK_4,subK_5,subK_6,subK_13,subK_con,rtInt_int,rtBool_bool,rtStr_str,rtPtr_ptr,rtAgg_agg,rtTup_tup,rtCons_cons,rtNil_nil,rtOne_nils,rtOne_pt,rtOne_sl,slenK_nils,slenK_sl,callK_some_,condK_true,condK_false,join_or,join_and,join_id,Nat.add_eq,Nat.zero_add,Bool.not_true,Bool.not_false,rC,rQ,decide_false,decide_true,Nat.reduceEqDiff,Nat.reduceLT,Nat.reduceLeDiff,d1,e,a1,a2,g]
  rw[key]
  cases hw:isWs c with
  | true=>
   obtain⟨k,h1,h2,h3⟩:=wht_L hA hN σ s n r (i+1) (by simp at hn;omega) h.tl
   refine⟨k+1,by simp;omega,by unfold wht;rw[hw];exact h2,?_⟩
   rw[condK_true,h3,show i+1+k=i+(k+1)by omega]
  | false=>
   rw[condK_false]
   cases hd:dash c r with
   | true=>
    have hr:r≠[]:=fun e=>by subst e;simp[dash]at hd
    have hr1:1≤r.length:=by cases r with | nil=>exact absurd rfl hr | cons _ _=>simp
    have h2':At5 s (i+2) (r.drop 1):=h.tl.dr hr1
    obtain⟨k,h1,h2,h3⟩:=rmk_L (E:=E) (W:=W) (N:=N) hA (L117_2 E D W N n) σ s (r.drop 1) N (i+2) (by have:=h.len;have:=h.few;simp only[List.length_cons,List.length_drop]at *;omega) h2'
    have h4:=h2'.dr h1
    rw[←h2]at h4
    have hle':=rmk_le (r.drop 1)
    obtain⟨j,h5,h6,h7⟩:=wht_L hA hN σ s n (rmk (r.drop 1)) (i+2+k) (by simp only[List.length_cons,List.length_drop]at *;omega) h4
    have hkl:(rmk (r.drop 1)).length=r.length-1-k:=by rw[h2];simp only[List.length_drop]
    simp only[List.length_drop]at h1
    refine⟨2+k+j,by simp only[List.length_cons];omega,?_,?_⟩
    ·unfold wht
     rw[hw,hd]
     show wht n (rmk (r.drop 1))=_
     rw[h6,h2,List.drop_drop,List.drop_drop,show 2+k+j=(1+(k+j))+1 by omega,List.drop_succ_cons]
    ·rw[condK_true,h3,h7,show i+2+k+j=i+(2+k+j)by omega]
   | false=>exact⟨0,Nat.zero_le _,by unfold wht;rw[hw,hd];rfl,by rw[condK_false];rfl⟩
theorem wht_F (hA:SpRat (D 205)) (hN:10000<N):SpWht N (F117 E D W N):=by
 intro σ s i r h
 obtain⟨k,h1,h2,h3⟩:=wht_L (E:=E) (W:=W) hA hN σ s N r i (by have:=h.len;have:=h.few;omega) h
 exact⟨k,h1,h2,h3⟩
end
def wordsV:List BS:=[BS.mk 11 100710650190388740279911748,BS.mk 8 6073459554577832005,BS.mk 8 6073459554577829193,BS.mk 9 1241215773001651606849,BS.mk 4 1397178708,BS.mk 5 336236856642,BS.mk 3 4476485,BS.mk 7 22026814072246082,BS.mk 7 23157120498421321,BS.mk 10 322399817400452109389381,BS.mk 4 1280070990,BS.mk 5 361940403023,BS.mk 6 78401563153491,BS.mk 10 488440487847103610377301,BS.mk 8 4990918871747741011,BS.mk 3 5522771,BS.mk 6 76155295057987,BS.mk 2 17999,BS.mk 8 5494759122808361039,BS.mk 7 23727827094750532,BS.mk 4 1163544915,BS.mk 3 5130573,BS.mk 3 5783885,BS.mk 4 1163219540,BS.mk 5 297750249798]
def signsV:List BS:=[BS.mk 3 4012602,BS.mk 3 3026478,BS.mk 2 11822,BS.mk 2 23387,BS.mk 2 23901,BS.mk 1 123,BS.mk 1 125,BS.mk 1 91,BS.mk 1 93,BS.mk 1 40,BS.mk 1 41,BS.mk 1 44,BS.mk 1 58]
def wdB (t:BS):Bool:=wordsV.any fun w=>w.beq t
def nmC (c:Nat) (r:List Nat):Bool:=(letB c || digB c) || (decide (c=45) && !decide (r.headD 0=45))
def nmL:List Nat→Nat
 | []=>0
 | c::r=>match nmC c r with
  | true=>nmL r+1
  | false=>0
def nmBad (w:List Nat):Bool:=decide (w.getD (w.length-1) 0=45) || decide (60<w.length)
def sgIn:List BS→List Nat→Nat
 | [],_=>0
 | t::l,r=>match decide (t.len≤r.length)&&decide (r.take t.len=t.nats)with
  | true=>t.len
  | false=>sgIn l r
def valD:Nat→List Nat→Nat
 | a,[]=>a
 | a,d::l=>valD (10*a+(d-48)) l
structure NumOk (m:Bool) (ds r:List Nat):Prop where
 dig:∀d∈ds,digB d=true
 n1:1≤ds.length
 n19:ds.length≤19
 lead:ds.length=1∨ds.headD 0≠48
 mi:m=true→ds.headD 0≠48
 nd:digB (r.headD 0)=false
 nl:letB (r.headD 0)=false
 v:valD 0 ds≤9223372036854775808
 vp:m=false→valD 0 ds<9223372036854775808
def numT (m:Bool) (ds:List Nat):List Nat:=if m=true then 45::ds else ds
theorem nmL_cons (c:Nat) (r:List Nat):nmL (c::r)=match nmC c r with
 | true=>nmL r+1
 | false=>0:=rfl
theorem sgIn_cons (t:BS) (l:List BS) (r:List Nat):sgIn (t::l) r=match decide (t.len≤r.length)&&decide (r.take t.len=t.nats)with
 | true=>t.len
 | false=>sgIn l r:=rfl
theorem nmL_le:∀r:List Nat,nmL r≤r.length
 | []=>Nat.le_refl _
 | c::r=>by
  unfold nmL
  have:=nmL_le r
  split<;>simp only[List.length_cons]<;>omega
def SpInS (F:List V→H→Ans):Prop:=∀(σ:H) (v:V) (l:List BS) (b:BS),Src σ 1 l.length v (l.map .str)→l.length≤9000→F [v,.str b] σ=some (.bool (l.any fun x=>x.beq b),σ)
def SpRword (F:List V→H→Ans):Prop:=∀(σ:H) (b:BS),Tidy σ→∃σ',F [.str b] σ=some (.bool (wdB b),σ')∧Fr Nowhere σ σ'
def SpRname (F:List V→H→Ans):Prop:=∀(σ:H) (s:BS) (i c:Nat) (r:List Nat),At5 s i (c::r)→letB c=true →
 F [.str s,.int .i64 (Int.ofNat i)] σ=some (.int .i64 (if nmBad ((c::r).take (nmL (c::r)))=true then Int.negSucc 0 else Int.ofNat (i+nmL (c::r))),σ)
def SpRsign (F:List V→H→Ans):Prop:=∀(σ:H) (s:BS) (i:Nat) (r:List Nat),Tidy σ→At5 s i r→∃σ',F [.str s,.int .i64 (Int.ofNat i)] σ=some (.int .i64 (Int.ofNat (sgIn signsV r)),σ')∧Fr Nowhere σ σ'
def SpRnum (F:List V→H→Ans):Prop:=∀(σ:H) (s:BS) (i:Nat) (m:Bool) (ds r:List Nat),At5 s i (numT m ds++r)→NumOk m ds r →
 F [.str s,.int .i64 (Int.ofNat i)] σ=some (.int .i64 (Int.ofNat (i+(numT m ds).length)),σ)
section
variable {E:List (Nat × Blk)} {D:Den} {W:DrawFn} {N:Nat}
theorem inS_F (hN:10000<N):SpInS (F123 E D W N):=by
 intro σ v l b hv hl
 have key:∀(m i n:Nat),i+m=l.length→m<n→L123_2 E D W N n v b (Int.ofNat i) σ=some (.bool ((l.drop i).any fun x=>x.beq b),σ):=by
  intro m
  induction m with
  | zero=>
   intro i n hi hn
   obtain⟨n,rfl⟩:∃k,n=k+1:=⟨n-1,by omega⟩
   rw[List.drop_eq_nil_of_le (by omega)]
   show T123_2 E D W (T123_1 E D W) _ v b (Int.ofNat i) σ=_
   have d1:decide (i<l.length)=false:=decide_eq_false (by omega)
   have sl:∀κ:Nat→Ans,slenK v κ=κ l.length:=fun κ=>hv.slen
   have k:∀R,T123_2 E D W (T123_1 E D W) R v b (Int.ofNat i) σ=some (.bool false,σ):=by
    intro R
    unfold T123_2 T123_1
    simp -implicitDefEqProofs only [↓rP,rA,Nat.reduceEqDiff,Nat.reduceLT,Nat.reduceLeDiff,↓sl,d1]
   exact k _
  | succ m ih=>
   intro i n hi hn
   obtain⟨n,rfl⟩:∃k,n=k+1:=⟨n-1,by omega⟩
   have hlt:i<l.length:=by omega
   rw[List.drop_eq_getElem_cons hlt,List.any_cons]
   show T123_2 E D W (T123_1 E D W) (L123_2 E D W N n) v b (Int.ofNat i) σ=_
   have d1:decide (i<l.length)=true:=decide_eq_true hlt
   have sl:∀κ:Nat→Ans,slenK v κ=κ l.length:=fun κ=>hv.slen
   have rd:∀κ,iaddrSK 1 v (Int.ofNat i) (fun b o=>ldK E σ b o κ)=κ (.str l[i]):=fun κ=>by
    rcases hv with ⟨h0,_,_⟩|⟨bb,o,c,L,rfl,ha,hle,hm⟩
    ·omega
    ·rw[iaddrSK_lt hlt]
     refine ldK_get ha ?_
     have:(l.map V.str)[i]? = some (.str l[i]):=by rw[List.getElem?_map,List.getElem?_eq_getElem hlt];rfl
     rw[hm,List.getElem?_take,if_pos (by omega),List.getElem?_drop]at this
     show L[o+i*1]? = _
     rw[Nat.mul_one];exact this
   have k:∀K R,T123_2 E D W K R v b (Int.ofNat i) σ=condK (l[i].beq b) (some (.bool true,σ)) (R v b (Int.ofNat (i+1)) σ):=by
    intro K R
    unfold T123_2
    simp -implicitDefEqProofs only [↓rP,rA,Nat.reduceEqDiff,Nat.reduceLT,Nat.reduceLeDiff,↓sl,d1,↓rd,addF_nat (show i+1≤9223372036854775807 by omega)]
   rw[k,ih (i+1) n (by omega) (by omega)]
   cases l[i].beq b<;>rfl
 exact key l.length 0 N (by omega) (by omega)
theorem rword_F (hI:SpInS (D 123)) (hW:∀σ:H,D 274 [] σ=some (.sl σ.next 0 25 (.ex 25),newB σ (.cells (wordsV.map .str)))):SpRword (F208 E D W N):=by
 intro σ b ht
 obtain⟨σ1,e1,f1,a1,n1⟩:=mkN ht (wordsV.map .str)
 have g0:=hW σ
 rw[e1]at g0
 have g1:=hI σ1 (.sl σ.next 0 25 (.ex 25)) wordsV b (.inr ⟨σ.next,0,_,_,rfl,a1,by decide,rfl⟩) (by decide)
 refine⟨σ1,?_,f1⟩
 show T208_0 E D W b σ=_
 unfold T208_0
 simp -implicitDefEqProofs only [↓rP,rS,↓g0,↓g1]
 rfl
theorem rwords_F:∀σ:H,F274 E D W N [] σ=some (.sl σ.next 0 25 (.ex 25),newB σ (.cells (wordsV.map .str))):=fun _=>rfl
theorem nm_L (hA:SpRat (D 205)) (hL:SpLet (D 206)) (hD:SpDig (D 209)) (σ:H) (s:BS) (f:Int):∀(r:List Nat) (n i:Nat),r.length<n→At5 s i r→L207_2 E D W N n s (Int.ofNat i) f σ=J207_1 E D W N s (Int.ofNat (i+nmL r)) f σ
 | [],n,i,hn,h=>by
  obtain⟨n,rfl⟩:∃m,n=m+1:=⟨n-1,by omega⟩
  show T207_2 E D W (J207_1 E D W N) _ s (Int.ofNat i) f σ=_
  have d1:decide (i<s.len)=false:=decide_eq_false (by have:=h.nil;omega)
  have key:∀K R,T207_2 E D W K R s (Int.ofNat i) f σ=K s (Int.ofNat i) f σ:=by
   intro K R
   unfold T207_2
   simp -implicitDefEqProofs only [↓rP,rA,Nat.reduceEqDiff,Nat.reduceLT,Nat.reduceLeDiff,d1]
  exact key _ _
 | c::r,n,i,hn,h=>by
  obtain⟨n,rfl⟩:∃m,n=m+1:=⟨n-1,by omega⟩
  have e:=h.ix
  have hle:=h.le
  have d1:decide (i<s.len)=true:=decide_eq_true h.lt
  have g:=hA σ s (i+1) r h.tl
  have g1:=hL σ c
  have g2:=hD σ c
  have a1:addF .i64 (Int.ofNat i) (Int.ofNat 1)=Int.ofNat (i+1):=addF_nat (by omega)
  show T207_2 E D W (J207_1 E D W N) (L207_2 E D W N n) s (Int.ofNat i) f σ=_
  have key:∀K R,T207_2 E D W K R s (Int.ofNat i) f σ=condK (nmC c r) (R s (Int.ofNat (i+1)) f σ) (K s (Int.ofNat i) f σ):=by
   intro K R
   unfold T207_2 nmC
   cases h1:letB c<;>cases h2:digB c<;>cases h3:decide (c=45)<;>simp -implicitDefEqProofs only [↓rP,rA,Nat.reduceEqDiff,Nat.reduceLT,Nat.reduceLeDiff,d1,↓e,↓g1,↓g2,h1,h2,h3,a1,↓g]<;>rfl
  rw[key]
  cases hc:nmC c r with
  | true=>
   rw[condK_true,nm_L hA hL hD σ s f r n (i+1) (by simp at hn;omega) h.tl]
   rw[nmL_cons,hc]
   show J207_1 E D W N s (Int.ofNat (i+1+nmL r)) f σ=J207_1 E D W N s (Int.ofNat (i+(nmL r+1))) f σ
   rw[show i+1+nmL r=i+(nmL r+1)by omega]
  | false=>rw[condK_false,nmL_cons,hc];rfl
theorem rname_F (hA:SpRat (D 205)) (hL:SpLet (D 206)) (hD:SpDig (D 209)) (hN:10000<N):SpRname (F207 E D W N):=by
 intro σ s i c r h hc
 have hle:=h.le
 have hlen:=h.len
 have hfew:=h.few
 have hm:=nmL_le (c::r)
 have h1:nmC c r=true:=by unfold nmC;rw[hc];rfl
 have h0:1≤nmL (c::r):=by unfold nmL;rw[h1];exact Nat.succ_pos _
 obtain⟨m,hm'⟩:∃m,nmL (c::r)=m:=⟨_,rfl⟩
 rw[hm']at hm h0 ⊢
 have lt:((c::r).take m).length=m:=by rw[List.length_take];omega
 have h5:At5 s (i+(m-1)) ((c::r).drop (m-1)):=h.dr (by omega)
 have hd:((c::r).drop (m-1)).headD 0=((c::r).take m).getD (m-1) 0:=by
  rw[List.getD_eq_getElem?_getD,List.getElem?_take,if_pos (by omega),List.headD_eq_head?_getD,List.head?_drop]
 have e:=fun κ=>h5.hd κ (by omega)
 rw[hd]at e
 have a1:subF .i64 (Int.ofNat (i+m)) (Int.ofNat 1)=Int.ofNat (i+(m-1)):=by rw[subF_nat (by omega) (by omega),show i+m-1=i+(m-1)by omega]
 have a2:subF .i64 (Int.ofNat (i+m)) (Int.ofNat i)=Int.ofNat m:=by rw[subF_nat (by omega) (by omega),show i+m-i=m by omega]
 show L207_2 E D W N N s (Int.ofNat i) (Int.ofNat i) σ=_
 rw[nm_L hA hL hD σ s _ (c::r) N i (by omega) h,hm']
 show T207_1 E D W s (Int.ofNat (i+m)) (Int.ofNat i) σ=_
 unfold T207_1 nmBad
 rw[lt]
 cases h6:decide (((c::r).take m).getD (m-1) 0=45)<;>cases h7:decide (60<m)<;>simp -implicitDefEqProofs only [↓rP,rA,Nat.reduceEqDiff,Nat.reduceLT,Nat.reduceLeDiff,a1,a2,↓e,h6,h7]<;>rfl
theorem sg_L (hN:100<N) (σ:H) (r:List Nat) (hb:∀c∈r,c<256) (b:Nat) (ha:Atc σ b (signsV.map .str)):∀(m j n:Nat),j+m=13→m<n→L213_2 E D W N n (ofN r) (.sl b 0 13 (.ex 13)) (Int.ofNat j) σ=some (.int .i64 (Int.ofNat (sgIn (signsV.drop j) r)),σ)
 | 0,j,n,hj,hn=>by
  obtain⟨n,rfl⟩:∃k,n=k+1:=⟨n-1,by omega⟩
  obtain rfl:j=13:=by omega
  show T213_2 E D W (T213_1 E D W) _ (ofN r) (.sl b 0 13 (.ex 13)) (Int.ofNat 13) σ=_
  have key:∀R,T213_2 E D W (T213_1 E D W) R (ofN r) (.sl b 0 13 (.ex 13)) (Int.ofNat 13) σ=some (.int .i64 (Int.ofNat 0),σ):=by
   intro R
   unfold T213_2 T213_1
   simp -implicitDefEqProofs only [↓rP,rA,Nat.reduceEqDiff,Nat.reduceLT,Nat.reduceLeDiff,Nat.lt_irrefl]
  exact key _
 | m+1,j,n,hj,hn=>by
  obtain⟨n,rfl⟩:∃k,n=k+1:=⟨n-1,by omega⟩
  have hl:j<signsV.length:=by show j<13;omega
  rw[List.drop_eq_getElem_cons hl]
  have d1:decide (j<13)=true:=decide_eq_true (by omega)
  have rd:∀κ,iaddrSK 1 (.sl b 0 13 (.ex 13)) (Int.ofNat j) (fun b o=>ldK E σ b o κ)=κ (.str signsV[j]):=fun κ=>by
   rw[iaddrSK_lt (show j<13 by omega)]
   refine ldK_get ha ?_
   show (signsV.map V.str)[0+j*1]? = _
   rw[Nat.zero_add,Nat.mul_one,List.getElem?_map,List.getElem?_eq_getElem hl];rfl
  show T213_2 E D W (T213_1 E D W) (L213_2 E D W N n) (ofN r) (.sl b 0 13 (.ex 13)) (Int.ofNat j) σ=_
  have ih:=sg_L hN σ r hb b ha m (j+1) n (by omega) (by omega)
  generalize signsV[j]=t at rd ⊢
  have key:∀K R,T213_2 E D W K R (ofN r) (.sl b 0 13 (.ex 13)) (Int.ofNat j) σ=condK (decide (t.len≤r.length)&&decide (r.take t.len=t.nats)) (some (.int .i64 (Int.ofNat t.len),σ)) (R (ofN r) (.sl b 0 13 (.ex 13)) (Int.ofNat (j+1)) σ):=by
   intro K R
   have hn':(ofN r).len=r.length:=ofN_len r
   unfold T213_2
   by_cases h1:t.len≤r.length
   ·have sp:∀κ,sliceStrX (ofN r) none (some (.int .i64 (Int.ofNat t.len))) κ=κ ((ofN r).sub 0 t.len):=fun κ=>sliceStrX_to (by rw[hn'];exact h1)
    have eb:((ofN r).sub 0 t.len).beq t=decide (r.take t.len=t.nats):=by
     rw[BS.beq_nats,BS.nats_sub (by rw[hn'];exact h1),ofN_nats hb,List.drop_zero,Nat.sub_zero]
    simp -implicitDefEqProofs only [↓rP,rA,Nat.reduceEqDiff,Nat.reduceLT,Nat.reduceLeDiff,d1,↓rd,hn',decide_eq_true h1,↓sp,eb,addF_nat (show j+1≤9223372036854775807 by omega)]
   ·simp -implicitDefEqProofs only [↓rP,rA,Nat.reduceEqDiff,Nat.reduceLT,Nat.reduceLeDiff,d1,↓rd,hn',decide_eq_false h1,addF_nat (show j+1≤9223372036854775807 by omega)]
  rw[key,ih,sgIn_cons]
  cases decide (t.len≤r.length)&&decide (r.take t.len=t.nats)<;>rfl
theorem rsign_F (hN:100<N):SpRsign (F213 E D W N):=by
 intro σ s i r ht h
 obtain⟨σ1,e1,f1,a1,n1⟩:=mkN ht (signsV.map .str)
 refine⟨σ1,?_,f1⟩
 have sp:∀κ,sliceStrX s (some (.int .i64 (Int.ofNat i))) none κ=κ (ofN r):=fun κ=>by
  rw[sliceStrX_from (by have:=h.len;omega),h.r.subAll]
 have g:=sg_L (E:=E) (D:=D) (W:=W) (N:=N) hN σ1 r h.r.bd σ.next a1 13 0 N rfl (by omega)
 unfold signsV at e1
 simp only[List.map_cons,List.map_nil]at e1
 show T213_0 E D W (L213_2 E D W N N) s (Int.ofNat i) σ=_
 have key:∀K,T213_0 E D W K s (Int.ofNat i) σ=K (ofN r) (.sl σ.next 0 13 (.ex 13)) (Int.ofNat 0) σ1:=by
  intro K
  unfold T213_0
  simp -implicitDefEqProofs only [↓rP,rS,↓sp,↓e1]
 rw[key]
 exact g
end
theorem valD_ge (l:List Nat):∀a:Nat,a≤valD a l:=by
 induction l with
 | nil=>intro a;exact Nat.le_refl a
 | cons d l ih=>
  intro a
  have:=ih (10*a+(d-48))
  show a≤valD (10*a+(d-48)) l
  omega
theorem digB_of {c:Nat} (h:digB c=true):48≤c∧c≤57:=by
 unfold digB at h
 rwa [Bool.and_eq_true,decide_eq_true_eq,decide_eq_true_eq]at h
inductive Tk:List Nat→Nat→List Nat→List Nat→Prop
 | name {c:Nat} {r:List Nat} {k:Nat}:letB c=true→nmBad ((c::r).take (nmL (c::r)))=false→k=(if wdB (ofN ((c::r).take (nmL (c::r))))=true then 5 else if c≤90 then 1 else 2) →
   Tk (c::r) k ((c::r).take (nmL (c::r))) ((c::r).drop (nmL (c::r)))
 | num {m:Bool} {ds r:List Nat}:NumOk m ds r→Tk (numT m ds++r) 3 (numT m ds) r
 | sign {c:Nat} {r:List Nat}:letB c=false→digB c=false→(c=45→digB (r.headD 0)=false)→c≠39→c≠34→0<sgIn signsV (c::r) →
   Tk (c::r) 6 ((c::r).take (sgIn signsV (c::r))) ((c::r).drop (sgIn signsV (c::r)))
theorem sgIn_le:∀(l:List BS) (r:List Nat),sgIn l r≤r.length
 | [],_=>Nat.zero_le _
 | t::l,r=>by
  rw[sgIn_cons]
  cases h:decide (t.len≤r.length)&&decide (r.take t.len=t.nats)with
  | true=>
   rw[Bool.and_eq_true,decide_eq_true_eq]at h
   exact h.1
  | false=>exact sgIn_le l r
theorem Tk.app {r w r':List Nat} {k:Nat} (h:Tk r k w r'):r=w++r'∧0<w.length:=by
 cases h with
 | @name c r1 _ hc=>
  refine⟨(List.take_append_drop _ _).symm,?_⟩
  have h1:nmC c r1=true:=by unfold nmC;rw[hc];rfl
  have:=nmL_le (c::r1)
  rw[List.length_take,nmL_cons,h1]at *
  simp only[List.length_cons]at *;omega
 | num hn=>
  rename_i m ds
  have:=hn.n1
  exact⟨rfl,by unfold numT;split<;>(try simp only[List.length_cons])<;>omega⟩
 | @sign c r1 _ _ _ _ _ h0=>
  refine⟨(List.take_append_drop _ _).symm,?_⟩
  have:=sgIn_le signsV (c::r1)
  rw[List.length_take];omega
abbrev Tok:=Nat × List Nat × Nat
inductive Tks (N len:Nat):List Nat→List Tok→Prop
 | fin {r:List Nat}:wht N r=[]→Tks N len r [(0,[],len)]
 | one {r r1 w r2:List Nat} {k:Nat} {ts:List Tok}:wht N r=r1→Tk r1 k w r2→Tks N len r2 ts→Tks N len r ((k,w,len-r1.length)::ts)
def tkCells (ts:List Tok):List V:=ts.flatMap fun t=>[.int .i64 (Int.ofNat t.1),.str (ofN t.2.1),.int .i64 (Int.ofNat t.2.2)]
theorem tkCells_app (a b:List Tok):tkCells (a++b)=tkCells a++tkCells b:=List.flatMap_append
theorem Tks.len {N len:Nat} {r:List Nat} {ts:List Tok} (h:Tks N len r ts):ts.length≤r.length+1:=by
 induction h with
 | fin _=>exact Nat.succ_le_succ (Nat.zero_le _)
 | one h1 h2 _ ih=>
  rename_i r r1 w r2 k ts hh
  have h3:=wht_le N r
  obtain⟨h4,h5⟩:=h2.app
  rw[h1,h4,List.length_append]at h3
  simp only[List.length_cons];omega
def SpOne (F:List V→H→Ans):Prop:=∀(σ:H) (s:BS) (i k:Nat) (r w r':List Nat),Tidy σ→At5 s i r→Tk r k w r' →
 ∃σ',F [.str s,.int .i64 (Int.ofNat i)] σ=some (.tup [.agg [.int .i64 (Int.ofNat k),.str (ofN w),.int .i64 (Int.ofNat i)],.int .i64 (Int.ofNat (i+w.length))],σ')∧Fr Nowhere σ σ'
def SpTks (N:Nat) (F:List V→H→Ans):Prop:=∀(σ:H) (s:BS) (ts:List Tok),Tidy σ→s.len≤8000→Tks N s.len s.nats ts →
 ∃v σ',F [.str s] σ=some (.tup [v,.int .i64 (Int.ofNat 0),.int .i64 (Int.ofNat 0)],σ')∧Dst σ' 3 ts.length v (tkCells ts)∧(∀b,Names v b→σ.next≤b)∧Fr Nowhere σ σ'
section
variable {E:List (Nat × Blk)} {D:Den} {W:DrawFn} {N:Nat}
theorem num_L (hD:SpDig (D 209)) (σ:H) (s:BS) (m:Bool) (f:Nat) (r:List Nat) (hr:digB (r.headD 0)=false):∀(ds:List Nat) (n i k v:Nat),(∀d∈ds,digB d=true)→ds.length<n→At5 s i (ds++r)→i=f+k→k+ds.length≤19→valD v ds≤9223372036854775808 →
  L210_3 E D W N n s (Int.ofNat i) m (Int.ofNat f) (Int.ofNat v) σ=J210_2 E D W N s (Int.ofNat (i+ds.length)) m (Int.ofNat f) (Int.ofNat (valD v ds)) σ
 | [],n,i,k,v,hd,hn,h,hi,hk,hv=>by
  obtain⟨n,rfl⟩:∃j,n=j+1:=⟨n-1,by omega⟩
  show T210_3 E D W (J210_2 E D W N) _ s (Int.ofNat i) m (Int.ofNat f) (Int.ofNat v) σ=J210_2 E D W N s (Int.ofNat i) m (Int.ofNat f) (Int.ofNat v) σ
  have key:∀K R,T210_3 E D W K R s (Int.ofNat i) m (Int.ofNat f) (Int.ofNat v) σ=K s (Int.ofNat i) m (Int.ofNat f) (Int.ofNat v) σ:=by
   intro K R
   unfold T210_3
   cases r with
   | nil=>
    have d1:decide (i<s.len)=false:=decide_eq_false (by have:=h.nil;omega)
    simp -implicitDefEqProofs only [↓rP,rA,Nat.reduceEqDiff,Nat.reduceLT,Nat.reduceLeDiff,d1]
   | cons c r=>
    have d1:decide (i<s.len)=true:=decide_eq_true h.lt
    have e:=h.ix
    have g:=hD σ c
    have hr:digB c=false:=hr
    rw[hr]at g
    simp -implicitDefEqProofs only [↓rP,rA,Nat.reduceEqDiff,Nat.reduceLT,Nat.reduceLeDiff,d1,↓e,↓g]
  exact key _ _
 | c::ds,n,i,k,v,hd,hn,h,hi,hk,hv=>by
  obtain⟨n,rfl⟩:∃j,n=j+1:=⟨n-1,by omega⟩
  have hc:=hd c (List.mem_cons_self ..)
  have hc':=digB_of hc
  have hle:=h.le
  have e:=At5.ix (show At5 s i (c::(ds++r))from h)
  have hlt:=At5.lt (show At5 s i (c::(ds++r))from h)
  have htl:=At5.tl (show At5 s i (c::(ds++r))from h)
  have d1:decide (i<s.len)=true:=decide_eq_true hlt
  have g:=hD σ c
  rw[hc]at g
  have hv1:valD (10*v+(c-48)) ds≤9223372036854775808:=hv
  have hv2:=valD_ge ds (10*v+(c-48))
  simp only[List.length_cons]at hk hn
  have a1:addF .i64 (Int.ofNat i) (Int.ofNat 1)=Int.ofNat (i+1):=addF_nat (by omega)
  have a2:subF .i64 (Int.ofNat i) (Int.ofNat f)=Int.ofNat k:=by rw[subF_nat (by omega) (by omega),show i-f=k by omega]
  have a3:subF .u8 (Int.ofNat c) (Int.ofNat 48)=Int.ofNat (c-48):=by
   show wrapF .u8 (Int.ofNat c-Int.ofNat 48)=_
   rw[show Int.ofNat c-Int.ofNat 48=Int.ofNat (c-48)from(Int.ofNat_sub hc'.1).symm]
   exact wrapF_nat (show c-48≤255 by omega)
  have a4:wrapF .u64 (Int.ofNat (c-48))=Int.ofNat (c-48):=wrapF_nat (show c-48≤18446744073709551615 by omega)
  have a5:mulF .u64 (Int.ofNat 10) (Int.ofNat v)=Int.ofNat (10*v):=by
   show wrapF .u64 (Int.ofNat (10*v))=_
   exact wrapF_nat (show 10*v≤18446744073709551615 by omega)
  have a6:addF .u64 (Int.ofNat (10*v)) (Int.ofNat (c-48))=Int.ofNat (10*v+(c-48)):=by
   show wrapF .u64 (Int.ofNat (10*v+(c-48)))=_
   exact wrapF_nat (show 10*v+(c-48)≤18446744073709551615 by omega)
  have d2:decide (k<19)=true:=decide_eq_true (by omega)
  have ih:=num_L hD σ s m f r hr ds n (i+1) (k+1) (10*v+(c-48)) (fun d h=>hd d (List.mem_cons_of_mem _ h)) (by omega) htl (by omega) (by omega) hv1
  show T210_3 E D W (J210_2 E D W N) (T210_4 E D W (L210_3 E D W N n)) s (Int.ofNat i) m (Int.ofNat f) (Int.ofNat v) σ=J210_2 E D W N s (Int.ofNat (i+(ds.length+1))) m (Int.ofNat f) (Int.ofNat (valD (10*v+(c-48)) ds)) σ
  have key:∀K R,T210_3 E D W K (T210_4 E D W R) s (Int.ofNat i) m (Int.ofNat f) (Int.ofNat v) σ=R s (Int.ofNat (i+1)) m (Int.ofNat f) (Int.ofNat (10*v+(c-48))) σ:=by
   intro K R
   unfold T210_3 T210_4
   simp -implicitDefEqProofs only [↓rP,rA,Nat.reduceEqDiff,Nat.reduceLT,Nat.reduceLeDiff,d1,↓e,↓g,a1,a2,d2,a3,a4,a5,a6]
  rw[key,ih,show i+1+ds.length=i+(ds.length+1)by omega]
theorem rnum_F (hA:SpRat (D 205)) (hL:SpLet (D 206)) (hD:SpDig (D 209)) (hN:100<N):SpRnum (F210 E D W N):=by
  intro σ s i m ds r h hk
  have hle:=h.le
  have tail:∀f,At5 s f (ds++r)→f≤10001→J210_1 E D W N s (Int.ofNat f) m σ=some (.int .i64 (Int.ofNat (f+ds.length)),σ):=by
    intro f hf hfl
    show L210_3 E D W N N s (Int.ofNat f) m (Int.ofNat f) (Int.ofNat 0) σ=_
    have h19:=hk.n19
    have h1:=hk.n1
    rw[num_L hD σ s m f r hk.nd ds N f 0 0 hk.dig (by omega) hf rfl (by omega) hk.v]
    have hb:=hf.dr (k:=ds.length) (by simp)
    rw[List.drop_left]at hb
    have ga:=hA σ s (f+ds.length) r hb
    have gl:=hL σ (r.headD 0)
    rw[hk.nl]at gl
    have a2:subF .i64 (Int.ofNat (f+ds.length)) (Int.ofNat f)=Int.ofNat ds.length:=by rw[subF_nat (by omega) (by omega),show f+ds.length-f=ds.length by omega]
    have e:∀κ:Int→Ans,idxStrX s (Int.ofNat f) κ=κ (Int.ofNat (ds.headD 0)):=by
      obtain⟨d,l,rfl⟩:∃d l,ds=d::l:=by
        cases ds with
        | nil=>simp at h1
        | cons d l=>exact⟨d,l,rfl⟩
      exact At5.ix (show At5 s f (d::(l++r))from hf)
    have d1:decide (ds.length<1)=false:=decide_eq_false (by omega)
    have d2:decide (19<ds.length)=false:=decide_eq_false (by omega)
    have d6:decide (9223372036854775808<valD 0 ds)=false:=decide_eq_false (by have:=hk.v;omega)
    have d3:(decide (1<ds.length)&&decide (ds.headD 0=48))=false:=by
      rcases hk.lead with h|h
      · rw[decide_eq_false (by omega)];rfl
      · rw[decide_eq_false h,Bool.and_false]
    have d4:(m&&decide (ds.headD 0=48))=false:=by
      cases hm:m with
      | false=>rfl
      | true=>rw[decide_eq_false (hk.mi hm)];rfl
    have d5:(!m&&decide (valD 0 ds=9223372036854775808))=false:=by
      cases hm:m with
      | true=>rfl
      | false=>rw[decide_eq_false (by have:=hk.vp hm;omega)];rfl
    show T210_2 E D W s (Int.ofNat (f+ds.length)) m (Int.ofNat f) (Int.ofNat (valD 0 ds)) σ=_
    unfold T210_2
    cases h8:decide (1<ds.length)<;>cases h9:decide (ds.headD 0=48)<;>cases hm:m<;>(rw[h8,h9]at d3;rw[h9,hm]at d4;rw[hm]at d5) <;>
      first
      | (exact absurd d3 (by decide))
      | (exact absurd d4 (by decide))
      | (simp only[Bool.not_false,Bool.not_true,Bool.true_and,Bool.false_and]at d5
         simp -implicitDefEqProofs only [↓rP,rA,Nat.reduceEqDiff,Nat.reduceLT,Nat.reduceLeDiff,a2,d1,d2,h8,↓e,h9,↓ga,↓gl,d5,d6])
  cases m with
  | false=>
    have h':At5 s i (ds++r):=h
    obtain⟨d,l,rfl⟩:∃d l,ds=d::l:=by
      have:=hk.n1
      cases ds with
      | nil=>simp at this
      | cons d l=>exact⟨d,l,rfl⟩
    have e:=At5.ix (show At5 s i (d::(l++r))from h')
    have hd:=digB_of (hk.dig d (List.mem_cons_self ..))
    have d0:decide (d=45)=false:=decide_eq_false (by omega)
    show T210_0 E D W (J210_1 E D W N) s (Int.ofNat i) σ=_
    have key:∀K,T210_0 E D W K s (Int.ofNat i) σ=K s (Int.ofNat i) false σ:=by
      intro K
      unfold T210_0
      simp -implicitDefEqProofs only [↓rP,rA,Nat.reduceEqDiff,Nat.reduceLT,Nat.reduceLeDiff,↓e,d0]
    rw[key]
    exact tail i h' (by omega)
  | true=>
    have h':At5 s i (45::(ds++r)):=h
    have e:=h'.ix
    have a1:addF .i64 (Int.ofNat i) (Int.ofNat 1)=Int.ofNat (i+1):=addF_nat (by omega)
    show T210_0 E D W (J210_1 E D W N) s (Int.ofNat i) σ=_
    have key:∀K,T210_0 E D W K s (Int.ofNat i) σ=K s (Int.ofNat (i+1)) true σ:=by
      intro K
      unfold T210_0
      simp -implicitDefEqProofs only [↓rP,rA,Nat.reduceEqDiff,Nat.reduceLT,Nat.reduceLeDiff,↓e,a1]
    rw[key,tail (i+1) h'.tl (by omega)]
    show some (V.int .i64 (Int.ofNat (i+1+ds.length)),σ)=some (V.int .i64 (Int.ofNat (i+(ds.length+1))),σ)
    rw[show i+1+ds.length=i+(ds.length+1)by omega]
end
section
variable {E:List (Nat × Blk)} {D:Den} {W:DrawFn} {N:Nat}
theorem numT_ne (m:Bool) {ds r:List Nat} (h:NumOk m ds r):∃c l,numT m ds++r=c::l∧((m=false∧digB c=true)∨(m=true∧c=45∧digB (l.headD 0)=true)):=by
 obtain⟨d,ds',rfl⟩:∃d l,ds=d::l:=by
  have:=h.n1
  cases ds with
  | nil=>simp at this
  | cons d l=>exact⟨d,l,rfl⟩
 have hd:=h.dig d (List.mem_cons_self ..)
 cases m with
 | false=>exact⟨d,ds'++r,rfl,.inl ⟨rfl,hd⟩⟩
 | true=>exact⟨45,d::(ds'++r),rfl,.inr ⟨rfl,rfl,hd⟩⟩
theorem dig_let {c:Nat} (h:digB c=true):letB c=false:=by
 obtain⟨h1,h2⟩:=digB_of h
 unfold letB
 rw[decide_eq_false (show ¬97≤c by omega),decide_eq_false (show ¬65≤c by omega)];rfl
theorem one_F (hA:SpRat (D 205)) (hL:SpLet (D 206)) (hD:SpDig (D 209)) (hNm:SpRname (D 207)) (hW:SpRword (D 208)) (hNu:SpRnum (D 210)) (hS:SpRsign (D 213)):SpOne (F118 E D W N):=by
 intro σ s i k r w r' ht h hk
 have hle:=h.le
 have hlen:=h.len
 have hfew:=h.few
 have bd:=h.r.bd
 cases hk with
 | @name c r1 k hc hb hkk=>
  have e:=h.ix
  have g1:=hL σ c
  rw[hc]at g1
  have g2:=hNm σ s i c r1 h hc
  rw[hb,if_neg (by decide)]at g2
  have hm:=nmL_le (c::r1)
  obtain⟨m,hm'⟩:∃m,nmL (c::r1)=m:=⟨_,rfl⟩
  rw[hm']at g2 hm hkk ⊢
  have sp:∀κ,sliceStrX s (some (.int .i64 (Int.ofNat i))) (some (.int .i64 (Int.ofNat (i+m)))) κ=κ (ofN ((c::r1).take m)):=fun κ=>by
   rw[sliceStrX_both (by omega) (by omega),h.r.sub hm]
  obtain⟨σ3,g3,f3⟩:=hW σ (ofN ((c::r1).take m)) ht
  have lt:((c::r1).take m).length=m:=by rw[List.length_take];omega
  refine⟨σ3,?_,f3⟩
  rw[lt]
  show T118_0 E D W (J118_1 E D W N) (J118_2 E D W N) s (Int.ofNat i) σ=_
  have d0:ltF (Int.ofNat (i+m)) (Int.ofNat 0)=false:=by rw[ltF_nat];exact decide_eq_false (by omega)
  have k2:∀kk:Nat,J118_2 E D W N (Int.ofNat (i+m)) (Int.ofNat 0) (BS.mk 0 0) (Int.ofNat 0) (Int.ofNat kk) (ofN ((c::r1).take m)) (Int.ofNat i) σ=some (.tup [.agg [.int .i64 (Int.ofNat (if wdB (ofN ((c::r1).take m))=true then 5 else kk)),.str (ofN ((c::r1).take m)),.int .i64 (Int.ofNat i)],.int .i64 (Int.ofNat (i+m))],σ3):=by
   intro kk
   show T118_2 E D W (T118_1 E D W) _ _ _ _ _ _ _ σ=_
   unfold T118_2 T118_1
   cases hw:wdB (ofN ((c::r1).take m))<;>(rw[hw]at g3;simp -implicitDefEqProofs only [↓rP,rS,↓g3])<;>rfl
  have key:∀K1 K2,T118_0 E D W K1 K2 s (Int.ofNat i) σ=K2 (Int.ofNat (i+m)) (Int.ofNat 0) (BS.mk 0 0) (Int.ofNat 0) (Int.ofNat (if c≤90 then 1 else 2)) (ofN ((c::r1).take m)) (Int.ofNat i) σ:=by
   intro K1 K2
   unfold T118_0
   by_cases h9:c≤90
   ·rw[if_pos h9]
    simp -implicitDefEqProofs only [↓rP,rA,Nat.reduceEqDiff,Nat.reduceLT,Nat.reduceLeDiff,↓e,↓g1,↓g2,d0,Nat.not_lt_zero,↓sp,decide_eq_true h9]
   ·rw[if_neg h9]
    simp -implicitDefEqProofs only [↓rP,rA,Nat.reduceEqDiff,Nat.reduceLT,Nat.reduceLeDiff,↓e,↓g1,↓g2,d0,Nat.not_lt_zero,↓sp,decide_eq_false h9]
  rw[key,k2,hkk]
 | @num m ds _ hn=>
  obtain⟨c,l,hcl,hc⟩:=numT_ne m hn
  have g2:=hNu σ s i m ds r' h hn
  have hsub:∀κ,sliceStrX s (some (.int .i64 (Int.ofNat i))) (some (.int .i64 (Int.ofNat (i+(numT m ds).length)))) κ=κ (ofN (numT m ds)):=fun κ=>by
   rw[sliceStrX_both (by omega) (by rw[List.length_append]at hlen;omega),h.r.sub (k:=(numT m ds).length) (by rw[List.length_append];omega),List.take_left]
  have h':At5 s i (c::l):=hcl ▸ h
  have e:=h'.ix
  have g1:=hL σ c
  have gd:=hD σ c
  have a1:addF .i64 (Int.ofNat i) (Int.ofNat 1)=Int.ofNat (i+1):=addF_nat (by omega)
  have ga:=hA σ s (i+1) l h'.tl
  have gd2:=hD σ (l.headD 0)
  refine⟨σ,?_,Fr.refl ht⟩
  show T118_0 E D W (T118_1 E D W) (J118_2 E D W N) s (Int.ofNat i) σ=_
  rcases hc with ⟨_,hc⟩|⟨_,rfl,hc⟩
  ·rw[dig_let hc]at g1
   rw[hc]at gd
   unfold T118_0 T118_1
   simp -implicitDefEqProofs only [↓rP,rA,Nat.reduceEqDiff,Nat.reduceLT,Nat.reduceLeDiff,↓e,↓g1,↓gd,↓g2,Nat.not_lt_zero,↓hsub]
  ·rw[show letB 45=false from rfl]at g1
   rw[show digB 45=false from rfl]at gd
   rw[hc]at gd2
   unfold T118_0 T118_1
   simp -implicitDefEqProofs only [↓rP,rA,Nat.reduceEqDiff,Nat.reduceLT,Nat.reduceLeDiff,↓e,↓g1,↓gd,a1,↓ga,↓gd2,↓g2,Nat.not_lt_zero,↓hsub]
 | @sign c r1 hc hd hm h39 h34 h0=>
  have e:=h.ix
  have g1:=hL σ c
  rw[hc]at g1
  have gd:=hD σ c
  rw[hd]at gd
  have a1:addF .i64 (Int.ofNat i) (Int.ofNat 1)=Int.ofNat (i+1):=addF_nat (by omega)
  have ga:=hA σ s (i+1) r1 h.tl
  have gd2:=hD σ (r1.headD 0)
  obtain⟨σ2,g2,f2⟩:=hS σ s i (c::r1) ht h
  have hsl:=sgIn_le signsV (c::r1)
  obtain⟨m,hm'⟩:∃m,sgIn signsV (c::r1)=m:=⟨_,rfl⟩
  rw[hm']at g2 h0 hsl ⊢
  have lt:((c::r1).take m).length=m:=by rw[List.length_take];omega
  have lm:m≤10000:=by omega
  have a2:addF .i64 (Int.ofNat i) (Int.ofNat m)=Int.ofNat (i+m):=addF_nat (by omega)
  have sp:∀κ,sliceStrX s (some (.int .i64 (Int.ofNat i))) (some (.int .i64 (Int.ofNat (i+m)))) κ=κ (ofN ((c::r1).take m)):=fun κ=>by
   rw[sliceStrX_both (by omega) (by omega),h.r.sub hsl]
  refine⟨σ2,?_,f2⟩
  rw[lt]
  show T118_0 E D W (T118_1 E D W) (J118_2 E D W N) s (Int.ofNat i) σ=_
  unfold T118_0 T118_1
  by_cases h45:c=45
  ·rw[hm h45]at gd2
   simp -implicitDefEqProofs only [↓rP,rA,Nat.reduceEqDiff,Nat.reduceLT,Nat.reduceLeDiff,↓e,↓g1,↓gd,decide_eq_true h45,a1,↓ga,↓gd2,decide_eq_false h39,decide_eq_false h34,↓g2,decide_eq_true h0,a2,↓sp]
  ·simp -implicitDefEqProofs only [↓rP,rA,Nat.reduceEqDiff,Nat.reduceLT,Nat.reduceLeDiff,↓e,↓g1,↓gd,decide_eq_false h45,decide_eq_false h39,decide_eq_false h34,↓g2,decide_eq_true h0,a2,↓sp]
theorem tks_L (hW:SpWht N (D 117)) (hO:SpOne (D 118)) (s:BS) (hs:s.len≤8000) (σ0:H):∀(r:List Nat) (ts:List Tok),Tks N s.len r ts→∀(n i:Nat) (acc:List Tok) (v:V) (σ:H),ts.length<n→acc.length+ts.length≤9000→At5 s i r→Fr Nowhere σ0 σ→Dst σ 3 acc.length v (tkCells acc)→(∀b,Names v b→σ0.next≤b) →
  ∃u σ',L56_1 E D W N n s v (Int.ofNat i) σ=some (.tup [u,.int .i64 (Int.ofNat 0),.int .i64 (Int.ofNat 0)],σ')∧Dst σ' 3 (acc++ts).length u (tkCells (acc++ts))∧(∀b,Names u b→σ0.next≤b)∧Fr Nowhere σ0 σ':=by
 intro r ts hts
 have grow:∀k,k≤9001→growable k 32=true:=fun k hk=>by unfold growable;simp only[Bool.and_eq_true,Nat.ble_eq];omega
 have push:∀(t:Tok) (acc:List Tok) (v:V) (σ:H),acc.length+1≤9001→Fr Nowhere σ0 σ→Dst σ 3 acc.length v (tkCells acc)→(∀b,Names v b→σ0.next≤b) →
   ∃u σ1 σ2,newB σ (.cells [.int .i64 (Int.ofNat t.1),.str (ofN t.2.1),.int .i64 (Int.ofNat t.2.2)])=σ1∧(∀κ:V→H→Ans,appK E 3 32 v (.sl σ.next 0 1 (.ex 1)) σ1 κ=κ u σ2)∧Dst σ2 3 (acc++[t]).length u (tkCells (acc++[t]))∧(∀b,Names u b→σ0.next≤b)∧Fr Nowhere σ0 σ2:=by
  intro t acc v σ ha f hv hn
  obtain⟨σ1,e1,f1,a1,n1⟩:=mkN f.tidy [.int .i64 (Int.ofNat t.1),.str (ofN t.2.1),.int .i64 (Int.ofNat t.2.2)]
  have xs:Src σ1 3 1 (V.sl σ.next 0 1 (.ex 1)) [.int .i64 (Int.ofNat t.1),.str (ofN t.2.1),.int .i64 (Int.ofNat t.2.2)] := .inr ⟨_,_,_,_,rfl,a1,Nat.le_refl _,rfl⟩
  obtain⟨u,σ2,g,d,nm,f2⟩:=app_all (E:=E) (bytes:=32) (hv.fr f1 f.tidy (fun _ _ h=>h)) f1.tidy xs rfl (grow _ ha)
  have l1:=f1.le
  have l0:=f.le
  refine⟨u,σ1,σ2,e1,g,?_,fun b hb=>(nm b hb).elim (hn b) (fun h=>by omega),(f.trans f1 (fun _ _ h=>h)).trans f2 fun b hb h=>by have:=hn b h;omega⟩
  rw[tkCells_app,List.length_append];exact d
 induction hts with
 | @fin r hw=>
  intro n i acc v σ hn ha h f hv hnm
  obtain⟨n,rfl⟩:∃j,n=j+1:=⟨n-1,by omega⟩
  obtain⟨k,h1,h2,h3⟩:=hW σ s i r h
  have hik:i+k=s.len:=by
   rw[hw]at h2
   have:=congrArg List.length h2
   rw[List.length_drop,List.length_nil]at this
   have:=h.len
   omega
  rw[hik]at h3
  simp only[List.length_cons,List.length_nil]at ha
  obtain⟨u,σ1,σ2,e1,g,d,nm,f2⟩:=push (0,[],s.len) acc v σ (by omega) f hv hnm
  refine⟨u,σ2,?_,d,nm,f2⟩
  have e1':newB σ (.cells [.int .i64 (Int.ofNat 0),.str (BS.mk 0 0),.int .i64 (Int.ofNat s.len)])=σ1:=e1
  have d1:decide (s.len≤s.len)=true:=decide_eq_true (Nat.le_refl _)
  show T56_1 E D W _ s v (Int.ofNat i) σ=_
  have key:∀R,T56_1 E D W R s v (Int.ofNat i) σ=some (.tup [u,.int .i64 (Int.ofNat 0),.int .i64 (Int.ofNat 0)],σ2):=by
   intro R
   unfold T56_1
   simp -implicitDefEqProofs only [↓rP,rA,Nat.reduceEqDiff,Nat.reduceLT,Nat.reduceLeDiff,↓h3,d1,↓e1',↓g,↓rtOne_of d.one]
  exact key _
 | @one r r1 w r2 kd ts hw htk hrest ih=>
  intro n i acc v σ hn ha h f hv hnm
  obtain⟨n,rfl⟩:∃j,n=j+1:=⟨n-1,by omega⟩
  obtain⟨k,h1,h2,h3⟩:=hW σ s i r h
  have hb:=h.dr h1
  rw[←h2,hw]at hb
  obtain⟨happ,hw0⟩:=htk.app
  have hlen:=hb.len
  have hr1:0<r1.length:=by rw[happ,List.length_append];omega
  have eat:s.len-r1.length=i+k:=by omega
  obtain⟨σ1,g1,f1⟩:=hO σ s (i+k) kd r1 w r2 f.tidy hb htk
  have f01:=f.trans f1 (fun _ _ h=>h)
  simp only[List.length_cons]at ha hn
  obtain⟨u,σ2,σ3,e2,g,d,nm,f3⟩:=push (kd,w,s.len-r1.length) acc v σ1 (by omega) f01 (hv.fr f1 f.tidy (fun _ _ h=>h)) hnm
  have hnx:=hb.dr (k:=w.length) (by rw[happ,List.length_append];omega)
  rw[happ,List.drop_left]at hnx
  obtain⟨u',σ',g',d',nm',f'⟩:=ih n (i+k+w.length) (acc++[(kd,w,s.len-r1.length)]) u σ3 (by omega) (by rw[List.length_append,List.length_cons,List.length_nil];omega) hnx f3 d nm
  rw[List.append_assoc]at d'
  refine⟨u',σ',?_,d',nm',f'⟩
  rw[eat]at e2
  have e2':newB σ1 (.cells [.int .i64 (Int.ofNat kd),.str (ofN w),.int .i64 (Int.ofNat (i+k))])=σ2:=e2
  have d1:decide (s.len≤i+k)=false:=decide_eq_false (by omega)
  show T56_1 E D W (L56_1 E D W N n) s v (Int.ofNat i) σ=_
  have key:∀R,T56_1 E D W R s v (Int.ofNat i) σ=R s u (Int.ofNat (i+k+w.length)) σ3:=by
   intro R
   unfold T56_1
   simp -implicitDefEqProofs only [↓rP,rA,Nat.reduceEqDiff,Nat.reduceLT,Nat.reduceLeDiff,↓h3,d1,↓g1,Nat.not_lt_zero,↓e2',↓g,↓rtOne_of d.one]
  rw[key,g']
theorem rtokens_F (hW:SpWht N (D 117)) (hO:SpOne (D 118)) (hN:10000<N):SpTks N (F56 E D W N):=by
 intro σ s ts ht hs hts
 have hl:=hts.len
 rw[BS.length_nats]at hl
 obtain⟨u,σ',g,d,nm,f⟩:=tks_L (E:=E) (W:=W) hW hO s hs σ s.nats ts hts N 0 [] .nils σ (by omega) (by simp only[List.length_nil];omega) ⟨Rst.start s,by omega⟩ (Fr.refl ht) (Dst.nil σ 3) (fun _ h=>h.elim)
 refine⟨u,σ',?_,d,nm,f⟩
 have d1:decide (8000<s.len)=false:=decide_eq_false (by omega)
 show T56_0 E D W (L56_1 E D W N N) s σ=_
 have key:∀K,T56_0 E D W K s σ=K s .nils (Int.ofNat 0) σ:=by
  intro K
  unfold T56_0
  simp -implicitDefEqProofs only [↓rP,rA,Nat.reduceEqDiff,Nat.reduceLT,Nat.reduceLeDiff,d1]
 rw[key];exact g
end
def tokC (t:Tok):List V:=[.int .i64 (Int.ofNat t.1),.str (ofN t.2.1),.int .i64 (Int.ofNat t.2.2)]
theorem tk_sub:∀(ts:List Tok) (i:Nat) (t:Tok),ts[i]? = some t→((tkCells ts).drop (i*3)).take 3=tokC t
 | [],i,t,h=>by simp at h
 | u::ts,0,t,h=>by simp at h;subst h;rfl
 | u::ts,i+1,t,h=>by
  have:ts[i]? = some t:=by simpa using h
  show ((tokC u++tkCells ts).drop ((i+1)*3)).take 3=_
  rw[show (i+1)*3=3+i*3 by omega,←List.drop_drop,show (tokC u++tkCells ts).drop 3=tkCells ts from rfl]
  exact tk_sub ts i t this
structure Rs where
 nm:BS
 tg:Int
 nv:V
 tv:V
 dv:V
def pc (lv:V) (a:Nat) (R:Rs):List V:=[lv,.int .i64 (Int.ofNat a),.str R.nm,.int .i64 R.tg,R.nv,R.tv,R.dv,.int .i64 (Int.ofNat 0),.int .i64 (Int.ofNat 0)]
structure TsOk (ts:List Tok):Prop where
 few:ts.length≤9000
 fin:∃p e,ts=p++[e]∧e.1=0
 nums:∀t∈ts,t.1=3→∃m ds r,t.2.1=numT m ds∧NumOk m ds r
structure Pz (σ:H) (xb:Nat) (lv:V) (ts l:List Tok) (R:Rs):Prop where
 ex:∃a,Atc σ xb (pc lv a R)∧ts.drop a=l
 src:Src σ 3 ts.length lv (tkCells ts)
 ne:l≠[]
 nx:∀b,Names lv b→b≠xb
 ok:TsOk ts
 ht:Tidy σ
section
variable {E:List (Nat × Blk)} {σ σ':H} {xb:Nat} {lv:V} {ts l:List Tok} {R:Rs} {t t2:Tok}
theorem Pz.fr {S:Nat→Prop} (h:Pz σ xb lv ts l R) (f:Fr S σ σ') (h1:¬S xb) (h2:∀b,Names lv b→¬S b):Pz σ' xb lv ts l R:=by
 obtain⟨a,ha,hl⟩:=h.ex
 exact⟨⟨a,f.at_ ha h.ht h1,hl⟩,h.src.fr f h.ht h2,h.ne,h.nx,h.ok,f.tidy⟩
theorem tk_at {a:Nat} (h:Src σ 3 ts.length lv (tkCells ts)) (hl:ts.drop a=t::l) (κ:List V→Ans):iaddrSK 3 lv (Int.ofNat a) (fun b o=>ldnK E σ b o 3 κ)=κ (tokC t):=by
 have hlt:a<ts.length:=by
  have:=congrArg List.length hl
  simp only[List.length_drop,List.length_cons]at this;omega
 have hg:ts[a]? = some t:=by
  have:=congrArg (fun x:List Tok=>x[0]?) hl
  simpa using this
 rcases h with ⟨h0,_,_⟩|⟨b,o,c,L,rfl,ha,hle,hm⟩
 ·omega
 ·rw[iaddrSK_lt hlt]
  show ldnK E σ b (o+a*3) 3 κ=_
  rw[ldnK_is ha,subK_of (by omega)]
  have:=tk_sub ts a t hg
  rw[hm,List.drop_take,List.take_take,Nat.min_eq_left (by omega),List.drop_drop]at this
  rw[this]
theorem Pz.lt (h:Pz σ xb lv ts l R):xb<σ.next:=by
 obtain⟨a,ha,_⟩:=h.ex
 exact ha.lt h.ht
theorem Pz.adv (h:Pz σ xb lv ts (t::t2::l) R) {a:Nat} (ha:Atc σ xb (pc lv a R)) (hl:ts.drop a=t::t2::l) :
  ∃σ',(∀κ:H→Ans,stK 1 xb 1 (.int .i64 (Int.ofNat (a+1))) σ κ=κ σ')∧Pz σ' xb lv ts (t2::l) R∧Fr (fun k=>k=xb) σ σ':=by
 obtain⟨σ',e,f,a'⟩:=mkS h.ht ha (pc lv (a+1) R)
 refine⟨σ',fun κ=>?_,⟨⟨a+1,a',?_⟩,h.src.fr f h.ht fun b hb e=>h.nx b hb e,by simp,h.nx,h.ok,f.tidy⟩,f⟩
 ·rw[stK_at ha rfl]
  show κ (setF σ xb (.cells (pc lv (a+1) R)))=_
  rw[e]
 ·rw[←List.drop_drop,hl];rfl
end
def isP (s:BS):List Tok→Bool × List Tok
 | t::t2::l=>match (decide (t.1=5) || decide (t.1=6))&&(ofN t.2.1).beq s with
  | true=>(true,t2::l)
  | false=>(false,t::t2::l)
 | l=>(false,l)
theorem isP_cons (s:BS) (t t2:Tok) (l:List Tok):isP s (t::t2::l)=match (decide (t.1=5) || decide (t.1=6))&&(ofN t.2.1).beq s with
 | true=>(true,t2::l)
 | false=>(false,t::t2::l):=rfl
def mustP (s:BS) (l:List Tok):Option (List Tok):=match isP s l with
 | (true,l')=>some l'
 | (false,_)=>none
def kindP (k:Nat):List Tok→Option (List Nat × List Tok)
 | t::t2::l=>match decide (t.1=k)with
  | true=>some (t.2.1,t2::l)
  | false=>none
 | _=>none
def numI (w:List Nat):Int:=match w with
 | []=>0
 | c::ds=>match decide (c=45)with
  | true=>-Int.ofNat (valD 0 ds)
  | false=>Int.ofNat (valD 0 (c::ds))
def numP (l:List Tok):Option (Int × List Tok):=(kindP 3 l).map fun p=>(numI p.1,p.2)
def SpNow (F:List V→H→Ans):Prop:=∀{σ:H} {xb:Nat} {lv:V} {ts:List Tok} {l:List Tok} {R:Rs} {t:Tok},Pz σ xb lv ts (t::l) R→F [.ptr xb 0] σ=some (.agg (tokC t),σ)
def SpNext (F:List V→H→Ans):Prop:=∀{σ:H} {xb:Nat} {lv:V} {ts:List Tok} {l:List Tok} {R:Rs} {t t2:Tok},Pz σ xb lv ts (t::t2::l) R→∃σ',F [.ptr xb 0] σ=some (.agg (tokC t),σ')∧Pz σ' xb lv ts (t2::l) R∧Fr (fun k=>k=xb) σ σ'
def SpIs (F:List V→H→Ans):Prop:=∀{σ:H} {xb:Nat} {lv:V} {ts:List Tok} {l:List Tok} {R:Rs} (s:BS),Pz σ xb lv ts l R→∃σ',F [.ptr xb 0,.str s] σ=some (.bool (isP s l).1,σ')∧Pz σ' xb lv ts (isP s l).2 R∧Fr (fun k=>k=xb) σ σ'
def SpMust (F:List V→H→Ans):Prop:=∀{σ:H} {xb:Nat} {lv:V} {ts:List Tok} {l l':List Tok} {R:Rs} {s:BS},Pz σ xb lv ts l R→mustP s l=some l'→∃σ',F [.ptr xb 0,.str s] σ=some (.tup [],σ')∧Pz σ' xb lv ts l' R∧Fr (fun k=>k=xb) σ σ'
def SpKind (F:List V→H→Ans):Prop:=∀{σ:H} {xb:Nat} {lv:V} {ts:List Tok} {l l':List Tok} {R:Rs} {k:Nat} {w:List Nat},Pz σ xb lv ts l R→kindP k l=some (w,l')→∃σ',F [.ptr xb 0,.int .i64 (Int.ofNat k)] σ=some (.str (ofN w),σ')∧Pz σ' xb lv ts l' R∧Fr (fun k=>k=xb) σ σ'
def SpWhole (F:List V→H→Ans):Prop:=∀(σ:H) (m:Bool) (ds r:List Nat),NumOk m ds r→F [.str (ofN (numT m ds))] σ=some (.int .i64 (numI (numT m ds)),σ)
def SpNumb (F:List V→H→Ans):Prop:=∀{σ:H} {xb:Nat} {lv:V} {ts:List Tok} {l l':List Tok} {R:Rs} {v:Int},Pz σ xb lv ts l R→numP l=some (v,l')→∃σ',F [.ptr xb 0] σ=some (.int .i64 v,σ')∧Pz σ' xb lv ts l' R∧Fr (fun k=>k=xb) σ σ'
section
variable {E:List (Nat × Blk)} {D:Den} {W:DrawFn} {N:Nat}
theorem now_F:SpNow (F60 E D W N):=by
 intro σ xb lv ts l R t h
 obtain⟨a,ha,hl⟩:=h.ex
 have rd:=fun κ=>tk_at (E:=E) h.src hl κ
 unfold tokC at rd ⊢
 unfold pc at ha
 show T60_0 E D W xb 0 σ=_
 unfold T60_0
 simp -implicitDefEqProofs only [↓rP,rA,Nat.reduceEqDiff,Nat.reduceLT,Nat.reduceLeDiff,↓ldK_is ha,↓rd]
theorem next_F:SpNext (F119 E D W N):=by
 intro σ xb lv ts l R t t2 h
 obtain⟨a,ha,hl⟩:=h.ex
 obtain⟨σ',g,p,f⟩:=h.adv ha hl
 refine⟨σ',?_,p,f⟩
 have rd:=fun κ=>tk_at (E:=E) h.src hl κ
 have hlen:a+2≤ts.length:=by
  have:=congrArg List.length hl
  simp only[List.length_drop,List.length_cons]at this;omega
 have hf:=h.ok.few
 have d1:decide (a+1<ts.length)=true:=decide_eq_true (by omega)
 have a1:addF .i64 (Int.ofNat a) (Int.ofNat 1)=Int.ofNat (a+1):=addF_nat (by omega)
 have sl:∀κ:Nat→Ans,slenK lv κ=κ ts.length:=fun κ=>h.src.slen
 unfold tokC at rd ⊢
 unfold pc at ha
 show T119_0 E D W (T119_1 E D W) xb 0 σ=_
 unfold T119_0 T119_1
 simp -implicitDefEqProofs only [↓rP,rA,Nat.reduceEqDiff,Nat.reduceLT,Nat.reduceLeDiff,↓ldK_is ha,↓rd,a1,↓sl,d1,↓g]
theorem is_F (hN:SpNow (D 60)) (hX:SpNext (D 119)):SpIs (F59 E D W N):=by
  intro σ xb lv ts l R s h
  obtain⟨a,ha,hl⟩:=h.ex
  obtain⟨t,l1,rfl⟩:∃t l1,l=t::l1:=by
    cases l with
    | nil=>exact absurd rfl h.ne
    | cons t l1=>exact⟨t,l1,rfl⟩
  have gn:=hN h
  unfold tokC at gn
  unfold pc at ha
  show ∃σ',T59_0 E D W xb 0 s σ=_∧_
  cases l1 with
  | nil=>
    have h0:t.1=0:=by
      obtain⟨p,e,rfl,he⟩:=h.ok.fin
      have hlen:=congrArg List.length hl
      simp only[List.length_drop,List.length_append,List.length_cons,List.length_nil]at hlen
      have:a=p.length:=by omega
      rw[this,List.drop_left]at hl
      cases hl;exact he
    refine⟨σ,?_,h,Fr.refl h.ht⟩
    unfold T59_0
    simp -implicitDefEqProofs only [↓rP,rA,Nat.reduceEqDiff,Nat.reduceLT,Nat.reduceLeDiff,↓gn,↓ldK_is ha,h0,Nat.reduceEqDiff]
    rfl
  | cons t2 l2=>
    obtain⟨σ',g,p,f⟩:=hX h
    unfold tokC at g
    rw[isP_cons]
    unfold T59_0
    cases h5:decide (t.1=5)<;>cases h6:decide (t.1=6)<;>cases hb:(ofN t.2.1).beq s
    all_goals first
      | (refine⟨σ,?_,h,Fr.refl h.ht⟩
         simp -implicitDefEqProofs only [↓rP,rA,Nat.reduceEqDiff,Nat.reduceLT,Nat.reduceLeDiff,↓gn,↓ldK_is ha,h5,h6,hb];done)
      | (refine⟨σ',?_,p,f⟩
         simp -implicitDefEqProofs only [↓rP,rA,Nat.reduceEqDiff,Nat.reduceLT,Nat.reduceLeDiff,↓gn,↓ldK_is ha,h5,h6,hb,↓g];done)
theorem must_F (hI:SpIs (D 59)):SpMust (F58 E D W N):=by
 intro σ xb lv ts l l' R s h hm
 obtain⟨a,ha,hl⟩:=h.ex
 obtain⟨σ',g,p,f⟩:=hI s h
 unfold mustP at hm
 cases hi:isP s l with
 | mk c l1=>
  rw[hi]at hm g p
  cases c with
  | false=>cases hm
  | true=>
   cases hm
   refine⟨σ',?_,p,f⟩
   unfold pc at ha
   show T58_0 E D W xb 0 s σ=_
   unfold T58_0
   simp -implicitDefEqProofs only [↓rP,rA,Nat.reduceEqDiff,Nat.reduceLT,Nat.reduceLeDiff,↓ldK_is ha,↓g]
theorem kind_F (hN:SpNow (D 60)) (hX:SpNext (D 119)):SpKind (F57 E D W N):=by
 intro σ xb lv ts l l' R k w h hk
 obtain⟨a,ha,hl⟩:=h.ex
 cases l with
 | nil=>exact absurd rfl h.ne
 | cons t l1=>
  cases l1 with
  | nil=>cases hk
  | cons t2 l2=>
   have gn:=hN h
   obtain⟨σ',g,p,f⟩:=hX h
   unfold tokC at gn g
   have hk:(match decide (t.1=k)with | true=>some (t.2.1,t2::l2) | false=>none:Option (List Nat × List Tok))=some (w,l'):=hk
   cases hd:decide (t.1=k)with
   | false=>rw[hd]at hk;cases hk
   | true=>
    rw[hd]at hk
    cases hk
    refine⟨σ',?_,p,f⟩
    unfold pc at ha
    show T57_0 E D W xb 0 (Int.ofNat k) σ=_
    unfold T57_0
    simp -implicitDefEqProofs only [↓rP,rA,Nat.reduceEqDiff,Nat.reduceLT,Nat.reduceLeDiff,↓gn,↓ldK_is ha,hd,↓g]
theorem numT_lt {m:Bool} {ds r:List Nat} (h:NumOk m ds r):∀c∈numT m ds,c<256:=by
 intro c hc
 unfold numT at hc
 have hd:∀c∈ds,c<256:=fun c hc=>by have:=digB_of (h.dig c hc);omega
 split at hc
 ·rcases List.mem_cons.1 hc with rfl|hc
  ·decide
  ·exact hd c hc
 ·exact hd c hc
theorem wh_L (σ:H) (m:Bool) (s:BS) (hs:s.len≤100):∀(ds:List Nat) (n i v:Nat),(∀d∈ds,digB d=true)→ds.length<n→At5 s i ds→valD v ds≤9223372036854775808 →
  L214_3 E D W N n s m (Int.ofNat v) (Int.ofNat i) σ=J214_2 E D W N m (Int.ofNat (valD v ds)) σ
 | [],n,i,v,hd,hn,h,hv=>by
  obtain⟨n,rfl⟩:∃j,n=j+1:=⟨n-1,by omega⟩
  have d1:decide (i<s.len)=false:=decide_eq_false (by have:=h.nil;omega)
  show T214_3 E D W (J214_2 E D W N) _ s m (Int.ofNat v) (Int.ofNat i) σ=_
  have key:∀K R,T214_3 E D W K R s m (Int.ofNat v) (Int.ofNat i) σ=K m (Int.ofNat v) σ:=by
   intro K R
   unfold T214_3
   simp -implicitDefEqProofs only [↓rP,rA,Nat.reduceEqDiff,Nat.reduceLT,Nat.reduceLeDiff,d1]
  exact key _ _
 | c::ds,n,i,v,hd,hn,h,hv=>by
  obtain⟨n,rfl⟩:∃j,n=j+1:=⟨n-1,by omega⟩
  have hc':=digB_of (hd c (List.mem_cons_self ..))
  have hle:=h.le
  have e:=h.ix
  have d1:decide (i<s.len)=true:=decide_eq_true h.lt
  have hv1:valD (10*v+(c-48)) ds≤9223372036854775808:=hv
  have hv2:=valD_ge ds (10*v+(c-48))
  have a1:addF .i64 (Int.ofNat i) (Int.ofNat 1)=Int.ofNat (i+1):=addF_nat (by omega)
  have a3:subF .u8 (Int.ofNat c) (Int.ofNat 48)=Int.ofNat (c-48):=by
   show wrapF .u8 (Int.ofNat c-Int.ofNat 48)=_
   rw[show Int.ofNat c-Int.ofNat 48=Int.ofNat (c-48)from(Int.ofNat_sub hc'.1).symm]
   exact wrapF_nat (show c-48≤255 by omega)
  have a4:wrapF .u64 (Int.ofNat (c-48))=Int.ofNat (c-48):=wrapF_nat (show c-48≤18446744073709551615 by omega)
  have a5:mulF .u64 (Int.ofNat 10) (Int.ofNat v)=Int.ofNat (10*v):=by
   show wrapF .u64 (Int.ofNat (10*v))=_
   exact wrapF_nat (show 10*v≤18446744073709551615 by omega)
  have a6:addF .u64 (Int.ofNat (10*v)) (Int.ofNat (c-48))=Int.ofNat (10*v+(c-48)):=by
   show wrapF .u64 (Int.ofNat (10*v+(c-48)))=_
   exact wrapF_nat (show 10*v+(c-48)≤18446744073709551615 by omega)
  have ih:=wh_L σ m s hs ds n (i+1) (10*v+(c-48)) (fun d h=>hd d (List.mem_cons_of_mem _ h)) (by simp at hn;omega) h.tl hv1
  show T214_3 E D W (J214_2 E D W N) (L214_3 E D W N n) s m (Int.ofNat v) (Int.ofNat i) σ=J214_2 E D W N m (Int.ofNat (valD (10*v+(c-48)) ds)) σ
  have key:∀K R,T214_3 E D W K R s m (Int.ofNat v) (Int.ofNat i) σ=R s m (Int.ofNat (10*v+(c-48))) (Int.ofNat (i+1)) σ:=by
   intro K R
   unfold T214_3
   simp -implicitDefEqProofs only [↓rP,rA,Nat.reduceEqDiff,Nat.reduceLT,Nat.reduceLeDiff,d1,↓e,a1,a3,a4,a5,a6]
  rw[key,ih]
theorem wrap64 {z:Int} (h1 : -9223372036854775808≤z) (h2:z≤9223372036854775807):wrapF .i64 z=z:=by
 unfold wrapF
 have:inK .i64 z=true:=by
  cases z with
  | ofNat m=>
   show Nat.ble m 9223372036854775807=true
   rw[Nat.ble_eq];have h2:(m:Int)≤9223372036854775807:=h2;omega
  | negSucc m=>
   show Nat.blt m 9223372036854775808=true
   rw[Nat.blt_eq];have h1 : -9223372036854775808≤Int.negSucc m:=h1;omega
 rw[this]
theorem neg_val {v:Nat} (h1:1≤v) (h:v≤9223372036854775808):subF .i64 (negF .i64 (wrapF .i64 (subF .u64 (Int.ofNat v) (Int.ofNat 1)))) (Int.ofNat 1) = -Int.ofNat v:=by
 have e1:subF .u64 (Int.ofNat v) (Int.ofNat 1)=Int.ofNat (v-1):=by
  show wrapF .u64 (Int.ofNat v-Int.ofNat 1)=_
  rw[show Int.ofNat v-Int.ofNat 1=Int.ofNat (v-1)from(Int.ofNat_sub h1).symm]
  exact wrapF_nat (show v-1≤18446744073709551615 by omega)
 have e2:wrapF .i64 (Int.ofNat (v-1))=Int.ofNat (v-1):=wrapF_nat (show v-1≤9223372036854775807 by omega)
 rw[e1,e2]
 have e3:negF .i64 (Int.ofNat (v-1)) = -Int.ofNat (v-1):=by
  show wrapF .i64 (Int.sub 0 (Int.ofNat (v-1)))=_
  rw[show Int.sub 0 (Int.ofNat (v-1)) = -Int.ofNat (v-1)from Int.zero_sub _]
  exact wrap64 (z:=-((v-1:Nat):Int)) (by omega) (by omega)
 rw[e3]
 show wrapF .i64 (-Int.ofNat (v-1)-Int.ofNat 1)=_
 have e4 : -Int.ofNat (v-1)-Int.ofNat 1 = -(v:Int):=by
  show -((v-1:Nat):Int)-1=_
  omega
 rw[e4]
 exact wrap64 (by omega) (by omega)
end
structure ConS where
 has:Bool
 hasLow:Bool
 hasHigh:Bool
 more:Bool
 low:Int
 high:Int
def ConS.c (x:ConS):List V:=[.bool x.has,.bool x.hasLow,.bool x.hasHigh,.bool x.more,.int .i64 x.low,.int .i64 x.high]
def conZ:ConS:=⟨false,false,false,false,0,0⟩
def lowP (l:List Tok):Option (Bool × Int × List Tok):=match isP (BS.mk 3 5130573) l with
 | (true,l1)=>some (false,0,l1)
 | (false,l1)=>(numP l1).map fun p=>(true,p.1,p.2)
def highP (hl:Bool) (lo:Int) (l:List Tok):Option (Bool × Int × List Tok):=match isP (BS.mk 2 11822) l with
 | (true,l1)=>match isP (BS.mk 3 5783885) l1 with
  | (true,l2)=>some (false,0,l2)
  | (false,l2)=>(numP l2).map fun p=>(true,p.1,p.2)
 | (false,l1)=>some (if hl=true then(true,lo,l1)else(false,0,l1))
def dotsP (l:List Tok):Option (Bool × List Tok):=match isP (BS.mk 1 44) l with
 | (true,l1)=>(mustP (BS.mk 3 3026478) l1).map fun l2=>(true,l2)
 | (false,l1)=>some (false,l1)
def boundsP (l:List Tok):Option (ConS × List Tok):=(lowP l).bind fun a=>(highP a.1 a.2.1 a.2.2).bind fun b=>(dotsP b.2.2).map fun c=>(⟨true,a.1,b.1,c.1,a.2.1,b.2.1⟩,c.2)
def typeV:List BS:=[BS.mk 1 91,BS.mk 7 22026814072246082,BS.mk 4 1280070990,BS.mk 10 488440487847103610377301,BS.mk 7 23157120498421321,BS.mk 5 361940403023,BS.mk 10 322399817400452109389381,BS.mk 3 5522771,BS.mk 6 76155295057987,BS.mk 8 4990918871747741011]
def begB (t:Tok):Bool:=(typeV.any fun x=>x.beq (ofN t.2.1)&&(decide (t.1=5) || decide (t.1=6))) || decide (t.1=1)
def SpBounds (F:List V→H→Ans):Prop:=∀{σ:H} {xb:Nat} {lv:V} {ts:List Tok} {l l':List Tok} {R:Rs} {c:ConS},Pz σ xb lv ts l R→boundsP l=some (c,l')→∃σ',F [.ptr xb 0] σ=some (.agg c.c,σ')∧Pz σ' xb lv ts l' R∧Fr (fun k=>k=xb) σ σ'
def SpBeg (F:List V→H→Ans):Prop:=∀(σ:H) (t:Tok),Tidy σ→∃σ',F [.agg (tokC t)] σ=some (.bool (begB t),σ')∧Fr Nowhere σ σ'
section
variable {E:List (Nat × Blk)} {D:Den} {W:DrawFn} {N:Nat}
theorem whole_F (hN:200<N):SpWhole (F214 E D W N):=by
 intro σ m ds r h
 have hlt:=numT_lt h
 have hd:∀c∈ds,c<256:=fun c hc=>by have:=digB_of (h.dig c hc);omega
 have h1:=h.n1
 have h19:=h.n19
 have at0:∀w:List Nat,(∀c∈w,c<256)→w.length≤100→At5 (ofN w) 0 w:=fun w hw hl=>⟨by have:=Rst.start (ofN w);rwa [ofN_nats hw]at this,by rw[ofN_len];omega⟩
 have run:J214_1 E D W N (ofN ds) m σ=J214_2 E D W N m (Int.ofNat (valD 0 ds)) σ:=wh_L σ m (ofN ds) (by rw[ofN_len];omega) ds N 0 0 h.dig (by omega) (at0 ds hd (by omega)) h.v
 cases m with
 | false=>
  obtain⟨c,l,rfl⟩:∃c l,ds=c::l:=by
   cases ds with
   | nil=>simp at h1
   | cons c l=>exact⟨c,l,rfl⟩
  have hc:=digB_of (h.dig c (List.mem_cons_self ..))
  have d0:decide (c=45)=false:=decide_eq_false (by omega)
  have e:=(at0 (c::l) hd (by omega)).ix
  have hv:numI (numT false (c::l))=Int.ofNat (valD 0 (c::l)):=by
   show (match decide (c=45)with | true=>_ | false=>_:Int)=_
   rw[d0]
  rw[hv]
  show T214_0 E D W (J214_1 E D W N) (ofN (c::l)) σ=_
  have key:∀K,T214_0 E D W K (ofN (c::l)) σ=K (ofN (c::l)) false σ:=by
   intro K
   unfold T214_0
   simp -implicitDefEqProofs only [↓rP,rA,Nat.reduceEqDiff,Nat.reduceLT,Nat.reduceLeDiff,↓e,d0]
  rw[key,run]
  show T214_2 E D W false (Int.ofNat (valD 0 (c::l))) σ=_
  have ew:wrapF .i64 (Int.ofNat (valD 0 (c::l)))=Int.ofNat (valD 0 (c::l)):=wrapF_nat (show valD 0 (c::l)≤9223372036854775807 by have:=h.vp rfl;omega)
  unfold T214_2
  simp -implicitDefEqProofs only [↓rP,rS,ew]
 | true=>
  have hw:∀c∈45::ds,c<256:=hlt
  have e:=(at0 (45::ds) hw (by simp only[List.length_cons];omega)).ix
  have sp:∀κ,sliceStrX (ofN (45::ds)) (some (.int .i64 (Int.ofNat 1))) none κ=κ (ofN ds):=fun κ=>by
   rw[sliceStrX_from (by rw[ofN_len,List.length_cons];omega),((at0 (45::ds) hw (by simp only[List.length_cons];omega)).tl).r.subAll]
  show T214_0 E D W (J214_1 E D W N) (ofN (45::ds)) σ=some (.int .i64 (-Int.ofNat (valD 0 ds)),σ)
  have key:∀K,T214_0 E D W K (ofN (45::ds)) σ=K (ofN ds) true σ:=by
   intro K
   unfold T214_0
   simp -implicitDefEqProofs only [↓rP,rA,Nat.reduceEqDiff,Nat.reduceLT,Nat.reduceLeDiff,↓e,↓sp]
  rw[key,run]
  have hv1:1≤valD 0 ds:=by
   obtain⟨c,l,rfl⟩:∃c l,ds=c::l:=by
    cases ds with
    | nil=>simp at h1
    | cons c l=>exact⟨c,l,rfl⟩
   have hc:=digB_of (h.dig c (List.mem_cons_self ..))
   have h48:c≠48:=h.mi rfl
   have:=valD_ge l (10*0+(c-48))
   show 1≤valD (10*0+(c-48)) l
   omega
  have ev:=neg_val hv1 h.v
  show T214_2 E D W true (Int.ofNat (valD 0 ds)) σ=_
  unfold T214_2
  simp -implicitDefEqProofs only [↓rP,rS,ev]
theorem numb_F (hK:SpKind (D 57)) (hW:SpWhole (D 214)):SpNumb (F121 E D W N):=by
 intro σ xb lv ts l l' R v h hv
 obtain⟨a,ha,hl⟩:=h.ex
 unfold numP at hv
 cases hk:kindP 3 l with
 | none=>rw[hk]at hv;cases hv
 | some p=>
  obtain⟨w,l1⟩:=p
  rw[hk]at hv
  cases hv
  obtain⟨σ',g,p,f⟩:=hK h hk
  obtain⟨m,ds,r,hw,hn⟩:∃m ds r,w=numT m ds∧NumOk m ds r:=by
   cases l with
   | nil=>cases hk
   | cons t l2=>
    cases l2 with
    | nil=>cases hk
    | cons t2 l3=>
     have hk:(match decide (t.1=3)with | true=>some (t.2.1,t2::l3) | false=>none:Option (List Nat × List Tok))=some (w,l1):=hk
     cases hd:decide (t.1=3)with
     | false=>rw[hd]at hk;cases hk
     | true=>
      rw[hd]at hk
      cases hk
      exact h.ok.nums t (List.mem_of_mem_drop (hl ▸ List.mem_cons_self ..)) (of_decide_eq_true hd)
  subst hw
  have gw:=hW σ' m ds r hn
  have hne:(ofN (numT m ds)).beq (BS.mk 0 0)=false:=by
   rw[BS.beq_nats,ofN_nats (numT_lt hn)]
   refine decide_eq_false fun e=>?_
   have:=congrArg List.length e
   have h1:=hn.n1
   have h0:(BS.mk 0 0).nats.length=0:=rfl
   rw[h0]at this
   unfold numT at this
   split at this<;>(try simp only[List.length_cons]at this)<;>omega
  refine⟨σ',?_,p,f⟩
  show T121_0 E D W (.ptr xb 0) σ=_
  unfold T121_0
  simp -implicitDefEqProofs only [↓rP,rS,↓g,hne,↓gw]
theorem bounds_F (hI:SpIs (D 59)) (hM:SpMust (D 58)) (hN:SpNumb (D 121)):SpBounds (F216 E D W N):=by
 intro σ xb lv ts l l' R c h hb
 unfold boundsP at hb
 obtain⟨⟨hl,lo,l2⟩,ha,hb⟩:=Option.bind_eq_some_iff.1 hb
 obtain⟨⟨hh,hi,l4⟩,hb',hb⟩:=Option.bind_eq_some_iff.1 hb
 obtain⟨⟨mo,l6⟩,hc,hb⟩:=Option.map_eq_some_iff.1 hb
 cases hb
 obtain⟨σ2,p2,f2,k2⟩:∃σ2,Pz σ2 xb lv ts l2 R∧Fr (fun k=>k=xb) σ σ2∧∀K,T216_0 E D W K (.ptr xb 0) σ=K (.ptr xb 0) false false false false (Int.ofNat 0) (Int.ofNat 0) true hl false false lo (Int.ofNat 0) σ2:=by
  obtain⟨σ1,g1,p1,f1⟩:=hI (BS.mk 3 5130573) h
  have ha:lowP l=some (hl,lo,l2):=ha
  unfold lowP at ha
  cases hi:isP (BS.mk 3 5130573) l with
  | mk b l1=>
   rw[hi]at ha g1 p1
   cases b with
   | true=>
    cases ha
    refine⟨σ1,p1,f1,fun K=>?_⟩
    unfold T216_0
    simp -implicitDefEqProofs only [↓rP,rS,↓g1]
    rfl
   | false=>
    obtain⟨⟨v,l3⟩,hn,he⟩:=Option.map_eq_some_iff.1 ha
    cases he
    obtain⟨σ2,g2,p2,f2⟩:=hN p1 hn
    refine⟨σ2,p2,f1.trans f2 (fun _ _ h=>h),fun K=>?_⟩
    unfold T216_0
    simp -implicitDefEqProofs only [↓rP,rS,↓g1,↓g2]
 obtain⟨σ4,p4,f4,k4⟩:∃σ4,Pz σ4 xb lv ts l4 R∧Fr (fun k=>k=xb) σ2 σ4∧∀K,T216_1 E D W K (.ptr xb 0) false false false false (Int.ofNat 0) (Int.ofNat 0) true hl false false lo (Int.ofNat 0) σ2=K (.ptr xb 0) false false false false (Int.ofNat 0) (Int.ofNat 0) true hl hh false lo hi σ4:=by
  obtain⟨σ1,g1,p1,f1⟩:=hI (BS.mk 2 11822) p2
  have hb':highP hl lo l2=some (hh,hi,l4):=hb'
  unfold highP at hb'
  cases hq:isP (BS.mk 2 11822) l2 with
  | mk b l1=>
   rw[hq]at hb' g1 p1
   cases b with
   | false=>
    have hb':some (if hl=true then(true,lo,l1)else(false,0,l1))=some (hh,hi,l4):=hb'
    refine⟨σ1,?_,f1,fun K=>?_⟩
    ·cases hl<;>cases hb'<;>exact p1
    ·unfold T216_1
     cases hl<;>cases hb'<;>simp -implicitDefEqProofs only [↓rP,rS,↓g1]<;>rfl
   | true=>
    obtain⟨σ3,g3,p3,f3⟩:=hI (BS.mk 3 5783885) p1
    cases hq3:isP (BS.mk 3 5783885) l1 with
    | mk b3 l3=>
     have hb':(match isP (BS.mk 3 5783885) l1 with | (true,l2)=>some (false,0,l2) | (false,l2)=>(numP l2).map fun p=>(true,p.1,p.2):Option (Bool × Int × List Tok))=some (hh,hi,l4):=hb'
     rw[hq3]at hb' g3 p3
     cases b3 with
     | true=>
      cases hb'
      refine⟨σ3,p3,f1.trans f3 (fun _ _ h=>h),fun K=>?_⟩
      unfold T216_1
      simp -implicitDefEqProofs only [↓rP,rS,↓g1,↓g3]
      rfl
     | false=>
      obtain⟨⟨v,l5⟩,hn,he⟩:=Option.map_eq_some_iff.1 hb'
      cases he
      obtain⟨σ5,g5,p5,f5⟩:=hN p3 hn
      refine⟨σ5,p5,(f1.trans f3 (fun _ _ h=>h)).trans f5 (fun _ _ h=>h),fun K=>?_⟩
      unfold T216_1
      simp -implicitDefEqProofs only [↓rP,rS,↓g1,↓g3,↓g5]
 obtain⟨σ6,p6,f6,k6⟩:∃σ6,Pz σ6 xb lv ts l6 R∧Fr (fun k=>k=xb) σ4 σ6∧∀K,T216_2 E D W K (.ptr xb 0) false false false false (Int.ofNat 0) (Int.ofNat 0) true hl hh false lo hi σ4=K false false false false (Int.ofNat 0) (Int.ofNat 0) true hl hh mo lo hi σ6:=by
  obtain⟨σ1,g1,p1,f1⟩:=hI (BS.mk 1 44) p4
  have hc:dotsP l4=some (mo,l6):=hc
  unfold dotsP at hc
  cases hq:isP (BS.mk 1 44) l4 with
  | mk b l1=>
   rw[hq]at hc g1 p1
   cases b with
   | false=>
    cases hc
    refine⟨σ1,p1,f1,fun K=>?_⟩
    unfold T216_2
    simp -implicitDefEqProofs only [↓rP,rS,↓g1]
   | true=>
    obtain⟨l3,hn,he⟩:=Option.map_eq_some_iff.1 hc
    cases he
    obtain⟨σ3,g3,p3,f3⟩:=hM p1 hn
    refine⟨σ3,p3,f1.trans f3 (fun _ _ h=>h),fun K=>?_⟩
    unfold T216_2
    simp -implicitDefEqProofs only [↓rP,rS,↓g1,↓g3]
 refine⟨σ6,?_,p6,(f2.trans f4 (fun _ _ h=>h)).trans f6 (fun _ _ h=>h)⟩
 show T216_0 E D W (T216_1 E D W (T216_2 E D W (T216_3 E D W))) (.ptr xb 0) σ=_
 rw[k2,k4,k6]
 rfl
theorem beg_F (hN:100<N):SpBeg (F120 E D W N):=by
 intro σ t ht
 obtain⟨σ1,e1,f1,a1,n1⟩:=mkN ht (tokC t)
 obtain⟨σ2,e2,f2,a2,n2⟩:=mkN f1.tidy (typeV.map .str)
 have b1:=f2.at_ a1 f1.tidy (fun h=>h)
 refine⟨σ2,?_,f1.trans f2 (fun _ _ h=>h)⟩
 have run:∀(m j n:Nat),j+m=10→m<n→L120_2 E D W N n σ.next 0 (.sl σ1.next 0 10 (.ex 10)) (Int.ofNat j) σ2=some (.bool (((typeV.drop j).any fun x=>x.beq (ofN t.2.1)&&(decide (t.1=5) || decide (t.1=6))) || decide (t.1=1)),σ2):=by
  intro m
  induction m with
  | zero=>
   intro j n hj hn
   obtain⟨n,rfl⟩:∃k,n=k+1:=⟨n-1,by omega⟩
   obtain rfl:j=10:=by omega
   show T120_2 E D W (T120_1 E D W) _ σ.next 0 (.sl σ1.next 0 10 (.ex 10)) (Int.ofNat 10) σ2=_
   unfold tokC at b1
   have key:∀R,T120_2 E D W (T120_1 E D W) R σ.next 0 (.sl σ1.next 0 10 (.ex 10)) (Int.ofNat 10) σ2=some (.bool (decide (t.1=1)),σ2):=by
    intro R
    unfold T120_2 T120_1
    simp -implicitDefEqProofs only [↓rP,rA,Nat.reduceEqDiff,Nat.reduceLT,Nat.reduceLeDiff,Nat.lt_irrefl,↓ldK_is b1]
   rw[key];rfl
  | succ m ih=>
   intro j n hj hn
   obtain⟨n,rfl⟩:∃k,n=k+1:=⟨n-1,by omega⟩
   have hl:j<typeV.length:=by show j<10;omega
   rw[List.drop_eq_getElem_cons hl,List.any_cons]
   have d1:decide (j<10)=true:=decide_eq_true (by omega)
   have rd:∀κ,iaddrSK 1 (.sl σ1.next 0 10 (.ex 10)) (Int.ofNat j) (fun b o=>ldK E σ2 b o κ)=κ (.str typeV[j]):=fun κ=>by
    rw[iaddrSK_lt (show j<10 by omega)]
    refine ldK_get a2 ?_
    show (typeV.map V.str)[0+j*1]? = _
    rw[Nat.zero_add,Nat.mul_one,List.getElem?_map,List.getElem?_eq_getElem hl];rfl
   have ih':=ih (j+1) n (by omega) (by omega)
   show T120_2 E D W (T120_1 E D W) (L120_2 E D W N n) σ.next 0 (.sl σ1.next 0 10 (.ex 10)) (Int.ofNat j) σ2=_
   generalize typeV[j]=u at rd ⊢
   unfold tokC at b1
   have key:∀K R,T120_2 E D W K R σ.next 0 (.sl σ1.next 0 10 (.ex 10)) (Int.ofNat j) σ2=condK (u.beq (ofN t.2.1)&&(decide (t.1=5) || decide (t.1=6))) (some (.bool true,σ2)) (R σ.next 0 (.sl σ1.next 0 10 (.ex 10)) (Int.ofNat (j+1)) σ2):=by
    intro K R
    unfold T120_2
    cases h1:u.beq (ofN t.2.1)<;>cases h5:decide (t.1=5)<;>cases h6:decide (t.1=6)<;>simp -implicitDefEqProofs only [↓rP,rA,Nat.reduceEqDiff,Nat.reduceLT,Nat.reduceLeDiff,d1,↓rd,↓ldK_is b1,h1,h5,h6,addF_nat (show j+1≤9223372036854775807 by omega)]<;>rfl
   rw[key,ih']
   cases u.beq (ofN t.2.1)&&(decide (t.1=5) || decide (t.1=6))<;>rfl
 have g:=run 10 0 N rfl (by omega)
 unfold typeV at e2
 simp only[List.map_cons,List.map_nil]at e2
 unfold tokC at e1 ⊢
 show T120_0 E D W (L120_2 E D W N N) (Int.ofNat t.1) (ofN t.2.1) (Int.ofNat t.2.2) σ=_
 have key:∀K,T120_0 E D W K (Int.ofNat t.1) (ofN t.2.1) (Int.ofNat t.2.2) σ=K σ.next 0 (.sl σ1.next 0 10 (.ex 10)) (Int.ofNat 0) σ2:=by
  intro K
  unfold T120_0
  simp -implicitDefEqProofs only [↓rP,rS,↓e1,↓e2]
 rw[key,g];rfl
end
section
variable {E:List (Nat × Blk)} {D:Den} {N:Nat}
end
structure ItemS where
 name:List Nat
 num:Int
 has:Bool
def ItemS.c (x:ItemS):List V:=[.str (ofN x.name),.int .i64 x.num,.bool x.has]
structure FieldS where
 name:List Nat
 type:Nat
 opt:Bool
 group:Nat
def FieldS.c (x:FieldS):List V:=[.str (ofN x.name),.int .i64 (Int.ofNat x.type),.bool x.opt,.bool false,.int .i64 (Int.ofNat 0),.int .i64 (Int.ofNat 0),.nils,.nils,.int .i64 (Int.ofNat 0),.nils,.int .i64 (Int.ofNat x.group)]
structure NodeS where
 kind:Nat
 name:List Nat
 mHas:Bool
 mNum:Int
 mMode:Nat
 con:ConS
 items:List ItemS
 fields:List FieldS
 root:Nat
 more:Bool
 of_:Nat
def itC (l:List ItemS):List V:=l.flatMap ItemS.c
def fdC (l:List FieldS):List V:=l.flatMap FieldS.c
def NodeS.c (x:NodeS) (iv fv:V):List V:=[.int .i64 (Int.ofNat x.kind),.str (ofN x.name),.bool x.mHas,.int .i64 x.mNum,.int .i64 (Int.ofNat x.mMode),.bool x.con.has,.bool x.con.hasLow,.bool x.con.hasHigh,.bool x.con.more,.int .i64 x.con.low,.int .i64 x.con.high,iv,fv,.int .i64 (Int.ofNat x.root),.bool x.more,.int .i64 (Int.ofNat x.of_)]
structure Nq (σ:H) (nb:Nat) (nd:NodeS) (iv fv:V):Prop where
 a:Atc σ nb (nd.c iv fv)
 i:Dst σ 3 nd.items.length iv (itC nd.items)
 f:Dst σ 11 nd.fields.length fv (fdC nd.fields)
 ni:¬Names iv nb
 nf:¬Names fv nb
 d:∀b,Names iv b→¬Names fv b
structure Ap (xb:Nat) (lv:V) (nb:Nat) (iv fv:V):Prop where
 x:nb≠xb
 l:¬Names lv nb
 i:∀b,Names iv b→b≠xb∧¬Names lv b
 f:∀b,Names fv b→b≠xb∧¬Names lv b
theorem stz {σ:H} {b off:Nat} {y:V} {l:List V} (ht:Tidy σ) (a:Atc σ b l) (hy:y.one=true) (ho:off<l.length):∃σ',(∀κ:H→Ans,stK 1 b off y σ κ=κ σ')∧Fr (fun k=>k=b) σ σ'∧Atc σ' b (spl l off [y]):=by
 obtain⟨σ',e,f,a'⟩:=mkS ht a (spl l off [y])
 obtain⟨_,o2⟩:=one_live hy
 refine⟨σ',fun κ=>?_,f,a'⟩
 rw[stK_at a (by rw[o2];simp only[List.length_cons,List.length_nil,allOne_cons,allOne_nil,hy,Bool.and_true,Nat.zero_add,Nat.beq_refl,Bool.true_and,Nat.ble_eq,Nat.add_eq];omega),o2,e]
section
variable {σ σ':H} {nb:Nat} {nd:NodeS} {iv fv:V} {xb:Nat} {lv:V}
theorem Nq.fr {S:Nat→Prop} (h:Nq σ nb nd iv fv) (f:Fr S σ σ') (ht:Tidy σ) (h1:¬S nb) (h2:∀b,Names iv b→¬S b) (h3:∀b,Names fv b→¬S b):Nq σ' nb nd iv fv:=
 ⟨f.at_ h.a ht h1,h.i.fr f ht h2,h.f.fr f ht h3,h.ni,h.nf,h.d⟩
theorem Nq.frx (h:Nq σ nb nd iv fv) (f:Fr (fun k=>k=xb) σ σ') (ht:Tidy σ) (ap:Ap xb lv nb iv fv):Nq σ' nb nd iv fv:=
 h.fr f ht ap.x (fun b hb=>(ap.i b hb).1) (fun b hb=>(ap.f b hb).1)
theorem Nq.set (h:Nq σ nb nd iv fv) (ht:Tidy σ) {off:Nat} {y:V} (nd':NodeS) (hy:y.one=true) (ho:off<16) (hc:spl (nd.c iv fv) off [y]=nd'.c iv fv) (h1:nd'.items=nd.items) (h2:nd'.fields=nd.fields) :
  ∃σ',(∀κ:H→Ans,stK 1 nb off y σ κ=κ σ')∧Fr (fun k=>k=nb) σ σ'∧Nq σ' nb nd' iv fv:=by
 obtain⟨σ',g,f,a⟩:=stz ht h.a hy ho
 rw[hc]at a
 exact⟨σ',g,f,a,by rw[h1];exact h.i.fr f ht (fun b hb e=>h.ni (e ▸ hb)),by rw[h2];exact h.f.fr f ht (fun b hb e=>h.nf (e ▸ hb)),h.ni,h.nf,h.d⟩
end
section
variable {E:List (Nat × Blk)} {D:Den} {N:Nat}
end
def nodeZ:NodeS:=⟨0,[],false,0,0,conZ,[],[],0,false,0⟩
def ndCs:List NodeS→List (V × V)→List V
 | nd::ns,u::ws=>nd.c u.1 u.2++ndCs ns ws
 | _,_=>[]
theorem ndC_len (nd:NodeS) (iv fv:V):(nd.c iv fv).length=16:=rfl
theorem ndCs_app:∀(ns:List NodeS) (ws:List (V × V)) (nd:NodeS) (u:V × V),ws.length=ns.length→ndCs (ns++[nd]) (ws++[u])=ndCs ns ws++nd.c u.1 u.2
 | [],[],nd,u,_=>by simp[ndCs]
 | x::ns,y::ws,nd,u,h=>by
  have ih:=ndCs_app ns ws nd u (by simpa using h)
  show x.c y.1 y.2++ndCs (ns++[nd]) (ws++[u])=(x.c y.1 y.2++ndCs ns ws)++_
  rw[ih,List.append_assoc]
 | [],_::_,_,_,h=>by simp at h
 | _::_,[],_,_,h=>by simp at h
theorem ndCs_len:∀(ns:List NodeS) (ws:List (V × V)),ws.length=ns.length→(ndCs ns ws).length=ns.length*16
 | [],[],_=>rfl
 | x::ns,y::ws,h=>by
  have ih:=ndCs_len ns ws (by simpa using h)
  show (x.c y.1 y.2++ndCs ns ws).length=_
  rw[List.length_append,ih,ndC_len,List.length_cons];omega
 | [],_::_,h=>by simp at h
 | _::_,[],h=>by simp at h
theorem spl_app16:∀(a b:List V) (n:Nat) (cs:List V),spl (a++b) (a.length+n) cs=a++spl b n cs
 | [],b,n,cs=>by simp
 | x::a,b,n,cs=>by
  rw[List.length_cons,show a.length+1+n=(a.length+n)+1 by omega]
  show spl (x::(a++b)) (a.length+n+1) cs=x::(a++spl b n cs)
  rw[←spl_app16 a b n cs]
  cases cs with
  | nil=>simp[spl]
  | cons c cs=>rfl
theorem spl_here:∀(a b cs:List V),cs.length=a.length→spl (a++b) 0 cs=cs++b
 | [],b,[],_=>by cases b<;>rfl
 | x::a,b,c::cs,h=>by
  show c::spl (a++b) 0 cs=_
  rw[spl_here a b cs (by simpa using h)];rfl
 | [],_,_::_,h=>by simp at h
 | _::_,_,[],h=>by simp at h
theorem ndCs_set:∀(ns:List NodeS) (ws:List (V × V)) (i:Nat) (nd:NodeS) (u:V × V),ws.length=ns.length→i<ns.length→spl (ndCs ns ws) (i*16) (nd.c u.1 u.2)=ndCs (ns.set i nd) (ws.set i u)
 | x::ns,y::ws,0,nd,u,_,_=>by
  show spl (x.c y.1 y.2++ndCs ns ws) 0 _=nd.c u.1 u.2++ndCs ns ws
  exact spl_here _ _ _ rfl
 | x::ns,y::ws,i+1,nd,u,h,hi=>by
  have ih:=ndCs_set ns ws i nd u (by simpa using h) (by simpa using hi)
  show spl (x.c y.1 y.2++ndCs ns ws) ((i+1)*16) _=x.c y.1 y.2++ndCs (ns.set i nd) (ws.set i u)
  rw[←ih,show (i+1)*16=(x.c y.1 y.2).length+i*16 by rw[ndC_len];omega,spl_app16]
 | [],_,_,_,_,_,h=>by simp at h
 | _::_,[],_,_,_,h,_=>by simp at h
def PB (xb:Nat) (dv:V):Nat→Prop:=fun b=>b=xb∨Names dv b
def NdL (σ:H) (xb:Nat) (dv:V) (Q:Nat→Prop) (nd:NodeS) (u:V × V):Prop:=Src σ 3 nd.items.length u.1 (itC nd.items)∧Src σ 11 nd.fields.length u.2 (fdC nd.fields)∧∀b,Names u.1 b∨Names u.2 b→b≠xb∧¬Names dv b∧¬Q b
structure Pn (σ:H) (xb:Nat) (lv:V) (ts l:List Tok) (R:Rs) (ns:List NodeS) (Q:Nat→Prop):Prop where
 p:Pz σ xb lv ts l R
 w:∃ws:List (V × V),Dst σ 16 ns.length R.dv (ndCs ns ws)∧ws.length=ns.length∧∀(k:Nat) (nd:NodeS) (u:V × V),ns[k]? = some nd→ws[k]? = some u→NdL σ xb R.dv Q nd u
 dx:∀b,Names R.dv b→b≠xb∧¬Names lv b
structure Aq (xb:Nat) (lv dv:V) (nb:Nat) (iv fv:V):Prop where
 a:Ap xb lv nb iv fv
 d:¬Names dv nb
 i:∀b,Names iv b→¬Names dv b
 f:∀b,Names fv b→¬Names dv b
section
variable {σ σ':H} {nb:Nat} {nd:NodeS} {iv fv:V} {xb:Nat} {lv dv dv':V} {ts l l':List Tok} {R:Rs} {ns:List NodeS} {Q Q':Nat→Prop}
theorem NdL.lt {u:V × V} (h:NdL σ xb dv Q nd u) (ht:Tidy σ) {b:Nat} (hb:Names u.1 b∨Names u.2 b):b<σ.next:=hb.elim (h.1.lt ht) (h.2.1.lt ht)
theorem Pn.go (h:Pn σ xb lv ts l R ns Q) (p:Pz σ' xb lv ts l' R) (f:Fr (fun k=>k=xb) σ σ'):Pn σ' xb lv ts l' R ns Q:=by
 obtain⟨ws,h1,h2,h3⟩:=h.w
 refine⟨p,⟨ws,h1.fr f h.p.ht fun b hb e=>(h.dx b hb).1 e,h2,fun k nd u hn hu=>?_⟩,h.dx⟩
 obtain⟨a,b,c⟩:=h3 k nd u hn hu
 exact⟨a.fr f h.p.ht fun b hb e=>(c b (.inl hb)).1 e,b.fr f h.p.ht fun b hb e=>(c b (.inr hb)).1 e,c⟩
theorem Pn.fr {S:Nat→Prop} (h:Pn σ xb lv ts l R ns Q) (f:Fr S σ σ') (h1:¬S xb) (h2:∀b,Names lv b→¬S b) (h3:∀b,Names R.dv b→¬S b) (h4:∀b,b<σ.next→S b→Q b):Pn σ' xb lv ts l R ns Q:=by
 obtain⟨ws,k1,k2,k3⟩:=h.w
 refine⟨h.p.fr f h1 h2,⟨ws,k1.fr f h.p.ht h3,k2,fun k nd u hn hu=>?_⟩,h.dx⟩
 have hN:=k3 k nd u hn hu
 obtain⟨a,b,c⟩:=hN
 exact⟨a.fr f h.p.ht fun x hb e=>(c x (.inl hb)).2.2 (h4 x (a.lt h.p.ht hb) e),b.fr f h.p.ht fun x hb e=>(c x (.inr hb)).2.2 (h4 x (b.lt h.p.ht hb) e),c⟩
theorem Pn.mv {S:Nat→Prop} (h:Pn σ xb lv ts l R ns Q) (p:Pz σ' xb lv ts l' R) (f:Fr S σ σ') (h3:∀b,Names R.dv b→¬S b) (h4:∀b,b<σ.next→S b→b=xb∨Q b):Pn σ' xb lv ts l' R ns Q:=by
 obtain⟨ws,k1,k2,k3⟩:=h.w
 refine⟨p,⟨ws,k1.fr f h.p.ht h3,k2,fun k nd u hn hu=>?_⟩,h.dx⟩
 have hN:=k3 k nd u hn hu
 obtain⟨a,b,c⟩:=hN
 exact⟨a.fr f h.p.ht fun x hb e=>(h4 x (a.lt h.p.ht hb) e).elim (c x (.inl hb)).1 (c x (.inl hb)).2.2,b.fr f h.p.ht fun x hb e=>(h4 x (b.lt h.p.ht hb) e).elim (c x (.inr hb)).1 (c x (.inr hb)).2.2,c⟩
theorem Pn.dlt (h:Pn σ xb lv ts l R ns Q) {b:Nat} (hb:Names R.dv b):b<σ.next:=by
 obtain⟨ws,k1,_⟩:=h.w
 exact k1.lt h.p.ht hb
theorem Pn.llt (h:Pn σ xb lv ts l R ns Q) {b:Nat} (hb:Names lv b):b<σ.next:=h.p.src.lt h.p.ht hb
theorem Pn.ext (h:Pn σ xb lv ts l R ns Q) (hQ:∀b,Q' b→Q b∨σ.next≤b):Pn σ xb lv ts l R ns Q':=by
 obtain⟨ws,k1,k2,k3⟩:=h.w
 refine⟨h.p,⟨ws,k1,k2,fun k nd u hn hu=>?_⟩,h.dx⟩
 have hN:=k3 k nd u hn hu
 exact⟨hN.1,hN.2.1,fun b hb=>⟨(hN.2.2 b hb).1,(hN.2.2 b hb).2.1,fun q=>(hQ b q).elim (hN.2.2 b hb).2.2 fun h'=>by have:=hN.lt h.p.ht hb;omega⟩⟩
end
abbrev TypT:=Nat→List Tok→List NodeS→Option (Nat × List Tok × List NodeS)
abbrev NdT:=Option (NodeS × List Tok × List NodeS)
def LB (nb:Nat) (iv fv:V):Nat→Prop:=fun b=>b=nb∨Names iv b∨Names fv b
def Rs.wd (R:Rs) (dv:V):Rs:=⟨R.nm,R.tg,R.nv,R.tv,dv⟩
def SpTypT (T:TypT) (F:List V→H→Ans):Prop:=∀{σ:H} {xb:Nat} {lv:V} {ts l l':List Tok} {R:Rs} {ns ns':List NodeS} {Q:Nat→Prop} {d i:Nat},Pn σ xb lv ts l R ns Q→(∀b,Q b→b<σ.next)→d≤1000→T d l ns=some (i,l',ns') →
 ∃dv' σ',F [.ptr xb 0,.int .i64 (Int.ofNat d)] σ=some (.int .i64 (Int.ofNat i),σ')∧Pn σ' xb lv ts l' (R.wd dv') ns' Q∧Fr (PB xb R.dv) σ σ'∧(∀b,Names dv' b→Names R.dv b∨σ.next≤b)
section
variable {E:List (Nat × Blk)} {D:Den} {N:Nat}
end
structure FldSt (σ σ':H) (xb:Nat) (lv:V) (ts l':List Tok) (R:Rs) (ns':List NodeS) (Q:Nat→Prop) (nb:Nat) (nd':NodeS) (iv fv fv' dv':V):Prop where
 p:Pn σ' xb lv ts l' (R.wd dv') ns' (fun b=>Q b∨LB nb iv fv' b)
 q:Nq σ' nb nd' iv fv'
 ap:Aq xb lv dv' nb iv fv'
 mf:∀b,Names fv' b→Names fv b∨σ.next≤b
 md:∀b,Names dv' b→Names R.dv b∨σ.next≤b
 f:Fr (fun b=>PB xb R.dv b∨b=nb∨Names fv b) σ σ'
section
variable {σ σ1 σ2:H} {xb:Nat} {lv:V} {ts l l1 l2:List Tok} {R:Rs} {ns ns1 ns2:List NodeS} {Q:Nat→Prop} {nb:Nat} {nd nd1 nd2:NodeS} {iv fv fv1 fv2 dv1 dv2:V}
theorem FldSt.trans (h:FldSt σ σ1 xb lv ts l1 R ns1 Q nb nd1 iv fv fv1 dv1) (k:FldSt σ1 σ2 xb lv ts l2 (R.wd dv1) ns2 Q nb nd2 iv fv1 fv2 dv2):FldSt σ σ2 xb lv ts l2 R ns2 Q nb nd2 iv fv fv2 dv2:=by
 have le:=h.f.le
 refine⟨k.p,k.q,k.ap,fun b hb=>(k.mf b hb).elim (h.mf b) (fun e => .inr (by omega)),fun b hb=>(k.md b hb).elim (h.md b) (fun e => .inr (by omega)),h.f.trans k.f fun b hb e=>?_⟩
 rcases e with (e|e)|e|e
 ·exact .inl (.inl e)
 ·exact(h.md b e).elim (fun h => .inl (.inr h)) (fun h=>by omega)
 ·exact .inr (.inl e)
 ·exact(h.mf b e).elim (fun h => .inr (.inr h)) (fun h=>by omega)
theorem FldSt.go (h:Pn σ xb lv ts l R ns (fun b=>Q b∨LB nb iv fv b)) (q:Nq σ nb nd iv fv) (ap:Aq xb lv R.dv nb iv fv) (p:Pz σ1 xb lv ts l1 R) (f:Fr (fun k=>k=xb) σ σ1):FldSt σ σ1 xb lv ts l1 R ns Q nb nd iv fv fv R.dv:=
 ⟨h.go p f,q.frx f h.p.ht ap.a,ap,fun _ h => .inl h,fun _ h => .inl h,f.mono fun _ _ e => .inl (.inl e)⟩
theorem FldSt.own (h:Pn σ xb lv ts l R ns (fun b=>Q b∨LB nb iv fv b)) (ap:Aq xb lv R.dv nb iv fv) (q:Nq σ1 nb nd1 iv fv) (f:Fr (fun k=>k=nb) σ σ1):FldSt σ σ1 xb lv ts l R ns Q nb nd1 iv fv fv R.dv:=
 ⟨h.fr f (fun e=>ap.a.x e.symm) (fun b hb e=>ap.a.l (e ▸ hb)) (fun b hb e=>ap.d (e ▸ hb)) (fun b _ e => .inr (.inl e)),q,ap,fun _ h => .inl h,fun _ h => .inl h,f.mono fun _ _ e => .inr (.inl e)⟩
end
section
variable {E:List (Nat × Blk)} {D:Den} {N:Nat}
end
def baseP (T:TypT) (d:Nat) (nd:NodeS) (l:List Tok) (ns:List NodeS):NdT:=match isP (BS.mk 7 22026814072246082) l with
 | (true,_)=>none
 | (false,l1)=>match isP (BS.mk 4 1280070990) l1 with
 | (true,_)=>none
 | (false,l2)=>match isP (BS.mk 10 488440487847103610377301) l2 with
 | (true,_)=>none
 | (false,l3)=>match isP (BS.mk 7 23157120498421321) l3 with
 | (true,l4)=>(match isP (BS.mk 1 40) l4 with
  | (true,l5)=>(boundsP l5).bind fun c=>(mustP (BS.mk 1 41) c.2).map fun l6=>({ nd with kind:=2,con:=c.1 },l6,ns)
  | (false,l5)=>some ({ nd with kind:=2 },l5,ns))
 | (false,_)=>none
structure BaseSt (σ σ':H) (xb:Nat) (lv:V) (ts l':List Tok) (R:Rs) (ns':List NodeS) (Q:Nat→Prop) (nb:Nat) (nd':NodeS) (iv fv iv' fv' dv':V):Prop where
 p:Pn σ' xb lv ts l' (R.wd dv') ns' (fun b=>Q b∨LB nb iv' fv' b)
 q:Nq σ' nb nd' iv' fv'
 ap:Aq xb lv dv' nb iv' fv'
 mi:∀b,Names iv' b→Names iv b∨σ.next≤b
 mf:∀b,Names fv' b→Names fv b∨σ.next≤b
 md:∀b,Names dv' b→Names R.dv b∨σ.next≤b
 f:Fr (fun b=>PB xb R.dv b∨LB nb iv fv b) σ σ'
def SpBaseT (T:TypT) (F:List V→H→Ans):Prop:=∀{σ:H} {xb:Nat} {lv:V} {ts l l':List Tok} {R:Rs} {ns ns':List NodeS} {Q:Nat→Prop} {nb:Nat} {nd nd':NodeS} {iv fv:V} {d:Nat},
 Pn σ xb lv ts l R ns (fun b=>Q b∨LB nb iv fv b)→(∀b,Q b→b<σ.next)→Nq σ nb nd iv fv→Aq xb lv R.dv nb iv fv→nd.items=[]→nd.fields=[]→d≤900→baseP T d nd l ns=some (nd',l',ns') →
 ∃dv' iv' fv' σ',F [.ptr xb 0,.ptr nb 0,.int .i64 (Int.ofNat d)] σ=some (.tup [],σ')∧BaseSt σ σ' xb lv ts l' R ns' Q nb nd' iv fv iv' fv' dv'
section
variable {σ σ1 σ2:H} {xb:Nat} {lv:V} {ts l l1 l2:List Tok} {R:Rs} {ns ns1 ns2:List NodeS} {Q:Nat→Prop} {nb:Nat} {nd nd1 nd2:NodeS} {iv fv fv1 fv2 dv1 dv2:V}
theorem FldSt.base (h:FldSt σ σ1 xb lv ts l1 R ns1 Q nb nd1 iv fv fv1 dv1):BaseSt σ σ1 xb lv ts l1 R ns1 Q nb nd1 iv fv iv fv1 dv1:=
 ⟨h.p,h.q,h.ap,fun _ h => .inl h,h.mf,h.md,h.f.mono fun _ _ e=>e.imp id fun e=>e.imp id .inr⟩
theorem Nq.setc (h:Nq σ nb nd iv fv) (ht:Tidy σ) (c:ConS):∃σ',(∀κ:H→Ans,stK 6 nb 5 (.agg [.bool c.has,.bool c.hasLow,.bool c.hasHigh,.bool c.more,.int .i64 c.low,.int .i64 c.high]) σ κ=κ σ')∧Fr (fun k=>k=nb) σ σ'∧Nq σ' nb { nd with con:=c } iv fv:=by
 obtain⟨σ',e,f,a⟩:=mkS ht h.a (({ nd with con:=c }:NodeS).c iv fv)
 refine⟨σ',fun κ=>?_,f,a,h.i.fr f ht (fun b hb e=>h.ni (e ▸ hb)),h.f.fr f ht (fun b hb e=>h.nf (e ▸ hb)),h.ni,h.nf,h.d⟩
 rw[stK_at h.a rfl]
 show κ (setF σ nb (.cells (({ nd with con:=c }:NodeS).c iv fv)))=_
 rw[e]
end
section
variable {E:List (Nat × Blk)} {D:Den} {N:Nat}
theorem base_F {T:TypT} (hNow:SpNow (D 60)) (hI:SpIs (D 59)) (hM:SpMust (D 58)) (hB:SpBounds (D 216)):SpBaseT T (F122 E D (drawW E D) N):=by
 intro σ xb lv ts l l' R ns ns' Q nb nd nd' iv fv d h hQ q ap hi0 hf0 hd hs
 obtain⟨t,l0,rfl⟩:∃t l0,l=t::l0:=by
  cases l with
  | nil=>exact absurd rfl h.p.ne
  | cons t l0=>exact⟨t,l0,rfl⟩
 have gn:=hNow h.p
 obtain⟨σ1,e1,f1,a1,n1⟩:=mkN h.p.ht [.int .i64 (Int.ofNat 0),.str ⟨0,0⟩,.int .i64 (Int.ofNat 0)]
 obtain⟨σ2,e2,f2,a2⟩:=mkS f1.tidy a1 (tokC t)
 unfold tokC at gn e2 a2
 have s2:∀κ:H→Ans,stK 3 σ.next 0 (.agg [.int .i64 (Int.ofNat t.1),.str (ofN t.2.1),.int .i64 (Int.ofNat t.2.2)]) σ1 κ=κ σ2:=fun κ=>by
  rw[stK_at a1 rfl]
  show κ (setF σ1 σ.next (.cells [.int .i64 (Int.ofNat t.1),.str (ofN t.2.1),.int .i64 (Int.ofNat t.2.2)]))=_
  rw[e2]
 have f02:Fr Nowhere σ σ2:=f1.trans f2 (fun b hb e=>by omega)
 have le2:=f02.le
 have h2:=h.fr f02 (fun h=>h) (fun _ _ h=>h) (fun _ _ h=>h) (fun _ _ h=>h.elim)
 have q2:=q.fr f02 h.p.ht (fun h=>h) (fun _ _ h=>h) (fun _ _ h=>h)
 obtain⟨a,ha,_⟩:=h2.p.ex
 unfold pc at ha
 suffices key:∃dv' iv' fv' σ',F122 E D (drawW E D) N [.ptr xb 0,.ptr nb 0,.int .i64 (Int.ofNat d)] σ=some (.tup [],σ')∧BaseSt σ2 σ' xb lv ts l' R ns' Q nb nd' iv fv iv' fv' dv' by
  obtain⟨dv',iv',fv',σ',g,s⟩:=key
  exact⟨dv',iv',fv',σ',g,s.p,s.q,s.ap,fun b hb=>(s.mi b hb).imp id (fun e=>by omega),fun b hb=>(s.mf b hb).imp id (fun e=>by omega),fun b hb=>(s.md b hb).imp id (fun e=>by omega),(f02.mono (fun _ _ h=>h.elim):Fr (fun b=>PB xb R.dv b∨LB nb iv fv b) σ σ2).trans s.f (fun _ _ e=>e)⟩
 have hQ2:∀b,Q b→b<σ2.next:=fun b hb=>by have:=hQ b hb;omega
 show ∃dv' iv' fv' σ',T122_0 E D (drawW E D) xb 0 nb 0 (Int.ofNat d) σ=some (.tup [],σ')∧_
 have word:∀{σ':H} {l1:List Tok} (s:BS),FldSt σ2 σ' xb lv ts l1 R ns Q nb nd iv fv fv R.dv→∃σ'',D 59 [.ptr xb 0,.str s] σ'=some (.bool (isP s l1).1,σ'')∧FldSt σ2 σ'' xb lv ts (isP s l1).2 R ns Q nb nd iv fv fv R.dv:=by
  intro σ' l1 s st
  obtain⟨σ'',g,p,f⟩:=hI s st.p.p
  exact⟨σ'',g,st.trans (FldSt.go st.p st.q st.ap p f)⟩
 have kind:∀{σ':H} {l1:List Tok} (k:Nat),FldSt σ2 σ' xb lv ts l1 R ns Q nb nd iv fv fv R.dv→∃σ'',(∀κ:H→Ans,stK 1 nb 0 (.int .i64 (Int.ofNat k)) σ' κ=κ σ'')∧FldSt σ2 σ'' xb lv ts l1 R ns Q nb { nd with kind:=k } iv fv fv R.dv:=by
  intro σ' l1 k st
  obtain⟨σ'',g,f,q'⟩:=st.q.set (off:=0) (y := .int .i64 (Int.ofNat k)) st.p.p.ht { nd with kind:=k } rfl (by decide) rfl rfl rfl
  exact⟨σ'',g,st.trans (FldSt.own st.p st.ap q' f)⟩
 have must:∀{σ':H} {l1 l2:List Tok} {nd1:NodeS} {s:BS},FldSt σ2 σ' xb lv ts l1 R ns Q nb nd1 iv fv fv R.dv→mustP s l1=some l2→∃σ'',D 58 [.ptr xb 0,.str s] σ'=some (.tup [],σ'')∧FldSt σ2 σ'' xb lv ts l2 R ns Q nb nd1 iv fv fv R.dv:=by
  intro σ' l1 l2 nd1 s st hm
  obtain⟨σ'',g,p,f⟩:=hM st.p.p hm
  exact⟨σ'',g,st.trans (FldSt.go st.p st.q st.ap p f)⟩
 have con:∀{σ':H} {l1:List Tok} {nd1:NodeS} (c:ConS),FldSt σ2 σ' xb lv ts l1 R ns Q nb nd1 iv fv fv R.dv→∃σ'',(∀κ:H→Ans,stK 6 nb 5 (.agg [.bool c.has,.bool c.hasLow,.bool c.hasHigh,.bool c.more,.int .i64 c.low,.int .i64 c.high]) σ' κ=κ σ'')∧FldSt σ2 σ'' xb lv ts l1 R ns Q nb { nd1 with con:=c } iv fv fv R.dv:=by
  intro σ' l1 nd1 c st
  obtain⟨σ'',g,f,q'⟩:=st.q.setc st.p.p.ht c
  exact⟨σ'',g,st.trans (FldSt.own st.p st.ap q' f)⟩
 have bnds:∀{σ':H} {l1 l2:List Tok} {nd1:NodeS} {c:ConS},FldSt σ2 σ' xb lv ts l1 R ns Q nb nd1 iv fv fv R.dv→boundsP l1=some (c,l2)→∃σ'',D 216 [.ptr xb 0] σ'=some (.agg [.bool c.has,.bool c.hasLow,.bool c.hasHigh,.bool c.more,.int .i64 c.low,.int .i64 c.high],σ'')∧FldSt σ2 σ'' xb lv ts l2 R ns Q nb nd1 iv fv fv R.dv:=by
  intro σ' l1 l2 nd1 c st hm
  obtain⟨σ'',g,p,f⟩:=hB st.p.p hm
  exact⟨σ'',g,st.trans (FldSt.go st.p st.q st.ap p f)⟩
 have t0:FldSt σ2 σ2 xb lv ts (t::l0) R ns Q nb nd iv fv fv R.dv:=⟨h2,q2,ap,fun _ h => .inl h,fun _ h => .inl h,Fr.refl h2.p.ht⟩
 unfold baseP at hs
 unfold T122_0
 simp -implicitDefEqProofs only [↓rP,rA,Nat.reduceEqDiff,Nat.reduceLT,Nat.reduceLeDiff,↓gn,↓e1,↓s2,↓ldK_is ha]
 obtain⟨σ3,g3,t3⟩:=word (BS.mk 7 22026814072246082) t0
 cases c3:isP (BS.mk 7 22026814072246082) (t::l0)with
 | mk b l1=>
 rw[c3]at hs g3 t3
 rcases b with _|_
 rotate_left
 ·cases hs
 replace hs:(match isP (BS.mk 4 1280070990) l1 with | (true,_)=>_ | (false,_)=>_:NdT)=_:=hs
 obtain⟨σ4,g4,t4⟩:=word (BS.mk 4 1280070990) t3
 cases c4:isP (BS.mk 4 1280070990) l1 with
 | mk b l2=>
 rw[c4]at hs g4 t4
 rcases b with _|_
 rotate_left
 ·cases hs
 replace hs:(match isP (BS.mk 10 488440487847103610377301) l2 with | (true,_)=>_ | (false,_)=>_:NdT)=_:=hs
 obtain⟨σ5,g5,t5⟩:=word (BS.mk 10 488440487847103610377301) t4
 cases c5:isP (BS.mk 10 488440487847103610377301) l2 with
 | mk b l3=>
 rw[c5]at hs g5 t5
 rcases b with _|_
 rotate_left
 ·cases hs
 replace hs:(match isP (BS.mk 7 23157120498421321) l3 with | (true,_)=>_ | (false,_)=>_:NdT)=_:=hs
 obtain⟨σ6,g6,t6⟩:=word (BS.mk 7 23157120498421321) t5
 cases c6:isP (BS.mk 7 23157120498421321) l3 with
 | mk b l4=>
 rw[c6]at hs g6 t6
 rcases b with _|_
 rotate_left
 ·replace hs:(match isP (BS.mk 1 40) l4 with | (true,_)=>_ | (false,_)=>_:NdT)=_:=hs
  obtain⟨_,ga,ta⟩:=kind 2 t6
  obtain⟨σq,gq,pq,fq⟩:=hI (BS.mk 1 40) ta.p.p
  have tq:=ta.trans (FldSt.go ta.p ta.q ta.ap pq fq)
  cases cq:isP (BS.mk 1 40) l4 with
  | mk b lq=>
  rw[cq]at hs gq tq
  rcases b with _|_
  ·cases hs
   exact⟨_,_,_,_,by simp -implicitDefEqProofs only [↓rP,rS,↓g3,↓g4,↓g5,↓g6,↓ga,↓gq],tq.base⟩
  ·obtain⟨⟨c,lc⟩,hc,hs⟩:=Option.bind_eq_some_iff.1 hs
   obtain⟨lm,hm,he⟩:=Option.map_eq_some_iff.1 hs
   cases he
   obtain⟨_,gb,tb⟩:=bnds tq hc
   obtain⟨_,gc,tc⟩:=con c tb
   obtain⟨_,gd,td⟩:=must tc hm
   exact⟨_,_,_,_,by simp -implicitDefEqProofs only [↓rP,rS,↓g3,↓g4,↓g5,↓g6,↓ga,↓gq,↓gb,↓gc,↓gd],td.base⟩
 cases hs
end
end
end Go.Proofs.YtgjjnbddbbhloaaGreatDoor
