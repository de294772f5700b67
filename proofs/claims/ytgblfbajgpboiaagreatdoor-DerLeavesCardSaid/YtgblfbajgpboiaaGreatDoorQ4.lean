/- What the last text leans on, part 5 of 6: merged out of smaller texts. No condition. -/
import Derived.Deep.Slices
import Derived.Carry
import Derived.Test.YtgblfbajgpboiaaGreatDoorQ3
set_option maxRecDepth 100000
set_option linter.all false
namespace Go.Og
open Go Go.RowKit Go.Deep
theorem law_belowE {P:Program} {G:Nat→Bool} {f:FuncId} {F:List V→H→Ans} {E:List (Nat × Blk)} (hS:SoundFn P E G f F) {ng n0:Nat} (hG:∀g,G g=true→g<ng) (hn:ng≤n0) (l:List (Nat × BI)) (args:List V) (xs:List Value) (w:World)
  (hl:∀id i,look l id=some i→id<n0) (hE:∀id b,look E id=some b→∃i,argR ng l id=some i∧ExtOk (argR ng l) i b w) (hx:concs (argR ng l) args=some xs) (h:okB (F args ⟨n0,[]⟩)=true) :
  Calls P f xs.toArray w fun e w'=>e = .returned (.bool true)∧RowKit.Below w.heap.size w w':=by
 obtain⟨σ,hσ⟩:=okB_some h
 obtain⟨_,hc⟩:=hS ⟨fun blk=>w.heap.size≤blk,w,E,G⟩ rfl rfl (argR ng l) ⟨n0,[]⟩ w args xs _ σ hσ (start_relE hG hn l E w hl hE) hx
 refine hc.mono ?_
 rintro en w' ⟨R',x,_,_,h3,h4,rfl⟩
 cases h4
 exact⟨rfl,h3.os,h3.tape,h3.output,h3.size,fun k hk=>h3.fr k (Nat.not_le.2 hk)⟩
theorem addr_add (b o i:Nat):(⟨b,o,none⟩:Addr).add i=⟨b,o+i,none⟩:=by
 unfold Addr.add
 split
 ·rename_i h;subst h;rfl
 ·rfl
section
variable {H:Type} {enc:TypeId × Value→H} {P:Program} {w:World} {t e:TypeId} {d:DataW H} {ps:List MemPlace} {blk off len cap:Nat}
theorem row_cells (ht:P.underlying t=some (.slice e)) (hc:P.cellsOf e=1) (h:DataW.Trod enc P w 0 (fun _=>true) true t (.slice (some ⟨blk,off,none⟩) len cap) d ps) :
  ∃V:Nat→Value,∀i,i<len→w.cell? ⟨blk,off+i,none⟩=some (V i)∧∃n D p,DataW.trod enc P w 0 (fun _=>true) true n e [V i]=some (D,p):=by
 obtain⟨fuel,hf⟩:=h
 rcases open_slice1 ht hc hf with ⟨h0,_⟩|⟨a,len',cap',m,n,V,D,Pl,hcs,_,hl,_,hm,_,hx⟩
 ·simp[Value.cells]at h0
 ·simp only[Value.cells,List.cons.injEq,Value.slice.injEq,Option.some.injEq,and_true]at hcs
  obtain⟨rfl,rfl,rfl⟩:=hcs
  refine⟨V,fun i hi=>?_⟩
  obtain⟨h1,h2⟩:=hx i (by rw[hm];simp only[if_true];omega)
  rw[addr_add]at h1
  exact⟨h1,_,_,_,h2⟩
theorem row_ints {k:IntKind} (ht:P.underlying t=some (.slice e)) (he:P.underlying e=some (.int k)) (hc:P.cellsOf e=1) (h:DataW.Trod enc P w 0 (fun _=>true) true t (.slice (some ⟨blk,off,none⟩) len cap) d ps) :
  ∃B:Nat→Int,∀i,i<len→w.cell? ⟨blk,off+i,none⟩=some (.int k (B i))∧(Lit.int k (B i)).wf=true:=by
 obtain⟨V,hV⟩:=row_cells ht hc h
 have:∀i,i<len→∃b,V i = .int k b∧(Lit.int k b).wf=true:=fun i hi=>by
  obtain⟨_,n,D,p,h2⟩:=hV i hi
  cases n with
  | zero=>simp[DataW.trod]at h2
  | succ n=>
   unfold DataW.trod at h2
   rw[he]at h2
   split at h2<;>simp_all
 obtain⟨B,hB⟩:=choose_lt this
 exact⟨B,fun i hi=>⟨by rw[(hV i hi).1,(hB i hi).1],(hB i hi).2⟩⟩
end
theorem cell_arr {w:World} {blk off:Nat} {v:Value} (h:w.cell? ⟨blk,off,none⟩=some v):∃arr el fr,w.heap[blk]? = some (.cells arr el fr)∧arr[off]? = some v:=by
 unfold World.cell? at h
 simp only[]at h
 split at h
 ·rename_i c el fr hh
  exact⟨c,el,fr,hh,by simpa using h⟩
 ·cases h
theorem ext_row {R:Ren} {w:World} {blk off:Nat} {l:List V} (hne:l≠[]) (h:∀k v,l[k]? = some v→∃a,conc R v=some a∧a.oneCell'=true∧w.cell? ⟨blk,off+k,none⟩=some a):ExtOk R ⟨blk,off,0⟩ (.cells l) w:=by
 cases l with
 | nil=>exact(hne rfl).elim
 | cons u l=>
  obtain⟨a,_,_,h0⟩:=h 0 u rfl
  obtain⟨arr,el,fr,h1,_⟩:=cell_arr h0
  refine⟨arr,el,fr,h1,fun k v hk=>?_⟩
  obtain⟨a',h2,h3,h4⟩:=h k v hk
  obtain⟨arr',el',fr',h5,h6⟩:=cell_arr h4
  rw[h1]at h5
  cases h5
  exact⟨a',h2,h3,h6⟩
theorem ext_one {R:Ren} {w:World} {id:Nat} {i:BI} {b:Blk} (hR:R id=some i) (h:ExtOk R i b w):∀id' b',look [(id,b)] id'=some b'→∃j,R id'=some j∧ExtOk R j b' w:=by
 intro id' b' hb
 simp only[look]at hb
 split at hb
 ·rename_i he
  have:=Nat.eq_of_beq_eq_true he
  subst this
  cases hb
  exact⟨i,hR,h⟩
 ·cases hb
theorem ext_list {R:Ren} {w:World} {blk off len:Nat} {f:Nat→V} {g:Nat→Value} (hc:∀i,conc R (f i)=some (g i)∧(g i).oneCell'=true) (h:∀i,i<len→w.cell? ⟨blk,off+i,none⟩=some (g i)) (h0:len≠0):ExtOk R ⟨blk,off,0⟩ (.cells ((List.range len).map f)) w:=by
 refine ext_row (by simp[h0]) fun k v hk=>?_
 rw[List.getElem?_map,Option.map_eq_some_iff]at hk
 obtain⟨j,hj,rfl⟩:=hk
 obtain⟨hj1,rfl⟩:=List.getElem?_eq_some_iff.1 hj
 have hk':k<len:=by simpa using hj1
 refine⟨g k,?_,(hc k).2,h k hk'⟩
 simp[(hc k).1]
end Go.Og
namespace Go.Og
noncomputable section
def OldLd (E:List (Nat × Blk)) (σ:H) (n:Nat) (S:Nat→Prop) (o:AOp) (e:Env) (v:V):Prop:=V.beq v v=true∧∀(nx:Nat) (h:List (Nat × Blk)) (p:Nat→Bool),(∀id,id<σ.next→¬S id→look h id=look σ.bl id)→aopL E o e ⟨nx,hideB σ.next n p h⟩=some v
structure RegOk (E:List (Nat × Blk)) (σ:H) (n:Nat) (S:Nat→Prop) (nx:Nat) (ss:List (List (Nat × Blk))) (am:Nat) (ls:List (Nat × AOp × Env × V)) (σc:H):Prop where
 hd:nx=σc.next∧∃r,ss=σc.bl::r
 big:σ.next+n≤nx
 fr:Fr S σ σc
 old:∀h∈ss,∀id,id<σ.next→¬S id→look h id=look σ.bl id
 gap:∀h∈ss,∀i,i<n→am.testBit i=false→look h (σ.next+i)=none
 ld:∀x∈ls,OldLd E σ n S x.2.1 x.2.2.1 x.2.2.2
def Goes (E:List (Nat × Blk)) (D:Den) (σ:H) (n i:Nat) (S:Nat→Prop) (ops:List AOper) (pl:List DP) (s:DS) (env:Env) (σ':H):Prop:=∃s',dsteps E D σ.next n i ops pl s=some s'∧s'.e=env∧RegOk E σ n S s'.nx s'.ss s'.am s'.ls σ'
section
variable {E:List (Nat × Blk)} {D:Den} {σ σc σ':H} {n i:Nat} {S:Nat→Prop} {d:Option Nat} {o:AOp} {l:List AOper} {anc:Nat} {lk:List Nat} {pl:List DP} {e env:Env} {nx am:Nat} {ss:List (List (Nat × Blk))} {ks:List Nat} {ls:List (Nat × AOp × Env × V)}
theorem go_nil (hr:RegOk E σ n S nx ss am ls σc):Goes E D σ n i S [] pl ⟨e,nx,ss,ks,am,ls⟩ e σc:=⟨_,dsteps_nil,rfl,hr⟩
theorem go_p (v:V) (hc:o.cls = .p) (hv:aopP o (restr lk e)=some v) (k:Goes E D σ n (i+1) S l pl ⟨putE e d v,nx,ss,ks,am,ls⟩ env σ'):Goes E D σ n i S (⟨d,o,none⟩::l) (⟨anc,lk⟩::pl) ⟨e,nx,ss,ks,am,ls⟩ env σ':=by
 obtain⟨s',h1,h2,h3⟩:=k
 exact⟨s',(dp v hc hv).trans h1,h2,h3⟩
theorem go_l (v:V) (hr:RegOk E σ n S nx ss am ls σc) (hc:o.cls = .l) (hv:OldLd E σ n S o (restr lk e) v) (k:∀ls',RegOk E σ n S nx ss am ls' σc→Goes E D σ n (i+1) S l pl ⟨putE e d v,nx,ss,ks,am,ls'⟩ env σ') :
  Goes E D σ n i S (⟨d,o,none⟩::l) (⟨anc,lk⟩::pl) ⟨e,nx,ss,ks,am,ls⟩ env σ':=by
 obtain⟨⟨hn,r,rfl⟩,h2,h3,h4,h5,h6⟩:=hr
 obtain⟨s',k1,k2,k3⟩:=k ((i,o,restr lk e,v)::ls) ⟨⟨hn,r,rfl⟩,h2,h3,h4,h5,fun x hx=>by
  rcases List.mem_cons.1 hx with rfl|hx
  ·exact hv
  ·exact h6 x hx⟩
 exact⟨s',(dl v hc (hv.2 nx σc.bl _ (h4 _ List.mem_cons_self))).trans k1,k2,k3⟩
theorem go_a (v:V) (b:Blk) (am':Nat) (hr:RegOk E σ n S nx ss am ls σc) (hc:o.cls = .a) (hi:i<n) (ham:am ||| 2 ^ i=am') (hv:aopA o (restr lk e) (σ.next+i)=some (v,b))
  (k:∀ss',RegOk E σ n S nx ss' am' ls ⟨σc.next,(σ.next+i,b)::σc.bl⟩→Goes E D σ n (i+1) S l pl ⟨putE e d v,nx,ss',ks,am',ls⟩ env σ') :
  Goes E D σ n i S (⟨d,o,none⟩::l) (⟨anc,lk⟩::pl) ⟨e,nx,ss,ks,am,ls⟩ env σ':=by
 obtain⟨⟨hn,r,rfl⟩,h2,h3,h4,h5,h6⟩:=hr
 subst ham
 suffices hr':RegOk E σ n S nx ((σc.bl::r).map ((σ.next+i,b)::·)) (am ||| 2 ^ i) ls ⟨σc.next,(σ.next+i,b)::σc.bl⟩by
  obtain⟨s',k1,k2,k3⟩:=k _ hr'
  exact⟨s',(da v b (σ.next+i) _ hc rfl rfl hv).trans k1,k2,k3⟩
 refine⟨⟨hn,_,rfl⟩,h2,⟨fun c hc=>?_,h3.le,fun c hc hS=>?_⟩,fun h hh id hid hS=>?_,fun h hh j hj hb=>?_,h6⟩
 ·have hc:σc.next≤c:=hc
  show lookF ((σ.next+i,b)::σc.bl) c=none
  rw[lookF_cons,if_neg (by simp only[];omega)];exact h3.tidy c hc
 ·show lookF ((σ.next+i,b)::σc.bl) c=_
  rw[lookF_cons,if_neg (by simp only[];omega)];exact h3.same c hc hS
 ·obtain⟨h',hh',rfl⟩:=List.mem_map.1 hh
  rw[look_cons_ne (by omega)];exact h4 _ hh' id hid hS
 ·obtain⟨h',hh',rfl⟩:=List.mem_map.1 hh
  rw[Nat.testBit_or,Bool.or_eq_false_iff]at hb
  have hne:i≠j:=fun he=>by
   subst he
   have:=hb.2
   rw[Nat.testBit_two_pow_self]at this
   cases this
  rw[look_cons_ne (by omega)];exact h5 _ hh' j hj hb.1
theorem go_k (v:V) {σ2:H} (hr:RegOk E σ n S nx ss am ls σc) (hc:o.cls = .k) (hva:∀j,j<n→am.testBit j=true→anc.testBit j=true) {S':Nat→Prop} (hf:Fr S' σc σ2) (hS:∀b,b<σ.next→S' b→S b) (hg:∀b,S' b→σ.next≤b→b<σ.next+n→False) (hv:den1 E D o (restr lk e) σc=some (v,σ2))
  (k:∀nx' ss' ks',RegOk E σ n S nx' ss' am ls σ2→Goes E D σ n (i+1) S l pl ⟨putE e d v,nx',ss',ks',am,ls⟩ env σ') :
  Goes E D σ n i S (⟨d,o,none⟩::l) (⟨anc,lk⟩::pl) ⟨e,nx,ss,ks,am,ls⟩ env σ':=by
 obtain⟨⟨hn,r,rfl⟩,h2,h3,h4,h5,h6⟩:=hr
 subst hn
 have le:=hf.le
 have f02:Fr S σ σ2:=h3.trans hf hS
 suffices hr':RegOk E σ n S σ2.next (σ2.bl::σc.bl::r) am ls σ2 by
  obtain⟨s',k1,k2,k3⟩:=k σ2.next (σ2.bl::σc.bl::r) (i::ks) hr'
  refine⟨s',(dk v σ2.next σ2.bl hc (hide_keep fun j hj hp=>?_) hv).trans k1,k2,k3⟩
  refine h5 _ List.mem_cons_self j hj ?_
  cases ha:am.testBit j with
  | false=>rfl
  | true=>
   exfalso
   unfold visK at hp
   rw[ha,hva j hj ha]at hp
   cases hp
 refine⟨⟨rfl,_,rfl⟩,by omega,f02,fun h hh id hid hS=>?_,fun h hh j hj hb=>?_,h6⟩
 ·rcases List.mem_cons.1 hh with rfl|hh
  ·rw[←lookF_eq,←lookF_eq];exact f02.same id hid hS
  ·exact h4 _ hh id hid hS
 ·rcases List.mem_cons.1 hh with rfl|hh
  ·have:=hf.same (σ.next+j) (by omega) (fun hs=>hg _ hs (by omega) (by omega))
   rw[←lookF_eq,this,lookF_eq]
   exact h5 _ List.mem_cons_self j hj hb
  ·exact h5 _ hh j hj hb
theorem go_start (ht:Tidy σ):RegOk E σ n S (σ.next+n) [σ.bl] 0 [] ⟨σ.next+n,σ.bl⟩:=
  ⟨⟨rfl,[],rfl⟩,Nat.le_refl _,⟨ht.wide n,Nat.le_add_right _ _,fun _ _ _=>rfl⟩,fun h hh id hid _=>by rw[List.mem_singleton.1 hh],fun h hh i hi _=>by
    rw[List.mem_singleton.1 hh];exact ht.gap n _ (by omega) (by omega),fun x hx=>by cases hx⟩
theorem check_all {op:AOp} {em:Env} {v:V} {j:Nat} (hv:OldLd E σ n S op em v):∀(ss:List (List (Nat × Blk))) (ks more:List Nat),(∀h∈ss,∀id,id<σ.next→¬S id→look h id=look σ.bl id)→checkL E σ.next n pl am j op em v ss ks more=true
 | [],_,_,_=>by unfold checkL;rfl
 | h::ss,ks,more,ho=>by
  unfold checkL
  rw[hv.2 0 h _ (ho h List.mem_cons_self)]
  simp only[hv.1,Bool.or_true,Bool.true_and]
  cases ks with
  | nil=>rfl
  | cons k ks=>exact check_all hv ss ks (k::more) fun h' hh=>ho h' (List.mem_cons_of_mem _ hh)
theorem go_draw {ops:List AOper} (h:Goes E D σ ops.length 0 S ops pl ⟨e,σ.next+ops.length,[σ.bl],[],0,[]⟩ env σ'):drawW E D ops pl e σ=some (env,σ')∧Fr S σ σ':=by
 obtain⟨s',h1,rfl,⟨hn,r,hs⟩,_,h3,h4,h5,h6⟩:=h
 refine⟨?_,h3⟩
 rw[drawW_of h1 (List.all_eq_true.2 fun x hx=>check_all (h6 x hx) _ _ _ h4) hs]
 have:=(hide_keep (n0:=σ.next) (n:=ops.length) (p:=fun k=>s'.am.testBit k) (l:=σ'.bl) fun i hi hp=>h5 _ (by rw[hs];exact List.mem_cons_self) i hi hp).1
 rw[this,hn]
theorem old_ld1 {x:AO} {em:Env} {b off:Nat} {c:List V} {v:V} (hx:opv em x = .ptr b off) (ha:Atc σ b c) (hv:c[off]? = some v) (ht:Tidy σ) (hS:¬S b) (hb:V.beq v v=true):OldLd E σ n S (.load none x) em v:=
  ⟨hb,fun nx h p ho=>load_of hx (by
    have lt:=ha.lt ht
    rw[look_hide_old lt,ho b lt hS,←lookF_eq];exact ha) hv⟩
theorem loadn_of {x:AO} {e:Env} {b off nx n:Nat} {h:List (Nat × Blk)} {c:List V} (hx:opv e x = .ptr b off) (hl:look h b=some (.cells c)) (hv:Nat.ble (off+n) c.length=true) :
  aopL E (.load (some n) x) e ⟨nx,h⟩=some (.agg ((c.drop off).take n)):=by
 unfold aopL
 simp only[hx,rdN,rd,hl]
 rw[if_pos hv]
theorem old_ldn {x:AO} {em:Env} {b off m:Nat} {c c':List V} (hx:opv em x = .ptr b off) (ha:Atc σ b c) (hv:Nat.ble (off+m) c.length=true) (hc:(c.drop off).take m=c') (ht:Tidy σ) (hS:¬S b) (hb:V.beq (.agg c') (.agg c')=true):OldLd E σ n S (.load (some m) x) em (.agg c'):=
  ⟨hb,fun nx h p ho=>by
    have lt:=ha.lt ht
    rw[←hc]
    exact loadn_of hx (by rw[look_hide_old lt,ho b lt hS,←lookF_eq];exact ha) hv⟩
theorem build1 {ty:TypeId} {x:AO} {em:Env} {id:Nat} {u:V} (hx:opv em x=u) (h:u.one=true):aopA (.buildSlice ty 1 [.nils] [(0,1,x)]) em id=some (.sl id 0 1 (.ex 1),.cells [u]):=by
 have h12:u.live=true∧u.cells=[u]:=by cases u<;>first | exact⟨rfl,rfl⟩ | cases h
 show (match fillA [(0,1,opv em x)] [V.nils]with
  | some l=>if allOne l then some (V.sl id 0 1 (.ex 1),Blk.cells l)else none
  | none=>none)=_
 rw[hx]
 unfold fillA
 rw[h12.1,h12.2]
 show (if(u.one&&true)=true then _ else none)=_
 rw[h];rfl
end
section
variable {E:List (Nat × Blk)} {D:Den} {σ:H}
theorem live_of {v:V} (h:v.one=true):v.live=true:=by cases v<;>first | rfl | cases h
theorem call_of {f:FuncId} {args:List AO} {e:Env} {vs:List V} {r:Ans} (hx:opvs e args=vs) (hl:vs.all V.live=true) (g:D f vs σ=r):den1 E D (.call f args) e σ=r:=by
 show (if(opvs e args).all V.live then D f (opvs e args) σ else none)=r
 rw[hx,hl];exact g
theorem mov_of {x:AO} {e:Env} {v:V} (hx:opv e x=v) (hl:v.live=true):aopP (.mov x) e=some v:=by
 show (if(opv e x).live=true then some (opv e x)else none)=_
 rw[hx,hl];rfl
end
theorem getL_of {e:Env} {t:Nat} {v:V} {κ:V→Ans} (h:Go.Og.look e t=some v) (hl:v.live=true):getL e t κ=κ v:=by
 unfold getL
 rw[h]
 exact chk_true hl
theorem app_den {E:List (Nat × Blk)} {D:Den} {σ σ':H} {el esz bytes:Nat} {s x:AO} {e:Env} {v y u:V} (hs:opv e s=v) (hx:opv e x=y) (g:∀κ:V→H→Ans,appK E esz bytes v y σ κ=κ u σ'):den1 E D (.append el esz bytes s x) e σ=some (u,σ'):=by
 show appendV E esz bytes (opv e s) (opv e x) σ=_
 rw[hs,hx]
 obtain⟨w,σ1,h1,h2⟩:=appK_some (g fun v σ=>some (v,σ))
 rw[h1]
 exact h2
mutual
theorem beq_self:∀v:V,V.inn (fun _=>true) v=true→V.beq v v=true
 | .dead,h=>by simp[V.inn]at h
 | .ptr b o,_=>by simp[V.beq]
 | .sl b o n (.ex c),_=>by simp[V.beq]
 | .sl b o n (.op c),_=>by simp[V.beq]
 | .sle b o k e,_=>by simp[V.beq]
 | .mp b,_=>by simp[V.beq]
 | .bool b,_=>by simp[V.beq]
 | .int k n,_=>by simp[V.beq]
 | .str s,_=>by simp[V.beq]
 | .nilp,_=>rfl
 | .nils,_=>rfl
 | .nilm,_=>rfl
 | .nilf,_=>rfl
 | .nili,_=>rfl
 | .fn f a c,h=>by
  simp only[V.inn,Bool.and_eq_true]at h
  simp[V.beq,beqs_self a h.1,beqs_self c h.2]
 | .ifc t v,h=>by
  simp only[V.inn]at h
  simp[V.beq,beq_self v h]
 | .agg l,h=>by
  simp only[V.inn]at h
  simp[V.beq,beqs_self l h]
 | .tup l,h=>by
  simp only[V.inn]at h
  simp[V.beq,beqs_self l h]
theorem beqs_self:∀l:List V,inns (fun _=>true) l=true→beqs l l=true
 | [],_=>rfl
 | v::l,h=>by
  simp only[inns,Bool.and_eq_true]at h
  simp[beqs,beq_self v h.1,beqs_self l h.2]
end
end
end Go.Og
namespace Go.Og
noncomputable section
def GoesQ (Q:DS→Prop) (E:List (Nat × Blk)) (D:Den) (σ:H) (n i:Nat) (ops:List AOper) (pl:List DP) (s:DS):Prop:=∃s',dsteps E D σ.next n i ops pl s=some s'∧Q s'
section
variable {Q:DS→Prop} {E:List (Nat × Blk)} {D:Den} {σ σc σ':H} {n i:Nat} {S:Nat→Prop} {d:Option Nat} {o:AOp} {l:List AOper} {anc:Nat} {lk:List Nat} {pl:List DP} {e env:Env} {nx am:Nat} {ss:List (List (Nat × Blk))} {ks:List Nat} {ls:List (Nat × AOp × Env × V)}
theorem goq_p (v:V) (hc:o.cls = .p) (hv:aopP o (restr lk e)=some v) (k:GoesQ Q E D σ n (i+1) l pl ⟨putE e d v,nx,ss,ks,am,ls⟩):GoesQ Q E D σ n i (⟨d,o,none⟩::l) (⟨anc,lk⟩::pl) ⟨e,nx,ss,ks,am,ls⟩:=by
 obtain⟨s',h1,h2⟩:=k
 exact⟨s',(dp v hc hv).trans h1,h2⟩
theorem goq_l (v:V) (hr:RegOk E σ n S nx ss am ls σc) (hc:o.cls = .l) (hv:OldLd E σ n S o (restr lk e) v) (k:RegOk E σ n S nx ss am ((i,o,restr lk e,v)::ls) σc→GoesQ Q E D σ n (i+1) l pl ⟨putE e d v,nx,ss,ks,am,(i,o,restr lk e,v)::ls⟩) :
  GoesQ Q E D σ n i (⟨d,o,none⟩::l) (⟨anc,lk⟩::pl) ⟨e,nx,ss,ks,am,ls⟩:=by
 obtain⟨⟨hn,r,rfl⟩,h2,h3,h4,h5,h6⟩:=hr
 obtain⟨s',k1,k2⟩:=k ⟨⟨hn,r,rfl⟩,h2,h3,h4,h5,fun x hx=>by
  rcases List.mem_cons.1 hx with rfl|hx
  ·exact hv
  ·exact h6 x hx⟩
 exact⟨s',(dl v hc (hv.2 nx σc.bl _ (h4 _ List.mem_cons_self))).trans k1,k2⟩
theorem goq_a (v:V) (b:Blk) (am':Nat) (hr:RegOk E σ n S nx ss am ls σc) (hc:o.cls = .a) (hi:i<n) (ham:am ||| 2 ^ i=am') (hv:aopA o (restr lk e) (σ.next+i)=some (v,b))
  (k:∀ss',RegOk E σ n S nx ss' am' ls ⟨σc.next,(σ.next+i,b)::σc.bl⟩→GoesQ Q E D σ n (i+1) l pl ⟨putE e d v,nx,ss',ks,am',ls⟩) :
  GoesQ Q E D σ n i (⟨d,o,none⟩::l) (⟨anc,lk⟩::pl) ⟨e,nx,ss,ks,am,ls⟩:=by
 obtain⟨⟨hn,r,rfl⟩,h2,h3,h4,h5,h6⟩:=hr
 subst ham
 suffices hr':RegOk E σ n S nx ((σc.bl::r).map ((σ.next+i,b)::·)) (am ||| 2 ^ i) ls ⟨σc.next,(σ.next+i,b)::σc.bl⟩by
  obtain⟨s',k1,k2⟩:=k _ hr'
  exact⟨s',(da v b (σ.next+i) _ hc rfl rfl hv).trans k1,k2⟩
 refine⟨⟨hn,_,rfl⟩,h2,⟨fun c hc=>?_,h3.le,fun c hc hS=>?_⟩,fun h hh id hid hS=>?_,fun h hh j hj hb=>?_,h6⟩
 ·have hc:σc.next≤c:=hc
  show lookF ((σ.next+i,b)::σc.bl) c=none
  rw[lookF_cons,if_neg (by simp only[];omega)];exact h3.tidy c hc
 ·show lookF ((σ.next+i,b)::σc.bl) c=_
  rw[lookF_cons,if_neg (by simp only[];omega)];exact h3.same c hc hS
 ·obtain⟨h',hh',rfl⟩:=List.mem_map.1 hh
  rw[look_cons_ne (by omega)];exact h4 _ hh' id hid hS
 ·obtain⟨h',hh',rfl⟩:=List.mem_map.1 hh
  rw[Nat.testBit_or,Bool.or_eq_false_iff]at hb
  have hne:i≠j:=fun he=>by
   subst he
   have:=hb.2
   rw[Nat.testBit_two_pow_self]at this
   cases this
  rw[look_cons_ne (by omega)];exact h5 _ hh' j hj hb.1
theorem goq_k (v:V) {σ2:H} (hr:RegOk E σ n S nx ss am ls σc) (hc:o.cls = .k) (hva:∀j,j<n→am.testBit j=true→anc.testBit j=true) {S':Nat→Prop} (hf:Fr S' σc σ2) (hS:∀b,b<σ.next→S' b→S b) (hg:∀b,S' b→σ.next≤b→b<σ.next+n→False) (hv:den1 E D o (restr lk e) σc=some (v,σ2))
  (k:∀nx' ss',RegOk E σ n S nx' ss' am ls σ2→GoesQ Q E D σ n (i+1) l pl ⟨putE e d v,nx',ss',i::ks,am,ls⟩) :
  GoesQ Q E D σ n i (⟨d,o,none⟩::l) (⟨anc,lk⟩::pl) ⟨e,nx,ss,ks,am,ls⟩:=by
 obtain⟨⟨hn,r,rfl⟩,h2,h3,h4,h5,h6⟩:=hr
 subst hn
 have le:=hf.le
 have f02:Fr S σ σ2:=h3.trans hf hS
 suffices hr':RegOk E σ n S σ2.next (σ2.bl::σc.bl::r) am ls σ2 by
  obtain⟨s',k1,k2⟩:=k σ2.next (σ2.bl::σc.bl::r) hr'
  refine⟨s',(dk v σ2.next σ2.bl hc (hide_keep fun j hj hp=>?_) hv).trans k1,k2⟩
  refine h5 _ List.mem_cons_self j hj ?_
  cases ha:am.testBit j with
  | false=>rfl
  | true=>
   exfalso
   unfold visK at hp
   rw[ha,hva j hj ha]at hp
   cases hp
 refine⟨⟨rfl,_,rfl⟩,by omega,f02,fun h hh id hid hS=>?_,fun h hh j hj hb=>?_,h6⟩
 ·rcases List.mem_cons.1 hh with rfl|hh
  ·rw[←lookF_eq,←lookF_eq];exact f02.same id hid hS
  ·exact h4 _ hh id hid hS
 ·rcases List.mem_cons.1 hh with rfl|hh
  ·have:=hf.same (σ.next+j) (by omega) (fun hs=>hg _ hs (by omega) (by omega))
   rw[←lookF_eq,this,lookF_eq]
   exact h5 _ List.mem_cons_self j hj hb
  ·exact h5 _ hh j hj hb
def EndSt (E:List (Nat × Blk)) (σ:H) (n:Nat) (pl:List DP) (env:Env) (σ':H) (s:DS):Prop:=
 s.e=env∧s.nx=σ'.next∧(∃r,s.ss=σ'.bl::r)∧s.ls.all (fun(j,op,em,v)=>checkL E σ.next n pl s.am j op em v s.ss s.ks [])=true∧∀i,i<n→s.am.testBit i=false→look σ'.bl (σ.next+i)=none
theorem goq_end {pl0:List DP} {S2:Nat→Prop} {σ2:H} (v:V) (hr:RegOk E σ n S nx ss am ls σc) (hc:o.cls = .k) (hva:∀j,j<n→am.testBit j=true→anc.testBit j=true) (hf:Fr S2 σc σ2) (hg:∀b,S2 b→σ.next≤b→b<σ.next+n→False)
  (hv:den1 E D o (restr lk e) σc=some (v,σ2)) (hl:∀x∈ls,legal pl0 x.1 (i::ks) []=false):GoesQ (EndSt E σ n pl0 (putE e d v) σ2) E D σ n i [⟨d,o,none⟩] [⟨anc,lk⟩] ⟨e,nx,ss,ks,am,ls⟩:=by
 obtain⟨⟨hn,r,rfl⟩,h2,h3,h4,h5,h6⟩:=hr
 subst hn
 refine⟨_,(dk v σ2.next σ2.bl hc (hide_keep fun j hj hp=>?_) hv).trans dsteps_nil,rfl,rfl,⟨_,rfl⟩,?_,fun j hj hb=>?_⟩
 ·refine h5 _ List.mem_cons_self j hj ?_
  cases ha:am.testBit j with
  | false=>rfl
  | true=>
   exfalso
   unfold visK at hp
   rw[ha,hva j hj ha]at hp
   cases hp
 ·refine List.all_eq_true.2 fun x hx=>?_
  show checkL E σ.next n pl0 am x.1 x.2.1 x.2.2.1 x.2.2.2 (σ2.bl::σc.bl::r) (i::ks) []=true
  rw[check_skip (hl x hx)]
  exact check_all (h6 x hx) _ _ _ h4
 ·have:=hf.same (σ.next+j) (by omega) (fun hs=>hg _ hs (by omega) (by omega))
  rw[←lookF_eq,this,lookF_eq]
  exact h5 _ List.mem_cons_self j hj hb
theorem goq_draw {ops:List AOper} (h:GoesQ (EndSt E σ ops.length pl env σ') E D σ ops.length 0 ops pl ⟨e,σ.next+ops.length,[σ.bl],[],0,[]⟩):drawW E D ops pl e σ=some (env,σ'):=by
 obtain⟨s',h1,rfl,hn,⟨r,hs⟩,hc,hg⟩:=h
 rw[drawW_of h1 hc hs]
 have:=(hide_keep (n0:=σ.next) (n:=ops.length) (p:=fun k=>s'.am.testBit k) (l:=σ'.bl) fun i hi hp=>hg i hi hp).1
 rw[this,hn]
end
end
end Go.Og
namespace Go.Og
noncomputable section
theorem st_den {E:List (Nat × Blk)} {D:Den} {σ:H} {b off n:Nat} {l cs:List V} {x y:AO} {e:Env} (ht:Tidy σ) (h:Atc σ b l) (hx:opv e x = .ptr b off) (hy:(opv e y).cells=cs) (hc:(Nat.beq cs.length n&&Nat.ble (off+n) l.length&&allOne cs)=true) :
  ∃σ',den1 E D (.store n x y) e σ=some (.dead,σ')∧Fr (fun k=>k=b) σ σ'∧Atc σ' b (spl l off cs):=by
 have hl:look σ.bl b=some (.cells l):=by rw[←lookF_eq];exact h
 refine⟨σ.set b (.cells (spl l off cs)),?_,⟨fun k hk=>?_,Nat.le_refl _,fun k hk hn=>?_⟩,?_⟩
 ·show (match opv e x with
   | .ptr b off=>match look σ.bl b with
    | some (.cells l)=>if(Nat.beq (opv e y).cells.length n&&Nat.ble (off+n) l.length&&allOne (opv e y).cells)=true then some (V.dead,σ.set b (.cells (spl l off (opv e y).cells)))else none
    | _=>none
   | _=>none)=_
  rw[hx]
  simp only[hl]
  rw[hy,if_pos hc]
 ·have hk:σ.next≤k:=hk
  have:=h.lt ht
  show lookF (repl σ.bl b _) k=none
  rw[lookF_eq,look_repl,if_neg (by omega),←lookF_eq]
  exact ht k hk
 ·show lookF (repl σ.bl b _) k=_
  rw[lookF_eq,look_repl,if_neg (fun e=>hn e.symm),lookF_eq]
 ·show lookF (repl σ.bl b _) b=_
  rw[lookF_eq,look_repl,if_pos rfl,hl];rfl
end
noncomputable section
section
variable {E:List (Nat × Blk)} {D:Den} {σ σc σ':H} {n i:Nat} {S:Nat→Prop} {d:Option Nat} {o:AOp} {g:Option (Nat × Bool)} {l:List AOper} {anc:Nat} {lk:List Nat} {pl:List DP} {e env:Env} {nx am:Nat} {ss:List (List (Nat × Blk))} {ks:List Nat} {ls:List (Nat × AOp × Env × V)}
end
end
end Go.Og
namespace Go.Og
noncomputable section
section
variable {E:List (Nat × Blk)} {D:Den} {σ σc σ':H} {n i:Nat} {S:Nat→Prop} {d:Option Nat} {o:AOp} {l:List AOper} {anc:Nat} {lk:List Nat} {pl:List DP} {e env:Env} {nx am:Nat} {ss:List (List (Nat × Blk))} {ks:List Nat} {ls:List (Nat × AOp × Env × V)}
end
end
end Go.Og
namespace Go.Og
noncomputable section
end
noncomputable section
def byteAt (v:Int) (j:Nat):Int:=(v / 2 ^ (8*j)) % 256
def octBE (v:Int):Nat→List Int
 | 0=>[]
 | n+1=>byteAt v n::octBE v n
theorem octBE_length (v:Int):∀n,(octBE v n).length=n
 | 0=>rfl
 | n+1=>by simp[octBE,octBE_length v n]
theorem octBE_get (v:Int):∀{n i:Nat},i<n→(octBE v n)[i]? = some (byteAt v (n-1-i))
 | n+1,0,_=>rfl
 | n+1,i+1,h=>by
  have:=octBE_get v (n:=n) (i:=i) (by omega)
  simp only[octBE,List.getElem?_cons_succ,this]
  congr 2;omega
def enough (v:Int) (n:Nat):Bool:=decide (v / 2 ^ (8*n-1)=0) || decide (v / 2 ^ (8*n-1) = -1)
def lenS (v:Int):Nat:=if enough v 1=true then 1 else if enough v 2=true then 2 else if enough v 3=true then 3 else if enough v 4=true then 4 else if enough v 5=true then 5 else if enough v 6=true then 6 else if enough v 7=true then 7 else 8
theorem lenS_range (v:Int):1≤lenS v∧lenS v≤8:=by
 unfold lenS
 repeat' split
 all_goals omega
theorem lenS_less (v:Int) {n:Nat} (h1:1≤n) (h2:n<lenS v):enough v n=false:=by
  unfold lenS at h2
  repeat' split at h2
  all_goals first
    | omega
    | (have:n=1∨n=2∨n=3∨n=4∨n=5∨n=6∨n=7:=by omega
       rcases this with rfl|rfl|rfl|rfl|rfl|rfl|rfl<;>first|omega|simp_all)
theorem lenS_at (v:Int) (h:lenS v<8):enough v (lenS v)=true:=by
 unfold lenS at h ⊢
 repeat' split
 all_goals first | assumption | (exfalso;simp_all)
def In64i (v:Int):Prop:=-9223372036854775808≤v∧v≤9223372036854775807
theorem lenS_enough {v:Int} (hv:In64i v):enough v (lenS v)=true:=by
 have hr:=lenS_range v
 rcases Nat.lt_or_ge (lenS v) 8 with h|h
 ·exact lenS_at v h
 ·have e:lenS v=8:=by omega
  rw[e]
  unfold enough
  simp only[show (2:Int) ^ (8*8-1)=9223372036854775808 from rfl,Bool.or_eq_true,decide_eq_true_eq]
  obtain⟨h1,h2⟩:=hv
  omega
theorem fdiv_pow (a:Int) (n:Nat):a.fdiv (2 ^ n)=a / 2 ^ n:=Int.fdiv_eq_ediv_of_nonneg _ (Int.le_of_lt (Int.pow_pos (by decide)))
theorem shr_i64 (v:Int) {n:Nat} (h:n≤64):shrF .i64 v n=v / 2 ^ n:=by
 rw[shrF_eq,show Nat.min n (IntKind.bits .i64)=n from Nat.min_eq_left h,fdiv_pow]
theorem shr_u64 (v:Int) {n:Nat} (h:n≤64):shrF .u64 v n=v / 2 ^ n:=by
 rw[shrF_eq,show Nat.min n (IntKind.bits .u64)=n from Nat.min_eq_left h,fdiv_pow]
theorem wrap_u8 (v:Int):wrapF .u8 v=v % 256:=by rw[wrapF_eq];rfl
theorem wrap_u64 (v:Int):wrapF .u64 v=v % 18446744073709551616:=by rw[wrapF_eq];rfl
theorem byte_u64 (v:Int) {j:Nat} (h:j<8):wrapF .u8 (shrF .u64 (wrapF .u64 v) (8*j))=byteAt v j:=by
 rw[shr_u64 _ (by omega),wrap_u8,wrap_u64]
 unfold byteAt
 have:j=0∨j=1∨j=2∨j=3∨j=4∨j=5∨j=6∨j=7:=by omega
 rcases this with rfl|rfl|rfl|rfl|rfl|rfl|rfl|rfl
 ·simp only[show (2:Int) ^ (8*0)=1 from rfl];omega
 ·simp only[show (2:Int) ^ (8*1)=256 from rfl];omega
 ·simp only[show (2:Int) ^ (8*2)=65536 from rfl];omega
 ·simp only[show (2:Int) ^ (8*3)=16777216 from rfl];omega
 ·simp only[show (2:Int) ^ (8*4)=4294967296 from rfl];omega
 ·simp only[show (2:Int) ^ (8*5)=1099511627776 from rfl];omega
 ·simp only[show (2:Int) ^ (8*6)=281474976710656 from rfl];omega
 ·simp only[show (2:Int) ^ (8*7)=72057594037927936 from rfl];omega
theorem byte_i64 (v:Int) (j:Nat):wrapF .u8 (v / 2 ^ (8*j))=byteAt v j:=wrap_u8 _
theorem down8 (v:Int) (j:Nat):shrF .i64 (v / 2 ^ (8*j)) 8=v / 2 ^ (8*(j+1)):=by
 rw[shr_i64 _ (by decide),Int.ediv_ediv_of_nonneg (Int.le_of_lt (Int.pow_pos (by decide))),←Int.pow_add,Nat.mul_add]
theorem small_iff (v:Int) {n:Nat} (h1:1≤n):enough v n=(decide (-128≤v / 2 ^ (8*(n-1)))&&decide (v / 2 ^ (8*(n-1))≤127)):=by
 have e:v / 2 ^ (8*n-1)=v / 2 ^ (8*(n-1)) / 128:=by
  rw[show (128:Int)=2 ^ 7 from rfl,Int.ediv_ediv_of_nonneg (Int.le_of_lt (Int.pow_pos (by decide))),←Int.pow_add]
  congr 2;omega
 unfold enough
 rw[e]
 generalize v / 2 ^ (8*(n-1))=x
 rw[Bool.eq_iff_iff]
 simp only[Bool.or_eq_true,Bool.and_eq_true,decide_eq_true_eq]
 omega
theorem spl_at:∀(a:List V) (x:V) (r:List V) (c:V),spl (a++x::r) a.length [c]=a++c::r
 | [],x,r,c=>by cases r<;>simp[spl]
 | y::a,x,r,c=>by
  show y::spl (a++x::r) a.length [c]=_
  rw[spl_at a x r c];rfl
def u8s (l:List Int):List V:=l.map fun c => .int .u8 c
theorem u8s_length (l:List Int):(u8s l).length=l.length:=by simp[u8s]
theorem u8s_app (l m:List Int):u8s (l++m)=u8s l++u8s m:=by simp[u8s]
theorem u8s_one:∀l:List Int,allOne (u8s l)=true
 | []=>rfl
 | c::l=>u8s_one l
theorem u8s_bytes:∀l:List Int,bytesOf (u8s l)=some (l.map fun c=>UInt8.ofNat c.toNat)
 | []=>rfl
 | c::l=>by
  show (bytesOf (u8s l)).map _=_
  rw[u8s_bytes l];rfl
def By (σ:H) (v:V) (l:List Int):Prop:=Src σ 1 l.length v (u8s l)
def Nb (σ0 σ:H) (v:V) (l:List Int):Prop:=Dst σ 1 l.length v (u8s l)∧∀b,Names v b→σ0.next≤b
theorem Nb.by_ {σ0 σ:H} {v:V} {l:List Int} (h:Nb σ0 σ v l):By σ v l:=h.1.src
theorem By.one {σ:H} {v:V} {l:List Int} (h:By σ v l):v.one=true:=Src.one h
theorem By.slen {σ:H} {v:V} {l:List Int} (h:By σ v l) (κ:Nat→Ans):slenK v κ=κ l.length:=Src.slen h
theorem By.fr {σ σ':H} {v:V} {l:List Int} (h:By σ v l) (f:Fr Nowhere σ σ') (ht:Tidy σ):By σ' v l:=Src.fr h f ht (fun _ _ h=>h)
theorem Nb.fr {σ0 σ σ':H} {v:V} {l:List Int} (h:Nb σ0 σ v l) (f:Fr Nowhere σ σ') (ht:Tidy σ):Nb σ0 σ' v l:=⟨h.1.fr f ht (fun _ _ h=>h),h.2⟩
theorem Nb.mono {σ0 σ1 σ:H} {v:V} {l:List Int} (h:Nb σ1 σ v l) (hl:σ0.next≤σ1.next):Nb σ0 σ v l:=⟨h.1,fun b hb=>Nat.le_trans hl (h.2 b hb)⟩
theorem Nb.nil (σ0 σ:H):Nb σ0 σ .nils []:=⟨Dst.nil σ 1,fun _ h=>h.elim⟩
theorem Nb.lit {σ0 σ:H} {b:Nat} {l:List Int} (ha:Atc σ b (u8s l)) (hb:σ0.next≤b):Nb σ0 σ (.sl b 0 l.length (.ex l.length)) l:=
 ⟨.inr ⟨b,rfl,ha,by rw[u8s_length,Nat.mul_one]⟩,fun c hc=>by cases hc;exact hb⟩
theorem By.str {E:List (Nat × Blk)} {σ:H} {v:V} {l:List Int} (h:By σ v l) (κ:BS→Ans):toStrK E σ v κ=κ (BS.ofList (l.map fun c=>UInt8.ofNat c.toNat)):=by
 have hs:∀κ',srcK E σ 1 v κ'=κ' l.length (u8s l):=fun κ'=>Src.srcK h
 unfold toStrK
 rcases h with ⟨_,rfl,_⟩|⟨_,_,_,_,rfl,_⟩
 ·simp only[];rw[hs,u8s_bytes]
 ·simp only[];rw[hs,u8s_bytes]
theorem app_by {E:List (Nat × Blk)} {σ0 σ:H} {v x:V} {l m:List Int} (h:Nb σ0 σ v l) (f0:Fr Nowhere σ0 σ) (hx:By σ x m) (hs:l.length+m.length≤10000000) :
  ∃u σ',(∀κ:V→H→Ans,appK E 1 1 v x σ κ=κ u σ')∧Nb σ0 σ' u (l++m)∧Fr Nowhere σ0 σ'∧Fr (fun b=>σ0.next≤b) σ σ':=by
 obtain⟨u,σ',g,d,n,f⟩:=app_all (E:=E) (bytes:=1) h.1 f0.tidy hx (u8s_one m) (by
  unfold growable
  simp only[Nat.mul_one,Bool.and_eq_true,Nat.ble_eq];omega)
 have hle:=f0.le
 refine⟨u,σ',g,⟨by rw[List.length_append,u8s_app];exact d,fun b hb=>?_⟩,f0.trans f (fun b hb hn=>by have:=h.2 b hn;omega),f.mono fun b _ hb=>h.2 b hb⟩
 rcases n b hb with h'|h'
 ·exact h.2 b h'
 ·omega
theorem one_live {v:V} (h:v.one=true):v.live=true∧v.cells=[v]:=by
 cases v<;>first | exact⟨rfl,rfl⟩ | cases h
theorem fill1 {u:V} (h:u.one=true) (κ:List V→Ans):fillK [(0,1,u)] [.nils] κ=κ [u]:=by
 obtain⟨h1,h2⟩:=one_live h
 unfold fillK fillA
 rw[h1,h2]
 rfl
theorem fill2 {u w:V} (h:u.one=true) (k:w.one=true) (κ:List V→Ans):fillK [(0,1,u),(1,1,w)] [.nils,.nils] κ=κ [u,w]:=by
 obtain⟨h1,h2⟩:=one_live h
 obtain⟨k1,k2⟩:=one_live k
 unfold fillK fillA fillA
 rw[h1,h2,k1,k2]
 rfl
theorem fill3 {u w x:V} (h:u.one=true) (k:w.one=true) (l:x.one=true) (κ:List V→Ans):fillK [(0,1,u),(1,1,w),(2,1,x)] [.nils,.nils,.nils] κ=κ [u,w,x]:=by
 obtain⟨h1,h2⟩:=one_live h
 obtain⟨k1,k2⟩:=one_live k
 obtain⟨l1,l2⟩:=one_live l
 unfold fillK fillA fillA fillA
 rw[h1,h2,k1,k2,l1,l2]
 rfl
end
noncomputable section
def bit (L:List Nat) (i:Nat):Nat:=L.getD i 0
end
noncomputable section
theorem ofInt_nat (n a:Nat):(BitVec.ofInt n (Int.ofNat a)).toNat=a % 2 ^ n:=by
 rw[show Int.ofNat a=((a:Nat):Int)from rfl,BitVec.ofInt_natCast,BitVec.toNat_ofNat]
theorem shr_nat {k:IntKind} {a n:Nat} (h:n≤k.bits):shrF k (Int.ofNat a) n=Int.ofNat (a / 2 ^ n):=by
 rw[shrF_eq,show Nat.min n k.bits=n from Nat.min_eq_left h,fdiv_pow]
 rw[show Int.ofNat a=((a:Nat):Int)from rfl,show Int.ofNat (a / 2 ^ n)=((a / 2 ^ n:Nat):Int)from rfl,Int.natCast_ediv,Int.natCast_pow];rfl
def nI (L:List Nat):List Int:=L.map Int.ofNat
theorem nI_length (L:List Nat):(nI L).length=L.length:=by simp[nI]
end
end Go.Og
set_option maxHeartbeats 0
namespace Go.Proofs.YtgblfbajgpboiaaGreatDoor
open Go Go.Og
noncomputable section
def eAw:Few:=⟨100,[],
 [],
 .bool true,236,
 []⟩
theorem eAw_right:eAw.right 2 ((DT [] 100000 60) 5)=true:=by kernel_rfl
theorem eAw_shape:eAw.shape=true:=by kernel_rfl
def kn:List (Nat × List Few):=[(5,[eAw])]
def TW (E:List (Nat × Blk)) (d:Nat):Den:=Nat.rec (fun _ _ _=>none) (fun _ ih f=>match lookF kn f with
 | some l=>locF l (BD E 600000 ih f)
 | none=>BD E 600000 ih f) d
theorem kn_right:∀p∈kn,∀e∈p.2,e.right 2 (DT [] 100000 60 p.1)=true:=by
 unfold kn
 simp only[List.forall_mem_cons,List.not_mem_nil,false_implies,implies_true,and_true]
 exact eAw_right
theorem TW_ok (E:List (Nat × Blk)):∀(d:Nat) (f:FuncId),SoundFn Tryz.prog E glob f (TW E d f):=by
 intro d
 induction d with
 | zero=>intro f C _ _ R σ w args xs v σ' h;cases h
 | succ d ih=>
  intro f
  show SoundFn Tryz.prog E glob f (match lookF kn f with
   | some l=>locF l (BD E 600000 (TW E d) f)
   | none=>BD E 600000 (TW E d) f)
  split
  ·rename_i l hl
   rw[lookF_eq]at hl
   exact locF_ok (BD_ok E 600000 (TW E d) ih f) (DT_ok [] 100000 60 f) globLt (kn_right _ (look_mem hl))
  ·exact BD_ok E 600000 (TW E d) ih f
abbrev tw (E:List (Nat × Blk)) (d:Nat) (F:List (Nat × Blk)→Den→DrawFn→Nat→List V→H→Ans):List V→H→Ans:=F E (TW E d) (drawW E (TW E d)) 600000
section
variable (E:List (Nat × Blk)) (d:Nat)
theorem DE6:TW E (d+1) 6=tw E d F6:=by kernel_rfl
theorem DE7:TW E (d+1) 7=tw E d F7:=by kernel_rfl
theorem DE8:TW E (d+1) 8=tw E d F8:=by kernel_rfl
theorem DE9:TW E (d+1) 9=tw E d F9:=by kernel_rfl
theorem DE10:TW E (d+1) 10=tw E d F10:=by kernel_rfl
theorem DE11:TW E (d+1) 11=tw E d F11:=by kernel_rfl
theorem DE12:TW E (d+1) 12=tw E d F12:=by kernel_rfl
theorem DE13:TW E (d+1) 13=tw E d F13:=by kernel_rfl
theorem DE14:TW E (d+1) 14=tw E d F14:=by kernel_rfl
theorem DE15:TW E (d+1) 15=tw E d F15:=by kernel_rfl
theorem DE16:TW E (d+1) 16=tw E d F16:=by kernel_rfl
theorem DE17:TW E (d+1) 17=tw E d F17:=by kernel_rfl
theorem DE18:TW E (d+1) 18=tw E d F18:=by kernel_rfl
theorem DE19:TW E (d+1) 19=tw E d F19:=by kernel_rfl
theorem DE20:TW E (d+1) 20=tw E d F20:=by kernel_rfl
theorem DE21:TW E (d+1) 21=tw E d F21:=by kernel_rfl
theorem DE22:TW E (d+1) 22=tw E d F22:=by kernel_rfl
theorem DE23:TW E (d+1) 23=tw E d F23:=by kernel_rfl
theorem DE25:TW E (d+1) 25=tw E d F25:=by kernel_rfl
theorem DE26:TW E (d+1) 26=tw E d F26:=by kernel_rfl
theorem DE27:TW E (d+1) 27=tw E d F27:=by kernel_rfl
theorem DE28:TW E (d+1) 28=tw E d F28:=by kernel_rfl
theorem DE29:TW E (d+1) 29=tw E d F29:=by kernel_rfl
theorem DE30:TW E (d+1) 30=tw E d F30:=by kernel_rfl
theorem DE31:TW E (d+1) 31=tw E d F31:=by kernel_rfl
theorem DE32:TW E (d+1) 32=tw E d F32:=by kernel_rfl
theorem DE34:TW E (d+1) 34=tw E d F34:=by kernel_rfl
theorem DE35:TW E (d+1) 35=tw E d F35:=by kernel_rfl
theorem DE37:TW E (d+1) 37=tw E d F37:=by kernel_rfl
theorem DE38:TW E (d+1) 38=tw E d F38:=by kernel_rfl
theorem DE39:TW E (d+1) 39=tw E d F39:=by kernel_rfl
theorem DE40:TW E (d+1) 40=tw E d F40:=by kernel_rfl
theorem DE41:TW E (d+1) 41=tw E d F41:=by kernel_rfl
theorem DE42:TW E (d+1) 42=tw E d F42:=by kernel_rfl
theorem DE43:TW E (d+1) 43=tw E d F43:=by kernel_rfl
theorem DE44:TW E (d+1) 44=tw E d F44:=by kernel_rfl
theorem DE45:TW E (d+1) 45=tw E d F45:=by kernel_rfl
theorem DE47:TW E (d+1) 47=tw E d F47:=by kernel_rfl
theorem DE48:TW E (d+1) 48=tw E d F48:=by kernel_rfl
theorem DE49:TW E (d+1) 49=tw E d F49:=by kernel_rfl
theorem DE51:TW E (d+1) 51=tw E d F51:=by kernel_rfl
theorem DE52:TW E (d+1) 52=tw E d F52:=by kernel_rfl
theorem DE54:TW E (d+1) 54=tw E d F54:=by kernel_rfl
theorem DE57:TW E (d+1) 57=tw E d F57:=by kernel_rfl
theorem DE58:TW E (d+1) 58=tw E d F58:=by kernel_rfl
theorem DE59:TW E (d+1) 59=tw E d F59:=by kernel_rfl
theorem DE60:TW E (d+1) 60=tw E d F60:=by kernel_rfl
theorem DE64:TW E (d+1) 64=tw E d F64:=by kernel_rfl
theorem DE65:TW E (d+1) 65=tw E d F65:=by kernel_rfl
theorem DE66:TW E (d+1) 66=tw E d F66:=by kernel_rfl
theorem DE67:TW E (d+1) 67=tw E d F67:=by kernel_rfl
theorem DE68:TW E (d+1) 68=tw E d F68:=by kernel_rfl
theorem DE69:TW E (d+1) 69=tw E d F69:=by kernel_rfl
theorem DE72:TW E (d+1) 72=tw E d F72:=by kernel_rfl
theorem DE73:TW E (d+1) 73=tw E d F73:=by kernel_rfl
theorem DE74:TW E (d+1) 74=tw E d F74:=by kernel_rfl
theorem DE75:TW E (d+1) 75=tw E d F75:=by kernel_rfl
theorem DE79:TW E (d+1) 79=tw E d F79:=by kernel_rfl
theorem DE80:TW E (d+1) 80=tw E d F80:=by kernel_rfl
theorem DE83:TW E (d+1) 83=tw E d F83:=by kernel_rfl
theorem DE94:TW E (d+1) 94=tw E d F94:=by kernel_rfl
theorem DE98:TW E (d+1) 98=tw E d F98:=by kernel_rfl
theorem DE116:TW E (d+1) 116=tw E d F116:=by kernel_rfl
theorem DE117:TW E (d+1) 117=tw E d F117:=by kernel_rfl
end
theorem DE5 (E:List (Nat × Blk)) (d:Nat):TW E (d+1) 5=locF [eAw] (BD E 600000 (TW E d) 5):=by kernel_rfl
theorem mk_new {σ:H} (ht:Tidy σ) (z:List V):∃σ1,newB σ (.cells z)=σ1∧Fr Nowhere σ σ1∧Atc σ1 σ.next z∧σ1.next=σ.next+1:=⟨_,rfl,Fr.new ht _,Atc_newB _,rfl⟩
theorem mk_set {σ:H} {b:Nat} {l:List V} (ht:Tidy σ) (h:Atc σ b l) (z:List V):∃σ1,setF σ b (.cells z)=σ1∧Fr (fun k=>k=b) σ σ1∧Atc σ1 b z:=⟨_,rfl,Fr.set ht (h.lt ht) _,Atc_setF _⟩
structure Wr (σ:H) (w:Nat) (u:V) (L:List Nat):Prop where
 at_:Atc σ w [u]
 d:Dst σ 1 L.length u (u8s (nI L))
 ne:¬Names u w
def Own1 (w:Nat) (u:V):Nat→Prop:=fun b=>b=w∨Names u b
structure Wst (σ:H) (w:Nat) (u:V) (σ':H) (u':V) (L':List Nat):Prop where
 wr:Wr σ' w u' L'
 f:Fr (Own1 w u) σ σ'
 g:∀b,Names u' b→Names u b∨σ.next≤b
section
variable {E:List (Nat × Blk)} {σ σ1 σ2:H} {w:Nat} {u u1 u2:V} {L L1 L2:List Nat}
theorem Wst.refl (h:Wr σ w u L) (ht:Tidy σ):Wst σ w u σ u L:=⟨h,Fr.refl ht,fun _ hb => .inl hb⟩
theorem Wst.trans (h:Wst σ w u σ1 u1 L1) (k:Wst σ1 w u1 σ2 u2 L2):Wst σ w u σ2 u2 L2:=by
 refine⟨k.wr,h.f.trans k.f (fun b hb hn=>?_),fun b hb=>?_⟩
 ·rcases hn with hn|hn
  ·exact .inl hn
  ·rcases h.g b hn with h'|h'
   ·exact .inr h'
   ·omega
 ·rcases k.g b hb with h'|h'
  ·exact h.g b h'
  ·exact .inr (Nat.le_trans h.f.le h')
theorem Wr.fr (h:Wr σ w u L) (f:Fr Nowhere σ σ1) (ht:Tidy σ):Wr σ1 w u L:=⟨f.at_ h.at_ ht (fun h=>h),h.d.fr f ht (fun _ _ h=>h),h.ne⟩
theorem Wst.and (h:Wst σ w u σ1 u1 L1) (f:Fr Nowhere σ1 σ2):Wst σ w u σ2 u1 L1:=
 ⟨h.wr.fr f h.f.tidy,h.f.trans f (fun _ _ h=>h.elim),h.g⟩
def Off (σ:H) (w:Nat) (u:V) (b:Nat):Prop:=b<σ.next∧b≠w∧¬Names u b
theorem Wst.off (h:Wst σ w u σ1 u1 L1) {b:Nat} (o:Off σ w u b):Off σ1 w u1 b:=
 ⟨Nat.lt_of_lt_of_le o.1 h.f.le,o.2.1,fun hb=>(h.g b hb).elim o.2.2 (by have:=o.1;omega)⟩
theorem Off.not {b:Nat} (o:Off σ w u b):¬Own1 w u b:=fun h=>h.elim o.2.1 o.2.2
theorem Off.fr {b:Nat} (o:Off σ w u b) (f:Fr Nowhere σ σ1):Off σ1 w u b:=⟨Nat.lt_of_lt_of_le o.1 f.le,o.2⟩
theorem Off.new (h:Wr σ w u L) (ht:Tidy σ) {b:Nat} (hb:σ.next≤b) (hb':b<σ1.next):Off σ1 w u b:=
 ⟨hb',fun e=>by have:=h.at_.lt ht;omega,fun hn=>by have:=h.d.lt ht hn;omega⟩
theorem Wst.at_ (h:Wst σ w u σ1 u1 L1) (ht:Tidy σ) {b:Nat} {l:List V} (o:Off σ w u b) (ha:Atc σ b l):Atc σ1 b l:=h.f.at_ ha ht o.not
theorem Wst.by_ (h:Wst σ w u σ1 u1 L1) (ht:Tidy σ) {x:V} {l:List Int} (o:∀b,Names x b→Off σ w u b) (hx:By σ x l):By σ1 x l:=Src.fr hx h.f ht fun b hb=>(o b hb).not
def AtE (E:List (Nat × Blk)) (σ:H) (b:Nat) (l:List V):Prop:=lookF σ.bl b=some (.cells l)∨(lookF σ.bl b=none∧lookF E b=some (.cells l))
def Sq (E:List (Nat × Blk)) (σ:H) (x:V) (l:List Int):Prop:=(l=[]∧x = .nils)∨(∃b o c,l=[]∧x = .sl b o 0 c)∨∃b o c M,x = .sl b o l.length c∧AtE E σ b M∧o+l.length≤M.length∧u8s l=(M.drop o).take l.length
theorem Sq.of {x:V} {l:List Int} (h:By σ x l):Sq E σ x l:=by
 rcases h with ⟨h0,rfl,_⟩|⟨b,o,c,M,rfl,ha,hl,hm⟩
 ·exact .inl ⟨List.eq_nil_of_length_eq_zero h0,rfl⟩
 ·exact .inr (.inr ⟨b,o,c,M,rfl,.inl ha,by omega,by rw[hm,Nat.mul_one]⟩)
theorem Sq.one {x:V} {l:List Int} (h:Sq E σ x l):x.one=true:=by
 rcases h with ⟨_,rfl⟩|⟨_,_,_,_,rfl⟩|⟨_,_,_,_,rfl,_⟩<;>rfl
theorem Sq.slen {x:V} {l:List Int} (h:Sq E σ x l) (κ:Nat→Ans):slenK x κ=κ l.length:=by
 rcases h with ⟨rfl,rfl⟩|⟨_,_,_,rfl,rfl⟩|⟨_,_,_,_,rfl,_⟩<;>rfl
theorem Sq.keep {x:V} {l:List Int} (h:Sq E σ x l) (hs:∀b,Names x b→lookF σ1.bl b=lookF σ.bl b):Sq E σ1 x l:=by
 rcases h with h|h|⟨b,o,c,M,rfl,ha,hl,hm⟩
 ·exact .inl h
 ·exact .inr (.inl h)
 ·refine .inr (.inr ⟨b,o,c,M,rfl,?_,hl,hm⟩)
  unfold AtE at *
  rw[hs b rfl];exact ha
theorem Sq.fr {x:V} {l:List Int} (hx:Sq E σ x l) (f:Fr Nowhere σ σ1) (o:∀b,Names x b→b<σ.next):Sq E σ1 x l:=hx.keep fun b hb=>f.same b (o b hb) fun h=>h
end
def vc (k n:Int) (b l:V) (r:Int) (m:V):List V:=[.int .i64 k,.int .i64 n,b,l,.int .i64 r,m]
def bitU (u:Int) (k:Nat):Bool:=!eqF (andF .i64 u (Int.ofNat k)) (Int.ofNat 0)
def plainB (u k n:Int) (nb nl:Nat) (r:Int) (nm:Nat):Bool:=
 (((bitU u 1 || eqF n (Int.ofNat 0))&&(bitU u 2 || eqF (Int.ofNat nb) (Int.ofNat 0)))&&(bitU u 4 || eqF (Int.ofNat nl) (Int.ofNat 0)))&&(bitU u 8 || (eqF r (Int.ofNat 0)&&eqF (Int.ofNat nm) (Int.ofNat 0)))
def SpPlain (F:List V→H→Ans):Prop:=∀(σ:H) (u k n r:Int) (b l m:V) (nb nl nm:Nat),Tidy σ→Len b nb→Len l nl→Len m nm →
 ∃σ',F [.agg (vc k n b l r m),.int .i64 u] σ=some (.bool (plainB u k n nb nl r nm),σ')∧Fr Nowhere σ σ'
section
variable {E:List (Nat × Blk)} {D:Den} {W:DrawFn} {N:Nat}
theorem plain_F:SpPlain (F51 E D W N):=by
 intro σ u k n r b l m nb nl nm ht hb hl hm
 obtain⟨σ1,e1,f1,a1,n1⟩:=mk_new ht (vc k n b l r m)
 refine⟨σ1,?_,f1⟩
 unfold vc at *
 show T51_0 E D W k n b l r m u σ=_
 unfold T51_0
 simp -implicitDefEqProofs only [cells_agg,cells_int,cells_ptr,allOne_cons,allOne_nil,one_int,one_bool,one_str,one_nils,one_sl,one_ptr,Bool.and_true,chk_t,nthK_zero,nthK_succ,subK_2,subK_4,subK_5,subK_6,subK_13,subK_con,rtInt_int,rtBool_bool,rtStr_str,rtPtr_ptr,rtAgg_agg,rtTup_tup,rtCons_cons,rtNil_nil,rtOne_nils,rtOne_pt,rtOne_sl,slenK_nils,slenK_sl,callK_some_,condK_true,condK_false,join_or,join_and,join_id,Nat.add_eq,Nat.zero_add,Bool.not_true,Bool.not_false,rC,hb.1,hl.1,hm.1,e1,ldK_is a1,ldnK_is a1,hb.2,hl.2,hm.2]
 rfl
def withinB (h hl hh:Bool) (lo hi v:Int):Bool:=!h || ((!hl || leF lo v)&&(!hh || leF v hi))
theorem within_F {σ:H} (ht:Tidy σ) (h hl hh mo:Bool) (lo hi v:Int) :
  ∃σ',F52 E D W N [.agg [.bool h,.bool hl,.bool hh,.bool mo,.int .i64 lo,.int .i64 hi],.int .i64 v] σ=some (.bool (withinB h hl hh lo hi v),σ')∧Fr Nowhere σ σ':=by
 obtain⟨σ1,e1,f1,a1,n1⟩:=mk_new ht [.bool h,.bool hl,.bool hh,.bool mo,.int .i64 lo,.int .i64 hi]
 refine⟨σ1,?_,f1⟩
 show T52_0 E D W h hl hh mo lo hi v σ=_
 unfold T52_0
 simp -implicitDefEqProofs only [cells_agg,cells_int,cells_ptr,allOne_cons,allOne_nil,one_int,one_bool,one_str,one_nils,one_sl,one_ptr,Bool.and_true,chk_t,nthK_zero,nthK_succ,subK_2,subK_4,subK_5,subK_6,subK_13,subK_con,rtInt_int,rtBool_bool,rtStr_str,rtPtr_ptr,rtAgg_agg,rtTup_tup,rtCons_cons,rtNil_nil,rtOne_nils,rtOne_pt,rtOne_sl,slenK_nils,slenK_sl,callK_some_,condK_true,condK_false,join_or,join_and,join_id,Nat.add_eq,Nat.zero_add,Bool.not_true,Bool.not_false,rC,e1,ldK_is a1,ldnK_is a1]
 rfl
structure Ty where
 kind:Int
 tags:V
 has:Bool
 hasLow:Bool
 hasHigh:Bool
 conMore:Bool
 low:Int
 high:Int
 items:V
 fields:V
 root:Int
 more:Bool
 of_:Int
 oneT:tags.one=true
 oneI:items.one=true
 oneF:fields.one=true
def Ty.c (x:Ty):List V:=[.int .i64 x.kind,x.tags,.bool x.has,.bool x.hasLow,.bool x.hasHigh,.bool x.conMore,.int .i64 x.low,.int .i64 x.high,x.items,x.fields,.int .i64 x.root,.bool x.more,.int .i64 x.of_]
structure Fd where
 name:BS
 type:Int
 opt:Bool
 has:Bool
 d0:Int
 d1:Int
 d2:V
 d3:V
 d4:Int
 d5:V
 group:Int
 one2:d2.one=true
 one3:d3.one=true
 one5:d5.one=true
def Fd.c (x:Fd):List V:=[.str x.name,.int .i64 x.type,.bool x.opt,.bool x.has,.int .i64 x.d0,.int .i64 x.d1,x.d2,x.d3,.int .i64 x.d4,x.d5,.int .i64 x.group]
def Cel (L:List V) (esz k:Nat) (c:List V):Prop:=k*esz+esz≤L.length∧(L.drop (k*esz)).take esz=c
theorem Cel.sub {L:List V} {esz k:Nat} {c:List V} (h:Cel L esz k c) (κ:List V→Ans):subK L (0+k*esz) esz κ=κ c:=by
 rw[Nat.zero_add,subK_of h.1,h.2]
theorem Cel.get {L:List V} {esz k:Nat} {c:List V} (h:Cel L esz k c) {j:Nat} {v:V} (hj:c[j]? = some v) (κ:V→Ans):nthK L (0+k*esz+j) κ=κ v:=by
 refine nthK_of ?_
 rw[nthF_eq,←hj,←h.2]
 obtain⟨hlt,_⟩:=List.getElem?_eq_some_iff.1 hj
 have hc:c.length≤esz:=by rw[←h.2];simp only[List.length_take];omega
 rw[List.getElem?_take,if_pos (by omega),List.getElem?_drop,Nat.zero_add]
structure Row (σ:H) (esz n:Nat) (v:V) (g:Nat→List V):Prop where
 is:(n=0∧v = .nils)∨∃b c L,v = .sl b 0 n c∧Atc σ b L∧∀k,k<n→Cel L esz k (g k)
theorem Row.len {σ:H} {esz n:Nat} {v:V} {g:Nat→List V} (h:Row σ esz n v g):Len v n:=by
 rcases h.is with ⟨rfl,rfl⟩|⟨b,c,L,rfl,_⟩
 ·exact Len.nils
 ·exact Len.sl
theorem Row.fr {S:Nat→Prop} {σ σ':H} {esz n:Nat} {v:V} {g:Nat→List V} (h:Row σ esz n v g) (f:Fr S σ σ') (ht:Tidy σ) (hS:∀b,Names v b→¬S b):Row σ' esz n v g:=by
 rcases h.is with h|⟨b,c,L,rfl,ha,hc⟩
 ·exact⟨.inl h⟩
 ·exact⟨.inr ⟨b,c,L,rfl,f.at_ ha ht (hS b rfl),hc⟩⟩
theorem Row.fr0 {σ σ':H} {esz n:Nat} {v:V} {g:Nat→List V} (h:Row σ esz n v g) (f:Fr Nowhere σ σ') (ht:Tidy σ):Row σ' esz n v g:=h.fr f ht (fun _ _ h=>h)
theorem Row.all {E:List (Nat × Blk)} {σ:H} {esz n:Nat} {v:V} {g:Nat→List V} (h:Row σ esz n v g) {k:Nat} (hk:k<n) (κ:List V→Ans) :
  iaddrSK esz v (Int.ofNat k) (fun b o=>ldnK E σ b o esz κ)=κ (g k):=by
 rcases h.is with ⟨rfl,rfl⟩|⟨b,c,L,rfl,ha,hc⟩
 ·omega
 ·rw[iaddrSK_lt hk]
  show ldnK E σ b (0+k*esz) esz κ=_
  rw[ldnK_is ha,(hc k hk).sub]
theorem Row.one {E:List (Nat × Blk)} {σ:H} {esz n:Nat} {v:V} {g:Nat→List V} (h:Row σ esz n v g) {k:Nat} (hk:k<n) {j:Nat} {u:V} (hj:(g k)[j]? = some u) (κ:V→Ans) :
  iaddrSK esz v (Int.ofNat k) (fun b o=>ldK E σ b (o+j) κ)=κ u:=by
 rcases h.is with ⟨rfl,rfl⟩|⟨b,c,L,rfl,ha,hc⟩
 ·omega
 ·rw[iaddrSK_lt hk]
  show ldK E σ b (0+k*esz+j) κ=_
  rw[ldK_is ha,(hc k hk).get hj]
end
def SpWithin (F:List V→H→Ans):Prop:=∀(σ:H) (h hl hh mo:Bool) (lo hi v:Int),Tidy σ→∃σ',F [.agg [.bool h,.bool hl,.bool hh,.bool mo,.int .i64 lo,.int .i64 hi],.int .i64 v] σ=some (.bool (withinB h hl hh lo hi v),σ')∧Fr Nowhere σ σ'
structure Ck (σ:H) (p nT:Nat) (ty:Nat→Ty) (nm:BS) (nv rv tv:V) (rest:List V):Prop where
 at_:Atc σ p ([.str nm,nv,rv,tv]++rest)
 n1:nv.one=true
 r1:rv.one=true
 t1:tv.one=true
 row:Row σ 13 nT tv fun i=>(ty i).c
 apart:∀b,Names tv b→b≠p
section
variable {E:List (Nat × Blk)} {D:Den} {W:DrawFn} {N:Nat} {σ σ':H} {p nT:Nat} {ty:Nat→Ty} {nm:BS} {nv rv tv:V} {rest:List V}
theorem Ck.fr (h:Ck σ p nT ty nm nv rv tv rest) (f:Fr Nowhere σ σ') (ht:Tidy σ):Ck σ' p nT ty nm nv rv tv rest:=⟨f.at_ h.at_ ht (fun h=>h),h.n1,h.r1,h.t1,h.row.fr0 f ht,h.apart⟩
theorem Ck.types {E:List (Nat × Blk)} (h:Ck σ p nT ty nm nv rv tv rest) (κ:V→Ans):ldK E σ p 3 κ=κ tv:=by
 rw[ldK_is h.at_];rfl
def intC (n:Int):List V:=vc (Int.ofNat 2) n .nils .nils (Int.ofNat 0) .nils
theorem fitsInt_F (hP:SpPlain (D 51)) (hW:SpWithin (D 52)) (ht:Tidy σ) (hc:Ck σ p nT ty nm nv rv tv rest) {i dp:Nat} (hi:i<nT) (hd:dp≤17) (hk:(ty i).kind=Int.ofNat 2) {n:Int} (hw:((ty i).conMore || withinB (ty i).has (ty i).hasLow (ty i).hasHigh (ty i).low (ty i).high n)=true) :
  ∃σ',F30 E D W N [.ptr p 0,.int .i64 (Int.ofNat i),.agg (intC n),.int .i64 (Int.ofNat dp)] σ=some (.bool true,σ')∧Fr Nowhere σ σ':=by
 obtain⟨σ1,e1,f1,a1,n1⟩:=mk_new ht (intC n)
 have c1:=hc.fr f1 ht
 obtain⟨σ2,g2,f2⟩:=hP σ1 (Int.ofNat 1) (Int.ofNat 2) n (Int.ofNat 0) .nils .nils .nils 0 0 0 f1.tidy Len.nils Len.nils Len.nils
 have a2:=f2.at_ a1 f1.tidy (fun h=>h)
 obtain⟨σ3,g3,f3⟩:=hW σ2 (ty i).has (ty i).hasLow (ty i).hasHigh (ty i).conMore (ty i).low (ty i).high n f2.tidy
 have f12:=f1.trans f2 (fun _ _ h=>h)
 have rd:∀κ,iaddrSK 13 tv (Int.ofNat i) (fun b o=>ldnK E σ1 b o 13 κ)=κ (ty i).c:=fun κ=>c1.row.all hi κ
 have hp:plainB (Int.ofNat 1) (Int.ofNat 2) n 0 0 (Int.ofNat 0) 0=true:=rfl
 have hl:=c1.row.len
 rw[hp]at g2
 unfold intC at e1 a1 a2 ⊢
 unfold vc at e1 a1 a2 g2 ⊢
 have d1:decide (nT≤i)=false:=decide_eq_false (by omega)
 have d2:decide (17<dp)=false:=decide_eq_false (by omega)
 show ∃σ',T30_0 E D W _ p 0 (Int.ofNat i) (Int.ofNat 2) n .nils .nils (Int.ofNat 0) .nils (Int.ofNat dp) σ=_∧_
 unfold T30_0
 simp -implicitDefEqProofs only [↓rP,rA,Nat.reduceEqDiff,Nat.reduceLT,Nat.reduceLeDiff,Nat.not_lt_zero,↓e1,↓c1.types,↓hl.2,d1,d2,↓rd,Ty.c,hk,(ty i).oneT,(ty i).oneI,(ty i).oneF,↓ldK_is a1,↓ldnK_is a1,↓g2,↓ldK_is a2,↓g3]
 cases hm:(ty i).conMore with
 | true=>exact⟨σ2,rfl,f12⟩
 | false=>
  rw[hm,Bool.false_or]at hw
  rw[hw]
  exact⟨σ3,rfl,f12.trans f3 (fun _ _ h=>h)⟩
end
structure Vc where
 k:Int
 n:Int
 b:V
 l:V
 r:Int
 m:V
 oneB:b.one=true
 oneL:l.one=true
 oneM:m.one=true
def Vc.c (x:Vc):List V:=[.int .i64 x.k,.int .i64 x.n,x.b,x.l,.int .i64 x.r,x.m]
def Vc.int (n:Int):Vc:=⟨Int.ofNat 2,n,.nils,.nils,Int.ofNat 0,.nils,rfl,rfl,rfl⟩
def findF (p:Nat→Bool):Nat→Nat→Int
 | 0,_=>Int.negSucc 0
 | m+1,i=>if p i=true then Int.ofNat i else findF p m (i+1)
def anyF (p:Nat→Bool):Nat→Nat→Bool
 | 0,_=>false
 | m+1,i=>p i || anyF p m (i+1)
theorem find_any (p:Nat→Bool):∀m i,leF (Int.ofNat 0) (findF p m i)=anyF p m i
 | 0,i=>rfl
 | m+1,i=>by
  unfold findF anyF
  by_cases h:p i=true
  ·rw[if_pos h,h];simp only[leF_nat,Nat.zero_le,decide_true,Bool.true_or]
  ·rw[if_neg h,find_any p m (i+1)];simp only[Bool.not_eq_true]at h;rw[h,Bool.false_or]
theorem any_none {p:Nat→Bool}:∀{m i:Nat},(∀k,i≤k→k<i+m→p k=false)→anyF p m i=false
 | 0,i,_=>rfl
 | m+1,i,h=>by
  unfold anyF
  rw[h i (Nat.le_refl _) (by omega),any_none (fun k h1 h2=>h k (by omega) (by omega))];rfl
section
variable {E:List (Nat × Blk)} {D:Den} {W:DrawFn} {N:Nat} {σ σ':H} {p nT:Nat} {ty:Nat→Ty} {nm:BS} {nv rv tv:V} {rest:List V}
def Asks (D:Den) (σ:H) (f:Nat) (caps:List V) (n:Nat) (g:Nat→Vc) (q:Nat→Bool):Prop:=∀(σ1:H) (k:Nat),k<n→Fr Nowhere σ σ1→∃σ2,D f ([]++[.agg (g k).c]++caps) σ1=some (.bool (q k),σ2)∧Fr Nowhere σ1 σ2
theorem ixV_F {v:V} {n:Nat} {g:Nat→Vc} {f:Nat} {caps:List V} {q:Nat→Bool} (ht:Tidy σ) (hr:Row σ 6 n v fun k=>(g k).c) (hq:Asks D σ f caps n g q) (hN:n<N) (hn:n≤1000000) :
  ∃σ',F57 E D W N [v,.fn f [] caps] σ=some (.int .i64 (findF q n 0),σ')∧Fr Nowhere σ σ':=by
 have loop:∀(m n' i:Nat) (σ1:H),i+m=n→m<n'→Fr Nowhere σ σ1→∃σ2,L57_2 E D W N n' v (.fn f [] caps) (Int.ofNat n) (Int.ofNat i) σ1=some (.int .i64 (findF q m i),σ2)∧Fr Nowhere σ σ2:=by
  intro m
  induction m with
  | zero=>
   intro n' i σ1 hi hn' f1
   obtain⟨n',rfl⟩:∃k,n'=k+1:=⟨n'-1,by omega⟩
   refine⟨σ1,?_,f1⟩
   show T57_2 E D W _ _ v (.fn f [] caps) (Int.ofNat n) (Int.ofNat i) σ1=_
   unfold T57_2
   rw[ltF_nat,decide_eq_false (by omega),condK_false];rfl
  | succ m ih=>
   intro n' i σ1 hi hn' f1
   obtain⟨n',rfl⟩:∃k,n'=k+1:=⟨n'-1,by omega⟩
   have hlt:i<n:=by omega
   have r1:=hr.fr0 f1 ht
   have rd:∀κ,iaddrSK 6 v (Int.ofNat i) (fun b o=>ldnK E σ1 b o 6 κ)=κ (g i).c:=fun κ=>r1.all hlt κ
   obtain⟨σ2,g2,f2⟩:=hq σ1 i hlt f1
   have f12:=f1.trans f2 (fun _ _ h=>h)
   show ∃σ',T57_2 E D W _ (L57_2 E D W N n') v (.fn f [] caps) (Int.ofNat n) (Int.ofNat i) σ1=_∧_
   unfold T57_2
   have cv:∀κ,callvK D (.fn f [] caps) [.agg (g i).c] σ1 κ=κ (.bool (q i)) σ2:=fun κ=>by
    show callK (D f ([]++[.agg (g i).c]++caps) σ1) κ=_
    rw[g2];rfl
   unfold Vc.c at rd cv
   have d1:decide (i<n)=true:=decide_eq_true hlt
   simp -implicitDefEqProofs only [↓rP,rA,Nat.reduceEqDiff,Nat.reduceLT,Nat.reduceLeDiff,d1,↓rd,(g i).oneB,(g i).oneL,(g i).oneM,↓cv]
   unfold findF
   by_cases hqi:q i=true
   ·rw[hqi,condK_true,if_pos rfl]
    exact⟨σ2,rfl,f12⟩
   ·rw[Bool.not_eq_true]at hqi
    rw[hqi,condK_false,if_neg (by simp),addF_nat (by omega)]
    exact ih n' (i+1) σ2 (by omega) (by omega) f12
 obtain⟨σ2,h1,h2⟩:=loop n N 0 σ (by omega) hN (Fr.refl ht)
 refine⟨σ2,?_,h2⟩
 show T57_0 E D W (L57_2 E D W N N) v (.fn f [] caps) σ=_
 unfold T57_0
 rw[hr.len.2]
 exact h1
def SpIx (F:List V→H→Ans) (D:Den):Prop:=∀{σ:H} {v:V} {n:Nat} {g:Nat→Vc} {f:Nat} {caps:List V} {q:Nat→Bool},Tidy σ→Row σ 6 n v (fun k=>(g k).c)→Asks D σ f caps n g q→n≤10000 →
  ∃σ',F [v,.fn f [] caps] σ=some (.int .i64 (findF q n 0),σ')∧Fr Nowhere σ σ'
def SpCf (F:List V→H→Ans) (D:Den):Prop:=∀{σ:H} {v:V} {n:Nat} {g:Nat→Vc} {f:Nat} {caps:List V} {q:Nat→Bool},Tidy σ→Row σ 6 n v (fun k=>(g k).c)→Asks D σ f caps n g q→n≤10000 →
  ∃σ',F [v,.fn f [] caps] σ=some (.bool (anyF q n 0),σ')∧Fr Nowhere σ σ'
theorem cfV_F {D':Den} (hI:SpIx (D 57) D'):SpCf (F32 E D W N) D':=by
 intro σ v n g f caps q ht hr hq hn
 obtain⟨σ2,h1,h2⟩:=hI ht hr hq hn
 refine⟨σ2,?_,h2⟩
 show T32_0 E D W v (.fn f [] caps) σ=_
 unfold T32_0
 rw[h1,callK_some_,rtInt_int,find_any]
end
section
variable {E:List (Nat × Blk)} {D:Den} {W:DrawFn} {N:Nat} {σ σ':H} {p nT:Nat} {ty:Nat→Ty} {nm:BS} {nv rv tv:V} {rest:List V}
theorem count_F {v:Vc} {n:Nat} {g:Nat→Vc} (hN:n<N) (hn:n≤10000) (ht:Tidy σ) (hr:Row σ 6 n v.l fun k=>(g k).c)
  (hq:∀(σ1:H) (k:Nat),k<n→Fr Nowhere σ σ1→∃σ2,D 31 [.agg (g k).c] σ1=some (.int .i64 (Int.ofNat 1),σ2)∧Fr Nowhere σ1 σ2) :
  ∃σ',F31 E D W N [.agg v.c] σ=some (.int .i64 (Int.ofNat (1+n)),σ')∧Fr Nowhere σ σ':=by
 have loop:∀(m n' i:Nat) (σ1:H),i+m=n→m<n'→Fr Nowhere σ σ1→∃σ2,L31_2 E D W N n' (Int.ofNat (1+i)) v.l (Int.ofNat n) (Int.ofNat i) σ1=some (.int .i64 (Int.ofNat (1+n)),σ2)∧Fr Nowhere σ σ2:=by
  intro m
  induction m with
  | zero=>
   intro n' i σ1 hi hn' f1
   obtain⟨n',rfl⟩:∃k,n'=k+1:=⟨n'-1,by omega⟩
   refine⟨σ1,?_,f1⟩
   show T31_2 E D W _ _ (Int.ofNat (1+i)) v.l (Int.ofNat n) (Int.ofNat i) σ1=_
   unfold T31_2
   rw[ltF_nat,decide_eq_false (by omega),condK_false]
   obtain rfl:i=n:=by omega
   rfl
  | succ m ih=>
   intro n' i σ1 hi hn' f1
   obtain⟨n',rfl⟩:∃k,n'=k+1:=⟨n'-1,by omega⟩
   have hlt:i<n:=by omega
   have rd:∀κ,iaddrSK 6 v.l (Int.ofNat i) (fun b o=>ldnK E σ1 b o 6 κ)=κ (g i).c:=fun κ=>(hr.fr0 f1 ht).all hlt κ
   obtain⟨σ2,g2,f2⟩:=hq σ1 i hlt f1
   obtain⟨σ3,g3,f3⟩:=ih n' (i+1) σ2 (by omega) (by omega) (f1.trans f2 (fun _ _ h=>h))
   refine⟨σ3,?_,f3⟩
   unfold Vc.c at rd g2
   have d1:decide (i<n)=true:=decide_eq_true hlt
   have key:∀K1 K2,T31_2 E D W K1 K2 (Int.ofNat (1+i)) v.l (Int.ofNat n) (Int.ofNat i) σ1=K2 (Int.ofNat (1+(i+1))) v.l (Int.ofNat n) (Int.ofNat (i+1)) σ2:=by
    intro K1 K2
    unfold T31_2
    simp -implicitDefEqProofs only [↓rP,rA,Nat.reduceEqDiff,Nat.reduceLT,Nat.reduceLeDiff,d1,↓rd,(g i).oneB,(g i).oneL,(g i).oneM,↓g2,addF_nat (show 1+i+1≤9223372036854775807 by omega),addF_nat (show i+1≤9223372036854775807 by omega),Nat.add_assoc]
   exact(key _ _).trans g3
 obtain⟨σ1,e1,f1,a1,n1⟩:=mk_new ht v.c
 obtain⟨σ2,h1,h2⟩:=loop n N 0 σ1 (by omega) hN f1
 refine⟨σ2,?_,h2⟩
 unfold Vc.c at e1 a1
 have hln:=hr.len.2
 have key:∀K,T31_0 E D W K v.k v.n v.b v.l v.r v.m σ=K (Int.ofNat 1) v.l (Int.ofNat n) (Int.ofNat 0) σ1:=by
  intro K
  unfold T31_0
  simp -implicitDefEqProofs only [↓rP,rA,Nat.reduceEqDiff,Nat.reduceLT,Nat.reduceLeDiff,v.oneB,v.oneL,v.oneM,↓e1,↓hln,↓ldK_is a1]
 exact(key _).trans h1
theorem rules_F {D':Den} (hC:SpCf (D 32) D') {v:Vc} {n:Nat} {g:Nat→Vc} {ru:Int} (hn:n≤10000) (hv:(eqF v.r (Int.ofNat 0) || eqF v.r ru)=true) (ht:Tidy σ) (hr:Row σ 6 n v.l fun k=>(g k).c)
  (hq:∀(σ1:H) (q k:Nat),k<n→Fr Nowhere σ σ1→Atc σ1 q [.int .i64 ru]→∃σ2,D' 33 ([]++[.agg (g k).c]++[.ptr q 0]) σ1=some (.bool false,σ2)∧Fr Nowhere σ1 σ2) :
  ∃σ',F17 E D W N [.agg v.c,.int .i64 ru] σ=some (.bool true,σ')∧Fr Nowhere σ σ':=by
 obtain⟨σ1,e1,f1,a1,n1⟩:=mk_new ht v.c
 obtain⟨σ2,e2,f2,a2,n2⟩:=mk_new f1.tidy [.int .i64 ru]
 have f02:=f1.trans f2 (fun _ _ h=>h)
 have a12:=f2.at_ a1 f1.tidy (fun h=>h)
 obtain⟨σ3,g3,f3⟩:=hC (σ:=σ2) (caps:=[.ptr σ1.next 0]) (f:=33) (q:=fun _=>false) f02.tidy (hr.fr0 f02 ht) (fun σ9 k hk f9=>hq σ9 σ1.next k hk (f02.trans f9 (fun _ _ h=>h)) (f9.at_ a2 f02.tidy (fun h=>h))) hn
 rw[any_none (fun _ _ _=>rfl)]at g3
 refine⟨σ3,?_,f02.trans f3 (fun _ _ h=>h)⟩
 unfold Vc.c at e1 a12
 show T17_0 E D W v.k v.n v.b v.l v.r v.m ru σ=_
 unfold T17_0
 cases h0:eqF v.r (Int.ofNat 0)with
 | true=>simp -implicitDefEqProofs only [↓rP,rS,ltF_nat,leF_nat,v.oneB,v.oneL,v.oneM,↓e1,↓e2,↓ldK_is a12,↓ldK_is a2,h0,↓g3]
 | false=>
  rw[h0,Bool.false_or]at hv
  simp -implicitDefEqProofs only [↓rP,rS,ltF_nat,leF_nat,v.oneB,v.oneL,v.oneM,↓e1,↓e2,↓ldK_is a12,↓ldK_is a2,h0,hv,↓g3]
theorem Fits_F {i n:Nat} {v:Vc} (hn:n≤5000) (ht:Tidy σ) (hr:Row σ 13 nT tv fun i=>(ty i).c) (h1:nv.one=true) (h2:rv.one=true) (h3:tv.one=true)
  (hF:∀(σ1:H) (p:Nat),Tidy σ1→Fr Nowhere σ σ1→Ck σ1 p nT ty nm nv rv tv [.bool false]→∃σ2,D 30 [.ptr p 0,.int .i64 (Int.ofNat i),.agg v.c,.int .i64 (Int.ofNat 1)] σ1=some (.bool true,σ2)∧Fr Nowhere σ1 σ2)
  (hC:∀σ1:H,Tidy σ1→Fr Nowhere σ σ1→∃σ2,D 31 [.agg v.c] σ1=some (.int .i64 (Int.ofNat n),σ2)∧Fr Nowhere σ1 σ2) :
  ∃σ',F16 E D W N [.agg [.str nm,nv,rv,tv],.int .i64 (Int.ofNat i),.agg v.c] σ=some (.bool true,σ')∧Fr Nowhere σ σ':=by
 obtain⟨σ1,e1,f1,a1,n1⟩:=mk_new ht [.str nm,nv,rv,tv]
 obtain⟨σ2,e2,f2,a2,n2⟩:=mk_new f1.tidy v.c
 obtain⟨σ3,e3,f3,a3,n3⟩:=mk_new f2.tidy [.str nm,nv,rv,tv,.bool false]
 have f02:=f1.trans f2 (fun _ _ h=>h)
 have f03:=f02.trans f3 (fun _ _ h=>h)
 have r3:=hr.fr0 f03 ht
 have c3:Ck σ3 σ2.next nT ty nm nv rv tv [.bool false]:=⟨a3,h1,h2,h3,r3,fun b hb e=>by
  subst e
  have lo:=f02.le
  rcases hr.is with ⟨_,rfl⟩|⟨b,c,L,rfl,ha,_⟩
  ·exact hb
  ·have:=ha.lt ht
   have hb:σ2.next=b:=hb
   omega⟩
 obtain⟨σ4,g4,f4⟩:=hF σ3 σ2.next f3.tidy f03 c3
 have f04:=f03.trans f4 (fun _ _ h=>h)
 obtain⟨σ5,g5,f5⟩:=hC σ4 f4.tidy f04
 have a12:=f2.at_ a1 f1.tidy (fun h=>h)
 have a23:=f3.at_ a2 f2.tidy (fun h=>h)
 have a24:=f4.at_ a23 f3.tidy (fun h=>h)
 have d1:decide (n≤5000)=true:=decide_eq_true hn
 refine⟨σ5,?_,f04.trans f5 (fun _ _ h=>h)⟩
 unfold Vc.c at e2 a2 a23 a24 g4 g5
 show T16_0 E D W nm nv rv tv (Int.ofNat i) v.k v.n v.b v.l v.r v.m σ=_
 unfold T16_0
 simp -implicitDefEqProofs only [↓rP,rA,Nat.reduceEqDiff,Nat.reduceLT,Nat.reduceLeDiff,h1,h2,h3,v.oneB,v.oneL,v.oneM,↓e1,↓e2,↓e3,↓ldnK_is a12,↓ldnK_is a23,↓ldnK_is a24,↓g4,↓g5,d1]
end
section
variable {E:List (Nat × Blk)} {D:Den} {W:DrawFn} {N:Nat} {nT:Nat} {ty:Nat→Ty} {nm:BS} {nv rv tv:V}
end
theorem mkN {σ:H} (ht:Tidy σ) (z:List V):∃σ1,newB σ (.cells z)=σ1∧Fr Nowhere σ σ1∧Atc σ1 σ.next z∧σ1.next=σ.next+1:=⟨_,rfl,Fr.new ht _,Atc_newB _,rfl⟩
theorem mkS {σ:H} {b:Nat} {l:List V} (ht:Tidy σ) (h:Atc σ b l) (z:List V):∃σ1,setF σ b (.cells z)=σ1∧Fr (fun k=>k=b) σ σ1∧Atc σ1 b z:=⟨_,rfl,Fr.set ht (h.lt ht) _,Atc_setF _⟩
def letB (c:Nat):Bool:=(decide (97≤c)&&decide (c≤122)) || (decide (65≤c)&&decide (c≤90))
def digB (c:Nat):Bool:=decide (48≤c)&&decide (c≤57)
def isWs (c:Nat):Bool:=((decide (c=32) || decide (c=9)) || decide (c=10)) || decide (c=13)
def dash (c:Nat) (r:List Nat):Bool:=decide (c=45)&&decide (r.headD 0=45)
def rmk:List Nat→List Nat
 | []=>[]
 | c::r=>match decide (c=10)with
  | true=>c::r
  | false=>match dash c r with
   | true=>r.drop 1
   | false=>rmk r
def wht:Nat→List Nat→List Nat
 | 0,r=>r
 | _+1,[]=>[]
 | n+1,c::r=>match isWs c with
  | true=>wht n r
  | false=>match dash c r with
   | true=>wht n (rmk (r.drop 1))
   | false=>c::r
theorem rmk_le:∀r:List Nat,(rmk r).length≤r.length
 | []=>Nat.le_refl _
 | c::r=>by
  unfold rmk
  have:=rmk_le r
  split
  ·exact Nat.le_refl _
  ·split
   ·simp;omega
   ·simp;omega
theorem wht_le:∀(n:Nat) (r:List Nat),(wht n r).length≤r.length
 | 0,_=>Nat.le_refl _
 | _+1,[]=>Nat.le_refl _
 | n+1,c::r=>by
  unfold wht
  split
  ·exact Nat.le_succ_of_le (wht_le n r)
  ·split
   ·have h1:=wht_le n (rmk (r.drop 1))
    have h2:=rmk_le (r.drop 1)
    simp only[List.length_cons,List.length_drop]at *;omega
   ·exact Nat.le_refl _
structure At5 (s:BS) (i:Nat) (r:List Nat):Prop where
 r:Rst s i r
 few:s.len≤10000
section
variable {s:BS} {i c:Nat} {r:List Nat}
theorem At5.len (h:At5 s i r):i+r.length=s.len:=h.r.len
theorem At5.le (h:At5 s i r):i≤10000:=by have:=h.len;have:=h.few;omega
theorem At5.tl (h:At5 s i (c::r)):At5 s (i+1) r:=⟨h.r.tail,h.few⟩
theorem At5.dr (h:At5 s i r) {k:Nat} (hk:k≤r.length):At5 s (i+k) (r.drop k):=⟨h.r.drop hk,h.few⟩
theorem At5.lt (h:At5 s i (c::r)):i<s.len:=by have:=h.len;simp at this;omega
theorem At5.ix (h:At5 s i (c::r)) (κ:Int→Ans):idxStrX s (Int.ofNat i) κ=κ (Int.ofNat c):=by
 rw[idxStrX_nat h.lt]
 have:=h.r.getD_lt (k:=0) h.lt
 rw[Nat.add_zero]at this
 rw[←this];rfl
theorem At5.nil (h:At5 s i []):i=s.len:=by have:=h.len;simpa using this
theorem At5.hd (h:At5 s i r) (κ:Int→Ans) (hi:i<s.len):idxStrX s (Int.ofNat i) κ=κ (Int.ofNat (r.headD 0)):=by
 cases r with
 | nil=>have:=h.nil;omega
 | cons c r=>exact h.ix κ
end
def SpRat (F:List V→H→Ans):Prop:=∀(σ:H) (s:BS) (i:Nat) (r:List Nat),At5 s i r→F [.str s,.int .i64 (Int.ofNat i)] σ=some (.int .u8 (Int.ofNat (r.headD 0)),σ)
def SpLet (F:List V→H→Ans):Prop:=∀(σ:H) (c:Nat),F [.int .u8 (Int.ofNat c)] σ=some (.bool (letB c),σ)
def SpDig (F:List V→H→Ans):Prop:=∀(σ:H) (c:Nat),F [.int .u8 (Int.ofNat c)] σ=some (.bool (digB c),σ)
def SpWht (N:Nat) (F:List V→H→Ans):Prop:=∀(σ:H) (s:BS) (i:Nat) (r:List Nat),At5 s i r→∃k,k≤r.length∧wht N r=r.drop k∧F [.str s,.int .i64 (Int.ofNat i)] σ=some (.int .i64 (Int.ofNat (i+k)),σ)
section
variable {E:List (Nat × Blk)} {D:Den} {W:DrawFn} {N:Nat}
theorem rat_F:SpRat (F64 E D W N):=by
 intro σ s i r h
 show T64_0 E D W s (Int.ofNat i) σ=_
 unfold T64_0
 cases r with
 | nil=>
  have d2:decide (s.len≤i)=true:=decide_eq_true (by have:=h.nil;omega)
  simp -implicitDefEqProofs only [↓rP,rA,Nat.reduceEqDiff,Nat.reduceLT,Nat.reduceLeDiff,Nat.not_lt_zero,d2]
  rfl
 | cons c r=>
  have d2:decide (s.len≤i)=false:=decide_eq_false (by have:=h.lt;omega)
  have e:=h.ix
  simp -implicitDefEqProofs only [↓rP,rA,Nat.reduceEqDiff,Nat.reduceLT,Nat.reduceLeDiff,Nat.not_lt_zero,d2,↓e]
  rfl
theorem rlet_F:SpLet (F65 E D W N):=by
 intro σ c
 show T65_0 E D W (Int.ofNat c) σ=_
 unfold T65_0 letB
 simp -implicitDefEqProofs only [cells_agg,cells_int,cells_ptr,allOne_cons,allOne_nil,one_int,one_bool,one_str,one_nils,one_sl,one_ptr,Bool.and_true,chk_t,nthK_zero,nthK_succ,subK_2,subK_4,subK_5,subK_6,subK_13,subK_con,rtInt_int,rtBool_bool,rtStr_str,rtPtr_ptr,rtAgg_agg,rtTup_tup,rtCons_cons,rtNil_nil,rtOne_nils,rtOne_pt,rtOne_sl,slenK_nils,slenK_sl,callK_some_,condK_true,condK_false,join_or,join_and,join_id,Nat.add_eq,Nat.zero_add,Bool.not_true,Bool.not_false,rC,rQ,decide_false,decide_true,Nat.reduceEqDiff,Nat.reduceLT,Nat.reduceLeDiff]
theorem rdig_F:SpDig (F68 E D W N):=by
 intro σ c
 show T68_0 E D W (Int.ofNat c) σ=_
 unfold T68_0 digB
 simp -implicitDefEqProofs only [cells_agg,cells_int,cells_ptr,allOne_cons,allOne_nil,one_int,one_bool,one_str,one_nils,one_sl,one_ptr,Bool.and_true,chk_t,nthK_zero,nthK_succ,subK_2,subK_4,subK_5,subK_6,subK_13,subK_con,rtInt_int,rtBool_bool,rtStr_str,rtPtr_ptr,rtAgg_agg,rtTup_tup,rtCons_cons,rtNil_nil,rtOne_nils,rtOne_pt,rtOne_sl,slenK_nils,slenK_sl,callK_some_,condK_true,condK_false,join_or,join_and,join_id,Nat.add_eq,Nat.zero_add,Bool.not_true,Bool.not_false,rC,rQ,decide_false,decide_true,Nat.reduceEqDiff,Nat.reduceLT,Nat.reduceLeDiff]
theorem rmk_L (hA:SpRat (D 64)) (K:BS→Int→H→Ans) (σ:H) (s:BS):∀(r:List Nat) (n i:Nat),r.length<n→At5 s i r→∃k,k≤r.length∧rmk r=r.drop k∧L37_3 E D W N K n s (Int.ofNat i) σ=K s (Int.ofNat (i+k)) σ
 | [],n,i,hn,h=>by
  obtain⟨n,rfl⟩:∃m,n=m+1:=⟨n-1,by omega⟩
  refine⟨0,Nat.le_refl _,rfl,?_⟩
  show T37_3 E D W K _ s (Int.ofNat i) σ=_
  have d1:decide (i<s.len)=false:=decide_eq_false (by have:=h.nil;omega)
  have key:∀R,T37_3 E D W K R s (Int.ofNat i) σ=K s (Int.ofNat i) σ:=by
   intro R
   unfold T37_3
   simp -implicitDefEqProofs only [↓rP,rA,Nat.reduceEqDiff,Nat.reduceLT,Nat.reduceLeDiff,d1]
  exact key _
 | c::r,n,i,hn,h=>by
  obtain⟨n,rfl⟩:∃m,n=m+1:=⟨n-1,by omega⟩
  have e:=h.ix
  have hl:=h.lt
  have hle:=h.le
  have d1:decide (i<s.len)=true:=decide_eq_true hl
  have g:=hA σ s (i+1) r h.tl
  have a1:addF .i64 (Int.ofNat i) (Int.ofNat 1)=Int.ofNat (i+1):=addF_nat (by omega)
  have a2:addF .i64 (Int.ofNat i) (Int.ofNat 2)=Int.ofNat (i+2):=addF_nat (by omega)
  show ∃k,k≤_∧rmk (c::r)=_∧T37_3 E D W K (L37_3 E D W N K n) s (Int.ofNat i) σ=_
  by_cases h10:c=10
  ·refine⟨0,Nat.zero_le _,by unfold rmk;rw[decide_eq_true h10];rfl,?_⟩
   have d2:decide (c=10)=true:=decide_eq_true h10
   have key:∀R,T37_3 E D W K R s (Int.ofNat i) σ=K s (Int.ofNat i) σ:=by
    intro R
    unfold T37_3
    simp -implicitDefEqProofs only [↓rP,rA,Nat.reduceEqDiff,Nat.reduceLT,Nat.reduceLeDiff,d1,↓e,d2]
   exact key _
  ·have d2:decide (c=10)=false:=decide_eq_false h10
   cases hd:dash c r with
   | true=>
    obtain⟨k,hk,hk'⟩:∃k,k≤(c::r).length∧rmk (c::r)=(c::r).drop 2:=by
     refine⟨0,Nat.zero_le _,?_⟩
     unfold rmk;rw[d2,hd];rfl
    have hr:r≠[]:=fun e=>by subst e;simp[dash]at hd
    refine⟨2,by cases r with | nil=>exact absurd rfl hr | cons _ _=>simp,hk',?_⟩
    unfold dash at hd
    rw[Bool.and_eq_true]at hd
    have key:∀R,T37_3 E D W K R s (Int.ofNat i) σ=K s (Int.ofNat (i+2)) σ:=by
     intro R
     unfold T37_3
     simp -implicitDefEqProofs only [↓rP,rA,Nat.reduceEqDiff,Nat.reduceLT,Nat.reduceLeDiff,d1,↓e,d2,hd.1,a1,a2,↓g,hd.2]
    exact key _
   | false=>
    obtain⟨k,h1,h2,h3⟩:=rmk_L hA K σ s r n (i+1) (by simp at hn;omega) h.tl
    refine⟨k+1,by simp;omega,by unfold rmk;rw[d2,hd];exact h2,?_⟩
    unfold dash at hd
    have key:∀R,T37_3 E D W K R s (Int.ofNat i) σ=R s (Int.ofNat (i+1)) σ:=by
     intro R
     unfold T37_3
     cases h45:decide (c=45)with
     | true=>
      rw[h45,Bool.true_and]at hd
      simp -implicitDefEqProofs only [↓rP,rA,Nat.reduceEqDiff,Nat.reduceLT,Nat.reduceLeDiff,d1,↓e,d2,h45,a1,↓g,hd]
     | false=>simp -implicitDefEqProofs only [↓rP,rA,Nat.reduceEqDiff,Nat.reduceLT,Nat.reduceLeDiff,d1,↓e,d2,h45,a1]
    rw[key,h3,show i+1+k=i+(k+1)by omega]
theorem wht_L (hA:SpRat (D 64)) (hN:10000<N) (σ:H) (s:BS):∀(n:Nat) (r:List Nat) (i:Nat),r.length<n→At5 s i r→∃k,k≤r.length∧wht n r=r.drop k∧L37_2 E D W N n s (Int.ofNat i) σ=some (.int .i64 (Int.ofNat (i+k)),σ)
 | 0,r,i,hn,h=>by omega
 | n+1,[],i,hn,h=>by
  refine⟨0,Nat.le_refl _,rfl,?_⟩
  show T37_2 E D W (J37_1 E D W N) (L37_3 E D W N (L37_2 E D W N n) N) (L37_2 E D W N n) s (Int.ofNat i) σ=_
  have d1:decide (i<s.len)=false:=decide_eq_false (by have:=h.nil;omega)
  have key:∀K3 R,T37_2 E D W (T37_1 E D W) K3 R s (Int.ofNat i) σ=some (.int .i64 (Int.ofNat i),σ):=by
   intro K3 R
   unfold T37_2 T37_1
   simp -implicitDefEqProofs only [↓rP,rA,Nat.reduceEqDiff,Nat.reduceLT,Nat.reduceLeDiff,d1]
  exact key _ _
 | n+1,c::r,i,hn,h=>by
  have e:=h.ix
  have hl:=h.lt
  have hle:=h.le
  have d1:decide (i<s.len)=true:=decide_eq_true hl
  have g:=hA σ s (i+1) r h.tl
  have a1:addF .i64 (Int.ofNat i) (Int.ofNat 1)=Int.ofNat (i+1):=addF_nat (by omega)
  have a2:addF .i64 (Int.ofNat i) (Int.ofNat 2)=Int.ofNat (i+2):=addF_nat (by omega)
  show ∃k,k≤_∧wht (n+1) (c::r)=_∧T37_2 E D W (J37_1 E D W N) (L37_3 E D W N (L37_2 E D W N n) N) (L37_2 E D W N n) s (Int.ofNat i) σ=_
  have key:∀K1 K3 R,T37_2 E D W K1 K3 R s (Int.ofNat i) σ=condK (isWs c) (R s (Int.ofNat (i+1)) σ) (condK (dash c r) (K3 s (Int.ofNat (i+2)) σ) (some (.int .i64 (Int.ofNat i),σ))):=by
   intro K1 K3 R
   unfold T37_2 isWs dash
   simp -implicitDefEqProofs only [cells_agg,cells_int,cells_ptr,allOne_cons,allOne_nil,one_int,one_bool,one_str,one_nils,one_sl,one_ptr,Bool.and_true,chk_t,nthK_zero,nthK_succ,subK_2,subK_4,subK_5,subK_6,subK_13,subK_con,rtInt_int,rtBool_bool,rtStr_str,rtPtr_ptr,rtAgg_agg,rtTup_tup,rtCons_cons,rtNil_nil,rtOne_nils,rtOne_pt,rtOne_sl,slenK_nils,slenK_sl,callK_some_,condK_true,condK_false,join_or,join_and,join_id,Nat.add_eq,Nat.zero_add,Bool.not_true,Bool.not_false,rC,rQ,decide_false,decide_true,Nat.reduceEqDiff,Nat.reduceLT,Nat.reduceLeDiff,d1,e,a1,a2,g]
  rw[key]
  cases hw:isWs c with
  | true=>
   obtain⟨k,h1,h2,h3⟩:=wht_L hA hN σ s n r (i+1) (by simp at hn;omega) h.tl
   refine⟨k+1,by simp;omega,by unfold wht;rw[hw];exact h2,?_⟩
   rw[condK_true,h3,show i+1+k=i+(k+1)by omega]
  | false=>
   rw[condK_false]
   cases hd:dash c r with
   | true=>
    have hr:r≠[]:=fun e=>by subst e;simp[dash]at hd
    have hr1:1≤r.length:=by cases r with | nil=>exact absurd rfl hr | cons _ _=>simp
    have h2':At5 s (i+2) (r.drop 1):=h.tl.dr hr1
    obtain⟨k,h1,h2,h3⟩:=rmk_L (E:=E) (W:=W) (N:=N) hA (L37_2 E D W N n) σ s (r.drop 1) N (i+2) (by have:=h.len;have:=h.few;simp only[List.length_cons,List.length_drop]at *;omega) h2'
    have h4:=h2'.dr h1
    rw[←h2]at h4
    have hle':=rmk_le (r.drop 1)
    obtain⟨j,h5,h6,h7⟩:=wht_L hA hN σ s n (rmk (r.drop 1)) (i+2+k) (by simp only[List.length_cons,List.length_drop]at *;omega) h4
    have hkl:(rmk (r.drop 1)).length=r.length-1-k:=by rw[h2];simp only[List.length_drop]
    simp only[List.length_drop]at h1
    refine⟨2+k+j,by simp only[List.length_cons];omega,?_,?_⟩
    ·unfold wht
     rw[hw,hd]
     show wht n (rmk (r.drop 1))=_
     rw[h6,h2,List.drop_drop,List.drop_drop,show 2+k+j=(1+(k+j))+1 by omega,List.drop_succ_cons]
    ·rw[condK_true,h3,h7,show i+2+k+j=i+(2+k+j)by omega]
   | false=>exact⟨0,Nat.zero_le _,by unfold wht;rw[hw,hd];rfl,by rw[condK_false];rfl⟩
theorem wht_F (hA:SpRat (D 64)) (hN:10000<N):SpWht N (F37 E D W N):=by
 intro σ s i r h
 obtain⟨k,h1,h2,h3⟩:=wht_L (E:=E) (W:=W) hA hN σ s N r i (by have:=h.len;have:=h.few;omega) h
 exact⟨k,h1,h2,h3⟩
end
def wordsV:List BS:=[BS.mk 11 100710650190388740279911748,BS.mk 8 6073459554577832005,BS.mk 8 6073459554577829193,BS.mk 9 1241215773001651606849,BS.mk 4 1397178708,BS.mk 5 336236856642,BS.mk 3 4476485,BS.mk 7 22026814072246082,BS.mk 7 23157120498421321,BS.mk 10 322399817400452109389381,BS.mk 4 1280070990,BS.mk 5 361940403023,BS.mk 6 78401563153491,BS.mk 10 488440487847103610377301,BS.mk 8 4990918871747741011,BS.mk 3 5522771,BS.mk 6 76155295057987,BS.mk 2 17999,BS.mk 8 5494759122808361039,BS.mk 7 23727827094750532,BS.mk 4 1163544915,BS.mk 3 5130573,BS.mk 3 5783885,BS.mk 4 1163219540,BS.mk 5 297750249798]
def signsV:List BS:=[BS.mk 3 4012602,BS.mk 3 3026478,BS.mk 2 11822,BS.mk 2 23387,BS.mk 2 23901,BS.mk 1 123,BS.mk 1 125,BS.mk 1 91,BS.mk 1 93,BS.mk 1 40,BS.mk 1 41,BS.mk 1 44,BS.mk 1 58]
def wdB (t:BS):Bool:=wordsV.any fun w=>w.beq t
def nmC (c:Nat) (r:List Nat):Bool:=(letB c || digB c) || (decide (c=45) && !decide (r.headD 0=45))
def nmL:List Nat→Nat
 | []=>0
 | c::r=>match nmC c r with
  | true=>nmL r+1
  | false=>0
def nmBad (w:List Nat):Bool:=decide (w.getD (w.length-1) 0=45) || decide (60<w.length)
def sgIn:List BS→List Nat→Nat
 | [],_=>0
 | t::l,r=>match decide (t.len≤r.length)&&decide (r.take t.len=t.nats)with
  | true=>t.len
  | false=>sgIn l r
def valD:Nat→List Nat→Nat
 | a,[]=>a
 | a,d::l=>valD (10*a+(d-48)) l
structure NumOk (m:Bool) (ds r:List Nat):Prop where
 dig:∀d∈ds,digB d=true
 n1:1≤ds.length
 n19:ds.length≤19
 lead:ds.length=1∨ds.headD 0≠48
 mi:m=true→ds.headD 0≠48
 nd:digB (r.headD 0)=false
 nl:letB (r.headD 0)=false
 v:valD 0 ds≤9223372036854775808
 vp:m=false→valD 0 ds<9223372036854775808
def numT (m:Bool) (ds:List Nat):List Nat:=if m=true then 45::ds else ds
theorem nmL_cons (c:Nat) (r:List Nat):nmL (c::r)=match nmC c r with
 | true=>nmL r+1
 | false=>0:=rfl
theorem sgIn_cons (t:BS) (l:List BS) (r:List Nat):sgIn (t::l) r=match decide (t.len≤r.length)&&decide (r.take t.len=t.nats)with
 | true=>t.len
 | false=>sgIn l r:=rfl
theorem nmL_le:∀r:List Nat,nmL r≤r.length
 | []=>Nat.le_refl _
 | c::r=>by
  unfold nmL
  have:=nmL_le r
  split<;>simp only[List.length_cons]<;>omega
def SpInS (F:List V→H→Ans):Prop:=∀(σ:H) (v:V) (l:List BS) (b:BS),Src σ 1 l.length v (l.map .str)→l.length≤9000→F [v,.str b] σ=some (.bool (l.any fun x=>x.beq b),σ)
def SpRword (F:List V→H→Ans):Prop:=∀(σ:H) (b:BS),Tidy σ→∃σ',F [.str b] σ=some (.bool (wdB b),σ')∧Fr Nowhere σ σ'
def SpRname (F:List V→H→Ans):Prop:=∀(σ:H) (s:BS) (i c:Nat) (r:List Nat),At5 s i (c::r)→letB c=true →
 F [.str s,.int .i64 (Int.ofNat i)] σ=some (.int .i64 (if nmBad ((c::r).take (nmL (c::r)))=true then Int.negSucc 0 else Int.ofNat (i+nmL (c::r))),σ)
def SpRsign (F:List V→H→Ans):Prop:=∀(σ:H) (s:BS) (i:Nat) (r:List Nat),Tidy σ→At5 s i r→∃σ',F [.str s,.int .i64 (Int.ofNat i)] σ=some (.int .i64 (Int.ofNat (sgIn signsV r)),σ')∧Fr Nowhere σ σ'
def SpRnum (F:List V→H→Ans):Prop:=∀(σ:H) (s:BS) (i:Nat) (m:Bool) (ds r:List Nat),At5 s i (numT m ds++r)→NumOk m ds r →
 F [.str s,.int .i64 (Int.ofNat i)] σ=some (.int .i64 (Int.ofNat (i+(numT m ds).length)),σ)
section
variable {E:List (Nat × Blk)} {D:Den} {W:DrawFn} {N:Nat}
theorem inS_F (hN:10000<N):SpInS (F43 E D W N):=by
 intro σ v l b hv hl
 have key:∀(m i n:Nat),i+m=l.length→m<n→L43_2 E D W N n v b (Int.ofNat i) σ=some (.bool ((l.drop i).any fun x=>x.beq b),σ):=by
  intro m
  induction m with
  | zero=>
   intro i n hi hn
   obtain⟨n,rfl⟩:∃k,n=k+1:=⟨n-1,by omega⟩
   rw[List.drop_eq_nil_of_le (by omega)]
   show T43_2 E D W (T43_1 E D W) _ v b (Int.ofNat i) σ=_
   have d1:decide (i<l.length)=false:=decide_eq_false (by omega)
   have sl:∀κ:Nat→Ans,slenK v κ=κ l.length:=fun κ=>hv.slen
   have k:∀R,T43_2 E D W (T43_1 E D W) R v b (Int.ofNat i) σ=some (.bool false,σ):=by
    intro R
    unfold T43_2 T43_1
    simp -implicitDefEqProofs only [↓rP,rA,Nat.reduceEqDiff,Nat.reduceLT,Nat.reduceLeDiff,↓sl,d1]
   exact k _
  | succ m ih=>
   intro i n hi hn
   obtain⟨n,rfl⟩:∃k,n=k+1:=⟨n-1,by omega⟩
   have hlt:i<l.length:=by omega
   rw[List.drop_eq_getElem_cons hlt,List.any_cons]
   show T43_2 E D W (T43_1 E D W) (L43_2 E D W N n) v b (Int.ofNat i) σ=_
   have d1:decide (i<l.length)=true:=decide_eq_true hlt
   have sl:∀κ:Nat→Ans,slenK v κ=κ l.length:=fun κ=>hv.slen
   have rd:∀κ,iaddrSK 1 v (Int.ofNat i) (fun b o=>ldK E σ b o κ)=κ (.str l[i]):=fun κ=>by
    rcases hv with ⟨h0,_,_⟩|⟨bb,o,c,L,rfl,ha,hle,hm⟩
    ·omega
    ·rw[iaddrSK_lt hlt]
     refine ldK_get ha ?_
     have:(l.map V.str)[i]? = some (.str l[i]):=by rw[List.getElem?_map,List.getElem?_eq_getElem hlt];rfl
     rw[hm,List.getElem?_take,if_pos (by omega),List.getElem?_drop]at this
     show L[o+i*1]? = _
     rw[Nat.mul_one];exact this
   have k:∀K R,T43_2 E D W K R v b (Int.ofNat i) σ=condK (l[i].beq b) (some (.bool true,σ)) (R v b (Int.ofNat (i+1)) σ):=by
    intro K R
    unfold T43_2
    simp -implicitDefEqProofs only [↓rP,rA,Nat.reduceEqDiff,Nat.reduceLT,Nat.reduceLeDiff,↓sl,d1,↓rd,addF_nat (show i+1≤9223372036854775807 by omega)]
   rw[k,ih (i+1) n (by omega) (by omega)]
   cases l[i].beq b<;>rfl
 exact key l.length 0 N (by omega) (by omega)
theorem rword_F (hI:SpInS (D 43)) (hW:∀σ:H,D 98 [] σ=some (.sl σ.next 0 25 (.ex 25),newB σ (.cells (wordsV.map .str)))):SpRword (F67 E D W N):=by
 intro σ b ht
 obtain⟨σ1,e1,f1,a1,n1⟩:=mkN ht (wordsV.map .str)
 have g0:=hW σ
 rw[e1]at g0
 have g1:=hI σ1 (.sl σ.next 0 25 (.ex 25)) wordsV b (.inr ⟨σ.next,0,_,_,rfl,a1,by decide,rfl⟩) (by decide)
 refine⟨σ1,?_,f1⟩
 show T67_0 E D W b σ=_
 unfold T67_0
 simp -implicitDefEqProofs only [↓rP,rS,↓g0,↓g1]
 rfl
theorem rwords_F:∀σ:H,F98 E D W N [] σ=some (.sl σ.next 0 25 (.ex 25),newB σ (.cells (wordsV.map .str))):=fun _=>rfl
theorem nm_L (hA:SpRat (D 64)) (hL:SpLet (D 65)) (hD:SpDig (D 68)) (σ:H) (s:BS) (f:Int):∀(r:List Nat) (n i:Nat),r.length<n→At5 s i r→L66_2 E D W N n s (Int.ofNat i) f σ=J66_1 E D W N s (Int.ofNat (i+nmL r)) f σ
 | [],n,i,hn,h=>by
  obtain⟨n,rfl⟩:∃m,n=m+1:=⟨n-1,by omega⟩
  show T66_2 E D W (J66_1 E D W N) _ s (Int.ofNat i) f σ=_
  have d1:decide (i<s.len)=false:=decide_eq_false (by have:=h.nil;omega)
  have key:∀K R,T66_2 E D W K R s (Int.ofNat i) f σ=K s (Int.ofNat i) f σ:=by
   intro K R
   unfold T66_2
   simp -implicitDefEqProofs only [↓rP,rA,Nat.reduceEqDiff,Nat.reduceLT,Nat.reduceLeDiff,d1]
  exact key _ _
 | c::r,n,i,hn,h=>by
  obtain⟨n,rfl⟩:∃m,n=m+1:=⟨n-1,by omega⟩
  have e:=h.ix
  have hle:=h.le
  have d1:decide (i<s.len)=true:=decide_eq_true h.lt
  have g:=hA σ s (i+1) r h.tl
  have g1:=hL σ c
  have g2:=hD σ c
  have a1:addF .i64 (Int.ofNat i) (Int.ofNat 1)=Int.ofNat (i+1):=addF_nat (by omega)
  show T66_2 E D W (J66_1 E D W N) (L66_2 E D W N n) s (Int.ofNat i) f σ=_
  have key:∀K R,T66_2 E D W K R s (Int.ofNat i) f σ=condK (nmC c r) (R s (Int.ofNat (i+1)) f σ) (K s (Int.ofNat i) f σ):=by
   intro K R
   unfold T66_2 nmC
   cases h1:letB c<;>cases h2:digB c<;>cases h3:decide (c=45)<;>simp -implicitDefEqProofs only [↓rP,rA,Nat.reduceEqDiff,Nat.reduceLT,Nat.reduceLeDiff,d1,↓e,↓g1,↓g2,h1,h2,h3,a1,↓g]<;>rfl
  rw[key]
  cases hc:nmC c r with
  | true=>
   rw[condK_true,nm_L hA hL hD σ s f r n (i+1) (by simp at hn;omega) h.tl]
   rw[nmL_cons,hc]
   show J66_1 E D W N s (Int.ofNat (i+1+nmL r)) f σ=J66_1 E D W N s (Int.ofNat (i+(nmL r+1))) f σ
   rw[show i+1+nmL r=i+(nmL r+1)by omega]
  | false=>rw[condK_false,nmL_cons,hc];rfl
theorem rname_F (hA:SpRat (D 64)) (hL:SpLet (D 65)) (hD:SpDig (D 68)) (hN:10000<N):SpRname (F66 E D W N):=by
 intro σ s i c r h hc
 have hle:=h.le
 have hlen:=h.len
 have hfew:=h.few
 have hm:=nmL_le (c::r)
 have h1:nmC c r=true:=by unfold nmC;rw[hc];rfl
 have h0:1≤nmL (c::r):=by unfold nmL;rw[h1];exact Nat.succ_pos _
 obtain⟨m,hm'⟩:∃m,nmL (c::r)=m:=⟨_,rfl⟩
 rw[hm']at hm h0 ⊢
 have lt:((c::r).take m).length=m:=by rw[List.length_take];omega
 have h5:At5 s (i+(m-1)) ((c::r).drop (m-1)):=h.dr (by omega)
 have hd:((c::r).drop (m-1)).headD 0=((c::r).take m).getD (m-1) 0:=by
  rw[List.getD_eq_getElem?_getD,List.getElem?_take,if_pos (by omega),List.headD_eq_head?_getD,List.head?_drop]
 have e:=fun κ=>h5.hd κ (by omega)
 rw[hd]at e
 have a1:subF .i64 (Int.ofNat (i+m)) (Int.ofNat 1)=Int.ofNat (i+(m-1)):=by rw[subF_nat (by omega) (by omega),show i+m-1=i+(m-1)by omega]
 have a2:subF .i64 (Int.ofNat (i+m)) (Int.ofNat i)=Int.ofNat m:=by rw[subF_nat (by omega) (by omega),show i+m-i=m by omega]
 show L66_2 E D W N N s (Int.ofNat i) (Int.ofNat i) σ=_
 rw[nm_L hA hL hD σ s _ (c::r) N i (by omega) h,hm']
 show T66_1 E D W s (Int.ofNat (i+m)) (Int.ofNat i) σ=_
 unfold T66_1 nmBad
 rw[lt]
 cases h6:decide (((c::r).take m).getD (m-1) 0=45)<;>cases h7:decide (60<m)<;>simp -implicitDefEqProofs only [↓rP,rA,Nat.reduceEqDiff,Nat.reduceLT,Nat.reduceLeDiff,a1,a2,↓e,h6,h7]<;>rfl
theorem sg_L (hN:100<N) (σ:H) (r:List Nat) (hb:∀c∈r,c<256) (b:Nat) (ha:Atc σ b (signsV.map .str)):∀(m j n:Nat),j+m=13→m<n→L72_2 E D W N n (ofN r) (.sl b 0 13 (.ex 13)) (Int.ofNat j) σ=some (.int .i64 (Int.ofNat (sgIn (signsV.drop j) r)),σ)
 | 0,j,n,hj,hn=>by
  obtain⟨n,rfl⟩:∃k,n=k+1:=⟨n-1,by omega⟩
  obtain rfl:j=13:=by omega
  show T72_2 E D W (T72_1 E D W) _ (ofN r) (.sl b 0 13 (.ex 13)) (Int.ofNat 13) σ=_
  have key:∀R,T72_2 E D W (T72_1 E D W) R (ofN r) (.sl b 0 13 (.ex 13)) (Int.ofNat 13) σ=some (.int .i64 (Int.ofNat 0),σ):=by
   intro R
   unfold T72_2 T72_1
   simp -implicitDefEqProofs only [↓rP,rA,Nat.reduceEqDiff,Nat.reduceLT,Nat.reduceLeDiff,Nat.lt_irrefl]
  exact key _
 | m+1,j,n,hj,hn=>by
  obtain⟨n,rfl⟩:∃k,n=k+1:=⟨n-1,by omega⟩
  have hl:j<signsV.length:=by show j<13;omega
  rw[List.drop_eq_getElem_cons hl]
  have d1:decide (j<13)=true:=decide_eq_true (by omega)
  have rd:∀κ,iaddrSK 1 (.sl b 0 13 (.ex 13)) (Int.ofNat j) (fun b o=>ldK E σ b o κ)=κ (.str signsV[j]):=fun κ=>by
   rw[iaddrSK_lt (show j<13 by omega)]
   refine ldK_get ha ?_
   show (signsV.map V.str)[0+j*1]? = _
   rw[Nat.zero_add,Nat.mul_one,List.getElem?_map,List.getElem?_eq_getElem hl];rfl
  show T72_2 E D W (T72_1 E D W) (L72_2 E D W N n) (ofN r) (.sl b 0 13 (.ex 13)) (Int.ofNat j) σ=_
  have ih:=sg_L hN σ r hb b ha m (j+1) n (by omega) (by omega)
  generalize signsV[j]=t at rd ⊢
  have key:∀K R,T72_2 E D W K R (ofN r) (.sl b 0 13 (.ex 13)) (Int.ofNat j) σ=condK (decide (t.len≤r.length)&&decide (r.take t.len=t.nats)) (some (.int .i64 (Int.ofNat t.len),σ)) (R (ofN r) (.sl b 0 13 (.ex 13)) (Int.ofNat (j+1)) σ):=by
   intro K R
   have hn':(ofN r).len=r.length:=ofN_len r
   unfold T72_2
   by_cases h1:t.len≤r.length
   ·have sp:∀κ,sliceStrX (ofN r) none (some (.int .i64 (Int.ofNat t.len))) κ=κ ((ofN r).sub 0 t.len):=fun κ=>sliceStrX_to (by rw[hn'];exact h1)
    have eb:((ofN r).sub 0 t.len).beq t=decide (r.take t.len=t.nats):=by
     rw[BS.beq_nats,BS.nats_sub (by rw[hn'];exact h1),ofN_nats hb,List.drop_zero,Nat.sub_zero]
    simp -implicitDefEqProofs only [↓rP,rA,Nat.reduceEqDiff,Nat.reduceLT,Nat.reduceLeDiff,d1,↓rd,hn',decide_eq_true h1,↓sp,eb,addF_nat (show j+1≤9223372036854775807 by omega)]
   ·simp -implicitDefEqProofs only [↓rP,rA,Nat.reduceEqDiff,Nat.reduceLT,Nat.reduceLeDiff,d1,↓rd,hn',decide_eq_false h1,addF_nat (show j+1≤9223372036854775807 by omega)]
  rw[key,ih,sgIn_cons]
  cases decide (t.len≤r.length)&&decide (r.take t.len=t.nats)<;>rfl
theorem rsign_F (hN:100<N):SpRsign (F72 E D W N):=by
 intro σ s i r ht h
 obtain⟨σ1,e1,f1,a1,n1⟩:=mkN ht (signsV.map .str)
 refine⟨σ1,?_,f1⟩
 have sp:∀κ,sliceStrX s (some (.int .i64 (Int.ofNat i))) none κ=κ (ofN r):=fun κ=>by
  rw[sliceStrX_from (by have:=h.len;omega),h.r.subAll]
 have g:=sg_L (E:=E) (D:=D) (W:=W) (N:=N) hN σ1 r h.r.bd σ.next a1 13 0 N rfl (by omega)
 unfold signsV at e1
 simp only[List.map_cons,List.map_nil]at e1
 show T72_0 E D W (L72_2 E D W N N) s (Int.ofNat i) σ=_
 have key:∀K,T72_0 E D W K s (Int.ofNat i) σ=K (ofN r) (.sl σ.next 0 13 (.ex 13)) (Int.ofNat 0) σ1:=by
  intro K
  unfold T72_0
  simp -implicitDefEqProofs only [↓rP,rS,↓sp,↓e1]
 rw[key]
 exact g
end
theorem valD_ge (l:List Nat):∀a:Nat,a≤valD a l:=by
 induction l with
 | nil=>intro a;exact Nat.le_refl a
 | cons d l ih=>
  intro a
  have:=ih (10*a+(d-48))
  show a≤valD (10*a+(d-48)) l
  omega
theorem digB_of {c:Nat} (h:digB c=true):48≤c∧c≤57:=by
 unfold digB at h
 rwa [Bool.and_eq_true,decide_eq_true_eq,decide_eq_true_eq]at h
inductive Tk:List Nat→Nat→List Nat→List Nat→Prop
 | name {c:Nat} {r:List Nat} {k:Nat}:letB c=true→nmBad ((c::r).take (nmL (c::r)))=false→k=(if wdB (ofN ((c::r).take (nmL (c::r))))=true then 5 else if c≤90 then 1 else 2) →
   Tk (c::r) k ((c::r).take (nmL (c::r))) ((c::r).drop (nmL (c::r)))
 | num {m:Bool} {ds r:List Nat}:NumOk m ds r→Tk (numT m ds++r) 3 (numT m ds) r
 | sign {c:Nat} {r:List Nat}:letB c=false→digB c=false→(c=45→digB (r.headD 0)=false)→c≠39→c≠34→0<sgIn signsV (c::r) →
   Tk (c::r) 6 ((c::r).take (sgIn signsV (c::r))) ((c::r).drop (sgIn signsV (c::r)))
theorem sgIn_le:∀(l:List BS) (r:List Nat),sgIn l r≤r.length
 | [],_=>Nat.zero_le _
 | t::l,r=>by
  rw[sgIn_cons]
  cases h:decide (t.len≤r.length)&&decide (r.take t.len=t.nats)with
  | true=>
   rw[Bool.and_eq_true,decide_eq_true_eq]at h
   exact h.1
  | false=>exact sgIn_le l r
theorem Tk.app {r w r':List Nat} {k:Nat} (h:Tk r k w r'):r=w++r'∧0<w.length:=by
 cases h with
 | @name c r1 _ hc=>
  refine⟨(List.take_append_drop _ _).symm,?_⟩
  have h1:nmC c r1=true:=by unfold nmC;rw[hc];rfl
  have:=nmL_le (c::r1)
  rw[List.length_take,nmL_cons,h1]at *
  simp only[List.length_cons]at *;omega
 | num hn=>
  rename_i m ds
  have:=hn.n1
  exact⟨rfl,by unfold numT;split<;>(try simp only[List.length_cons])<;>omega⟩
 | @sign c r1 _ _ _ _ _ h0=>
  refine⟨(List.take_append_drop _ _).symm,?_⟩
  have:=sgIn_le signsV (c::r1)
  rw[List.length_take];omega
abbrev Tok:=Nat × List Nat × Nat
inductive Tks (N len:Nat):List Nat→List Tok→Prop
 | fin {r:List Nat}:wht N r=[]→Tks N len r [(0,[],len)]
 | one {r r1 w r2:List Nat} {k:Nat} {ts:List Tok}:wht N r=r1→Tk r1 k w r2→Tks N len r2 ts→Tks N len r ((k,w,len-r1.length)::ts)
def tkCells (ts:List Tok):List V:=ts.flatMap fun t=>[.int .i64 (Int.ofNat t.1),.str (ofN t.2.1),.int .i64 (Int.ofNat t.2.2)]
theorem tkCells_app (a b:List Tok):tkCells (a++b)=tkCells a++tkCells b:=List.flatMap_append
theorem Tks.len {N len:Nat} {r:List Nat} {ts:List Tok} (h:Tks N len r ts):ts.length≤r.length+1:=by
 induction h with
 | fin _=>exact Nat.succ_le_succ (Nat.zero_le _)
 | one h1 h2 _ ih=>
  rename_i r r1 w r2 k ts hh
  have h3:=wht_le N r
  obtain⟨h4,h5⟩:=h2.app
  rw[h1,h4,List.length_append]at h3
  simp only[List.length_cons];omega
def SpOne (F:List V→H→Ans):Prop:=∀(σ:H) (s:BS) (i k:Nat) (r w r':List Nat),Tidy σ→At5 s i r→Tk r k w r' →
 ∃σ',F [.str s,.int .i64 (Int.ofNat i)] σ=some (.tup [.agg [.int .i64 (Int.ofNat k),.str (ofN w),.int .i64 (Int.ofNat i)],.int .i64 (Int.ofNat (i+w.length))],σ')∧Fr Nowhere σ σ'
def SpTks (N:Nat) (F:List V→H→Ans):Prop:=∀(σ:H) (s:BS) (ts:List Tok),Tidy σ→s.len≤8000→Tks N s.len s.nats ts →
 ∃v σ',F [.str s] σ=some (.tup [v,.int .i64 (Int.ofNat 0),.int .i64 (Int.ofNat 0)],σ')∧Dst σ' 3 ts.length v (tkCells ts)∧(∀b,Names v b→σ.next≤b)∧Fr Nowhere σ σ'
section
variable {E:List (Nat × Blk)} {D:Den} {W:DrawFn} {N:Nat}
theorem num_L (hD:SpDig (D 68)) (σ:H) (s:BS) (m:Bool) (f:Nat) (r:List Nat) (hr:digB (r.headD 0)=false):∀(ds:List Nat) (n i k v:Nat),(∀d∈ds,digB d=true)→ds.length<n→At5 s i (ds++r)→i=f+k→k+ds.length≤19→valD v ds≤9223372036854775808 →
  L69_3 E D W N n s (Int.ofNat i) m (Int.ofNat f) (Int.ofNat v) σ=J69_2 E D W N s (Int.ofNat (i+ds.length)) m (Int.ofNat f) (Int.ofNat (valD v ds)) σ
 | [],n,i,k,v,hd,hn,h,hi,hk,hv=>by
  obtain⟨n,rfl⟩:∃j,n=j+1:=⟨n-1,by omega⟩
  show T69_3 E D W (J69_2 E D W N) _ s (Int.ofNat i) m (Int.ofNat f) (Int.ofNat v) σ=J69_2 E D W N s (Int.ofNat i) m (Int.ofNat f) (Int.ofNat v) σ
  have key:∀K R,T69_3 E D W K R s (Int.ofNat i) m (Int.ofNat f) (Int.ofNat v) σ=K s (Int.ofNat i) m (Int.ofNat f) (Int.ofNat v) σ:=by
   intro K R
   unfold T69_3
   cases r with
   | nil=>
    have d1:decide (i<s.len)=false:=decide_eq_false (by have:=h.nil;omega)
    simp -implicitDefEqProofs only [↓rP,rA,Nat.reduceEqDiff,Nat.reduceLT,Nat.reduceLeDiff,d1]
   | cons c r=>
    have d1:decide (i<s.len)=true:=decide_eq_true h.lt
    have e:=h.ix
    have g:=hD σ c
    have hr:digB c=false:=hr
    rw[hr]at g
    simp -implicitDefEqProofs only [↓rP,rA,Nat.reduceEqDiff,Nat.reduceLT,Nat.reduceLeDiff,d1,↓e,↓g]
  exact key _ _
 | c::ds,n,i,k,v,hd,hn,h,hi,hk,hv=>by
  obtain⟨n,rfl⟩:∃j,n=j+1:=⟨n-1,by omega⟩
  have hc:=hd c (List.mem_cons_self ..)
  have hc':=digB_of hc
  have hle:=h.le
  have e:=At5.ix (show At5 s i (c::(ds++r))from h)
  have hlt:=At5.lt (show At5 s i (c::(ds++r))from h)
  have htl:=At5.tl (show At5 s i (c::(ds++r))from h)
  have d1:decide (i<s.len)=true:=decide_eq_true hlt
  have g:=hD σ c
  rw[hc]at g
  have hv1:valD (10*v+(c-48)) ds≤9223372036854775808:=hv
  have hv2:=valD_ge ds (10*v+(c-48))
  simp only[List.length_cons]at hk hn
  have a1:addF .i64 (Int.ofNat i) (Int.ofNat 1)=Int.ofNat (i+1):=addF_nat (by omega)
  have a2:subF .i64 (Int.ofNat i) (Int.ofNat f)=Int.ofNat k:=by rw[subF_nat (by omega) (by omega),show i-f=k by omega]
  have a3:subF .u8 (Int.ofNat c) (Int.ofNat 48)=Int.ofNat (c-48):=by
   show wrapF .u8 (Int.ofNat c-Int.ofNat 48)=_
   rw[show Int.ofNat c-Int.ofNat 48=Int.ofNat (c-48)from(Int.ofNat_sub hc'.1).symm]
   exact wrapF_nat (show c-48≤255 by omega)
  have a4:wrapF .u64 (Int.ofNat (c-48))=Int.ofNat (c-48):=wrapF_nat (show c-48≤18446744073709551615 by omega)
  have a5:mulF .u64 (Int.ofNat 10) (Int.ofNat v)=Int.ofNat (10*v):=by
   show wrapF .u64 (Int.ofNat (10*v))=_
   exact wrapF_nat (show 10*v≤18446744073709551615 by omega)
  have a6:addF .u64 (Int.ofNat (10*v)) (Int.ofNat (c-48))=Int.ofNat (10*v+(c-48)):=by
   show wrapF .u64 (Int.ofNat (10*v+(c-48)))=_
   exact wrapF_nat (show 10*v+(c-48)≤18446744073709551615 by omega)
  have d2:decide (k<19)=true:=decide_eq_true (by omega)
  have ih:=num_L hD σ s m f r hr ds n (i+1) (k+1) (10*v+(c-48)) (fun d h=>hd d (List.mem_cons_of_mem _ h)) (by omega) htl (by omega) (by omega) hv1
  show T69_3 E D W (J69_2 E D W N) (T69_4 E D W (L69_3 E D W N n)) s (Int.ofNat i) m (Int.ofNat f) (Int.ofNat v) σ=J69_2 E D W N s (Int.ofNat (i+(ds.length+1))) m (Int.ofNat f) (Int.ofNat (valD (10*v+(c-48)) ds)) σ
  have key:∀K R,T69_3 E D W K (T69_4 E D W R) s (Int.ofNat i) m (Int.ofNat f) (Int.ofNat v) σ=R s (Int.ofNat (i+1)) m (Int.ofNat f) (Int.ofNat (10*v+(c-48))) σ:=by
   intro K R
   unfold T69_3 T69_4
   simp -implicitDefEqProofs only [↓rP,rA,Nat.reduceEqDiff,Nat.reduceLT,Nat.reduceLeDiff,d1,↓e,↓g,a1,a2,d2,a3,a4,a5,a6]
  rw[key,ih,show i+1+ds.length=i+(ds.length+1)by omega]
theorem rnum_F (hA:SpRat (D 64)) (hL:SpLet (D 65)) (hD:SpDig (D 68)) (hN:100<N):SpRnum (F69 E D W N):=by
  intro σ s i m ds r h hk
  have hle:=h.le
  have tail:∀f,At5 s f (ds++r)→f≤10001→J69_1 E D W N s (Int.ofNat f) m σ=some (.int .i64 (Int.ofNat (f+ds.length)),σ):=by
    intro f hf hfl
    show L69_3 E D W N N s (Int.ofNat f) m (Int.ofNat f) (Int.ofNat 0) σ=_
    have h19:=hk.n19
    have h1:=hk.n1
    rw[num_L hD σ s m f r hk.nd ds N f 0 0 hk.dig (by omega) hf rfl (by omega) hk.v]
    have hb:=hf.dr (k:=ds.length) (by simp)
    rw[List.drop_left]at hb
    have ga:=hA σ s (f+ds.length) r hb
    have gl:=hL σ (r.headD 0)
    rw[hk.nl]at gl
    have a2:subF .i64 (Int.ofNat (f+ds.length)) (Int.ofNat f)=Int.ofNat ds.length:=by rw[subF_nat (by omega) (by omega),show f+ds.length-f=ds.length by omega]
    have e:∀κ:Int→Ans,idxStrX s (Int.ofNat f) κ=κ (Int.ofNat (ds.headD 0)):=by
      obtain⟨d,l,rfl⟩:∃d l,ds=d::l:=by
        cases ds with
        | nil=>simp at h1
        | cons d l=>exact⟨d,l,rfl⟩
      exact At5.ix (show At5 s f (d::(l++r))from hf)
    have d1:decide (ds.length<1)=false:=decide_eq_false (by omega)
    have d2:decide (19<ds.length)=false:=decide_eq_false (by omega)
    have d6:decide (9223372036854775808<valD 0 ds)=false:=decide_eq_false (by have:=hk.v;omega)
    have d3:(decide (1<ds.length)&&decide (ds.headD 0=48))=false:=by
      rcases hk.lead with h|h
      · rw[decide_eq_false (by omega)];rfl
      · rw[decide_eq_false h,Bool.and_false]
    have d4:(m&&decide (ds.headD 0=48))=false:=by
      cases hm:m with
      | false=>rfl
      | true=>rw[decide_eq_false (hk.mi hm)];rfl
    have d5:(!m&&decide (valD 0 ds=9223372036854775808))=false:=by
      cases hm:m with
      | true=>rfl
      | false=>rw[decide_eq_false (by have:=hk.vp hm;omega)];rfl
    show T69_2 E D W s (Int.ofNat (f+ds.length)) m (Int.ofNat f) (Int.ofNat (valD 0 ds)) σ=_
    unfold T69_2
    cases h8:decide (1<ds.length)<;>cases h9:decide (ds.headD 0=48)<;>cases hm:m<;>(rw[h8,h9]at d3;rw[h9,hm]at d4;rw[hm]at d5) <;>
      first
      | (exact absurd d3 (by decide))
      | (exact absurd d4 (by decide))
      | (simp only[Bool.not_false,Bool.not_true,Bool.true_and,Bool.false_and]at d5
         simp -implicitDefEqProofs only [↓rP,rA,Nat.reduceEqDiff,Nat.reduceLT,Nat.reduceLeDiff,a2,d1,d2,h8,↓e,h9,↓ga,↓gl,d5,d6])
  cases m with
  | false=>
    have h':At5 s i (ds++r):=h
    obtain⟨d,l,rfl⟩:∃d l,ds=d::l:=by
      have:=hk.n1
      cases ds with
      | nil=>simp at this
      | cons d l=>exact⟨d,l,rfl⟩
    have e:=At5.ix (show At5 s i (d::(l++r))from h')
    have hd:=digB_of (hk.dig d (List.mem_cons_self ..))
    have d0:decide (d=45)=false:=decide_eq_false (by omega)
    show T69_0 E D W (J69_1 E D W N) s (Int.ofNat i) σ=_
    have key:∀K,T69_0 E D W K s (Int.ofNat i) σ=K s (Int.ofNat i) false σ:=by
      intro K
      unfold T69_0
      simp -implicitDefEqProofs only [↓rP,rA,Nat.reduceEqDiff,Nat.reduceLT,Nat.reduceLeDiff,↓e,d0]
    rw[key]
    exact tail i h' (by omega)
  | true=>
    have h':At5 s i (45::(ds++r)):=h
    have e:=h'.ix
    have a1:addF .i64 (Int.ofNat i) (Int.ofNat 1)=Int.ofNat (i+1):=addF_nat (by omega)
    show T69_0 E D W (J69_1 E D W N) s (Int.ofNat i) σ=_
    have key:∀K,T69_0 E D W K s (Int.ofNat i) σ=K s (Int.ofNat (i+1)) true σ:=by
      intro K
      unfold T69_0
      simp -implicitDefEqProofs only [↓rP,rA,Nat.reduceEqDiff,Nat.reduceLT,Nat.reduceLeDiff,↓e,a1]
    rw[key,tail (i+1) h'.tl (by omega)]
    show some (V.int .i64 (Int.ofNat (i+1+ds.length)),σ)=some (V.int .i64 (Int.ofNat (i+(ds.length+1))),σ)
    rw[show i+1+ds.length=i+(ds.length+1)by omega]
end
section
variable {E:List (Nat × Blk)} {D:Den} {W:DrawFn} {N:Nat}
theorem numT_ne (m:Bool) {ds r:List Nat} (h:NumOk m ds r):∃c l,numT m ds++r=c::l∧((m=false∧digB c=true)∨(m=true∧c=45∧digB (l.headD 0)=true)):=by
 obtain⟨d,ds',rfl⟩:∃d l,ds=d::l:=by
  have:=h.n1
  cases ds with
  | nil=>simp at this
  | cons d l=>exact⟨d,l,rfl⟩
 have hd:=h.dig d (List.mem_cons_self ..)
 cases m with
 | false=>exact⟨d,ds'++r,rfl,.inl ⟨rfl,hd⟩⟩
 | true=>exact⟨45,d::(ds'++r),rfl,.inr ⟨rfl,rfl,hd⟩⟩
theorem dig_let {c:Nat} (h:digB c=true):letB c=false:=by
 obtain⟨h1,h2⟩:=digB_of h
 unfold letB
 rw[decide_eq_false (show ¬97≤c by omega),decide_eq_false (show ¬65≤c by omega)];rfl
theorem one_F (hA:SpRat (D 64)) (hL:SpLet (D 65)) (hD:SpDig (D 68)) (hNm:SpRname (D 66)) (hW:SpRword (D 67)) (hNu:SpRnum (D 69)) (hS:SpRsign (D 72)):SpOne (F38 E D W N):=by
 intro σ s i k r w r' ht h hk
 have hle:=h.le
 have hlen:=h.len
 have hfew:=h.few
 have bd:=h.r.bd
 cases hk with
 | @name c r1 k hc hb hkk=>
  have e:=h.ix
  have g1:=hL σ c
  rw[hc]at g1
  have g2:=hNm σ s i c r1 h hc
  rw[hb,if_neg (by decide)]at g2
  have hm:=nmL_le (c::r1)
  obtain⟨m,hm'⟩:∃m,nmL (c::r1)=m:=⟨_,rfl⟩
  rw[hm']at g2 hm hkk ⊢
  have sp:∀κ,sliceStrX s (some (.int .i64 (Int.ofNat i))) (some (.int .i64 (Int.ofNat (i+m)))) κ=κ (ofN ((c::r1).take m)):=fun κ=>by
   rw[sliceStrX_both (by omega) (by omega),h.r.sub hm]
  obtain⟨σ3,g3,f3⟩:=hW σ (ofN ((c::r1).take m)) ht
  have lt:((c::r1).take m).length=m:=by rw[List.length_take];omega
  refine⟨σ3,?_,f3⟩
  rw[lt]
  show T38_0 E D W (J38_1 E D W N) (J38_2 E D W N) s (Int.ofNat i) σ=_
  have d0:ltF (Int.ofNat (i+m)) (Int.ofNat 0)=false:=by rw[ltF_nat];exact decide_eq_false (by omega)
  have k2:∀kk:Nat,J38_2 E D W N (Int.ofNat (i+m)) (Int.ofNat 0) (BS.mk 0 0) (Int.ofNat 0) (Int.ofNat kk) (ofN ((c::r1).take m)) (Int.ofNat i) σ=some (.tup [.agg [.int .i64 (Int.ofNat (if wdB (ofN ((c::r1).take m))=true then 5 else kk)),.str (ofN ((c::r1).take m)),.int .i64 (Int.ofNat i)],.int .i64 (Int.ofNat (i+m))],σ3):=by
   intro kk
   show T38_2 E D W (T38_1 E D W) _ _ _ _ _ _ _ σ=_
   unfold T38_2 T38_1
   cases hw:wdB (ofN ((c::r1).take m))<;>(rw[hw]at g3;simp -implicitDefEqProofs only [↓rP,rS,↓g3])<;>rfl
  have key:∀K1 K2,T38_0 E D W K1 K2 s (Int.ofNat i) σ=K2 (Int.ofNat (i+m)) (Int.ofNat 0) (BS.mk 0 0) (Int.ofNat 0) (Int.ofNat (if c≤90 then 1 else 2)) (ofN ((c::r1).take m)) (Int.ofNat i) σ:=by
   intro K1 K2
   unfold T38_0
   by_cases h9:c≤90
   ·rw[if_pos h9]
    simp -implicitDefEqProofs only [↓rP,rA,Nat.reduceEqDiff,Nat.reduceLT,Nat.reduceLeDiff,↓e,↓g1,↓g2,d0,Nat.not_lt_zero,↓sp,decide_eq_true h9]
   ·rw[if_neg h9]
    simp -implicitDefEqProofs only [↓rP,rA,Nat.reduceEqDiff,Nat.reduceLT,Nat.reduceLeDiff,↓e,↓g1,↓g2,d0,Nat.not_lt_zero,↓sp,decide_eq_false h9]
  rw[key,k2,hkk]
 | @num m ds _ hn=>
  obtain⟨c,l,hcl,hc⟩:=numT_ne m hn
  have g2:=hNu σ s i m ds r' h hn
  have hsub:∀κ,sliceStrX s (some (.int .i64 (Int.ofNat i))) (some (.int .i64 (Int.ofNat (i+(numT m ds).length)))) κ=κ (ofN (numT m ds)):=fun κ=>by
   rw[sliceStrX_both (by omega) (by rw[List.length_append]at hlen;omega),h.r.sub (k:=(numT m ds).length) (by rw[List.length_append];omega),List.take_left]
  have h':At5 s i (c::l):=hcl ▸ h
  have e:=h'.ix
  have g1:=hL σ c
  have gd:=hD σ c
  have a1:addF .i64 (Int.ofNat i) (Int.ofNat 1)=Int.ofNat (i+1):=addF_nat (by omega)
  have ga:=hA σ s (i+1) l h'.tl
  have gd2:=hD σ (l.headD 0)
  refine⟨σ,?_,Fr.refl ht⟩
  show T38_0 E D W (T38_1 E D W) (J38_2 E D W N) s (Int.ofNat i) σ=_
  rcases hc with ⟨_,hc⟩|⟨_,rfl,hc⟩
  ·rw[dig_let hc]at g1
   rw[hc]at gd
   unfold T38_0 T38_1
   simp -implicitDefEqProofs only [↓rP,rA,Nat.reduceEqDiff,Nat.reduceLT,Nat.reduceLeDiff,↓e,↓g1,↓gd,↓g2,Nat.not_lt_zero,↓hsub]
  ·rw[show letB 45=false from rfl]at g1
   rw[show digB 45=false from rfl]at gd
   rw[hc]at gd2
   unfold T38_0 T38_1
   simp -implicitDefEqProofs only [↓rP,rA,Nat.reduceEqDiff,Nat.reduceLT,Nat.reduceLeDiff,↓e,↓g1,↓gd,a1,↓ga,↓gd2,↓g2,Nat.not_lt_zero,↓hsub]
 | @sign c r1 hc hd hm h39 h34 h0=>
  have e:=h.ix
  have g1:=hL σ c
  rw[hc]at g1
  have gd:=hD σ c
  rw[hd]at gd
  have a1:addF .i64 (Int.ofNat i) (Int.ofNat 1)=Int.ofNat (i+1):=addF_nat (by omega)
  have ga:=hA σ s (i+1) r1 h.tl
  have gd2:=hD σ (r1.headD 0)
  obtain⟨σ2,g2,f2⟩:=hS σ s i (c::r1) ht h
  have hsl:=sgIn_le signsV (c::r1)
  obtain⟨m,hm'⟩:∃m,sgIn signsV (c::r1)=m:=⟨_,rfl⟩
  rw[hm']at g2 h0 hsl ⊢
  have lt:((c::r1).take m).length=m:=by rw[List.length_take];omega
  have lm:m≤10000:=by omega
  have a2:addF .i64 (Int.ofNat i) (Int.ofNat m)=Int.ofNat (i+m):=addF_nat (by omega)
  have sp:∀κ,sliceStrX s (some (.int .i64 (Int.ofNat i))) (some (.int .i64 (Int.ofNat (i+m)))) κ=κ (ofN ((c::r1).take m)):=fun κ=>by
   rw[sliceStrX_both (by omega) (by omega),h.r.sub hsl]
  refine⟨σ2,?_,f2⟩
  rw[lt]
  show T38_0 E D W (T38_1 E D W) (J38_2 E D W N) s (Int.ofNat i) σ=_
  unfold T38_0 T38_1
  by_cases h45:c=45
  ·rw[hm h45]at gd2
   simp -implicitDefEqProofs only [↓rP,rA,Nat.reduceEqDiff,Nat.reduceLT,Nat.reduceLeDiff,↓e,↓g1,↓gd,decide_eq_true h45,a1,↓ga,↓gd2,decide_eq_false h39,decide_eq_false h34,↓g2,decide_eq_true h0,a2,↓sp]
  ·simp -implicitDefEqProofs only [↓rP,rA,Nat.reduceEqDiff,Nat.reduceLT,Nat.reduceLeDiff,↓e,↓g1,↓gd,decide_eq_false h45,decide_eq_false h39,decide_eq_false h34,↓g2,decide_eq_true h0,a2,↓sp]
theorem tks_L (hW:SpWht N (D 37)) (hO:SpOne (D 38)) (s:BS) (hs:s.len≤8000) (σ0:H):∀(r:List Nat) (ts:List Tok),Tks N s.len r ts→∀(n i:Nat) (acc:List Tok) (v:V) (σ:H),ts.length<n→acc.length+ts.length≤9000→At5 s i r→Fr Nowhere σ0 σ→Dst σ 3 acc.length v (tkCells acc)→(∀b,Names v b→σ0.next≤b) →
  ∃u σ',L19_1 E D W N n s v (Int.ofNat i) σ=some (.tup [u,.int .i64 (Int.ofNat 0),.int .i64 (Int.ofNat 0)],σ')∧Dst σ' 3 (acc++ts).length u (tkCells (acc++ts))∧(∀b,Names u b→σ0.next≤b)∧Fr Nowhere σ0 σ':=by
 intro r ts hts
 have grow:∀k,k≤9001→growable k 32=true:=fun k hk=>by unfold growable;simp only[Bool.and_eq_true,Nat.ble_eq];omega
 have push:∀(t:Tok) (acc:List Tok) (v:V) (σ:H),acc.length+1≤9001→Fr Nowhere σ0 σ→Dst σ 3 acc.length v (tkCells acc)→(∀b,Names v b→σ0.next≤b) →
   ∃u σ1 σ2,newB σ (.cells [.int .i64 (Int.ofNat t.1),.str (ofN t.2.1),.int .i64 (Int.ofNat t.2.2)])=σ1∧(∀κ:V→H→Ans,appK E 3 32 v (.sl σ.next 0 1 (.ex 1)) σ1 κ=κ u σ2)∧Dst σ2 3 (acc++[t]).length u (tkCells (acc++[t]))∧(∀b,Names u b→σ0.next≤b)∧Fr Nowhere σ0 σ2:=by
  intro t acc v σ ha f hv hn
  obtain⟨σ1,e1,f1,a1,n1⟩:=mkN f.tidy [.int .i64 (Int.ofNat t.1),.str (ofN t.2.1),.int .i64 (Int.ofNat t.2.2)]
  have xs:Src σ1 3 1 (V.sl σ.next 0 1 (.ex 1)) [.int .i64 (Int.ofNat t.1),.str (ofN t.2.1),.int .i64 (Int.ofNat t.2.2)] := .inr ⟨_,_,_,_,rfl,a1,Nat.le_refl _,rfl⟩
  obtain⟨u,σ2,g,d,nm,f2⟩:=app_all (E:=E) (bytes:=32) (hv.fr f1 f.tidy (fun _ _ h=>h)) f1.tidy xs rfl (grow _ ha)
  have l1:=f1.le
  have l0:=f.le
  refine⟨u,σ1,σ2,e1,g,?_,fun b hb=>(nm b hb).elim (hn b) (fun h=>by omega),(f.trans f1 (fun _ _ h=>h)).trans f2 fun b hb h=>by have:=hn b h;omega⟩
  rw[tkCells_app,List.length_append];exact d
 induction hts with
 | @fin r hw=>
  intro n i acc v σ hn ha h f hv hnm
  obtain⟨n,rfl⟩:∃j,n=j+1:=⟨n-1,by omega⟩
  obtain⟨k,h1,h2,h3⟩:=hW σ s i r h
  have hik:i+k=s.len:=by
   rw[hw]at h2
   have:=congrArg List.length h2
   rw[List.length_drop,List.length_nil]at this
   have:=h.len
   omega
  rw[hik]at h3
  simp only[List.length_cons,List.length_nil]at ha
  obtain⟨u,σ1,σ2,e1,g,d,nm,f2⟩:=push (0,[],s.len) acc v σ (by omega) f hv hnm
  refine⟨u,σ2,?_,d,nm,f2⟩
  have e1':newB σ (.cells [.int .i64 (Int.ofNat 0),.str (BS.mk 0 0),.int .i64 (Int.ofNat s.len)])=σ1:=e1
  have d1:decide (s.len≤s.len)=true:=decide_eq_true (Nat.le_refl _)
  show T19_1 E D W _ s v (Int.ofNat i) σ=_
  have key:∀R,T19_1 E D W R s v (Int.ofNat i) σ=some (.tup [u,.int .i64 (Int.ofNat 0),.int .i64 (Int.ofNat 0)],σ2):=by
   intro R
   unfold T19_1
   simp -implicitDefEqProofs only [↓rP,rA,Nat.reduceEqDiff,Nat.reduceLT,Nat.reduceLeDiff,↓h3,d1,↓e1',↓g,↓rtOne_of d.one]
  exact key _
 | @one r r1 w r2 kd ts hw htk hrest ih=>
  intro n i acc v σ hn ha h f hv hnm
  obtain⟨n,rfl⟩:∃j,n=j+1:=⟨n-1,by omega⟩
  obtain⟨k,h1,h2,h3⟩:=hW σ s i r h
  have hb:=h.dr h1
  rw[←h2,hw]at hb
  obtain⟨happ,hw0⟩:=htk.app
  have hlen:=hb.len
  have hr1:0<r1.length:=by rw[happ,List.length_append];omega
  have eat:s.len-r1.length=i+k:=by omega
  obtain⟨σ1,g1,f1⟩:=hO σ s (i+k) kd r1 w r2 f.tidy hb htk
  have f01:=f.trans f1 (fun _ _ h=>h)
  simp only[List.length_cons]at ha hn
  obtain⟨u,σ2,σ3,e2,g,d,nm,f3⟩:=push (kd,w,s.len-r1.length) acc v σ1 (by omega) f01 (hv.fr f1 f.tidy (fun _ _ h=>h)) hnm
  have hnx:=hb.dr (k:=w.length) (by rw[happ,List.length_append];omega)
  rw[happ,List.drop_left]at hnx
  obtain⟨u',σ',g',d',nm',f'⟩:=ih n (i+k+w.length) (acc++[(kd,w,s.len-r1.length)]) u σ3 (by omega) (by rw[List.length_append,List.length_cons,List.length_nil];omega) hnx f3 d nm
  rw[List.append_assoc]at d'
  refine⟨u',σ',?_,d',nm',f'⟩
  rw[eat]at e2
  have e2':newB σ1 (.cells [.int .i64 (Int.ofNat kd),.str (ofN w),.int .i64 (Int.ofNat (i+k))])=σ2:=e2
  have d1:decide (s.len≤i+k)=false:=decide_eq_false (by omega)
  show T19_1 E D W (L19_1 E D W N n) s v (Int.ofNat i) σ=_
  have key:∀R,T19_1 E D W R s v (Int.ofNat i) σ=R s u (Int.ofNat (i+k+w.length)) σ3:=by
   intro R
   unfold T19_1
   simp -implicitDefEqProofs only [↓rP,rA,Nat.reduceEqDiff,Nat.reduceLT,Nat.reduceLeDiff,↓h3,d1,↓g1,Nat.not_lt_zero,↓e2',↓g,↓rtOne_of d.one]
  rw[key,g']
theorem rtokens_F (hW:SpWht N (D 37)) (hO:SpOne (D 38)) (hN:10000<N):SpTks N (F19 E D W N):=by
 intro σ s ts ht hs hts
 have hl:=hts.len
 rw[BS.length_nats]at hl
 obtain⟨u,σ',g,d,nm,f⟩:=tks_L (E:=E) (W:=W) hW hO s hs σ s.nats ts hts N 0 [] .nils σ (by omega) (by simp only[List.length_nil];omega) ⟨Rst.start s,by omega⟩ (Fr.refl ht) (Dst.nil σ 3) (fun _ h=>h.elim)
 refine⟨u,σ',?_,d,nm,f⟩
 have d1:decide (8000<s.len)=false:=decide_eq_false (by omega)
 show T19_0 E D W (L19_1 E D W N N) s σ=_
 have key:∀K,T19_0 E D W K s σ=K s .nils (Int.ofNat 0) σ:=by
  intro K
  unfold T19_0
  simp -implicitDefEqProofs only [↓rP,rA,Nat.reduceEqDiff,Nat.reduceLT,Nat.reduceLeDiff,d1]
 rw[key];exact g
end
def tokC (t:Tok):List V:=[.int .i64 (Int.ofNat t.1),.str (ofN t.2.1),.int .i64 (Int.ofNat t.2.2)]
theorem tk_sub:∀(ts:List Tok) (i:Nat) (t:Tok),ts[i]? = some t→((tkCells ts).drop (i*3)).take 3=tokC t
 | [],i,t,h=>by simp at h
 | u::ts,0,t,h=>by simp at h;subst h;rfl
 | u::ts,i+1,t,h=>by
  have:ts[i]? = some t:=by simpa using h
  show ((tokC u++tkCells ts).drop ((i+1)*3)).take 3=_
  rw[show (i+1)*3=3+i*3 by omega,←List.drop_drop,show (tokC u++tkCells ts).drop 3=tkCells ts from rfl]
  exact tk_sub ts i t this
structure Rs where
 nm:BS
 tg:Int
 nv:V
 tv:V
 dv:V
def pc (lv:V) (a:Nat) (R:Rs):List V:=[lv,.int .i64 (Int.ofNat a),.str R.nm,.int .i64 R.tg,R.nv,R.tv,R.dv,.int .i64 (Int.ofNat 0),.int .i64 (Int.ofNat 0)]
structure TsOk (ts:List Tok):Prop where
 few:ts.length≤9000
 fin:∃p e,ts=p++[e]∧e.1=0
 nums:∀t∈ts,t.1=3→∃m ds r,t.2.1=numT m ds∧NumOk m ds r
structure Pz (σ:H) (xb:Nat) (lv:V) (ts l:List Tok) (R:Rs):Prop where
 ex:∃a,Atc σ xb (pc lv a R)∧ts.drop a=l
 src:Src σ 3 ts.length lv (tkCells ts)
 ne:l≠[]
 nx:∀b,Names lv b→b≠xb
 ok:TsOk ts
 ht:Tidy σ
section
variable {E:List (Nat × Blk)} {σ σ':H} {xb:Nat} {lv:V} {ts l:List Tok} {R:Rs} {t t2:Tok}
theorem Pz.fr {S:Nat→Prop} (h:Pz σ xb lv ts l R) (f:Fr S σ σ') (h1:¬S xb) (h2:∀b,Names lv b→¬S b):Pz σ' xb lv ts l R:=by
 obtain⟨a,ha,hl⟩:=h.ex
 exact⟨⟨a,f.at_ ha h.ht h1,hl⟩,h.src.fr f h.ht h2,h.ne,h.nx,h.ok,f.tidy⟩
theorem tk_at {a:Nat} (h:Src σ 3 ts.length lv (tkCells ts)) (hl:ts.drop a=t::l) (κ:List V→Ans):iaddrSK 3 lv (Int.ofNat a) (fun b o=>ldnK E σ b o 3 κ)=κ (tokC t):=by
 have hlt:a<ts.length:=by
  have:=congrArg List.length hl
  simp only[List.length_drop,List.length_cons]at this;omega
 have hg:ts[a]? = some t:=by
  have:=congrArg (fun x:List Tok=>x[0]?) hl
  simpa using this
 rcases h with ⟨h0,_,_⟩|⟨b,o,c,L,rfl,ha,hle,hm⟩
 ·omega
 ·rw[iaddrSK_lt hlt]
  show ldnK E σ b (o+a*3) 3 κ=_
  rw[ldnK_is ha,subK_of (by omega)]
  have:=tk_sub ts a t hg
  rw[hm,List.drop_take,List.take_take,Nat.min_eq_left (by omega),List.drop_drop]at this
  rw[this]
theorem Pz.lt (h:Pz σ xb lv ts l R):xb<σ.next:=by
 obtain⟨a,ha,_⟩:=h.ex
 exact ha.lt h.ht
theorem Pz.adv (h:Pz σ xb lv ts (t::t2::l) R) {a:Nat} (ha:Atc σ xb (pc lv a R)) (hl:ts.drop a=t::t2::l) :
  ∃σ',(∀κ:H→Ans,stK 1 xb 1 (.int .i64 (Int.ofNat (a+1))) σ κ=κ σ')∧Pz σ' xb lv ts (t2::l) R∧Fr (fun k=>k=xb) σ σ':=by
 obtain⟨σ',e,f,a'⟩:=mkS h.ht ha (pc lv (a+1) R)
 refine⟨σ',fun κ=>?_,⟨⟨a+1,a',?_⟩,h.src.fr f h.ht fun b hb e=>h.nx b hb e,by simp,h.nx,h.ok,f.tidy⟩,f⟩
 ·rw[stK_at ha rfl]
  show κ (setF σ xb (.cells (pc lv (a+1) R)))=_
  rw[e]
 ·rw[←List.drop_drop,hl];rfl
end
def isP (s:BS):List Tok→Bool × List Tok
 | t::t2::l=>match (decide (t.1=5) || decide (t.1=6))&&(ofN t.2.1).beq s with
  | true=>(true,t2::l)
  | false=>(false,t::t2::l)
 | l=>(false,l)
theorem isP_cons (s:BS) (t t2:Tok) (l:List Tok):isP s (t::t2::l)=match (decide (t.1=5) || decide (t.1=6))&&(ofN t.2.1).beq s with
 | true=>(true,t2::l)
 | false=>(false,t::t2::l):=rfl
def mustP (s:BS) (l:List Tok):Option (List Tok):=match isP s l with
 | (true,l')=>some l'
 | (false,_)=>none
def kindP (k:Nat):List Tok→Option (List Nat × List Tok)
 | t::t2::l=>match decide (t.1=k)with
  | true=>some (t.2.1,t2::l)
  | false=>none
 | _=>none
def numI (w:List Nat):Int:=match w with
 | []=>0
 | c::ds=>match decide (c=45)with
  | true=>-Int.ofNat (valD 0 ds)
  | false=>Int.ofNat (valD 0 (c::ds))
def numP (l:List Tok):Option (Int × List Tok):=(kindP 3 l).map fun p=>(numI p.1,p.2)
def SpNow (F:List V→H→Ans):Prop:=∀{σ:H} {xb:Nat} {lv:V} {ts:List Tok} {l:List Tok} {R:Rs} {t:Tok},Pz σ xb lv ts (t::l) R→F [.ptr xb 0] σ=some (.agg (tokC t),σ)
def SpNext (F:List V→H→Ans):Prop:=∀{σ:H} {xb:Nat} {lv:V} {ts:List Tok} {l:List Tok} {R:Rs} {t t2:Tok},Pz σ xb lv ts (t::t2::l) R→∃σ',F [.ptr xb 0] σ=some (.agg (tokC t),σ')∧Pz σ' xb lv ts (t2::l) R∧Fr (fun k=>k=xb) σ σ'
def SpIs (F:List V→H→Ans):Prop:=∀{σ:H} {xb:Nat} {lv:V} {ts:List Tok} {l:List Tok} {R:Rs} (s:BS),Pz σ xb lv ts l R→∃σ',F [.ptr xb 0,.str s] σ=some (.bool (isP s l).1,σ')∧Pz σ' xb lv ts (isP s l).2 R∧Fr (fun k=>k=xb) σ σ'
def SpMust (F:List V→H→Ans):Prop:=∀{σ:H} {xb:Nat} {lv:V} {ts:List Tok} {l l':List Tok} {R:Rs} {s:BS},Pz σ xb lv ts l R→mustP s l=some l'→∃σ',F [.ptr xb 0,.str s] σ=some (.tup [],σ')∧Pz σ' xb lv ts l' R∧Fr (fun k=>k=xb) σ σ'
def SpKind (F:List V→H→Ans):Prop:=∀{σ:H} {xb:Nat} {lv:V} {ts:List Tok} {l l':List Tok} {R:Rs} {k:Nat} {w:List Nat},Pz σ xb lv ts l R→kindP k l=some (w,l')→∃σ',F [.ptr xb 0,.int .i64 (Int.ofNat k)] σ=some (.str (ofN w),σ')∧Pz σ' xb lv ts l' R∧Fr (fun k=>k=xb) σ σ'
def SpWhole (F:List V→H→Ans):Prop:=∀(σ:H) (m:Bool) (ds r:List Nat),NumOk m ds r→F [.str (ofN (numT m ds))] σ=some (.int .i64 (numI (numT m ds)),σ)
def SpNumb (F:List V→H→Ans):Prop:=∀{σ:H} {xb:Nat} {lv:V} {ts:List Tok} {l l':List Tok} {R:Rs} {v:Int},Pz σ xb lv ts l R→numP l=some (v,l')→∃σ',F [.ptr xb 0] σ=some (.int .i64 v,σ')∧Pz σ' xb lv ts l' R∧Fr (fun k=>k=xb) σ σ'
section
variable {E:List (Nat × Blk)} {D:Den} {W:DrawFn} {N:Nat}
theorem now_F:SpNow (F23 E D W N):=by
 intro σ xb lv ts l R t h
 obtain⟨a,ha,hl⟩:=h.ex
 have rd:=fun κ=>tk_at (E:=E) h.src hl κ
 unfold tokC at rd ⊢
 unfold pc at ha
 show T23_0 E D W xb 0 σ=_
 unfold T23_0
 simp -implicitDefEqProofs only [↓rP,rA,Nat.reduceEqDiff,Nat.reduceLT,Nat.reduceLeDiff,↓ldK_is ha,↓rd]
theorem next_F:SpNext (F39 E D W N):=by
 intro σ xb lv ts l R t t2 h
 obtain⟨a,ha,hl⟩:=h.ex
 obtain⟨σ',g,p,f⟩:=h.adv ha hl
 refine⟨σ',?_,p,f⟩
 have rd:=fun κ=>tk_at (E:=E) h.src hl κ
 have hlen:a+2≤ts.length:=by
  have:=congrArg List.length hl
  simp only[List.length_drop,List.length_cons]at this;omega
 have hf:=h.ok.few
 have d1:decide (a+1<ts.length)=true:=decide_eq_true (by omega)
 have a1:addF .i64 (Int.ofNat a) (Int.ofNat 1)=Int.ofNat (a+1):=addF_nat (by omega)
 have sl:∀κ:Nat→Ans,slenK lv κ=κ ts.length:=fun κ=>h.src.slen
 unfold tokC at rd ⊢
 unfold pc at ha
 show T39_0 E D W (T39_1 E D W) xb 0 σ=_
 unfold T39_0 T39_1
 simp -implicitDefEqProofs only [↓rP,rA,Nat.reduceEqDiff,Nat.reduceLT,Nat.reduceLeDiff,↓ldK_is ha,↓rd,a1,↓sl,d1,↓g]
theorem is_F (hN:SpNow (D 23)) (hX:SpNext (D 39)):SpIs (F22 E D W N):=by
  intro σ xb lv ts l R s h
  obtain⟨a,ha,hl⟩:=h.ex
  obtain⟨t,l1,rfl⟩:∃t l1,l=t::l1:=by
    cases l with
    | nil=>exact absurd rfl h.ne
    | cons t l1=>exact⟨t,l1,rfl⟩
  have gn:=hN h
  unfold tokC at gn
  unfold pc at ha
  show ∃σ',T22_0 E D W xb 0 s σ=_∧_
  cases l1 with
  | nil=>
    have h0:t.1=0:=by
      obtain⟨p,e,rfl,he⟩:=h.ok.fin
      have hlen:=congrArg List.length hl
      simp only[List.length_drop,List.length_append,List.length_cons,List.length_nil]at hlen
      have:a=p.length:=by omega
      rw[this,List.drop_left]at hl
      cases hl;exact he
    refine⟨σ,?_,h,Fr.refl h.ht⟩
    unfold T22_0
    simp -implicitDefEqProofs only [↓rP,rA,Nat.reduceEqDiff,Nat.reduceLT,Nat.reduceLeDiff,↓gn,↓ldK_is ha,h0,Nat.reduceEqDiff]
    rfl
  | cons t2 l2=>
    obtain⟨σ',g,p,f⟩:=hX h
    unfold tokC at g
    rw[isP_cons]
    unfold T22_0
    cases h5:decide (t.1=5)<;>cases h6:decide (t.1=6)<;>cases hb:(ofN t.2.1).beq s
    all_goals first
      | (refine⟨σ,?_,h,Fr.refl h.ht⟩
         simp -implicitDefEqProofs only [↓rP,rA,Nat.reduceEqDiff,Nat.reduceLT,Nat.reduceLeDiff,↓gn,↓ldK_is ha,h5,h6,hb];done)
      | (refine⟨σ',?_,p,f⟩
         simp -implicitDefEqProofs only [↓rP,rA,Nat.reduceEqDiff,Nat.reduceLT,Nat.reduceLeDiff,↓gn,↓ldK_is ha,h5,h6,hb,↓g];done)
theorem must_F (hI:SpIs (D 22)):SpMust (F21 E D W N):=by
 intro σ xb lv ts l l' R s h hm
 obtain⟨a,ha,hl⟩:=h.ex
 obtain⟨σ',g,p,f⟩:=hI s h
 unfold mustP at hm
 cases hi:isP s l with
 | mk c l1=>
  rw[hi]at hm g p
  cases c with
  | false=>cases hm
  | true=>
   cases hm
   refine⟨σ',?_,p,f⟩
   unfold pc at ha
   show T21_0 E D W xb 0 s σ=_
   unfold T21_0
   simp -implicitDefEqProofs only [↓rP,rA,Nat.reduceEqDiff,Nat.reduceLT,Nat.reduceLeDiff,↓ldK_is ha,↓g]
theorem kind_F (hN:SpNow (D 23)) (hX:SpNext (D 39)):SpKind (F20 E D W N):=by
 intro σ xb lv ts l l' R k w h hk
 obtain⟨a,ha,hl⟩:=h.ex
 cases l with
 | nil=>exact absurd rfl h.ne
 | cons t l1=>
  cases l1 with
  | nil=>cases hk
  | cons t2 l2=>
   have gn:=hN h
   obtain⟨σ',g,p,f⟩:=hX h
   unfold tokC at gn g
   have hk:(match decide (t.1=k)with | true=>some (t.2.1,t2::l2) | false=>none:Option (List Nat × List Tok))=some (w,l'):=hk
   cases hd:decide (t.1=k)with
   | false=>rw[hd]at hk;cases hk
   | true=>
    rw[hd]at hk
    cases hk
    refine⟨σ',?_,p,f⟩
    unfold pc at ha
    show T20_0 E D W xb 0 (Int.ofNat k) σ=_
    unfold T20_0
    simp -implicitDefEqProofs only [↓rP,rA,Nat.reduceEqDiff,Nat.reduceLT,Nat.reduceLeDiff,↓gn,↓ldK_is ha,hd,↓g]
theorem numT_lt {m:Bool} {ds r:List Nat} (h:NumOk m ds r):∀c∈numT m ds,c<256:=by
 intro c hc
 unfold numT at hc
 have hd:∀c∈ds,c<256:=fun c hc=>by have:=digB_of (h.dig c hc);omega
 split at hc
 ·rcases List.mem_cons.1 hc with rfl|hc
  ·decide
  ·exact hd c hc
 ·exact hd c hc
theorem wh_L (σ:H) (m:Bool) (s:BS) (hs:s.len≤100):∀(ds:List Nat) (n i v:Nat),(∀d∈ds,digB d=true)→ds.length<n→At5 s i ds→valD v ds≤9223372036854775808 →
  L73_3 E D W N n s m (Int.ofNat v) (Int.ofNat i) σ=J73_2 E D W N m (Int.ofNat (valD v ds)) σ
 | [],n,i,v,hd,hn,h,hv=>by
  obtain⟨n,rfl⟩:∃j,n=j+1:=⟨n-1,by omega⟩
  have d1:decide (i<s.len)=false:=decide_eq_false (by have:=h.nil;omega)
  show T73_3 E D W (J73_2 E D W N) _ s m (Int.ofNat v) (Int.ofNat i) σ=_
  have key:∀K R,T73_3 E D W K R s m (Int.ofNat v) (Int.ofNat i) σ=K m (Int.ofNat v) σ:=by
   intro K R
   unfold T73_3
   simp -implicitDefEqProofs only [↓rP,rA,Nat.reduceEqDiff,Nat.reduceLT,Nat.reduceLeDiff,d1]
  exact key _ _
 | c::ds,n,i,v,hd,hn,h,hv=>by
  obtain⟨n,rfl⟩:∃j,n=j+1:=⟨n-1,by omega⟩
  have hc':=digB_of (hd c (List.mem_cons_self ..))
  have hle:=h.le
  have e:=h.ix
  have d1:decide (i<s.len)=true:=decide_eq_true h.lt
  have hv1:valD (10*v+(c-48)) ds≤9223372036854775808:=hv
  have hv2:=valD_ge ds (10*v+(c-48))
  have a1:addF .i64 (Int.ofNat i) (Int.ofNat 1)=Int.ofNat (i+1):=addF_nat (by omega)
  have a3:subF .u8 (Int.ofNat c) (Int.ofNat 48)=Int.ofNat (c-48):=by
   show wrapF .u8 (Int.ofNat c-Int.ofNat 48)=_
   rw[show Int.ofNat c-Int.ofNat 48=Int.ofNat (c-48)from(Int.ofNat_sub hc'.1).symm]
   exact wrapF_nat (show c-48≤255 by omega)
  have a4:wrapF .u64 (Int.ofNat (c-48))=Int.ofNat (c-48):=wrapF_nat (show c-48≤18446744073709551615 by omega)
  have a5:mulF .u64 (Int.ofNat 10) (Int.ofNat v)=Int.ofNat (10*v):=by
   show wrapF .u64 (Int.ofNat (10*v))=_
   exact wrapF_nat (show 10*v≤18446744073709551615 by omega)
  have a6:addF .u64 (Int.ofNat (10*v)) (Int.ofNat (c-48))=Int.ofNat (10*v+(c-48)):=by
   show wrapF .u64 (Int.ofNat (10*v+(c-48)))=_
   exact wrapF_nat (show 10*v+(c-48)≤18446744073709551615 by omega)
  have ih:=wh_L σ m s hs ds n (i+1) (10*v+(c-48)) (fun d h=>hd d (List.mem_cons_of_mem _ h)) (by simp at hn;omega) h.tl hv1
  show T73_3 E D W (J73_2 E D W N) (L73_3 E D W N n) s m (Int.ofNat v) (Int.ofNat i) σ=J73_2 E D W N m (Int.ofNat (valD (10*v+(c-48)) ds)) σ
  have key:∀K R,T73_3 E D W K R s m (Int.ofNat v) (Int.ofNat i) σ=R s m (Int.ofNat (10*v+(c-48))) (Int.ofNat (i+1)) σ:=by
   intro K R
   unfold T73_3
   simp -implicitDefEqProofs only [↓rP,rA,Nat.reduceEqDiff,Nat.reduceLT,Nat.reduceLeDiff,d1,↓e,a1,a3,a4,a5,a6]
  rw[key,ih]
theorem wrap64 {z:Int} (h1 : -9223372036854775808≤z) (h2:z≤9223372036854775807):wrapF .i64 z=z:=by
 unfold wrapF
 have:inK .i64 z=true:=by
  cases z with
  | ofNat m=>
   show Nat.ble m 9223372036854775807=true
   rw[Nat.ble_eq];have h2:(m:Int)≤9223372036854775807:=h2;omega
  | negSucc m=>
   show Nat.blt m 9223372036854775808=true
   rw[Nat.blt_eq];have h1 : -9223372036854775808≤Int.negSucc m:=h1;omega
 rw[this]
theorem neg_val {v:Nat} (h1:1≤v) (h:v≤9223372036854775808):subF .i64 (negF .i64 (wrapF .i64 (subF .u64 (Int.ofNat v) (Int.ofNat 1)))) (Int.ofNat 1) = -Int.ofNat v:=by
 have e1:subF .u64 (Int.ofNat v) (Int.ofNat 1)=Int.ofNat (v-1):=by
  show wrapF .u64 (Int.ofNat v-Int.ofNat 1)=_
  rw[show Int.ofNat v-Int.ofNat 1=Int.ofNat (v-1)from(Int.ofNat_sub h1).symm]
  exact wrapF_nat (show v-1≤18446744073709551615 by omega)
 have e2:wrapF .i64 (Int.ofNat (v-1))=Int.ofNat (v-1):=wrapF_nat (show v-1≤9223372036854775807 by omega)
 rw[e1,e2]
 have e3:negF .i64 (Int.ofNat (v-1)) = -Int.ofNat (v-1):=by
  show wrapF .i64 (Int.sub 0 (Int.ofNat (v-1)))=_
  rw[show Int.sub 0 (Int.ofNat (v-1)) = -Int.ofNat (v-1)from Int.zero_sub _]
  exact wrap64 (z:=-((v-1:Nat):Int)) (by omega) (by omega)
 rw[e3]
 show wrapF .i64 (-Int.ofNat (v-1)-Int.ofNat 1)=_
 have e4 : -Int.ofNat (v-1)-Int.ofNat 1 = -(v:Int):=by
  show -((v-1:Nat):Int)-1=_
  omega
 rw[e4]
 exact wrap64 (by omega) (by omega)
end
structure ConS where
 has:Bool
 hasLow:Bool
 hasHigh:Bool
 more:Bool
 low:Int
 high:Int
def ConS.c (x:ConS):List V:=[.bool x.has,.bool x.hasLow,.bool x.hasHigh,.bool x.more,.int .i64 x.low,.int .i64 x.high]
def conZ:ConS:=⟨false,false,false,false,0,0⟩
def lowP (l:List Tok):Option (Bool × Int × List Tok):=match isP (BS.mk 3 5130573) l with
 | (true,l1)=>some (false,0,l1)
 | (false,l1)=>(numP l1).map fun p=>(true,p.1,p.2)
def highP (hl:Bool) (lo:Int) (l:List Tok):Option (Bool × Int × List Tok):=match isP (BS.mk 2 11822) l with
 | (true,l1)=>match isP (BS.mk 3 5783885) l1 with
  | (true,l2)=>some (false,0,l2)
  | (false,l2)=>(numP l2).map fun p=>(true,p.1,p.2)
 | (false,l1)=>some (if hl=true then(true,lo,l1)else(false,0,l1))
def dotsP (l:List Tok):Option (Bool × List Tok):=match isP (BS.mk 1 44) l with
 | (true,l1)=>(mustP (BS.mk 3 3026478) l1).map fun l2=>(true,l2)
 | (false,l1)=>some (false,l1)
def boundsP (l:List Tok):Option (ConS × List Tok):=(lowP l).bind fun a=>(highP a.1 a.2.1 a.2.2).bind fun b=>(dotsP b.2.2).map fun c=>(⟨true,a.1,b.1,c.1,a.2.1,b.2.1⟩,c.2)
def sizeP (l:List Tok):Option (ConS × List Tok):=match isP (BS.mk 1 40) l with
 | (false,l1)=>some (conZ,l1)
 | (true,l1)=>(mustP (BS.mk 4 1163544915) l1).bind fun l2=>(mustP (BS.mk 1 40) l2).bind fun l3=>(boundsP l3).bind fun c=>(mustP (BS.mk 1 41) c.2).bind fun l4=>(mustP (BS.mk 1 41) l4).map fun l5=>(c.1,l5)
def typeV:List BS:=[BS.mk 1 91,BS.mk 7 22026814072246082,BS.mk 4 1280070990,BS.mk 10 488440487847103610377301,BS.mk 7 23157120498421321,BS.mk 5 361940403023,BS.mk 10 322399817400452109389381,BS.mk 3 5522771,BS.mk 6 76155295057987,BS.mk 8 4990918871747741011]
def begB (t:Tok):Bool:=(typeV.any fun x=>x.beq (ofN t.2.1)&&(decide (t.1=5) || decide (t.1=6))) || decide (t.1=1)
def SpBounds (F:List V→H→Ans):Prop:=∀{σ:H} {xb:Nat} {lv:V} {ts:List Tok} {l l':List Tok} {R:Rs} {c:ConS},Pz σ xb lv ts l R→boundsP l=some (c,l')→∃σ',F [.ptr xb 0] σ=some (.agg c.c,σ')∧Pz σ' xb lv ts l' R∧Fr (fun k=>k=xb) σ σ'
def SpSize5 (F:List V→H→Ans):Prop:=∀{σ:H} {xb:Nat} {lv:V} {ts:List Tok} {l l':List Tok} {R:Rs} {c:ConS},Pz σ xb lv ts l R→sizeP l=some (c,l')→∃σ',F [.ptr xb 0] σ=some (.agg c.c,σ')∧Pz σ' xb lv ts l' R∧Fr (fun k=>k=xb) σ σ'
def SpBeg (F:List V→H→Ans):Prop:=∀(σ:H) (t:Tok),Tidy σ→∃σ',F [.agg (tokC t)] σ=some (.bool (begB t),σ')∧Fr Nowhere σ σ'
section
variable {E:List (Nat × Blk)} {D:Den} {W:DrawFn} {N:Nat}
theorem whole_F (hN:200<N):SpWhole (F73 E D W N):=by
 intro σ m ds r h
 have hlt:=numT_lt h
 have hd:∀c∈ds,c<256:=fun c hc=>by have:=digB_of (h.dig c hc);omega
 have h1:=h.n1
 have h19:=h.n19
 have at0:∀w:List Nat,(∀c∈w,c<256)→w.length≤100→At5 (ofN w) 0 w:=fun w hw hl=>⟨by have:=Rst.start (ofN w);rwa [ofN_nats hw]at this,by rw[ofN_len];omega⟩
 have run:J73_1 E D W N (ofN ds) m σ=J73_2 E D W N m (Int.ofNat (valD 0 ds)) σ:=wh_L σ m (ofN ds) (by rw[ofN_len];omega) ds N 0 0 h.dig (by omega) (at0 ds hd (by omega)) h.v
 cases m with
 | false=>
  obtain⟨c,l,rfl⟩:∃c l,ds=c::l:=by
   cases ds with
   | nil=>simp at h1
   | cons c l=>exact⟨c,l,rfl⟩
  have hc:=digB_of (h.dig c (List.mem_cons_self ..))
  have d0:decide (c=45)=false:=decide_eq_false (by omega)
  have e:=(at0 (c::l) hd (by omega)).ix
  have hv:numI (numT false (c::l))=Int.ofNat (valD 0 (c::l)):=by
   show (match decide (c=45)with | true=>_ | false=>_:Int)=_
   rw[d0]
  rw[hv]
  show T73_0 E D W (J73_1 E D W N) (ofN (c::l)) σ=_
  have key:∀K,T73_0 E D W K (ofN (c::l)) σ=K (ofN (c::l)) false σ:=by
   intro K
   unfold T73_0
   simp -implicitDefEqProofs only [↓rP,rA,Nat.reduceEqDiff,Nat.reduceLT,Nat.reduceLeDiff,↓e,d0]
  rw[key,run]
  show T73_2 E D W false (Int.ofNat (valD 0 (c::l))) σ=_
  have ew:wrapF .i64 (Int.ofNat (valD 0 (c::l)))=Int.ofNat (valD 0 (c::l)):=wrapF_nat (show valD 0 (c::l)≤9223372036854775807 by have:=h.vp rfl;omega)
  unfold T73_2
  simp -implicitDefEqProofs only [↓rP,rS,ew]
 | true=>
  have hw:∀c∈45::ds,c<256:=hlt
  have e:=(at0 (45::ds) hw (by simp only[List.length_cons];omega)).ix
  have sp:∀κ,sliceStrX (ofN (45::ds)) (some (.int .i64 (Int.ofNat 1))) none κ=κ (ofN ds):=fun κ=>by
   rw[sliceStrX_from (by rw[ofN_len,List.length_cons];omega),((at0 (45::ds) hw (by simp only[List.length_cons];omega)).tl).r.subAll]
  show T73_0 E D W (J73_1 E D W N) (ofN (45::ds)) σ=some (.int .i64 (-Int.ofNat (valD 0 ds)),σ)
  have key:∀K,T73_0 E D W K (ofN (45::ds)) σ=K (ofN ds) true σ:=by
   intro K
   unfold T73_0
   simp -implicitDefEqProofs only [↓rP,rA,Nat.reduceEqDiff,Nat.reduceLT,Nat.reduceLeDiff,↓e,↓sp]
  rw[key,run]
  have hv1:1≤valD 0 ds:=by
   obtain⟨c,l,rfl⟩:∃c l,ds=c::l:=by
    cases ds with
    | nil=>simp at h1
    | cons c l=>exact⟨c,l,rfl⟩
   have hc:=digB_of (h.dig c (List.mem_cons_self ..))
   have h48:c≠48:=h.mi rfl
   have:=valD_ge l (10*0+(c-48))
   show 1≤valD (10*0+(c-48)) l
   omega
  have ev:=neg_val hv1 h.v
  show T73_2 E D W true (Int.ofNat (valD 0 ds)) σ=_
  unfold T73_2
  simp -implicitDefEqProofs only [↓rP,rS,ev]
theorem numb_F (hK:SpKind (D 20)) (hW:SpWhole (D 73)):SpNumb (F41 E D W N):=by
 intro σ xb lv ts l l' R v h hv
 obtain⟨a,ha,hl⟩:=h.ex
 unfold numP at hv
 cases hk:kindP 3 l with
 | none=>rw[hk]at hv;cases hv
 | some p=>
  obtain⟨w,l1⟩:=p
  rw[hk]at hv
  cases hv
  obtain⟨σ',g,p,f⟩:=hK h hk
  obtain⟨m,ds,r,hw,hn⟩:∃m ds r,w=numT m ds∧NumOk m ds r:=by
   cases l with
   | nil=>cases hk
   | cons t l2=>
    cases l2 with
    | nil=>cases hk
    | cons t2 l3=>
     have hk:(match decide (t.1=3)with | true=>some (t.2.1,t2::l3) | false=>none:Option (List Nat × List Tok))=some (w,l1):=hk
     cases hd:decide (t.1=3)with
     | false=>rw[hd]at hk;cases hk
     | true=>
      rw[hd]at hk
      cases hk
      exact h.ok.nums t (List.mem_of_mem_drop (hl ▸ List.mem_cons_self ..)) (of_decide_eq_true hd)
  subst hw
  have gw:=hW σ' m ds r hn
  have hne:(ofN (numT m ds)).beq (BS.mk 0 0)=false:=by
   rw[BS.beq_nats,ofN_nats (numT_lt hn)]
   refine decide_eq_false fun e=>?_
   have:=congrArg List.length e
   have h1:=hn.n1
   have h0:(BS.mk 0 0).nats.length=0:=rfl
   rw[h0]at this
   unfold numT at this
   split at this<;>(try simp only[List.length_cons]at this)<;>omega
  refine⟨σ',?_,p,f⟩
  show T41_0 E D W (.ptr xb 0) σ=_
  unfold T41_0
  simp -implicitDefEqProofs only [↓rP,rS,↓g,hne,↓gw]
theorem bounds_F (hI:SpIs (D 22)) (hM:SpMust (D 21)) (hN:SpNumb (D 41)):SpBounds (F75 E D W N):=by
 intro σ xb lv ts l l' R c h hb
 unfold boundsP at hb
 obtain⟨⟨hl,lo,l2⟩,ha,hb⟩:=Option.bind_eq_some_iff.1 hb
 obtain⟨⟨hh,hi,l4⟩,hb',hb⟩:=Option.bind_eq_some_iff.1 hb
 obtain⟨⟨mo,l6⟩,hc,hb⟩:=Option.map_eq_some_iff.1 hb
 cases hb
 obtain⟨σ2,p2,f2,k2⟩:∃σ2,Pz σ2 xb lv ts l2 R∧Fr (fun k=>k=xb) σ σ2∧∀K,T75_0 E D W K (.ptr xb 0) σ=K (.ptr xb 0) false false false false (Int.ofNat 0) (Int.ofNat 0) true hl false false lo (Int.ofNat 0) σ2:=by
  obtain⟨σ1,g1,p1,f1⟩:=hI (BS.mk 3 5130573) h
  have ha:lowP l=some (hl,lo,l2):=ha
  unfold lowP at ha
  cases hi:isP (BS.mk 3 5130573) l with
  | mk b l1=>
   rw[hi]at ha g1 p1
   cases b with
   | true=>
    cases ha
    refine⟨σ1,p1,f1,fun K=>?_⟩
    unfold T75_0
    simp -implicitDefEqProofs only [↓rP,rS,↓g1]
    rfl
   | false=>
    obtain⟨⟨v,l3⟩,hn,he⟩:=Option.map_eq_some_iff.1 ha
    cases he
    obtain⟨σ2,g2,p2,f2⟩:=hN p1 hn
    refine⟨σ2,p2,f1.trans f2 (fun _ _ h=>h),fun K=>?_⟩
    unfold T75_0
    simp -implicitDefEqProofs only [↓rP,rS,↓g1,↓g2]
 obtain⟨σ4,p4,f4,k4⟩:∃σ4,Pz σ4 xb lv ts l4 R∧Fr (fun k=>k=xb) σ2 σ4∧∀K,T75_1 E D W K (.ptr xb 0) false false false false (Int.ofNat 0) (Int.ofNat 0) true hl false false lo (Int.ofNat 0) σ2=K (.ptr xb 0) false false false false (Int.ofNat 0) (Int.ofNat 0) true hl hh false lo hi σ4:=by
  obtain⟨σ1,g1,p1,f1⟩:=hI (BS.mk 2 11822) p2
  have hb':highP hl lo l2=some (hh,hi,l4):=hb'
  unfold highP at hb'
  cases hq:isP (BS.mk 2 11822) l2 with
  | mk b l1=>
   rw[hq]at hb' g1 p1
   cases b with
   | false=>
    have hb':some (if hl=true then(true,lo,l1)else(false,0,l1))=some (hh,hi,l4):=hb'
    refine⟨σ1,?_,f1,fun K=>?_⟩
    ·cases hl<;>cases hb'<;>exact p1
    ·unfold T75_1
     cases hl<;>cases hb'<;>simp -implicitDefEqProofs only [↓rP,rS,↓g1]<;>rfl
   | true=>
    obtain⟨σ3,g3,p3,f3⟩:=hI (BS.mk 3 5783885) p1
    cases hq3:isP (BS.mk 3 5783885) l1 with
    | mk b3 l3=>
     have hb':(match isP (BS.mk 3 5783885) l1 with | (true,l2)=>some (false,0,l2) | (false,l2)=>(numP l2).map fun p=>(true,p.1,p.2):Option (Bool × Int × List Tok))=some (hh,hi,l4):=hb'
     rw[hq3]at hb' g3 p3
     cases b3 with
     | true=>
      cases hb'
      refine⟨σ3,p3,f1.trans f3 (fun _ _ h=>h),fun K=>?_⟩
      unfold T75_1
      simp -implicitDefEqProofs only [↓rP,rS,↓g1,↓g3]
      rfl
     | false=>
      obtain⟨⟨v,l5⟩,hn,he⟩:=Option.map_eq_some_iff.1 hb'
      cases he
      obtain⟨σ5,g5,p5,f5⟩:=hN p3 hn
      refine⟨σ5,p5,(f1.trans f3 (fun _ _ h=>h)).trans f5 (fun _ _ h=>h),fun K=>?_⟩
      unfold T75_1
      simp -implicitDefEqProofs only [↓rP,rS,↓g1,↓g3,↓g5]
 obtain⟨σ6,p6,f6,k6⟩:∃σ6,Pz σ6 xb lv ts l6 R∧Fr (fun k=>k=xb) σ4 σ6∧∀K,T75_2 E D W K (.ptr xb 0) false false false false (Int.ofNat 0) (Int.ofNat 0) true hl hh false lo hi σ4=K false false false false (Int.ofNat 0) (Int.ofNat 0) true hl hh mo lo hi σ6:=by
  obtain⟨σ1,g1,p1,f1⟩:=hI (BS.mk 1 44) p4
  have hc:dotsP l4=some (mo,l6):=hc
  unfold dotsP at hc
  cases hq:isP (BS.mk 1 44) l4 with
  | mk b l1=>
   rw[hq]at hc g1 p1
   cases b with
   | false=>
    cases hc
    refine⟨σ1,p1,f1,fun K=>?_⟩
    unfold T75_2
    simp -implicitDefEqProofs only [↓rP,rS,↓g1]
   | true=>
    obtain⟨l3,hn,he⟩:=Option.map_eq_some_iff.1 hc
    cases he
    obtain⟨σ3,g3,p3,f3⟩:=hM p1 hn
    refine⟨σ3,p3,f1.trans f3 (fun _ _ h=>h),fun K=>?_⟩
    unfold T75_2
    simp -implicitDefEqProofs only [↓rP,rS,↓g1,↓g3]
 refine⟨σ6,?_,p6,(f2.trans f4 (fun _ _ h=>h)).trans f6 (fun _ _ h=>h)⟩
 show T75_0 E D W (T75_1 E D W (T75_2 E D W (T75_3 E D W))) (.ptr xb 0) σ=_
 rw[k2,k4,k6]
 rfl
theorem size_F (hI:SpIs (D 22)) (hM:SpMust (D 21)) (hB:SpBounds (D 75)):SpSize5 (F74 E D W N):=by
 intro σ xb lv ts l l' R c h hb
 obtain⟨σ1,g1,p1,f1⟩:=hI (BS.mk 1 40) h
 unfold sizeP at hb
 show ∃σ',T74_0 E D W (.ptr xb 0) σ=_∧_
 cases hq:isP (BS.mk 1 40) l with
 | mk b l1=>
  rw[hq]at hb g1 p1
  cases b with
  | false=>
   cases hb
   refine⟨σ1,?_,p1,f1⟩
   unfold T74_0
   simp -implicitDefEqProofs only [↓rP,rS,↓g1]
   rfl
  | true=>
   obtain⟨l2,h2,hb⟩:=Option.bind_eq_some_iff.1 hb
   obtain⟨l3,h3,hb⟩:=Option.bind_eq_some_iff.1 hb
   obtain⟨⟨cc,l4⟩,h4,hb⟩:=Option.bind_eq_some_iff.1 hb
   obtain⟨l5,h5,hb⟩:=Option.bind_eq_some_iff.1 hb
   obtain⟨l6,h6,hb⟩:=Option.map_eq_some_iff.1 hb
   cases hb
   obtain⟨σ2,g2,p2,f2⟩:=hM p1 h2
   obtain⟨σ3,g3,p3,f3⟩:=hM p2 h3
   obtain⟨σ4,g4,p4,f4⟩:=hB p3 h4
   obtain⟨σ5,g5,p5,f5⟩:=hM p4 h5
   obtain⟨σ6,g6,p6,f6⟩:=hM p5 h6
   refine⟨σ6,?_,p6,((((f1.trans f2 (fun _ _ h=>h)).trans f3 (fun _ _ h=>h)).trans f4 (fun _ _ h=>h)).trans f5 (fun _ _ h=>h)).trans f6 (fun _ _ h=>h)⟩
   unfold ConS.c at g4 ⊢
   unfold T74_0
   simp -implicitDefEqProofs only [↓rP,rS,↓g1,↓g2,↓g3,↓g4,↓g5,↓g6]
theorem beg_F (hN:100<N):SpBeg (F40 E D W N):=by
 intro σ t ht
 obtain⟨σ1,e1,f1,a1,n1⟩:=mkN ht (tokC t)
 obtain⟨σ2,e2,f2,a2,n2⟩:=mkN f1.tidy (typeV.map .str)
 have b1:=f2.at_ a1 f1.tidy (fun h=>h)
 refine⟨σ2,?_,f1.trans f2 (fun _ _ h=>h)⟩
 have run:∀(m j n:Nat),j+m=10→m<n→L40_2 E D W N n σ.next 0 (.sl σ1.next 0 10 (.ex 10)) (Int.ofNat j) σ2=some (.bool (((typeV.drop j).any fun x=>x.beq (ofN t.2.1)&&(decide (t.1=5) || decide (t.1=6))) || decide (t.1=1)),σ2):=by
  intro m
  induction m with
  | zero=>
   intro j n hj hn
   obtain⟨n,rfl⟩:∃k,n=k+1:=⟨n-1,by omega⟩
   obtain rfl:j=10:=by omega
   show T40_2 E D W (T40_1 E D W) _ σ.next 0 (.sl σ1.next 0 10 (.ex 10)) (Int.ofNat 10) σ2=_
   unfold tokC at b1
   have key:∀R,T40_2 E D W (T40_1 E D W) R σ.next 0 (.sl σ1.next 0 10 (.ex 10)) (Int.ofNat 10) σ2=some (.bool (decide (t.1=1)),σ2):=by
    intro R
    unfold T40_2 T40_1
    simp -implicitDefEqProofs only [↓rP,rA,Nat.reduceEqDiff,Nat.reduceLT,Nat.reduceLeDiff,Nat.lt_irrefl,↓ldK_is b1]
   rw[key];rfl
  | succ m ih=>
   intro j n hj hn
   obtain⟨n,rfl⟩:∃k,n=k+1:=⟨n-1,by omega⟩
   have hl:j<typeV.length:=by show j<10;omega
   rw[List.drop_eq_getElem_cons hl,List.any_cons]
   have d1:decide (j<10)=true:=decide_eq_true (by omega)
   have rd:∀κ,iaddrSK 1 (.sl σ1.next 0 10 (.ex 10)) (Int.ofNat j) (fun b o=>ldK E σ2 b o κ)=κ (.str typeV[j]):=fun κ=>by
    rw[iaddrSK_lt (show j<10 by omega)]
    refine ldK_get a2 ?_
    show (typeV.map V.str)[0+j*1]? = _
    rw[Nat.zero_add,Nat.mul_one,List.getElem?_map,List.getElem?_eq_getElem hl];rfl
   have ih':=ih (j+1) n (by omega) (by omega)
   show T40_2 E D W (T40_1 E D W) (L40_2 E D W N n) σ.next 0 (.sl σ1.next 0 10 (.ex 10)) (Int.ofNat j) σ2=_
   generalize typeV[j]=u at rd ⊢
   unfold tokC at b1
   have key:∀K R,T40_2 E D W K R σ.next 0 (.sl σ1.next 0 10 (.ex 10)) (Int.ofNat j) σ2=condK (u.beq (ofN t.2.1)&&(decide (t.1=5) || decide (t.1=6))) (some (.bool true,σ2)) (R σ.next 0 (.sl σ1.next 0 10 (.ex 10)) (Int.ofNat (j+1)) σ2):=by
    intro K R
    unfold T40_2
    cases h1:u.beq (ofN t.2.1)<;>cases h5:decide (t.1=5)<;>cases h6:decide (t.1=6)<;>simp -implicitDefEqProofs only [↓rP,rA,Nat.reduceEqDiff,Nat.reduceLT,Nat.reduceLeDiff,d1,↓rd,↓ldK_is b1,h1,h5,h6,addF_nat (show j+1≤9223372036854775807 by omega)]<;>rfl
   rw[key,ih']
   cases u.beq (ofN t.2.1)&&(decide (t.1=5) || decide (t.1=6))<;>rfl
 have g:=run 10 0 N rfl (by omega)
 unfold typeV at e2
 simp only[List.map_cons,List.map_nil]at e2
 unfold tokC at e1 ⊢
 show T40_0 E D W (L40_2 E D W N N) (Int.ofNat t.1) (ofN t.2.1) (Int.ofNat t.2.2) σ=_
 have key:∀K,T40_0 E D W K (Int.ofNat t.1) (ofN t.2.1) (Int.ofNat t.2.2) σ=K σ.next 0 (.sl σ1.next 0 10 (.ex 10)) (Int.ofNat 0) σ2:=by
  intro K
  unfold T40_0
  simp -implicitDefEqProofs only [↓rP,rS,↓e1,↓e2]
 rw[key,g];rfl
end
section
variable {E:List (Nat × Blk)} {D:Den} {N:Nat}
end
structure ItemS where
 name:List Nat
 num:Int
 has:Bool
def ItemS.c (x:ItemS):List V:=[.str (ofN x.name),.int .i64 x.num,.bool x.has]
structure FieldS where
 name:List Nat
 type:Nat
 opt:Bool
 group:Nat
def FieldS.c (x:FieldS):List V:=[.str (ofN x.name),.int .i64 (Int.ofNat x.type),.bool x.opt,.bool false,.int .i64 (Int.ofNat 0),.int .i64 (Int.ofNat 0),.nils,.nils,.int .i64 (Int.ofNat 0),.nils,.int .i64 (Int.ofNat x.group)]
structure NodeS where
 kind:Nat
 name:List Nat
 mHas:Bool
 mNum:Int
 mMode:Nat
 con:ConS
 items:List ItemS
 fields:List FieldS
 root:Nat
 more:Bool
 of_:Nat
def itC (l:List ItemS):List V:=l.flatMap ItemS.c
def fdC (l:List FieldS):List V:=l.flatMap FieldS.c
def NodeS.c (x:NodeS) (iv fv:V):List V:=[.int .i64 (Int.ofNat x.kind),.str (ofN x.name),.bool x.mHas,.int .i64 x.mNum,.int .i64 (Int.ofNat x.mMode),.bool x.con.has,.bool x.con.hasLow,.bool x.con.hasHigh,.bool x.con.more,.int .i64 x.con.low,.int .i64 x.con.high,iv,fv,.int .i64 (Int.ofNat x.root),.bool x.more,.int .i64 (Int.ofNat x.of_)]
structure Nq (σ:H) (nb:Nat) (nd:NodeS) (iv fv:V):Prop where
 a:Atc σ nb (nd.c iv fv)
 i:Dst σ 3 nd.items.length iv (itC nd.items)
 f:Dst σ 11 nd.fields.length fv (fdC nd.fields)
 ni:¬Names iv nb
 nf:¬Names fv nb
 d:∀b,Names iv b→¬Names fv b
structure Ap (xb:Nat) (lv:V) (nb:Nat) (iv fv:V):Prop where
 x:nb≠xb
 l:¬Names lv nb
 i:∀b,Names iv b→b≠xb∧¬Names lv b
 f:∀b,Names fv b→b≠xb∧¬Names lv b
theorem stz {σ:H} {b off:Nat} {y:V} {l:List V} (ht:Tidy σ) (a:Atc σ b l) (hy:y.one=true) (ho:off<l.length):∃σ',(∀κ:H→Ans,stK 1 b off y σ κ=κ σ')∧Fr (fun k=>k=b) σ σ'∧Atc σ' b (spl l off [y]):=by
 obtain⟨σ',e,f,a'⟩:=mkS ht a (spl l off [y])
 obtain⟨_,o2⟩:=one_live hy
 refine⟨σ',fun κ=>?_,f,a'⟩
 rw[stK_at a (by rw[o2];simp only[List.length_cons,List.length_nil,allOne_cons,allOne_nil,hy,Bool.and_true,Nat.zero_add,Nat.beq_refl,Bool.true_and,Nat.ble_eq,Nat.add_eq];omega),o2,e]
section
variable {σ σ':H} {nb:Nat} {nd:NodeS} {iv fv:V} {xb:Nat} {lv:V}
theorem Nq.fr {S:Nat→Prop} (h:Nq σ nb nd iv fv) (f:Fr S σ σ') (ht:Tidy σ) (h1:¬S nb) (h2:∀b,Names iv b→¬S b) (h3:∀b,Names fv b→¬S b):Nq σ' nb nd iv fv:=
 ⟨f.at_ h.a ht h1,h.i.fr f ht h2,h.f.fr f ht h3,h.ni,h.nf,h.d⟩
theorem Nq.frx (h:Nq σ nb nd iv fv) (f:Fr (fun k=>k=xb) σ σ') (ht:Tidy σ) (ap:Ap xb lv nb iv fv):Nq σ' nb nd iv fv:=
 h.fr f ht ap.x (fun b hb=>(ap.i b hb).1) (fun b hb=>(ap.f b hb).1)
theorem Nq.set (h:Nq σ nb nd iv fv) (ht:Tidy σ) {off:Nat} {y:V} (nd':NodeS) (hy:y.one=true) (ho:off<16) (hc:spl (nd.c iv fv) off [y]=nd'.c iv fv) (h1:nd'.items=nd.items) (h2:nd'.fields=nd.fields) :
  ∃σ',(∀κ:H→Ans,stK 1 nb off y σ κ=κ σ')∧Fr (fun k=>k=nb) σ σ'∧Nq σ' nb nd' iv fv:=by
 obtain⟨σ',g,f,a⟩:=stz ht h.a hy ho
 rw[hc]at a
 exact⟨σ',g,f,a,by rw[h1];exact h.i.fr f ht (fun b hb e=>h.ni (e ▸ hb)),by rw[h2];exact h.f.fr f ht (fun b hb e=>h.nf (e ▸ hb)),h.ni,h.nf,h.d⟩
end
def itemsP:Nat→List ItemS→Bool→Nat→List Tok→Option (List ItemS × Bool × Nat × List Tok):=fun _ _ _ _ _=>none
def SpItems (F:List V→H→Ans):Prop:=∀{σ:H} {xb:Nat} {lv:V} {ts l l':List Tok} {R:Rs} {nb:Nat} {nd:NodeS} {iv fv:V} {its:List ItemS} {mo:Bool} {ro:Nat},Pz σ xb lv ts l R→Nq σ nb nd iv fv→Ap xb lv nb iv fv →
 nd.items=[]→itemsP 2000 nd.items nd.more nd.root l=some (its,mo,ro,l') →
 ∃iv' σ',F [.ptr xb 0,.ptr nb 0] σ=some (.tup [],σ')∧Pz σ' xb lv ts l' R∧Nq σ' nb { nd with items:=its,more:=mo,root:=ro } iv' fv∧(∀b,Names iv' b→Names iv b∨σ.next≤b)∧Fr (fun b=>b=xb∨b=nb∨Names iv b) σ σ'
section
variable {E:List (Nat × Blk)} {D:Den} {N:Nat}
end
def nodeZ:NodeS:=⟨0,[],false,0,0,conZ,[],[],0,false,0⟩
def ndCs:List NodeS→List (V × V)→List V
 | nd::ns,u::ws=>nd.c u.1 u.2++ndCs ns ws
 | _,_=>[]
theorem ndC_len (nd:NodeS) (iv fv:V):(nd.c iv fv).length=16:=rfl
theorem ndCs_app:∀(ns:List NodeS) (ws:List (V × V)) (nd:NodeS) (u:V × V),ws.length=ns.length→ndCs (ns++[nd]) (ws++[u])=ndCs ns ws++nd.c u.1 u.2
 | [],[],nd,u,_=>by simp[ndCs]
 | x::ns,y::ws,nd,u,h=>by
  have ih:=ndCs_app ns ws nd u (by simpa using h)
  show x.c y.1 y.2++ndCs (ns++[nd]) (ws++[u])=(x.c y.1 y.2++ndCs ns ws)++_
  rw[ih,List.append_assoc]
 | [],_::_,_,_,h=>by simp at h
 | _::_,[],_,_,h=>by simp at h
theorem ndCs_len:∀(ns:List NodeS) (ws:List (V × V)),ws.length=ns.length→(ndCs ns ws).length=ns.length*16
 | [],[],_=>rfl
 | x::ns,y::ws,h=>by
  have ih:=ndCs_len ns ws (by simpa using h)
  show (x.c y.1 y.2++ndCs ns ws).length=_
  rw[List.length_append,ih,ndC_len,List.length_cons];omega
 | [],_::_,h=>by simp at h
 | _::_,[],h=>by simp at h
theorem spl_app16:∀(a b:List V) (n:Nat) (cs:List V),spl (a++b) (a.length+n) cs=a++spl b n cs
 | [],b,n,cs=>by simp
 | x::a,b,n,cs=>by
  rw[List.length_cons,show a.length+1+n=(a.length+n)+1 by omega]
  show spl (x::(a++b)) (a.length+n+1) cs=x::(a++spl b n cs)
  rw[←spl_app16 a b n cs]
  cases cs with
  | nil=>simp[spl]
  | cons c cs=>rfl
theorem spl_here:∀(a b cs:List V),cs.length=a.length→spl (a++b) 0 cs=cs++b
 | [],b,[],_=>by cases b<;>rfl
 | x::a,b,c::cs,h=>by
  show c::spl (a++b) 0 cs=_
  rw[spl_here a b cs (by simpa using h)];rfl
 | [],_,_::_,h=>by simp at h
 | _::_,_,[],h=>by simp at h
theorem ndCs_set:∀(ns:List NodeS) (ws:List (V × V)) (i:Nat) (nd:NodeS) (u:V × V),ws.length=ns.length→i<ns.length→spl (ndCs ns ws) (i*16) (nd.c u.1 u.2)=ndCs (ns.set i nd) (ws.set i u)
 | x::ns,y::ws,0,nd,u,_,_=>by
  show spl (x.c y.1 y.2++ndCs ns ws) 0 _=nd.c u.1 u.2++ndCs ns ws
  exact spl_here _ _ _ rfl
 | x::ns,y::ws,i+1,nd,u,h,hi=>by
  have ih:=ndCs_set ns ws i nd u (by simpa using h) (by simpa using hi)
  show spl (x.c y.1 y.2++ndCs ns ws) ((i+1)*16) _=x.c y.1 y.2++ndCs (ns.set i nd) (ws.set i u)
  rw[←ih,show (i+1)*16=(x.c y.1 y.2).length+i*16 by rw[ndC_len];omega,spl_app16]
 | [],_,_,_,_,_,h=>by simp at h
 | _::_,[],_,_,_,h,_=>by simp at h
def PB (xb:Nat) (dv:V):Nat→Prop:=fun b=>b=xb∨Names dv b
def NdL (σ:H) (xb:Nat) (dv:V) (Q:Nat→Prop) (nd:NodeS) (u:V × V):Prop:=Src σ 3 nd.items.length u.1 (itC nd.items)∧Src σ 11 nd.fields.length u.2 (fdC nd.fields)∧∀b,Names u.1 b∨Names u.2 b→b≠xb∧¬Names dv b∧¬Q b
structure Pn (σ:H) (xb:Nat) (lv:V) (ts l:List Tok) (R:Rs) (ns:List NodeS) (Q:Nat→Prop):Prop where
 p:Pz σ xb lv ts l R
 w:∃ws:List (V × V),Dst σ 16 ns.length R.dv (ndCs ns ws)∧ws.length=ns.length∧∀(k:Nat) (nd:NodeS) (u:V × V),ns[k]? = some nd→ws[k]? = some u→NdL σ xb R.dv Q nd u
 dx:∀b,Names R.dv b→b≠xb∧¬Names lv b
structure Aq (xb:Nat) (lv dv:V) (nb:Nat) (iv fv:V):Prop where
 a:Ap xb lv nb iv fv
 d:¬Names dv nb
 i:∀b,Names iv b→¬Names dv b
 f:∀b,Names fv b→¬Names dv b
section
variable {σ σ':H} {nb:Nat} {nd:NodeS} {iv fv:V} {xb:Nat} {lv dv dv':V} {ts l l':List Tok} {R:Rs} {ns:List NodeS} {Q Q':Nat→Prop}
theorem NdL.lt {u:V × V} (h:NdL σ xb dv Q nd u) (ht:Tidy σ) {b:Nat} (hb:Names u.1 b∨Names u.2 b):b<σ.next:=hb.elim (h.1.lt ht) (h.2.1.lt ht)
theorem Pn.go (h:Pn σ xb lv ts l R ns Q) (p:Pz σ' xb lv ts l' R) (f:Fr (fun k=>k=xb) σ σ'):Pn σ' xb lv ts l' R ns Q:=by
 obtain⟨ws,h1,h2,h3⟩:=h.w
 refine⟨p,⟨ws,h1.fr f h.p.ht fun b hb e=>(h.dx b hb).1 e,h2,fun k nd u hn hu=>?_⟩,h.dx⟩
 obtain⟨a,b,c⟩:=h3 k nd u hn hu
 exact⟨a.fr f h.p.ht fun b hb e=>(c b (.inl hb)).1 e,b.fr f h.p.ht fun b hb e=>(c b (.inr hb)).1 e,c⟩
theorem Pn.fr {S:Nat→Prop} (h:Pn σ xb lv ts l R ns Q) (f:Fr S σ σ') (h1:¬S xb) (h2:∀b,Names lv b→¬S b) (h3:∀b,Names R.dv b→¬S b) (h4:∀b,b<σ.next→S b→Q b):Pn σ' xb lv ts l R ns Q:=by
 obtain⟨ws,k1,k2,k3⟩:=h.w
 refine⟨h.p.fr f h1 h2,⟨ws,k1.fr f h.p.ht h3,k2,fun k nd u hn hu=>?_⟩,h.dx⟩
 have hN:=k3 k nd u hn hu
 obtain⟨a,b,c⟩:=hN
 exact⟨a.fr f h.p.ht fun x hb e=>(c x (.inl hb)).2.2 (h4 x (a.lt h.p.ht hb) e),b.fr f h.p.ht fun x hb e=>(c x (.inr hb)).2.2 (h4 x (b.lt h.p.ht hb) e),c⟩
theorem Pn.mv {S:Nat→Prop} (h:Pn σ xb lv ts l R ns Q) (p:Pz σ' xb lv ts l' R) (f:Fr S σ σ') (h3:∀b,Names R.dv b→¬S b) (h4:∀b,b<σ.next→S b→b=xb∨Q b):Pn σ' xb lv ts l' R ns Q:=by
 obtain⟨ws,k1,k2,k3⟩:=h.w
 refine⟨p,⟨ws,k1.fr f h.p.ht h3,k2,fun k nd u hn hu=>?_⟩,h.dx⟩
 have hN:=k3 k nd u hn hu
 obtain⟨a,b,c⟩:=hN
 exact⟨a.fr f h.p.ht fun x hb e=>(h4 x (a.lt h.p.ht hb) e).elim (c x (.inl hb)).1 (c x (.inl hb)).2.2,b.fr f h.p.ht fun x hb e=>(h4 x (b.lt h.p.ht hb) e).elim (c x (.inr hb)).1 (c x (.inr hb)).2.2,c⟩
theorem Pn.dlt (h:Pn σ xb lv ts l R ns Q) {b:Nat} (hb:Names R.dv b):b<σ.next:=by
 obtain⟨ws,k1,_⟩:=h.w
 exact k1.lt h.p.ht hb
theorem Pn.llt (h:Pn σ xb lv ts l R ns Q) {b:Nat} (hb:Names lv b):b<σ.next:=h.p.src.lt h.p.ht hb
theorem Pn.ext (h:Pn σ xb lv ts l R ns Q) (hQ:∀b,Q' b→Q b∨σ.next≤b):Pn σ xb lv ts l R ns Q':=by
 obtain⟨ws,k1,k2,k3⟩:=h.w
 refine⟨h.p,⟨ws,k1,k2,fun k nd u hn hu=>?_⟩,h.dx⟩
 have hN:=k3 k nd u hn hu
 exact⟨hN.1,hN.2.1,fun b hb=>⟨(hN.2.2 b hb).1,(hN.2.2 b hb).2.1,fun q=>(hQ b q).elim (hN.2.2 b hb).2.2 fun h'=>by have:=hN.lt h.p.ht hb;omega⟩⟩
theorem Nq.frq (h:Nq σ nb nd iv fv) (f:Fr (PB xb dv) σ σ') (ht:Tidy σ) (ap:Aq xb lv dv nb iv fv):Nq σ' nb nd iv fv:=
 h.fr f ht (fun e=>e.elim ap.a.x ap.d) (fun b hb e=>e.elim (ap.a.i b hb).1 (ap.i b hb)) (fun b hb e=>e.elim (ap.a.f b hb).1 (ap.f b hb))
theorem Nq.lt_i (h:Nq σ nb nd iv fv) (ht:Tidy σ) {b:Nat} (hb:Names iv b):b<σ.next:=h.i.lt ht hb
theorem Nq.lt_f (h:Nq σ nb nd iv fv) (ht:Tidy σ) {b:Nat} (hb:Names fv b):b<σ.next:=h.f.lt ht hb
theorem Aq.ndv (ap:Aq xb lv dv nb iv fv) (q:Nq σ nb nd iv fv) (ht:Tidy σ) (h:∀b,Names dv' b→Names dv b∨σ.next≤b):Aq xb lv dv' nb iv fv:=
 ⟨ap.a,fun e=>(h nb e).elim ap.d fun h=>by have:=q.a.lt ht;omega,fun b hb e=>(h b e).elim (ap.i b hb) fun h=>by have:=q.lt_i ht hb;omega,fun b hb e=>(h b e).elim (ap.f b hb) fun h=>by have:=q.lt_f ht hb;omega⟩
end
abbrev TypT:=Nat→List Tok→List NodeS→Option (Nat × List Tok × List NodeS)
abbrev NdT:=Option (NodeS × List Tok × List NodeS)
def LB (nb:Nat) (iv fv:V):Nat→Prop:=fun b=>b=nb∨Names iv b∨Names fv b
def Rs.wd (R:Rs) (dv:V):Rs:=⟨R.nm,R.tg,R.nv,R.tv,dv⟩
def SpTypT (T:TypT) (F:List V→H→Ans):Prop:=∀{σ:H} {xb:Nat} {lv:V} {ts l l':List Tok} {R:Rs} {ns ns':List NodeS} {Q:Nat→Prop} {d i:Nat},Pn σ xb lv ts l R ns Q→(∀b,Q b→b<σ.next)→d≤1000→T d l ns=some (i,l',ns') →
 ∃dv' σ',F [.ptr xb 0,.int .i64 (Int.ofNat d)] σ=some (.int .i64 (Int.ofNat i),σ')∧Pn σ' xb lv ts l' (R.wd dv') ns' Q∧Fr (PB xb R.dv) σ σ'∧(∀b,Names dv' b→Names R.dv b∨σ.next≤b)
section
variable {E:List (Nat × Blk)} {D:Den} {N:Nat}
end
def fieldsP (T:TypT) (d:Nat) (nd:NodeS) (l:List Tok) (ns:List NodeS):NdT:=none
structure FldSt (σ σ':H) (xb:Nat) (lv:V) (ts l':List Tok) (R:Rs) (ns':List NodeS) (Q:Nat→Prop) (nb:Nat) (nd':NodeS) (iv fv fv' dv':V):Prop where
 p:Pn σ' xb lv ts l' (R.wd dv') ns' (fun b=>Q b∨LB nb iv fv' b)
 q:Nq σ' nb nd' iv fv'
 ap:Aq xb lv dv' nb iv fv'
 mf:∀b,Names fv' b→Names fv b∨σ.next≤b
 md:∀b,Names dv' b→Names R.dv b∨σ.next≤b
 f:Fr (fun b=>PB xb R.dv b∨b=nb∨Names fv b) σ σ'
def SpFieldsT (T:TypT) (F:List V→H→Ans):Prop:=∀{σ:H} {xb:Nat} {lv:V} {ts l l':List Tok} {R:Rs} {ns ns':List NodeS} {Q:Nat→Prop} {nb:Nat} {nd nd':NodeS} {iv fv:V} {d:Nat},
 Pn σ xb lv ts l R ns (fun b=>Q b∨LB nb iv fv b)→(∀b,Q b→b<σ.next)→Nq σ nb nd iv fv→Aq xb lv R.dv nb iv fv→nd.fields=[]→d≤900→fieldsP T d nd l ns=some (nd',l',ns') →
 ∃dv' fv' σ',F [.ptr xb 0,.ptr nb 0,.int .i64 (Int.ofNat d)] σ=some (.tup [],σ')∧FldSt σ σ' xb lv ts l' R ns' Q nb nd' iv fv fv' dv'
section
variable {σ σ1 σ2:H} {xb:Nat} {lv:V} {ts l l1 l2:List Tok} {R:Rs} {ns ns1 ns2:List NodeS} {Q:Nat→Prop} {nb:Nat} {nd nd1 nd2:NodeS} {iv fv fv1 fv2 dv1 dv2:V}
theorem FldSt.trans (h:FldSt σ σ1 xb lv ts l1 R ns1 Q nb nd1 iv fv fv1 dv1) (k:FldSt σ1 σ2 xb lv ts l2 (R.wd dv1) ns2 Q nb nd2 iv fv1 fv2 dv2):FldSt σ σ2 xb lv ts l2 R ns2 Q nb nd2 iv fv fv2 dv2:=by
 have le:=h.f.le
 refine⟨k.p,k.q,k.ap,fun b hb=>(k.mf b hb).elim (h.mf b) (fun e => .inr (by omega)),fun b hb=>(k.md b hb).elim (h.md b) (fun e => .inr (by omega)),h.f.trans k.f fun b hb e=>?_⟩
 rcases e with (e|e)|e|e
 ·exact .inl (.inl e)
 ·exact(h.md b e).elim (fun h => .inl (.inr h)) (fun h=>by omega)
 ·exact .inr (.inl e)
 ·exact(h.mf b e).elim (fun h => .inr (.inr h)) (fun h=>by omega)
theorem FldSt.go (h:Pn σ xb lv ts l R ns (fun b=>Q b∨LB nb iv fv b)) (q:Nq σ nb nd iv fv) (ap:Aq xb lv R.dv nb iv fv) (p:Pz σ1 xb lv ts l1 R) (f:Fr (fun k=>k=xb) σ σ1):FldSt σ σ1 xb lv ts l1 R ns Q nb nd iv fv fv R.dv:=
 ⟨h.go p f,q.frx f h.p.ht ap.a,ap,fun _ h => .inl h,fun _ h => .inl h,f.mono fun _ _ e => .inl (.inl e)⟩
theorem FldSt.own (h:Pn σ xb lv ts l R ns (fun b=>Q b∨LB nb iv fv b)) (ap:Aq xb lv R.dv nb iv fv) (q:Nq σ1 nb nd1 iv fv) (f:Fr (fun k=>k=nb) σ σ1):FldSt σ σ1 xb lv ts l R ns Q nb nd1 iv fv fv R.dv:=
 ⟨h.fr f (fun e=>ap.a.x e.symm) (fun b hb e=>ap.a.l (e ▸ hb)) (fun b hb e=>ap.d (e ▸ hb)) (fun b _ e => .inr (.inl e)),q,ap,fun _ h => .inl h,fun _ h => .inl h,f.mono fun _ _ e => .inr (.inl e)⟩
end
section
variable {E:List (Nat × Blk)} {D:Den} {N:Nat}
end
def baseP (T:TypT) (d:Nat) (nd:NodeS) (l:List Tok) (ns:List NodeS):NdT:=match isP (BS.mk 7 22026814072246082) l with
 | (true,l1)=>some ({ nd with kind:=1 },l1,ns)
 | (false,l1)=>match isP (BS.mk 4 1280070990) l1 with
 | (true,l2)=>some ({ nd with kind:=4 },l2,ns)
 | (false,l2)=>match isP (BS.mk 10 488440487847103610377301) l2 with
 | (true,l3)=>(sizeP l3).map fun c=>({ nd with kind:=6,con:=c.1 },c.2,ns)
 | (false,l3)=>match isP (BS.mk 7 23157120498421321) l3 with
 | (true,l4)=>(match isP (BS.mk 1 40) l4 with
  | (true,l5)=>(boundsP l5).bind fun c=>(mustP (BS.mk 1 41) c.2).map fun l6=>({ nd with kind:=2,con:=c.1 },l6,ns)
  | (false,l5)=>some ({ nd with kind:=2 },l5,ns))
 | (false,l4)=>match isP (BS.mk 5 361940403023) l4 with
 | (true,l5)=>(mustP (BS.mk 6 78401563153491) l5).bind fun l6=>(sizeP l6).map fun c=>({ nd with kind:=5,con:=c.1 },c.2,ns)
 | (false,l5)=>match isP (BS.mk 10 322399817400452109389381) l5 with
 | (true,l6)=>(mustP (BS.mk 1 123) l6).bind fun l7=>(itemsP 2000 nd.items nd.more nd.root l7).bind fun s=>(mustP (BS.mk 1 125) s.2.2.2).map fun l8=>({ nd with kind:=3,items:=s.1,more:=s.2.1,root:=s.2.2.1 },l8,ns)
 | (false,l6)=>match isP (BS.mk 3 5522771) l6 with
 | (true,l7)=>(mustP (BS.mk 1 123) l7).bind fun l8=>fieldsP T d { nd with kind:=8 } l8 ns
 | (false,l7)=>match isP (BS.mk 6 76155295057987) l7 with
 | (true,l8)=>(mustP (BS.mk 1 123) l8).bind fun l9=>fieldsP T d { nd with kind:=9 } l9 ns
 | (false,l8)=>match isP (BS.mk 8 4990918871747741011) l8 with
 | (true,l9)=>(match isP (BS.mk 1 123) l9 with
  | (true,l10)=>fieldsP T d { nd with kind:=7 } l10 ns
  | (false,l10)=>(sizeP l10).bind fun c=>(mustP (BS.mk 2 17999) c.2).bind fun l11=>(T (d+1) l11 ns).map fun t=>({ nd with kind:=10,con:=c.1,of_:=t.1 },t.2.1,t.2.2))
 | (false,_)=>none
structure BaseSt (σ σ':H) (xb:Nat) (lv:V) (ts l':List Tok) (R:Rs) (ns':List NodeS) (Q:Nat→Prop) (nb:Nat) (nd':NodeS) (iv fv iv' fv' dv':V):Prop where
 p:Pn σ' xb lv ts l' (R.wd dv') ns' (fun b=>Q b∨LB nb iv' fv' b)
 q:Nq σ' nb nd' iv' fv'
 ap:Aq xb lv dv' nb iv' fv'
 mi:∀b,Names iv' b→Names iv b∨σ.next≤b
 mf:∀b,Names fv' b→Names fv b∨σ.next≤b
 md:∀b,Names dv' b→Names R.dv b∨σ.next≤b
 f:Fr (fun b=>PB xb R.dv b∨LB nb iv fv b) σ σ'
def SpBaseT (T:TypT) (F:List V→H→Ans):Prop:=∀{σ:H} {xb:Nat} {lv:V} {ts l l':List Tok} {R:Rs} {ns ns':List NodeS} {Q:Nat→Prop} {nb:Nat} {nd nd':NodeS} {iv fv:V} {d:Nat},
 Pn σ xb lv ts l R ns (fun b=>Q b∨LB nb iv fv b)→(∀b,Q b→b<σ.next)→Nq σ nb nd iv fv→Aq xb lv R.dv nb iv fv→nd.items=[]→nd.fields=[]→d≤900→baseP T d nd l ns=some (nd',l',ns') →
 ∃dv' iv' fv' σ',F [.ptr xb 0,.ptr nb 0,.int .i64 (Int.ofNat d)] σ=some (.tup [],σ')∧BaseSt σ σ' xb lv ts l' R ns' Q nb nd' iv fv iv' fv' dv'
section
variable {σ σ1 σ2:H} {xb:Nat} {lv:V} {ts l l1 l2:List Tok} {R:Rs} {ns ns1 ns2:List NodeS} {Q:Nat→Prop} {nb:Nat} {nd nd1 nd2:NodeS} {iv fv fv1 fv2 dv1 dv2:V}
theorem FldSt.base (h:FldSt σ σ1 xb lv ts l1 R ns1 Q nb nd1 iv fv fv1 dv1):BaseSt σ σ1 xb lv ts l1 R ns1 Q nb nd1 iv fv iv fv1 dv1:=
 ⟨h.p,h.q,h.ap,fun _ h => .inl h,h.mf,h.md,h.f.mono fun _ _ e=>e.imp id fun e=>e.imp id .inr⟩
theorem Nq.setc (h:Nq σ nb nd iv fv) (ht:Tidy σ) (c:ConS):∃σ',(∀κ:H→Ans,stK 6 nb 5 (.agg [.bool c.has,.bool c.hasLow,.bool c.hasHigh,.bool c.more,.int .i64 c.low,.int .i64 c.high]) σ κ=κ σ')∧Fr (fun k=>k=nb) σ σ'∧Nq σ' nb { nd with con:=c } iv fv:=by
 obtain⟨σ',e,f,a⟩:=mkS ht h.a (({ nd with con:=c }:NodeS).c iv fv)
 refine⟨σ',fun κ=>?_,f,a,h.i.fr f ht (fun b hb e=>h.ni (e ▸ hb)),h.f.fr f ht (fun b hb e=>h.nf (e ▸ hb)),h.ni,h.nf,h.d⟩
 rw[stK_at h.a rfl]
 show κ (setF σ nb (.cells (({ nd with con:=c }:NodeS).c iv fv)))=_
 rw[e]
end
section
variable {E:List (Nat × Blk)} {D:Den} {N:Nat}
theorem base_F {T:TypT} (hNow:SpNow (D 23)) (hI:SpIs (D 22)) (hM:SpMust (D 21)) (hS:SpSize5 (D 74)) (hB:SpBounds (D 75)) (hIt:SpItems (D 76)) (hF:SpFieldsT T (D 77)) (hT:SpTypT T (D 25)):SpBaseT T (F42 E D (drawW E D) N):=by
 intro σ xb lv ts l l' R ns ns' Q nb nd nd' iv fv d h hQ q ap hi0 hf0 hd hs
 obtain⟨t,l0,rfl⟩:∃t l0,l=t::l0:=by
  cases l with
  | nil=>exact absurd rfl h.p.ne
  | cons t l0=>exact⟨t,l0,rfl⟩
 have gn:=hNow h.p
 obtain⟨σ1,e1,f1,a1,n1⟩:=mkN h.p.ht [.int .i64 (Int.ofNat 0),.str ⟨0,0⟩,.int .i64 (Int.ofNat 0)]
 obtain⟨σ2,e2,f2,a2⟩:=mkS f1.tidy a1 (tokC t)
 unfold tokC at gn e2 a2
 have s2:∀κ:H→Ans,stK 3 σ.next 0 (.agg [.int .i64 (Int.ofNat t.1),.str (ofN t.2.1),.int .i64 (Int.ofNat t.2.2)]) σ1 κ=κ σ2:=fun κ=>by
  rw[stK_at a1 rfl]
  show κ (setF σ1 σ.next (.cells [.int .i64 (Int.ofNat t.1),.str (ofN t.2.1),.int .i64 (Int.ofNat t.2.2)]))=_
  rw[e2]
 have f02:Fr Nowhere σ σ2:=f1.trans f2 (fun b hb e=>by omega)
 have le2:=f02.le
 have h2:=h.fr f02 (fun h=>h) (fun _ _ h=>h) (fun _ _ h=>h) (fun _ _ h=>h.elim)
 have q2:=q.fr f02 h.p.ht (fun h=>h) (fun _ _ h=>h) (fun _ _ h=>h)
 obtain⟨a,ha,_⟩:=h2.p.ex
 unfold pc at ha
 suffices key:∃dv' iv' fv' σ',F42 E D (drawW E D) N [.ptr xb 0,.ptr nb 0,.int .i64 (Int.ofNat d)] σ=some (.tup [],σ')∧BaseSt σ2 σ' xb lv ts l' R ns' Q nb nd' iv fv iv' fv' dv' by
  obtain⟨dv',iv',fv',σ',g,s⟩:=key
  exact⟨dv',iv',fv',σ',g,s.p,s.q,s.ap,fun b hb=>(s.mi b hb).imp id (fun e=>by omega),fun b hb=>(s.mf b hb).imp id (fun e=>by omega),fun b hb=>(s.md b hb).imp id (fun e=>by omega),(f02.mono (fun _ _ h=>h.elim):Fr (fun b=>PB xb R.dv b∨LB nb iv fv b) σ σ2).trans s.f (fun _ _ e=>e)⟩
 have hQ2:∀b,Q b→b<σ2.next:=fun b hb=>by have:=hQ b hb;omega
 show ∃dv' iv' fv' σ',T42_0 E D (drawW E D) xb 0 nb 0 (Int.ofNat d) σ=some (.tup [],σ')∧_
 have word:∀{σ':H} {l1:List Tok} (s:BS),FldSt σ2 σ' xb lv ts l1 R ns Q nb nd iv fv fv R.dv→∃σ'',D 22 [.ptr xb 0,.str s] σ'=some (.bool (isP s l1).1,σ'')∧FldSt σ2 σ'' xb lv ts (isP s l1).2 R ns Q nb nd iv fv fv R.dv:=by
  intro σ' l1 s st
  obtain⟨σ'',g,p,f⟩:=hI s st.p.p
  exact⟨σ'',g,st.trans (FldSt.go st.p st.q st.ap p f)⟩
 have kind:∀{σ':H} {l1:List Tok} (k:Nat),FldSt σ2 σ' xb lv ts l1 R ns Q nb nd iv fv fv R.dv→∃σ'',(∀κ:H→Ans,stK 1 nb 0 (.int .i64 (Int.ofNat k)) σ' κ=κ σ'')∧FldSt σ2 σ'' xb lv ts l1 R ns Q nb { nd with kind:=k } iv fv fv R.dv:=by
  intro σ' l1 k st
  obtain⟨σ'',g,f,q'⟩:=st.q.set (off:=0) (y := .int .i64 (Int.ofNat k)) st.p.p.ht { nd with kind:=k } rfl (by decide) rfl rfl rfl
  exact⟨σ'',g,st.trans (FldSt.own st.p st.ap q' f)⟩
 have must:∀{σ':H} {l1 l2:List Tok} {nd1:NodeS} {s:BS},FldSt σ2 σ' xb lv ts l1 R ns Q nb nd1 iv fv fv R.dv→mustP s l1=some l2→∃σ'',D 21 [.ptr xb 0,.str s] σ'=some (.tup [],σ'')∧FldSt σ2 σ'' xb lv ts l2 R ns Q nb nd1 iv fv fv R.dv:=by
  intro σ' l1 l2 nd1 s st hm
  obtain⟨σ'',g,p,f⟩:=hM st.p.p hm
  exact⟨σ'',g,st.trans (FldSt.go st.p st.q st.ap p f)⟩
 have con:∀{σ':H} {l1:List Tok} {nd1:NodeS} (c:ConS),FldSt σ2 σ' xb lv ts l1 R ns Q nb nd1 iv fv fv R.dv→∃σ'',(∀κ:H→Ans,stK 6 nb 5 (.agg [.bool c.has,.bool c.hasLow,.bool c.hasHigh,.bool c.more,.int .i64 c.low,.int .i64 c.high]) σ' κ=κ σ'')∧FldSt σ2 σ'' xb lv ts l1 R ns Q nb { nd1 with con:=c } iv fv fv R.dv:=by
  intro σ' l1 nd1 c st
  obtain⟨σ'',g,f,q'⟩:=st.q.setc st.p.p.ht c
  exact⟨σ'',g,st.trans (FldSt.own st.p st.ap q' f)⟩
 have size:∀{σ':H} {l1 l2:List Tok} {nd1:NodeS} {c:ConS},FldSt σ2 σ' xb lv ts l1 R ns Q nb nd1 iv fv fv R.dv→sizeP l1=some (c,l2)→∃σ'',D 74 [.ptr xb 0] σ'=some (.agg [.bool c.has,.bool c.hasLow,.bool c.hasHigh,.bool c.more,.int .i64 c.low,.int .i64 c.high],σ'')∧FldSt σ2 σ'' xb lv ts l2 R ns Q nb nd1 iv fv fv R.dv:=by
  intro σ' l1 l2 nd1 c st hm
  obtain⟨σ'',g,p,f⟩:=hS st.p.p hm
  exact⟨σ'',g,st.trans (FldSt.go st.p st.q st.ap p f)⟩
 have bnds:∀{σ':H} {l1 l2:List Tok} {nd1:NodeS} {c:ConS},FldSt σ2 σ' xb lv ts l1 R ns Q nb nd1 iv fv fv R.dv→boundsP l1=some (c,l2)→∃σ'',D 75 [.ptr xb 0] σ'=some (.agg [.bool c.has,.bool c.hasLow,.bool c.hasHigh,.bool c.more,.int .i64 c.low,.int .i64 c.high],σ'')∧FldSt σ2 σ'' xb lv ts l2 R ns Q nb nd1 iv fv fv R.dv:=by
  intro σ' l1 l2 nd1 c st hm
  obtain⟨σ'',g,p,f⟩:=hB st.p.p hm
  exact⟨σ'',g,st.trans (FldSt.go st.p st.q st.ap p f)⟩
 have t0:FldSt σ2 σ2 xb lv ts (t::l0) R ns Q nb nd iv fv fv R.dv:=⟨h2,q2,ap,fun _ h => .inl h,fun _ h => .inl h,Fr.refl h2.p.ht⟩
 unfold baseP at hs
 unfold T42_0
 simp -implicitDefEqProofs only [↓rP,rA,Nat.reduceEqDiff,Nat.reduceLT,Nat.reduceLeDiff,↓gn,↓e1,↓s2,↓ldK_is ha]
 obtain⟨σ3,g3,t3⟩:=word (BS.mk 7 22026814072246082) t0
 cases c3:isP (BS.mk 7 22026814072246082) (t::l0)with
 | mk b l1=>
 rw[c3]at hs g3 t3
 rcases b with _|_
 rotate_left
 ·cases hs
  obtain⟨_,ga,ta⟩:=kind 1 t3
  exact⟨_,_,_,_,by simp -implicitDefEqProofs only [↓rP,rS,↓g3,↓ga],ta.base⟩
 replace hs:(match isP (BS.mk 4 1280070990) l1 with | (true,_)=>_ | (false,_)=>_:NdT)=_:=hs
 obtain⟨σ4,g4,t4⟩:=word (BS.mk 4 1280070990) t3
 cases c4:isP (BS.mk 4 1280070990) l1 with
 | mk b l2=>
 rw[c4]at hs g4 t4
 rcases b with _|_
 rotate_left
 ·cases hs
  obtain⟨_,ga,ta⟩:=kind 4 t4
  exact⟨_,_,_,_,by simp -implicitDefEqProofs only [↓rP,rS,↓g3,↓g4,↓ga],ta.base⟩
 replace hs:(match isP (BS.mk 10 488440487847103610377301) l2 with | (true,_)=>_ | (false,_)=>_:NdT)=_:=hs
 obtain⟨σ5,g5,t5⟩:=word (BS.mk 10 488440487847103610377301) t4
 cases c5:isP (BS.mk 10 488440487847103610377301) l2 with
 | mk b l3=>
 rw[c5]at hs g5 t5
 rcases b with _|_
 rotate_left
 ·obtain⟨⟨c,lc⟩,hc,he⟩:=Option.map_eq_some_iff.1 hs
  cases he
  obtain⟨_,ga,ta⟩:=kind 6 t5
  obtain⟨_,gb,tb⟩:=size ta hc
  obtain⟨_,gc,tc⟩:=con c tb
  exact⟨_,_,_,_,by simp -implicitDefEqProofs only [↓rP,rS,↓g3,↓g4,↓g5,↓ga,↓gb,↓gc],tc.base⟩
 replace hs:(match isP (BS.mk 7 23157120498421321) l3 with | (true,_)=>_ | (false,_)=>_:NdT)=_:=hs
 obtain⟨σ6,g6,t6⟩:=word (BS.mk 7 23157120498421321) t5
 cases c6:isP (BS.mk 7 23157120498421321) l3 with
 | mk b l4=>
 rw[c6]at hs g6 t6
 rcases b with _|_
 rotate_left
 ·replace hs:(match isP (BS.mk 1 40) l4 with | (true,_)=>_ | (false,_)=>_:NdT)=_:=hs
  obtain⟨_,ga,ta⟩:=kind 2 t6
  obtain⟨σq,gq,pq,fq⟩:=hI (BS.mk 1 40) ta.p.p
  have tq:=ta.trans (FldSt.go ta.p ta.q ta.ap pq fq)
  cases cq:isP (BS.mk 1 40) l4 with
  | mk b lq=>
  rw[cq]at hs gq tq
  rcases b with _|_
  ·cases hs
   exact⟨_,_,_,_,by simp -implicitDefEqProofs only [↓rP,rS,↓g3,↓g4,↓g5,↓g6,↓ga,↓gq],tq.base⟩
  ·obtain⟨⟨c,lc⟩,hc,hs⟩:=Option.bind_eq_some_iff.1 hs
   obtain⟨lm,hm,he⟩:=Option.map_eq_some_iff.1 hs
   cases he
   obtain⟨_,gb,tb⟩:=bnds tq hc
   obtain⟨_,gc,tc⟩:=con c tb
   obtain⟨_,gd,td⟩:=must tc hm
   exact⟨_,_,_,_,by simp -implicitDefEqProofs only [↓rP,rS,↓g3,↓g4,↓g5,↓g6,↓ga,↓gq,↓gb,↓gc,↓gd],td.base⟩
 replace hs:(match isP (BS.mk 5 361940403023) l4 with | (true,_)=>_ | (false,_)=>_:NdT)=_:=hs
 obtain⟨σ7,g7,t7⟩:=word (BS.mk 5 361940403023) t6
 cases c7:isP (BS.mk 5 361940403023) l4 with
 | mk b l5=>
 rw[c7]at hs g7 t7
 rcases b with _|_
 rotate_left
 ·obtain⟨lm,hm,hs⟩:=Option.bind_eq_some_iff.1 hs
  obtain⟨⟨c,lc⟩,hc,he⟩:=Option.map_eq_some_iff.1 hs
  cases he
  obtain⟨σa,ga,ta⟩:=must t7 hm
  obtain⟨_,gk,tk⟩:=kind 5 ta
  obtain⟨_,gb,tb⟩:=size tk hc
  obtain⟨_,gc,tc⟩:=con c tb
  exact⟨_,_,_,_,by simp -implicitDefEqProofs only [↓rP,rS,↓g3,↓g4,↓g5,↓g6,↓g7,↓ga,↓gk,↓gb,↓gc],tc.base⟩
 replace hs:(match isP (BS.mk 10 322399817400452109389381) l5 with | (true,_)=>_ | (false,_)=>_:NdT)=_:=hs
 obtain⟨σ8,g8,t8⟩:=word (BS.mk 10 322399817400452109389381) t7
 cases c8:isP (BS.mk 10 322399817400452109389381) l5 with
 | mk b l6=>
 rw[c8]at hs g8 t8
 rcases b with _|_
 rotate_left
 ·obtain⟨lm,hm,hs⟩:=Option.bind_eq_some_iff.1 hs
  obtain⟨⟨its,mo,ro,li⟩,hi,hs⟩:=Option.bind_eq_some_iff.1 hs
  cases hi
 replace hs:(match isP (BS.mk 3 5522771) l6 with | (true,_)=>_ | (false,_)=>_:NdT)=_:=hs
 obtain⟨σ9,g9,t9⟩:=word (BS.mk 3 5522771) t8
 cases c9:isP (BS.mk 3 5522771) l6 with
 | mk b l7=>
 rw[c9]at hs g9 t9
 rcases b with _|_
 rotate_left
 ·obtain⟨lm,hm,hs⟩:=Option.bind_eq_some_iff.1 hs
  cases hs
 replace hs:(match isP (BS.mk 6 76155295057987) l7 with | (true,_)=>_ | (false,_)=>_:NdT)=_:=hs
 obtain⟨σ10,g10,t10⟩:=word (BS.mk 6 76155295057987) t9
 cases c10:isP (BS.mk 6 76155295057987) l7 with
 | mk b l8=>
 rw[c10]at hs g10 t10
 rcases b with _|_
 rotate_left
 ·obtain⟨lm,hm,hs⟩:=Option.bind_eq_some_iff.1 hs
  cases hs
 replace hs:(match isP (BS.mk 8 4990918871747741011) l8 with | (true,_)=>_ | (false,_)=>_:NdT)=_:=hs
 obtain⟨σ11,g11,t11⟩:=word (BS.mk 8 4990918871747741011) t10
 cases c11:isP (BS.mk 8 4990918871747741011) l8 with
 | mk b l9=>
 rw[c11]at hs g11 t11
 rcases b with _|_
 rotate_left
 ·replace hs:(match isP (BS.mk 1 123) l9 with | (true,_)=>_ | (false,_)=>_:NdT)=_:=hs
  obtain⟨σq,gq,tq⟩:=word (BS.mk 1 123) t11
  cases cq:isP (BS.mk 1 123) l9 with
  | mk b lq=>
  rw[cq]at hs gq tq
  rcases b with _|_
  ·obtain⟨⟨c,lc⟩,hc,hs⟩:=Option.bind_eq_some_iff.1 hs
   obtain⟨lm,hm,hs⟩:=Option.bind_eq_some_iff.1 hs
   obtain⟨⟨i,lt,nst⟩,ht,he⟩:=Option.map_eq_some_iff.1 hs
   cases he
   obtain⟨_,gk,tk⟩:=kind 10 tq
   obtain⟨_,gb,tb⟩:=size tk hc
   obtain⟨_,gc,tc⟩:=con c tb
   obtain⟨σd,gd,td⟩:=must tc hm
   have led:=td.f.le
   obtain⟨dv',σe,ge,pe,fe,me⟩:=hT (d:=d+1) td.p (fun b hb=>by
    rcases hb with hb|hb|hb|hb
    ·have:=hQ2 b hb;omega
    ·have:=td.q.a.lt td.p.p.ht;omega
    ·exact td.q.lt_i td.p.p.ht hb
    ·exact td.q.lt_f td.p.p.ht hb) (by omega) ht
   have qe:=td.q.frq fe td.p.p.ht td.ap
   have ape:=td.ap.ndv td.q td.p.p.ht me
   have lee:=fe.le
   obtain⟨σf,gf,ff,qf⟩:=qe.set (off:=15) (y := .int .i64 (Int.ofNat i)) pe.p.ht { nd with kind:=10,con:=c,of_:=i } rfl (by decide) rfl rfl rfl
   have ad:addF .i64 (Int.ofNat d) (Int.ofNat 1)=Int.ofNat (d+1):=addF_nat (by omega)
   have se:FldSt σ2 σf xb lv ts lt R nst Q nb { nd with kind:=10,con:=c,of_:=i } iv fv fv dv':=td.trans ⟨pe.fr ff (fun e=>ape.a.x e.symm) (fun b hb e=>ape.a.l (e ▸ hb)) (fun b hb e=>ape.d (e ▸ hb)) (fun b _ e => .inr (.inl e)),qf,ape,fun _ h => .inl h,me,(fe.mono fun _ _ e => .inl e).trans ff fun _ _ e => .inr (.inl e)⟩
   exact⟨_,_,_,_,by simp -implicitDefEqProofs only [↓rP,rS,↓g3,↓g4,↓g5,↓g6,↓g7,↓g8,↓g9,↓g10,↓g11,↓gq,↓gk,↓gb,↓gc,↓gd,ad,↓ge,↓gf],se.base⟩
  ·cases hs
 cases hs
end
def markP (l:List Tok):Option ((Bool × Int × Nat) × List Tok):=match isP (BS.mk 1 91) l with
 | (false,l1)=>some ((false,0,0),l1)
 | (true,l1)=>(numP l1).bind fun v=>match ltF v.1 (Int.ofNat 0) || ltF (Int.ofNat 268435456) v.1 with
  | true=>none
  | false=>(mustP (BS.mk 1 93) v.2).bind fun l2=>match isP (BS.mk 8 6073459554577832005) l2 with
   | (true,l3)=>some ((true,v.1,1),l3)
   | (false,l3)=>match isP (BS.mk 8 6073459554577829193) l3 with
    | (true,l4)=>some ((true,v.1,2),l4)
    | (false,l4)=>some ((true,v.1,0),l4)
def nodeM (m:Bool × Int × Nat):NodeS:={ nodeZ with mHas:=m.1,mNum:=m.2.1,mMode:=m.2.2 }
def typS (T:TypT):TypT:=fun d l ns=>match l with
 | []=>none
 | t::l0=>match begB t&&(decide (d≤16)&&decide (ns.length<300))with
  | true=>(markP (t::l0)).bind fun m=>(baseP T d (nodeM m.1) m.2 (ns++[nodeZ])).map fun s=>(ns.length,s.2.1,s.2.2.set ns.length s.1)
  | false=>none
def typP:Nat→TypT
 | 0=>fun _ _ _=>none
 | q+1=>typS (typP q)
def MonT (T:TypT):Prop:=∀{d:Nat} {l:List Tok} {ns:List NodeS} {i:Nat} {l':List Tok} {ns':List NodeS},T d l ns=some (i,l',ns')→ns.length≤ns'.length
section
variable {T:TypT} {d:Nat} {nd nd':NodeS} {l l':List Tok} {ns ns':List NodeS}
theorem fieldsP_mon (hT:MonT T) (hs:fieldsP T d nd l ns=some (nd',l',ns')):ns.length≤ns'.length:=by cases hs
theorem baseP_mon (hT:MonT T) (hs:baseP T d nd l ns=some (nd',l',ns')):ns.length≤ns'.length:=by
 unfold baseP at hs
 split at hs
 ·cases hs;exact Nat.le_refl _
 split at hs
 ·cases hs;exact Nat.le_refl _
 split at hs
 ·obtain⟨_,_,he⟩:=Option.map_eq_some_iff.1 hs
  cases he;exact Nat.le_refl _
 split at hs
 ·split at hs
  ·obtain⟨_,_,hs⟩:=Option.bind_eq_some_iff.1 hs
   obtain⟨_,_,he⟩:=Option.map_eq_some_iff.1 hs
   cases he;exact Nat.le_refl _
  ·cases hs;exact Nat.le_refl _
 split at hs
 ·obtain⟨_,_,hs⟩:=Option.bind_eq_some_iff.1 hs
  obtain⟨_,_,he⟩:=Option.map_eq_some_iff.1 hs
  cases he;exact Nat.le_refl _
 split at hs
 ·obtain⟨_,_,hs⟩:=Option.bind_eq_some_iff.1 hs
  obtain⟨_,_,hs⟩:=Option.bind_eq_some_iff.1 hs
  obtain⟨_,_,he⟩:=Option.map_eq_some_iff.1 hs
  cases he;exact Nat.le_refl _
 split at hs
 ·obtain⟨_,_,hs⟩:=Option.bind_eq_some_iff.1 hs
  exact fieldsP_mon hT hs
 split at hs
 ·obtain⟨_,_,hs⟩:=Option.bind_eq_some_iff.1 hs
  exact fieldsP_mon hT hs
 split at hs
 ·split at hs
  ·exact fieldsP_mon hT hs
  ·obtain⟨_,_,hs⟩:=Option.bind_eq_some_iff.1 hs
   obtain⟨_,_,hs⟩:=Option.bind_eq_some_iff.1 hs
   obtain⟨⟨i,l2,ns2⟩,ht,he⟩:=Option.map_eq_some_iff.1 hs
   cases he
   exact hT ht
 ·cases hs
theorem typS_mon (hT:MonT T):MonT (typS T):=by
 intro d l ns i l' ns' hs
 cases l with
 | nil=>cases hs
 | cons t l0=>
  unfold typS at hs
  dsimp only at hs
  split at hs
  ·obtain⟨_,_,hs⟩:=Option.bind_eq_some_iff.1 hs
   obtain⟨⟨nd,lb,nsb⟩,hb,he⟩:=Option.map_eq_some_iff.1 hs
   cases he
   have:=baseP_mon hT hb
   rw[List.length_append,List.length_cons,List.length_nil]at this
   show ns.length≤(nsb.set ns.length nd).length
   rw[List.length_set];omega
  ·cases hs
theorem typP_mon:∀q,MonT (typP q)
 | 0=>fun hs=>by cases hs
 | q+1=>typS_mon (typP_mon q)
end
def zC:List V:=[.int .i64 (Int.ofNat 0),.str (BS.mk 0 0),.bool false,.int .i64 (Int.ofNat 0),.int .i64 (Int.ofNat 0),.bool false,.bool false,.bool false,.bool false,.int .i64 (Int.ofNat 0),.int .i64 (Int.ofNat 0),.nils,.nils,.int .i64 (Int.ofNat 0),.bool false,.int .i64 (Int.ofNat 0)]
section
variable {E:List (Nat × Blk)} {σ σ':H} {nb:Nat} {nd:NodeS} {iv fv:V} {xb:Nat} {lv dv dv':V} {ts l l':List Tok} {R:Rs} {ns:List NodeS} {Q Q':Nat→Prop}
theorem Pn.push (h:Pn σ xb lv ts l R ns Q) (hQ:∀b,Q b→b<σ.next) (hl:ns.length<300):∃u σ1 σ2 σ3,newB σ (.cells zC)=σ1∧(∀κ:V→H→Ans,appK E 16 144 R.dv (.sl σ.next 0 1 (.ex 1)) σ1 κ=κ u σ2)∧u.one=true∧(∀κ:H→Ans,stK 1 xb 6 u σ2 κ=κ σ3) ∧
  Pn σ3 xb lv ts l (R.wd u) (ns++[nodeZ]) Q∧Fr (PB xb R.dv) σ σ3∧(∀b,Names u b→Names R.dv b∨σ.next≤b):=by
 obtain⟨ws,k1,k2,k3⟩:=h.w
 obtain⟨a,ha,hl'⟩:=h.p.ex
 obtain⟨σ1,e1,f1,a1,n1⟩:=mkN h.p.ht zC
 have xs:Src σ1 16 1 (V.sl σ.next 0 1 (.ex 1)) zC := .inr ⟨_,_,_,_,rfl,a1,Nat.le_refl _,rfl⟩
 obtain⟨u,σ2,g2,d2,m2,f2⟩:=app_all (E:=E) (bytes:=144) (k1.fr f1 h.p.ht (fun _ _ h=>h)) f1.tidy xs rfl (by unfold growable;simp only[Bool.and_eq_true,Nat.ble_eq];omega)
 have le1:=f1.le
 have le2:=f2.le
 have hx:=h.p.lt
 have ha2:=f2.at_ (f1.at_ ha h.p.ht (fun h=>h)) f1.tidy (fun e=>(h.dx xb e).1 rfl)
 obtain⟨σ3,g3,f3,a3⟩:=stz (off:=6) f2.tidy ha2 d2.one (show 6<9 by decide)
 have a3:Atc σ3 xb (pc lv a (R.wd u)):=a3
 have mu:∀b,Names u b→Names R.dv b∨σ.next≤b:=fun b hb=>(m2 b hb).imp id fun h=>by omega
 have ux:∀b,Names u b→b≠xb:=fun b hb=>(mu b hb).elim (fun e=>(h.dx b e).1) (fun e=>by omega)
 have f13:Fr (PB xb R.dv) σ σ3:=((f1.mono (fun _ _ h=>h.elim):Fr (PB xb R.dv) σ σ1).trans f2 (fun _ _ e => .inr e)).trans f3 (fun _ _ e => .inl e)
 refine⟨u,σ1,σ2,σ3,e1,g2,d2.one,g3,⟨⟨⟨a,a3,hl'⟩,h.p.src.fr f13 h.p.ht (fun b hb e=>e.elim (h.p.nx b hb) (fun e=>(h.dx b e).2 hb)),h.p.ne,h.p.nx,h.p.ok,f13.tidy⟩,⟨ws++[(.nils,.nils)],?_,by simp[k2],fun k nd w hn hw=>?_⟩,fun b hb=>⟨ux b hb,fun hn=>(mu b hb).elim (fun e=>(h.dx b e).2 hn) (fun e=>by have:=h.llt hn;omega)⟩⟩,f13,mu⟩
 ·rw[List.length_append,List.length_cons,List.length_nil,ndCs_app _ _ _ _ k2]
  exact d2.fr f3 f2.tidy (fun b hb e=>ux b hb e)
 ·rcases Nat.lt_or_ge k ns.length with hk|hk
  ·rw[List.getElem?_append_left hk]at hn
   rw[List.getElem?_append_left (by omega)]at hw
   have hN:=k3 k nd w hn hw
   exact⟨hN.1.fr f13 h.p.ht fun b hb e=>e.elim (hN.2.2 b (.inl hb)).1 (hN.2.2 b (.inl hb)).2.1,hN.2.1.fr f13 h.p.ht fun b hb e=>e.elim (hN.2.2 b (.inr hb)).1 (hN.2.2 b (.inr hb)).2.1,fun b hb=>⟨(hN.2.2 b hb).1,fun hu=>(mu b hu).elim (hN.2.2 b hb).2.1 (fun e=>by have:=hN.lt h.p.ht hb;omega),(hN.2.2 b hb).2.2⟩⟩
  ·rw[List.getElem?_append_right hk]at hn
   rw[List.getElem?_append_right (by omega),k2]at hw
   obtain⟨j,hj⟩:∃j,k-ns.length=j:=⟨_,rfl⟩
   rw[hj]at hn hw
   cases j with
   | succ j=>simp at hn
   | zero=>
    cases hn
    cases hw
    exact⟨.inl ⟨rfl,rfl,rfl⟩,.inl ⟨rfl,rfl,rfl⟩,fun b hb=>hb.elim (fun h=>h.elim) (fun h=>h.elim)⟩
theorem Pn.put (h:Pn σ xb lv ts l R ns (fun b=>Q b∨LB nb iv fv b)) (q:Nq σ nb nd iv fv) (ap:Aq xb lv R.dv nb iv fv) (hq:∀b,Names iv b∨Names fv b→¬Q b) {i:Nat} (hi:i<ns.length) :
    ∃b σ',(∀κ:Nat→Nat→Ans,iaddrSK 16 R.dv (Int.ofNat i) κ=κ b (i*16))∧(∀κ:H→Ans,stK 16 b (i*16) (.agg (nd.c iv fv)) σ κ=κ σ')∧Pn σ' xb lv ts l R (ns.set i nd) Q∧Fr (Names R.dv) σ σ':=by
  obtain⟨ws,k1,k2,k3⟩:=h.w
  have hlen:=ndCs_len ns ws k2
  obtain⟨b,cp,hdv,hb⟩:∃b cp,R.dv = .sl b 0 ns.length cp∧Atc σ b (ndCs ns ws):=by
    rcases k1 with (⟨h0,_⟩|⟨b,hv,ha,_⟩)|⟨b,hv,ha,_⟩
    · omega
    · exact⟨b,_,hv,ha⟩
    · exact⟨b,_,hv,ha⟩
  obtain⟨σ',e,f,a⟩:=mkS h.p.ht hb (ndCs (ns.set i nd) (ws.set i (iv,fv)))
  have nmb:∀x,Names R.dv x↔x=b:=fun x=>by rw[hdv];exact Iff.rfl
  have f':Fr (Names R.dv) σ σ':=f.mono fun x _ e=>(nmb x).2 e
  have ho:allOne (nd.c iv fv)=true:=by
    unfold NodeS.c
    simp only[allOne_cons,allOne_nil,one_int,one_str,one_bool,q.i.one,q.f.one,Bool.and_true]
  have hl16:i*16+16≤(ndCs ns ws).length:=by rw[hlen];omega
  refine⟨b,σ',fun κ=>?_,fun κ=>?_,⟨h.p.fr f' (fun e=>(h.dx xb e).1 rfl) (fun x hx e=>(h.dx x e).2 hx),⟨ws.set i (iv,fv),?_,by rw[List.length_set,List.length_set,k2],fun k nd1 w hn hw=>?_⟩,h.dx⟩,f'⟩
  · rw[hdv,iaddrSK_lt hi]
    show κ b (0+i*16)=_
    rw[Nat.zero_add]
  · rw[stK_at hb (by
      rw[cells_agg,ho,ndC_len]
      simp only[Nat.beq_refl,Bool.true_and,Bool.and_true,Nat.ble_eq];exact hl16),cells_agg,ndCs_set ns ws i nd (iv,fv) k2 hi,e]
  · rw[List.length_set]
    rcases k1 with (⟨h0,_⟩|⟨b',hv,ha,h0,hl⟩)|⟨b',hv,ha,hl⟩
    · omega
    · have:b'=b:=by rw[hdv]at hv;cases hv;rfl
      subst this
      exact .inl (.inr ⟨b',hv,a,h0,by rw[ndCs_len _ _ (by rw[List.length_set,List.length_set,k2]),List.length_set]⟩)
    · have:b'=b:=by rw[hdv]at hv;cases hv;rfl
      subst this
      exact .inr ⟨b',hv,a,by rw[ndCs_len _ _ (by rw[List.length_set,List.length_set,k2]),List.length_set]⟩
  · by_cases hk:i=k
    · subst hk
      rw[List.getElem?_set_self hi]at hn
      rw[List.getElem?_set_self (by omega)]at hw
      cases hn
      cases hw
      exact⟨q.i.src.fr f' h.p.ht (fun x hx e=>ap.i x hx e),q.f.src.fr f' h.p.ht (fun x hx e=>ap.f x hx e),fun x hx=>⟨hx.elim (fun e=>(ap.a.i x e).1) (fun e=>(ap.a.f x e).1),hx.elim (ap.i x) (ap.f x),hq x hx⟩⟩
    · rw[List.getElem?_set_ne hk]at hn hw
      have hN:=k3 k nd1 w hn hw
      exact⟨hN.1.fr f' h.p.ht fun x hb e=>(hN.2.2 x (.inl hb)).2.1 e,hN.2.1.fr f' h.p.ht fun x hb e=>(hN.2.2 x (.inr hb)).2.1 e,fun x hx=>⟨(hN.2.2 x hx).1,(hN.2.2 x hx).2.1,fun e=>(hN.2.2 x hx).2.2 (.inl e)⟩⟩
theorem Nq.setm (h:Nq σ nb nd iv fv) (ht:Tidy σ) (v:Int):∃σ',(∀κ:H→Ans,stK 3 nb 2 (.agg [.bool true,.int .i64 v,.int .i64 (Int.ofNat 0)]) σ κ=κ σ')∧Fr (fun k=>k=nb) σ σ'∧Nq σ' nb { nd with mHas:=true,mNum:=v,mMode:=0 } iv fv:=by
 obtain⟨σ',e,f,a⟩:=mkS ht h.a (({ nd with mHas:=true,mNum:=v,mMode:=0 }:NodeS).c iv fv)
 refine⟨σ',fun κ=>?_,f,a,h.i.fr f ht (fun b hb e=>h.ni (e ▸ hb)),h.f.fr f ht (fun b hb e=>h.nf (e ▸ hb)),h.ni,h.nf,h.d⟩
 rw[stK_at h.a rfl]
 show κ (setF σ nb (.cells (({ nd with mHas:=true,mNum:=v,mMode:=0 }:NodeS).c iv fv)))=_
 rw[e]
end
section
variable {E:List (Nat × Blk)} {D:Den} {W:DrawFn} {N:Nat}
theorem subK_16 {a b c d e f g h i j k l m n o p:V} {κ:List V→Ans}:subK [a,b,c,d,e,f,g,h,i,j,k,l,m,n,o,p] 0 16 κ=κ [a,b,c,d,e,f,g,h,i,j,k,l,m,n,o,p]:=rfl
theorem typ_F {T:TypT} (hMon:MonT T) (hNow:SpNow (D 23)) (hBe:SpBeg (D 40)) (hI:SpIs (D 22)) (hM:SpMust (D 21)) (hN:SpNumb (D 41)) (hB:SpBaseT T (D 42)):SpTypT (typS T) (F25 E D W N):=by
 intro σ xb lv ts l l' R ns ns' Q d i h hQ hd hs
 cases l with
 | nil=>cases hs
 | cons t l0=>
 replace hs:(match begB t&&(decide (d≤16)&&decide (ns.length<300))with
  | true=>(markP (t::l0)).bind fun m=>(baseP T d (nodeM m.1) m.2 (ns++[nodeZ])).map fun s=>(ns.length,s.2.1,s.2.2.set ns.length s.1)
  | false=>none:Option (Nat × List Tok × List NodeS))=some (i,l',ns'):=hs
 cases hb:begB t&&(decide (d≤16)&&decide (ns.length<300))with
 | false=>rw[hb]at hs;cases hs
 | true=>
 rw[hb]at hs
 simp only[Bool.and_eq_true,decide_eq_true_eq]at hb
 obtain⟨hb,hd16,hl⟩:=hb
 obtain⟨⟨m,lm⟩,hm,hs⟩:=Option.bind_eq_some_iff.1 hs
 obtain⟨⟨nd,lb,nsb⟩,hbase,he⟩:=Option.map_eq_some_iff.1 hs
 cases he
 have gn:=hNow h.p
 obtain⟨σ1,g1,f1⟩:=hBe σ t h.p.ht
 rw[hb]at g1
 have le1:=f1.le
 have h1:=h.fr f1 (fun h=>h) (fun _ _ h=>h) (fun _ _ h=>h) (fun _ _ h=>h.elim)
 obtain⟨a,ha,_⟩:=h.p.ex
 obtain⟨a1,ha1,_⟩:=h1.p.ex
 unfold pc at ha ha1
 have hQ1:∀b,Q b→b<σ1.next:=fun b hb=>by have:=hQ b hb;omega
 obtain⟨u,σ2,σ3,σ4,e2,g3,uo,g4,h4,f14,mu⟩:=h1.push (E:=E) hQ1 hl
 obtain⟨σ5,e5,f5,a5,n5⟩:=mkN h4.p.ht zC
 obtain⟨σ6,e6,f6,a6⟩:=mkS f5.tidy a5 zC
 have s6:∀κ:H→Ans,stK 16 σ4.next 0 (.agg zC) σ5 κ=κ σ6:=fun κ=>by
  rw[stK_at a5 rfl]
  show κ (setF σ5 σ4.next (.cells zC))=_
  rw[e6]
 have f46:Fr Nowhere σ4 σ6:=f5.trans f6 (fun b hb e=>by omega)
 have le14:=f14.le
 have le46:=f46.le
 have q6:Nq σ6 σ4.next nodeZ .nils .nils:=⟨a6,Dst.nil _ _,Dst.nil _ _,fun h=>h,fun h=>h,fun _ h=>h.elim⟩
 have lx4:=h4.p.lt
 have ap6:Aq xb lv u σ4.next .nils .nils:=⟨⟨by omega,fun hn=>by have:=h4.llt hn;omega,fun _ h=>h.elim,fun _ h=>h.elim⟩,fun hn=>by have:=h4.dlt (R:=R.wd u) hn;omega,fun _ h=>h.elim,fun _ h=>h.elim⟩
 have h6:Pn σ6 xb lv ts (t::l0) (R.wd u) (ns++[nodeZ]) (fun b=>Q b∨LB σ4.next .nils .nils b):=(h4.ext (Q':=fun b=>Q b∨LB σ4.next .nils .nils b) fun b hb=>by
  rcases hb with hb|hb|hb|hb
  ·exact .inl hb
  ·exact .inr (by omega)
  ·exact hb.elim
  ·exact hb.elim).fr f46 (fun h=>h) (fun _ _ h=>h) (fun _ _ h=>h) (fun _ _ h=>h.elim)
 have s0:FldSt σ6 σ6 xb lv ts (t::l0) (R.wd u) (ns++[nodeZ]) Q σ4.next nodeZ .nils .nils .nils u:=⟨h6,q6,ap6,fun _ h => .inl h,fun _ h => .inl h,Fr.refl h6.p.ht⟩
 obtain⟨σ7,s7,k7⟩:∃σ7,FldSt σ6 σ7 xb lv ts lm (R.wd u) (ns++[nodeZ]) Q σ4.next (nodeM m) .nils .nils .nils u ∧
   ∀K1:Nat→Nat→Int→Int→Nat→Nat→H→Ans,T25_0 E D W K1 (T25_2 E D W K1) xb 0 (Int.ofNat d) σ=K1 xb 0 (Int.ofNat d) (Int.ofNat ns.length) σ4.next 0 σ7:=by
  obtain⟨σ7,g7,p7,f7⟩:=hI (BS.mk 1 91) s0.p.p
  have s7:=s0.trans (FldSt.go s0.p s0.q s0.ap p7 f7)
  obtain⟨ws,k1,k2,k3⟩:=h1.w
  have sd:∀κ:Nat→Ans,slenK R.dv κ=κ ns.length:=fun κ=>k1.slen
  have d16:decide (16<d)=false:=decide_eq_false (by omega)
  have d300:decide (300≤ns.length)=false:=decide_eq_false (by omega)
  unfold tokC at gn g1
  unfold zC at e2 e5 s6
  have pre:∀K1 K2,T25_0 E D W K1 K2 xb 0 (Int.ofNat d) σ=condK (isP (BS.mk 1 91) (t::l0)).1
    (callK (D 23 [.ptr xb 0] σ7) fun u63 s64=>rtAgg u63 fun l65=>xcI .i64 l65 fun x68 l67=>xcS l67 fun x71 l70=>xcI .i64 l70 fun x74 l73=>rtNil l73 (
     callK (D 41 [.ptr xb 0] s64) fun u75 s76=>rtInt .i64 u75 fun x77=>ldK E s76 xb 7 fun u78=>rtInt .i64 u78 fun x79=>
     joinB (fun c80 s81=>condK c80 (callK (D 24 [.ptr xb 0,.int .i64 (Int.ofNat 12),.agg [.int .i64 x68,.str x71,.int .i64 x74]] s81) fun u83 s84=>rtTup u83 fun l85=>rtNil l85 (K2 xb 0 (Int.ofNat d) (Int.ofNat ns.length) σ4.next 0 x77 s84)) (K2 xb 0 (Int.ofNat d) (Int.ofNat ns.length) σ4.next 0 x77 s81)) fun k82=>
     condK (eqF x79 (Int.ofNat 0)) (joinB (fun c86 s87=>k82 c86 s87) fun k88=>condK (ltF x77 (Int.ofNat 0)) (k88 true s76) (k88 (ltF (Int.ofNat 268435456) x77) s76)) (k82 false s76)))
    (K1 xb 0 (Int.ofNat d) (Int.ofNat ns.length) σ4.next 0 σ7):=by
   intro K1 K2
   unfold T25_0
   simp -implicitDefEqProofs only [↓rP,rA,Nat.reduceEqDiff,Nat.reduceLT,Nat.reduceLeDiff,↓ldK_is ha,↓gn,↓g1,d16,↓ldK_is ha1,↓sd,d300,↓e2,↓g3,↓rtOne_of uo,↓g4,↓e5,↓s6,↓g7]
  unfold markP at hm
  cases hq:isP (BS.mk 1 91) (t::l0)with
  | mk b l1=>
   rw[hq]at hm g7 s7 pre p7
   cases b with
   | false=>
    cases hm
    refine⟨σ7,s7,fun K1=>?_⟩
    rw[pre];rfl
   | true=>
    obtain⟨⟨v,l2⟩,hv,hm⟩:=Option.bind_eq_some_iff.1 hm
    cases hlt:ltF v (Int.ofNat 0) || ltF (Int.ofNat 268435456) v with
    | true=>
     have hm:(match ltF v (Int.ofNat 0) || ltF (Int.ofNat 268435456) v with | true=>none | false=>_:Option ((Bool × Int × Nat) × List Tok))=some (m,lm):=hm
     rw[hlt]at hm;cases hm
    | false=>
     have hm:(match ltF v (Int.ofNat 0) || ltF (Int.ofNat 268435456) v with
      | true=>none
      | false=>(mustP (BS.mk 1 93) l2).bind fun l2=>match isP (BS.mk 8 6073459554577832005) l2 with
       | (true,l3)=>some ((true,v,1),l3)
       | (false,l3)=>match isP (BS.mk 8 6073459554577829193) l3 with
        | (true,l4)=>some ((true,v,2),l4)
        | (false,l4)=>some ((true,v,0),l4):Option ((Bool × Int × Nat) × List Tok))=some (m,lm):=hm
     rw[hlt]at hm
     rw[Bool.or_eq_false_iff]at hlt
     obtain⟨l3,h3,hm3⟩:=Option.bind_eq_some_iff.1 hm
     obtain⟨t1,l1',rfl⟩:∃t1 l1',l1=t1::l1':=by
      cases l1 with
      | nil=>exact absurd rfl p7.ne
      | cons t1 l1'=>exact⟨t1,l1',rfl⟩
     have gn7:=hNow p7
     obtain⟨σ8,g8,p8,f8⟩:=hN p7 hv
     have s8:=s7.trans (FldSt.go s7.p s7.q s7.ap p8 f8)
     obtain⟨a8,ha8,_⟩:=p8.ex
     unfold pc at ha8
     obtain⟨σ9,g9,p9,f9⟩:=hM p8 h3
     have s9:=s8.trans (FldSt.go s8.p s8.q s8.ap p9 f9)
     obtain⟨σ10,g10,f10,q10⟩:=s9.q.setm p9.ht v
     have s10:=s9.trans (FldSt.own s9.p s9.ap q10 f10)
     obtain⟨σ11,g11,p11,f11⟩:=hI (BS.mk 8 6073459554577832005) s10.p.p
     have s11:=s10.trans (FldSt.go s10.p s10.q s10.ap p11 f11)
     unfold tokC at gn7
     have mid:∀K1:Nat→Nat→Int→Int→Nat→Nat→H→Ans,T25_0 E D W K1 (T25_2 E D W K1) xb 0 (Int.ofNat d) σ=T25_2 E D W K1 xb 0 (Int.ofNat d) (Int.ofNat ns.length) σ4.next 0 v σ8:=by
      intro K1
      rw[pre]
      simp -implicitDefEqProofs only [↓rP,rA,Nat.reduceEqDiff,Nat.reduceLT,Nat.reduceLeDiff,↓gn7,↓g8,↓ldK_is ha8,hlt.1,hlt.2]
     cases hq11:isP (BS.mk 8 6073459554577832005) l3 with
     | mk b l4=>
      rw[hq11]at hm3 g11 p11 s11
      cases b with
      | true=>
       cases hm3
       obtain⟨σ12,g12,f12,q12⟩:=s11.q.set (off:=4) (y := .int .i64 (Int.ofNat 1)) p11.ht (nodeM (true,v,1)) rfl (by decide) rfl rfl rfl
       refine⟨σ12,s11.trans (FldSt.own s11.p s11.ap q12 f12),fun K1=>?_⟩
       rw[mid]
       unfold T25_2
       simp -implicitDefEqProofs only [↓rP,rS,↓g9,↓g10,↓g11,↓g12]
      | false=>
       have hm3:(match isP (BS.mk 8 6073459554577829193) l4 with
        | (true,l4)=>some ((true,v,2),l4)
        | (false,l4)=>some ((true,v,0),l4):Option ((Bool × Int × Nat) × List Tok))=some (m,lm):=hm3
       obtain⟨σ12,g12,p12,f12⟩:=hI (BS.mk 8 6073459554577829193) s11.p.p
       have s12:=s11.trans (FldSt.go s11.p s11.q s11.ap p12 f12)
       cases hq12:isP (BS.mk 8 6073459554577829193) l4 with
       | mk b l5=>
        rw[hq12]at hm3 g12 p12 s12
        cases b with
        | true=>
         cases hm3
         obtain⟨σ13,g13,f13,q13⟩:=s12.q.set (off:=4) (y := .int .i64 (Int.ofNat 2)) p12.ht (nodeM (true,v,2)) rfl (by decide) rfl rfl rfl
         refine⟨σ13,s12.trans (FldSt.own s12.p s12.ap q13 f13),fun K1=>?_⟩
         rw[mid]
         unfold T25_2
         simp -implicitDefEqProofs only [↓rP,rS,↓g9,↓g10,↓g11,↓g12,↓g13]
        | false=>
         cases hm3
         refine⟨σ12,s12,fun K1=>?_⟩
         rw[mid]
         unfold T25_2
         simp -implicitDefEqProofs only [↓rP,rS,↓g9,↓g10,↓g11,↓g12]
 have le7:=s7.f.le
 obtain⟨dv',iv',fv',σ8,g8,b8⟩:=hB s7.p (fun b hb=>by have:=hQ1 b hb;omega) s7.q s7.ap rfl rfl (by omega) hbase
 have hlen:ns.length<nsb.length:=by
  have:=baseP_mon hMon hbase
  rw[List.length_append,List.length_cons,List.length_nil]at this;omega
 have fr7:∀b,b<σ.next→(PB xb u b∨LB σ4.next .nils .nils b)→PB xb R.dv b:=fun b hb e=>by
  rcases e with (e|e)|e|e|e
  ·exact .inl e
  ·exact(mu b e).elim .inr (fun h=>by omega)
  ·omega
  ·exact e.elim
  ·exact e.elim
 have mdv:∀b,Names dv' b→Names R.dv b∨σ.next≤b:=fun b hb=>by
  rcases b8.md b hb with h|h
  ·exact(mu b h).imp id (fun h=>by omega)
  ·exact .inr (by omega)
 obtain⟨bb,σ9,ia,s9,p9,f9⟩:=b8.p.put b8.q b8.ap (fun b hb hq=>by
  have:=hQ b hq
  rcases hb with hb|hb
  ·exact(b8.mi b hb).elim (fun h=>h.elim) (fun h=>by omega)
  ·exact(b8.mf b hb).elim (fun h=>h.elim) (fun h=>by omega)) hlen
 refine⟨dv',σ9,?_,p9,(((((f1.mono (fun _ _ h=>h.elim):Fr (PB xb R.dv) σ σ1).trans f14 (fun _ _ e=>e)).trans f46 (fun _ _ e=>e.elim)).trans s7.f (fun b hb e=>fr7 b hb (e.imp id (fun e=>e.elim .inl fun e=>e.elim)))).trans b8.f (fun b hb e=>fr7 b hb e)).trans f9 (fun b hb e=>(mdv b e).elim .inr (fun h=>by omega)),mdv⟩
 obtain⟨a8,ha8,_⟩:=b8.p.p.ex
 unfold pc at ha8
 have qa:=b8.q.a
 unfold NodeS.c at qa s9
 have g8':D 42 [.ptr xb 0,.ptr σ4.next 0,.int .i64 (Int.ofNat d)] σ7=some (.tup [],σ8):=g8
 show T25_0 E D W (T25_1 E D W) (T25_2 E D W (T25_1 E D W)) xb 0 (Int.ofNat d) σ=_
 rw[k7]
 have ia':∀κ:Nat→Nat→Ans,iaddrSK 16 (((R.wd u).wd u).wd dv').dv (Int.ofNat ns.length) κ=κ bb (ns.length*16):=ia
 unfold T25_1
 simp -implicitDefEqProofs only [↓rP,rA,Nat.reduceEqDiff,Nat.reduceLT,Nat.reduceLeDiff,↓g8',↓ldK_is ha8,↓ldnK_is qa,subK_16,↓ia',↓s9]
end
structure ModS where
 nm:List Nat
 tg:Nat
 az:List (List Nat)
 ks:List Nat
 ns:List NodeS
def stC (az:List (List Nat)):List V:=az.map fun w => .str (ofN w)
def ksC (ks:List Nat):List V:=ks.map fun k => .int .i64 (Int.ofNat k)
def tagP (l:List Tok):Option (Nat × List Tok):=match isP (BS.mk 8 6073459554577832005) l with
 | (true,l1)=>(mustP (BS.mk 4 1397178708) l1).map fun l2=>(0,l2)
 | (false,l1)=>match isP (BS.mk 8 6073459554577829193) l1 with
  | (true,l2)=>(mustP (BS.mk 4 1397178708) l2).map fun l3=>(1,l3)
  | (false,l2)=>match isP (BS.mk 9 1241215773001651606849) l2 with
   | (true,l3)=>(mustP (BS.mk 4 1397178708) l3).map fun l4=>(2,l4)
   | (false,l3)=>some (0,l3)
def asgP (T:TypT):Nat→List (List Nat)→List Nat→List NodeS→List Tok→Option (List (List Nat) × List Nat × List NodeS × List Tok)
 | 0,_,_,_,_=>none
 | n+1,az,ks,ns,l=>match isP (BS.mk 3 4476485) l with
  | (true,l1)=>some (az,ks,ns,l1)
  | (false,l1)=>(kindP 1 l1).bind fun a=>match decide (40≤az.length)with
   | true=>none
   | false=>(mustP (BS.mk 3 4012602) a.2).bind fun l2=>(T 0 l2 ns).bind fun t=>asgP T n (az++[a.1]) (ks++[t.1]) t.2.2 t.2.1
def modP (T:TypT) (ts:List Tok):Option ModS:=
 (kindP 1 ts).bind fun a=>(mustP (BS.mk 11 100710650190388740279911748) a.2).bind fun l1=>(tagP l1).bind fun t=>
  (mustP (BS.mk 3 4012602) t.2).bind fun l2=>(mustP (BS.mk 5 336236856642) l2).bind fun l3=>(asgP T 50 [] [] [] l3).bind fun r=>
   match r.2.2.2 with
   | []=>none
   | e::_=>match decide (e.1=0)with
    | true=>some ⟨a.1,t.1,r.1,r.2.1,r.2.2.1⟩
    | false=>none
structure MdS (σ:H) (m:ModS) (nv tv dv:V):Prop where
 n:Dst σ 1 m.az.length nv (stC m.az)
 t:Src σ 1 m.ks.length tv (ksC m.ks)
 d:∃ws:List (V × V),Src σ 16 m.ns.length dv (ndCs m.ns ws)∧ws.length=m.ns.length∧∀(k:Nat) (nd:NodeS) (u:V × V),m.ns[k]? = some nd→ws[k]? = some u→Src σ 3 nd.items.length u.1 (itC nd.items)∧Src σ 11 nd.fields.length u.2 (fdC nd.fields)
def mdC (m:ModS) (nv tv dv:V):List V:=[.str (ofN m.nm),.int .i64 (Int.ofNat m.tg),nv,tv,dv]
def SpParse (N:Nat) (T:TypT) (F:List V→H→Ans):Prop:=∀(σ:H) (s:BS) (ts:List Tok) (m:ModS),Tidy σ→s.len≤8000→Tks N s.len s.nats ts→modP T ts=some m →
 ∃nv tv dv σ',F [.str s] σ=some (.tup [.agg (mdC m nv tv dv),.int .i64 (Int.ofNat 0),.int .i64 (Int.ofNat 0)],σ')∧MdS σ' m nv tv dv∧Fr Nowhere σ σ'
theorem Tks.fin_ {N len:Nat} {r:List Nat} {ts:List Tok} (h:Tks N len r ts):∃p e,ts=p++[e]∧e.1=0:=by
 induction h with
 | fin _=>exact⟨[],_,rfl,rfl⟩
 | one _ _ _ ih=>
  obtain⟨p,e,rfl,h⟩:=ih
  exact⟨_::p,e,rfl,h⟩
theorem Tk.num_ {r w r':List Nat} {k:Nat} (h:Tk r k w r') (hk:k=3):∃m ds r,w=numT m ds∧NumOk m ds r:=by
 cases h with
 | name _ _ he=>
  exfalso
  split at he
  ·omega
  ·split at he<;>omega
 | num h=>exact⟨_,_,_,rfl,h⟩
 | sign=>cases hk
theorem Tks.num_ {N len:Nat} {r:List Nat} {ts:List Tok} (h:Tks N len r ts):∀t∈ts,t.1=3→∃m ds r,t.2.1=numT m ds∧NumOk m ds r:=by
 induction h with
 | fin _=>
  intro t ht hk
  rw[List.mem_singleton]at ht
  subst ht;cases hk
 | one _ htk _ ih=>
  intro t ht hk
  rcases List.mem_cons.1 ht with rfl|ht
  ·exact htk.num_ hk
  ·exact ih t ht hk
theorem Tks.ok {N:Nat} {s:BS} {ts:List Tok} (h:Tks N s.len s.nats ts) (hs:s.len≤8000):TsOk ts:=by
 have:=h.len
 rw[BS.length_nats]at this
 exact⟨by omega,h.fin_,h.num_⟩
section
variable {σ σ':H} {xb:Nat} {lv:V} {ts l l':List Tok} {R:Rs} {ns:List NodeS} {Q:Nat→Prop}
theorem Pz.set (h:Pz σ xb lv ts l R) {off:Nat} {y:V} (R':Rs) (hy:y.one=true) (ho:off<9) (hc:∀a,spl (pc lv a R) off [y]=pc lv a R') :
  ∃σ',(∀κ:H→Ans,stK 1 xb off y σ κ=κ σ')∧Pz σ' xb lv ts l R'∧Fr (fun k=>k=xb) σ σ':=by
 obtain⟨a,ha,hl⟩:=h.ex
 obtain⟨σ',g,f,a'⟩:=stz h.ht ha hy ho
 rw[hc]at a'
 exact⟨σ',g,⟨⟨a,a',hl⟩,h.src.fr f h.ht (fun b hb e=>h.nx b hb e),h.ne,h.nx,h.ok,f.tidy⟩,f⟩
theorem Pn.set (h:Pn σ xb lv ts l R ns Q) {off:Nat} {y:V} (R':Rs) (hd:R'.dv=R.dv) (hy:y.one=true) (ho:off<9) (hc:∀a,spl (pc lv a R) off [y]=pc lv a R') :
  ∃σ',(∀κ:H→Ans,stK 1 xb off y σ κ=κ σ')∧Pn σ' xb lv ts l R' ns Q∧Fr (fun k=>k=xb) σ σ':=by
 obtain⟨σ',g,p,f⟩:=h.p.set R' hy ho hc
 obtain⟨ws,k1,k2,k3⟩:=h.w
 refine⟨σ',g,⟨p,⟨ws,by rw[hd];exact k1.fr f h.p.ht fun b hb e=>(h.dx b hb).1 e,k2,fun k nd u hn hu=>?_⟩,by rw[hd];exact h.dx⟩,f⟩
 rw[hd]
 obtain⟨a,b,c⟩:=k3 k nd u hn hu
 exact⟨a.fr f h.p.ht fun b hb e=>(c b (.inl hb)).1 e,b.fr f h.p.ht fun b hb e=>(c b (.inr hb)).1 e,c⟩
end
def rzC:List V:=[.str (BS.mk 0 0),.int .i64 (Int.ofNat 0),.nils,.nils,.nils]
structure Pm (σ:H) (xb rb:Nat) (lv:V) (ts l:List Tok) (R:Rs) (ns:List NodeS) (az:List (List Nat)) (ks:List Nat):Prop where
 p:Pn σ xb lv ts l R ns (fun b=>Names R.nv b∨Names R.tv b∨b=rb)
 r:Atc σ rb rzC
 n:Dst σ 1 az.length R.nv (stC az)
 t:Dst σ 1 ks.length R.tv (ksC ks)
 nx:∀b,Names R.nv b→b≠xb∧¬Names lv b∧¬Names R.dv b∧¬Names R.tv b∧b≠rb
 tx:∀b,Names R.tv b→b≠xb∧¬Names lv b∧¬Names R.dv b∧b≠rb
 rx:rb≠xb∧¬Names lv rb∧¬Names R.dv rb
section
variable {E:List (Nat × Blk)} {D:Den} {W:DrawFn} {N:Nat} {σ σ':H} {xb rb:Nat} {lv:V} {ts l l':List Tok} {R:Rs} {ns ns':List NodeS} {az:List (List Nat)} {ks:List Nat}
theorem Pm.go (h:Pm σ xb rb lv ts l R ns az ks) (p:Pz σ' xb lv ts l' R) (f:Fr (fun k=>k=xb) σ σ'):Pm σ' xb rb lv ts l' R ns az ks:=
 ⟨h.p.go p f,f.at_ h.r h.p.p.ht h.rx.1,h.n.fr f h.p.p.ht (fun b hb e=>(h.nx b hb).1 e),h.t.fr f h.p.p.ht (fun b hb e=>(h.tx b hb).1 e),h.nx,h.tx,h.rx⟩
theorem Pm.q (h:Pm σ xb rb lv ts l R ns az ks):∀b,(Names R.nv b∨Names R.tv b∨b=rb)→b<σ.next:=fun b hb=>by
 rcases hb with hb|hb|rfl
 ·exact h.n.lt h.p.p.ht hb
 ·exact h.t.lt h.p.p.ht hb
 ·exact h.r.lt h.p.p.ht
theorem Pm.typ (h:Pm σ xb rb lv ts l R ns az ks) {dv':V} (p:Pn σ' xb lv ts l' (R.wd dv') ns' (fun b=>Names R.nv b∨Names R.tv b∨b=rb)) (f:Fr (PB xb R.dv) σ σ') (m:∀b,Names dv' b→Names R.dv b∨σ.next≤b):Pm σ' xb rb lv ts l' (R.wd dv') ns' az ks:=by
 have ht:=h.p.p.ht
 have lt:=h.q
 refine⟨p,f.at_ h.r ht (fun e=>e.elim h.rx.1 h.rx.2.2),h.n.fr f ht (fun b hb e=>e.elim (h.nx b hb).1 (h.nx b hb).2.2.1),h.t.fr f ht (fun b hb e=>e.elim (h.tx b hb).1 (h.tx b hb).2.2.1),fun b hb=>?_,fun b hb=>?_,?_⟩
 ·obtain⟨h1,h2,h3,h4,h5⟩:=h.nx b hb
  exact⟨h1,h2,fun e=>(m b e).elim h3 (fun e=>by have:=lt b (.inl hb);omega),h4,h5⟩
 ·obtain⟨h1,h2,h3,h4⟩:=h.tx b hb
  exact⟨h1,h2,fun e=>(m b e).elim h3 (fun e=>by have:=lt b (.inr (.inl hb));omega),h4⟩
 ·exact⟨h.rx.1,h.rx.2.1,fun e=>(m _ e).elim h.rx.2.2 (fun e=>by have:=lt rb (.inr (.inr rfl));omega)⟩
theorem Pm.name (h:Pm σ xb rb lv ts l R ns az ks) (w:List Nat) (hl:az.length≤4000):∃u σ1 σ2 σ3,newB σ (.cells [.str (ofN w)])=σ1∧(∀κ:V→H→Ans,appK E 1 16 R.nv (.sl σ.next 0 1 (.ex 1)) σ1 κ=κ u σ2)∧u.one=true∧(∀κ:H→Ans,stK 1 xb 4 u σ2 κ=κ σ3) ∧
  Pm σ3 xb rb lv ts l { R with nv:=u } ns (az++[w]) ks∧Fr (fun b=>b=xb∨Names R.nv b) σ σ3∧(∀b,Names u b→Names R.nv b∨σ.next≤b):=by
 have ht:=h.p.p.ht
 have lt:=h.q
 obtain⟨σ1,e1,f1,a1,n1⟩:=mkN ht [.str (ofN w)]
 have xs:Src σ1 1 1 (V.sl σ.next 0 1 (.ex 1)) [.str (ofN w)] := .inr ⟨_,_,_,_,rfl,a1,Nat.le_refl _,rfl⟩
 obtain⟨u,σ2,g2,d2,m2,f2⟩:=app_all (E:=E) (bytes:=16) (h.n.fr f1 ht (fun _ _ h=>h)) f1.tidy xs rfl (by unfold growable;simp only[Bool.and_eq_true,Nat.ble_eq];omega)
 have le1:=f1.le
 have mu:∀b,Names u b→Names R.nv b∨σ.next≤b:=fun b hb=>(m2 b hb).imp id fun h=>by omega
 have f12:Fr (Names R.nv) σ σ2:=(f1.mono (fun _ _ h=>h.elim):Fr (Names R.nv) σ σ1).trans f2 (fun _ _ e=>e)
 have p2:Pn σ2 xb lv ts l R ns (fun b=>(Names R.nv b∨Names R.tv b∨b=rb)∨σ.next≤b):=(h.p.ext (Q':=fun b=>(Names R.nv b∨Names R.tv b∨b=rb)∨σ.next≤b) fun _ h=>h).fr f12 (fun e=>(h.nx _ e).1 rfl) (fun b hb e=>(h.nx b e).2.1 hb) (fun b hb e=>(h.nx b e).2.2.1 hb) (fun b _ e => .inl (.inl e))
 obtain⟨σ3,g3,p3,f3⟩:=p2.set (off:=4) (y:=u) { R with nv:=u } rfl d2.one (by decide) (fun _=>rfl)
 have lx:=h.p.p.lt
 have f13:Fr (fun b=>b=xb∨Names R.nv b) σ σ3:=(f12.mono (fun _ _ e => .inr e):Fr (fun b=>b=xb∨Names R.nv b) σ σ2).trans f3 (fun _ _ e => .inl e)
 refine⟨u,σ1,σ2,σ3,e1,g2,d2.one,g3,⟨p3.ext (fun b hb=>?_),f13.at_ h.r ht (fun e=>e.elim h.rx.1 fun e=>(h.nx _ e).2.2.2.2 rfl),?_,h.t.fr f13 ht (fun b hb e=>e.elim (h.tx b hb).1 fun e=>(h.nx b e).2.2.2.1 hb),fun b hb=>?_,h.tx,h.rx⟩,f13,mu⟩
 ·rcases hb with hb|hb
  ·exact(mu b hb).elim (fun e => .inl (.inl (.inl e))) (fun e => .inl (.inr e))
  ·exact .inl (.inl (.inr hb))
 ·have d3:=d2.fr f3 f2.tidy (fun b hb e=>(mu b hb).elim (fun h'=>(h.nx b h').1 e) (fun h=>by omega))
  rw[List.length_append]
  show Dst σ3 1 (az.length+1) u (stC (az++[w]))
  rw[show stC (az++[w])=stC az++[.str (ofN w)] by unfold stC;simp]
  exact d3
 ·rcases mu b hb with e|e
  ·exact h.nx b e
  ·exact⟨by omega,fun hn=>by have:=h.p.llt hn;omega,fun hn=>by have:=h.p.dlt hn;omega,fun hn=>by have:=lt b (.inr (.inl hn));omega,fun hn=>by have:=lt b (.inr (.inr hn));omega⟩
theorem Pm.more (h:Pm σ xb rb lv ts l R ns az ks) (k:Nat) (hl:ks.length≤4000):∃u σ1 σ2 σ3,newB σ (.cells [.int .i64 (Int.ofNat k)])=σ1∧(∀κ:V→H→Ans,appK E 1 8 R.tv (.sl σ.next 0 1 (.ex 1)) σ1 κ=κ u σ2)∧u.one=true∧(∀κ:H→Ans,stK 1 xb 5 u σ2 κ=κ σ3) ∧
  Pm σ3 xb rb lv ts l { R with tv:=u } ns az (ks++[k])∧Fr (fun b=>b=xb∨Names R.tv b) σ σ3∧(∀b,Names u b→Names R.tv b∨σ.next≤b):=by
 have ht:=h.p.p.ht
 have lt:=h.q
 obtain⟨σ1,e1,f1,a1,n1⟩:=mkN ht [.int .i64 (Int.ofNat k)]
 have xs:Src σ1 1 1 (V.sl σ.next 0 1 (.ex 1)) [.int .i64 (Int.ofNat k)] := .inr ⟨_,_,_,_,rfl,a1,Nat.le_refl _,rfl⟩
 obtain⟨u,σ2,g2,d2,m2,f2⟩:=app_all (E:=E) (bytes:=8) (h.t.fr f1 ht (fun _ _ h=>h)) f1.tidy xs rfl (by unfold growable;simp only[Bool.and_eq_true,Nat.ble_eq];omega)
 have le1:=f1.le
 have mu:∀b,Names u b→Names R.tv b∨σ.next≤b:=fun b hb=>(m2 b hb).imp id fun h=>by omega
 have f12:Fr (Names R.tv) σ σ2:=(f1.mono (fun _ _ h=>h.elim):Fr (Names R.tv) σ σ1).trans f2 (fun _ _ e=>e)
 have p2:Pn σ2 xb lv ts l R ns (fun b=>(Names R.nv b∨Names R.tv b∨b=rb)∨σ.next≤b):=(h.p.ext (Q':=fun b=>(Names R.nv b∨Names R.tv b∨b=rb)∨σ.next≤b) fun _ h=>h).fr f12 (fun e=>(h.tx _ e).1 rfl) (fun b hb e=>(h.tx b e).2.1 hb) (fun b hb e=>(h.tx b e).2.2.1 hb) (fun b _ e => .inl (.inr (.inl e)))
 obtain⟨σ3,g3,p3,f3⟩:=p2.set (off:=5) (y:=u) { R with tv:=u } rfl d2.one (by decide) (fun _=>rfl)
 have lx:=h.p.p.lt
 have f13:Fr (fun b=>b=xb∨Names R.tv b) σ σ3:=(f12.mono (fun _ _ e => .inr e):Fr (fun b=>b=xb∨Names R.tv b) σ σ2).trans f3 (fun _ _ e => .inl e)
 refine⟨u,σ1,σ2,σ3,e1,g2,d2.one,g3,⟨p3.ext (fun b hb=>?_),f13.at_ h.r ht (fun e=>e.elim h.rx.1 fun e=>(h.tx _ e).2.2.2 rfl),h.n.fr f13 ht (fun b hb e=>e.elim (h.nx b hb).1 (h.nx b hb).2.2.2.1),?_,fun b hb=>?_,fun b hb=>?_,h.rx⟩,f13,mu⟩
 ·rcases hb with hb|hb|hb
  ·exact .inl (.inl (.inl hb))
  ·exact(mu b hb).elim (fun e => .inl (.inl (.inr (.inl e)))) (fun e => .inl (.inr e))
  ·exact .inl (.inl (.inr (.inr hb)))
 ·have d3:=d2.fr f3 f2.tidy (fun b hb e=>(mu b hb).elim (fun h'=>(h.tx b h').1 e) (fun h=>by omega))
  rw[List.length_append]
  show Dst σ3 1 (ks.length+1) u (ksC (ks++[k]))
  rw[show ksC (ks++[k])=ksC ks++[.int .i64 (Int.ofNat k)] by unfold ksC;simp]
  exact d3
 ·obtain⟨h1,h2,h3,h4,h5⟩:=h.nx b hb
  exact⟨h1,h2,h3,fun e=>(mu b e).elim h4 (fun e=>by have:=lt b (.inl hb);omega),h5⟩
 ·rcases mu b hb with e|e
  ·exact h.tx b e
  ·exact⟨by omega,fun hn=>by have:=h.p.llt hn;omega,fun hn=>by have:=h.p.dlt hn;omega,fun hn=>by have:=lt b (.inr (.inr hn));omega⟩
end
section
variable {E:List (Nat × Blk)} {D:Den} {N:Nat}
theorem par_end {σ:H} {xb rb:Nat} {lv:V} {ts l:List Tok} {nm:List Nat} {tg:Nat} {nv tv dv:V} {ns:List NodeS} {az:List (List Nat)} {ks:List Nat} {e:Tok} (hN:SpNow (D 23)) (h:Pm σ xb rb lv ts (e::l) ⟨ofN nm,Int.ofNat tg,nv,tv,dv⟩ ns az ks) (he:decide (e.1=0)=true) :
    ∃σ',T13_2 E D (drawW E D) (T13_5 E D (drawW E D)) rb 0 xb 0 σ=some (.tup [.agg (mdC ⟨nm,tg,az,ks,ns⟩ nv tv dv),.int .i64 (Int.ofNat 0),.int .i64 (Int.ofNat 0)],σ')∧MdS σ' ⟨nm,tg,az,ks,ns⟩ nv tv dv∧Fr (fun k=>k=rb) σ σ':=by
  have ht:=h.p.p.ht
  obtain⟨a,ha,_⟩:=h.p.p.ex
  unfold pc at ha
  obtain⟨ws,k1,k2,k3⟩:=h.p.w
  have gn:=hN h.p.p
  unfold tokC at gn
  have ho:allOne (mdC ⟨nm,tg,az,ks,ns⟩ nv tv dv)=true:=by
    unfold mdC
    simp only[allOne_cons,allOne_nil,one_int,one_str,h.n.one,h.t.one,k1.one,Bool.and_true]
  obtain⟨σ',e1,f1,a1⟩:=mkS ht h.r (mdC ⟨nm,tg,az,ks,ns⟩ nv tv dv)
  have hr:=h.r
  have g1:∀κ:H→Ans,stK 5 rb 0 (.agg [.str (ofN nm),.int .i64 (Int.ofNat tg),nv,tv,dv]) σ κ=κ σ':=fun κ=>by
    rw[stK_at hr (show _=true by
      rw[cells_agg]
      show (true&&true&&allOne (mdC ⟨nm,tg,az,ks,ns⟩ nv tv dv))=true
      rw[ho];rfl)]
    show κ (setF σ rb (.cells (mdC ⟨nm,tg,az,ks,ns⟩ nv tv dv)))=_
    rw[e1]
  refine⟨σ',?_,⟨h.n.fr f1 ht (fun b hb e=>(h.nx b hb).2.2.2.2 e),(h.t.fr f1 ht (fun b hb e=>(h.tx b hb).2.2.2 e)).src,ws,(k1.fr f1 ht (fun b hb e=>h.rx.2.2 (e ▸ hb))).src,k2,fun k nd u hn hu=>?_⟩,f1⟩
  · have sub:∀κ:List V→Ans,subK [lv,.int .i64 (Int.ofNat a),.str (ofN nm),.int .i64 (Int.ofNat tg),nv,tv,dv,.int .i64 (Int.ofNat 0),.int .i64 (Int.ofNat 0)] 2 5 κ=κ [.str (ofN nm),.int .i64 (Int.ofNat tg),nv,tv,dv]:=fun κ=>by
      rw[subK_of (by simp)];rfl
    have sub5:∀κ:List V→Ans,subK [.str (ofN nm),.int .i64 (Int.ofNat tg),nv,tv,dv] 0 5 κ=κ [.str (ofN nm),.int .i64 (Int.ofNat tg),nv,tv,dv]:=fun κ=>by
      rw[subK_of (by simp)];rfl
    unfold mdC at a1
    unfold T13_2 T13_5
    simp -implicitDefEqProofs only [↓rP,rA,Nat.reduceEqDiff,Nat.reduceLT,Nat.reduceLeDiff,↓ldK_is ha,↓ldnK_is ha,↓gn,he,↓sub,↓g1,↓ldnK_is a1,↓sub5]
    rfl
  · obtain⟨x1,x2,x3⟩:=k3 k nd u hn hu
    exact⟨x1.fr f1 ht (fun b hb e=>(x3 b (.inl hb)).2.2 (.inr (.inr e))),x2.fr f1 ht (fun b hb e=>(x3 b (.inr hb)).2.2 (.inr (.inr e)))⟩
theorem asg_L {T:TypT} (hN:SpNow (D 23)) (hI:SpIs (D 22)) (hM:SpMust (D 21)) (hK:SpKind (D 20)) (hT:SpTypT T (D 25)) {xb rb:Nat} {lv:V} {ts:List Tok} {nm:List Nat} {tg:Nat}:∀(n k:Nat) {σ:H} {l:List Tok} {nv tv dv:V} {ns:List NodeS} {az:List (List Nat)} {ks:List Nat} {r:List (List Nat) × List Nat × List NodeS × List Tok} {e:Tok} {l':List Tok},
  Pm σ xb rb lv ts l ⟨ofN nm,Int.ofNat tg,nv,tv,dv⟩ ns az ks→n<k→ks.length=az.length→asgP T n az ks ns l=some r→r.2.2.2=e::l'→decide (e.1=0)=true →
  ∃nv' tv' dv' σ',L13_3 E D (drawW E D) N k rb 0 xb 0 σ=some (.tup [.agg (mdC ⟨nm,tg,r.1,r.2.1,r.2.2.1⟩ nv' tv' dv'),.int .i64 (Int.ofNat 0),.int .i64 (Int.ofNat 0)],σ')∧MdS σ' ⟨nm,tg,r.1,r.2.1,r.2.2.1⟩ nv' tv' dv'∧Fr (fun b=>b=rb∨b=xb∨Names nv b∨Names tv b∨Names dv b) σ σ':=by
 intro n
 induction n with
 | zero=>intro k σ l nv tv dv ns az ks r e l' h hk hs0 hs;cases hs
 | succ n ih=>
  intro k σ l nv tv dv ns az ks r e l' h hk hs0 hs hr he
  obtain⟨k,rfl⟩:∃j,k=j+1:=⟨k-1,by omega⟩
  obtain⟨a,ha,_⟩:=h.p.p.ex
  unfold pc at ha
  obtain⟨σ1,g1,p1,f1⟩:=hI (BS.mk 3 4476485) h.p.p
  show ∃nv' tv' dv' σ',T13_3 E D (drawW E D) (T13_2 E D (drawW E D) (T13_5 E D (drawW E D))) (T13_4 E D (drawW E D) (L13_3 E D (drawW E D) N k)) rb 0 xb 0 σ=_∧_
  have hs:(match isP (BS.mk 3 4476485) l with
   | (true,l1)=>some (az,ks,ns,l1)
   | (false,l1)=>(kindP 1 l1).bind fun a=>match decide (40≤az.length)with
    | true=>none
    | false=>(mustP (BS.mk 3 4012602) a.2).bind fun l2=>(T 0 l2 ns).bind fun t=>asgP T n (az++[a.1]) (ks++[t.1]) t.2.2 t.2.1:Option (List (List Nat) × List Nat × List NodeS × List Tok))=some r:=hs
  cases hp:isP (BS.mk 3 4476485) l with
  | mk c l1=>
   rw[hp]at hs g1 p1
   have h1:=h.go p1 f1
   cases c with
   | true=>
    cases hs
    have hr:l1=e::l':=hr
    subst hr
    obtain⟨σ2,g2,m2,f2⟩:=par_end (E:=E) hN h1 he
    refine⟨nv,tv,dv,σ2,?_,m2,(f1.mono (fun _ _ e => .inr (.inl e)):Fr (fun b=>b=rb∨b=xb∨Names nv b∨Names tv b∨Names dv b) σ σ1).trans f2 (fun _ _ e => .inl e)⟩
    have key:∀K4,T13_3 E D (drawW E D) (T13_2 E D (drawW E D) (T13_5 E D (drawW E D))) K4 rb 0 xb 0 σ=T13_2 E D (drawW E D) (T13_5 E D (drawW E D)) rb 0 xb 0 σ1:=by
     intro K4
     unfold T13_3
     simp -implicitDefEqProofs only [↓rP,rA,Nat.reduceEqDiff,Nat.reduceLT,Nat.reduceLeDiff,↓ldK_is ha,↓g1]
    rw[key];exact g2
   | false=>
    have hs:((kindP 1 l1).bind fun a=>match decide (40≤az.length)with
     | true=>none
     | false=>(mustP (BS.mk 3 4012602) a.2).bind fun l2=>(T 0 l2 ns).bind fun t=>asgP T n (az++[a.1]) (ks++[t.1]) t.2.2 t.2.1:Option (List (List Nat) × List Nat × List NodeS × List Tok))=some r:=hs
    obtain⟨⟨w,l2⟩,hw,hs⟩:=Option.bind_eq_some_iff.1 hs
    have hs:(match decide (40≤az.length)with
     | true=>none
     | false=>(mustP (BS.mk 3 4012602) l2).bind fun l2=>(T 0 l2 ns).bind fun t=>asgP T n (az++[w]) (ks++[t.1]) t.2.2 t.2.1:Option (List (List Nat) × List Nat × List NodeS × List Tok))=some r:=hs
    cases hd:decide (40≤az.length)with
    | true=>rw[hd]at hs;cases hs
    | false=>
     rw[hd]at hs
     obtain⟨l3,hm,hs⟩:=Option.bind_eq_some_iff.1 hs
     obtain⟨⟨i,l4,ns4⟩,ht,hs⟩:=Option.bind_eq_some_iff.1 hs
     have hs9:asgP T n (az++[w]) (ks++[i]) ns4 l4=some r:=hs
     have hlen:az.length<40:=by have:=of_decide_eq_false hd;omega
     obtain⟨t1,l1',rfl⟩:∃t1 l1',l1=t1::l1':=by
      cases l1 with
      | nil=>cases hw
      | cons t l1=>exact⟨t,l1,rfl⟩
     have gn:=hN p1
     unfold tokC at gn
     obtain⟨σ2,g2,p2,f2⟩:=hK p1 hw
     have h2:=h1.go p2 f2
     obtain⟨a2,ha2,_⟩:=p2.ex
     unfold pc at ha2
     obtain⟨σ3,g3,p3,f3⟩:=hM p2 hm
     have h3:=h2.go p3 f3
     obtain⟨dv4,σ4,g4,p4,f4,m4⟩:=hT (d:=0) h3.p h3.q (by omega) ht
     have h4:Pm σ4 xb rb lv ts l4 ⟨ofN nm,Int.ofNat tg,nv,tv,dv4⟩ ns4 az ks:=h3.typ p4 f4 m4
     obtain⟨a4,ha4,_⟩:=h4.p.p.ex
     unfold pc at ha4
     obtain⟨u5,σ5,σ6,σ7,e5,g5,o5,s5,h7,f7,m7⟩:=h4.name (E:=E) w (by omega)
     have h7:Pm σ7 xb rb lv ts l4 ⟨ofN nm,Int.ofNat tg,u5,tv,dv4⟩ ns4 (az++[w]) ks:=h7
     obtain⟨a7,ha7,_⟩:=h7.p.p.ex
     unfold pc at ha7
     obtain⟨u8,σ8,σ9,σ10,e8,g8,o8,s8,h10,f10,m10⟩:=h7.more (E:=E) i (by omega)
     have h10:Pm σ10 xb rb lv ts l4 ⟨ofN nm,Int.ofNat tg,u5,u8,dv4⟩ ns4 (az++[w]) (ks++[i]):=h10
     obtain⟨nv',tv',dv',σ',g',m',f'⟩:=ih k h10 (by omega) (by simp[hs0]) hs9 hr he
     refine⟨nv',tv',dv',σ',?_,m',?_⟩
     ·have key:∀K2 R3,T13_3 E D (drawW E D) K2 (T13_4 E D (drawW E D) R3) rb 0 xb 0 σ=R3 rb 0 xb 0 σ10:=by
       intro K2 R3
       unfold T13_3 T13_4
       simp -implicitDefEqProofs only [↓rP,rA,Nat.reduceEqDiff,Nat.reduceLT,Nat.reduceLeDiff,↓ldK_is ha,↓g1,↓gn,↓g2,↓ldK_is ha2,h2.n.slen,hd,↓g3,↓g4,↓ldK_is ha4,↓e5,↓g5,↓rtOne_of o5,↓s5,↓ldK_is ha7,↓e8,↓g8,↓rtOne_of o8,↓s8]
      rw[key];exact g'
     ·have le1:=f1.le
      have le2:=f2.le
      have le3:=f3.le
      have le4:=f4.le
      have le7:=f7.le
      have m7:∀b,Names u5 b→Names nv b∨σ4.next≤b:=m7
      have m10:∀b,Names u8 b→Names tv b∨σ7.next≤b:=m10
      have m4:∀b,Names dv4 b→Names dv b∨σ3.next≤b:=m4
      refine((((((f1.mono (fun _ _ e => .inr (.inl e)):Fr (fun b=>b=rb∨b=xb∨Names nv b∨Names tv b∨Names dv b) σ σ1).trans f2 (fun _ _ e => .inr (.inl e))).trans f3 (fun _ _ e => .inr (.inl e))).trans f4 (fun b _ e=>e.elim (fun e => .inr (.inl e)) fun e => .inr (.inr (.inr (.inr e))))).trans f7 (fun b _ e=>e.elim (fun e => .inr (.inl e)) fun e => .inr (.inr (.inl e)))).trans f10 (fun b _ e=>e.elim (fun e => .inr (.inl e)) fun e => .inr (.inr (.inr (.inl e))))).trans f' (fun b hb e=>?_)
      rcases e with e|e|e|e|e
      ·exact .inl e
      ·exact .inr (.inl e)
      ·exact(m7 b e).elim (fun e => .inr (.inr (.inl e))) (fun e=>by omega)
      ·exact(m10 b e).elim (fun e => .inr (.inr (.inr (.inl e)))) (fun e=>by omega)
      ·exact(m4 b e).elim (fun e => .inr (.inr (.inr (.inr e)))) (fun e=>by omega)
theorem fill1 {u a b c d e f g i:V} (h:u.one=true) (κ:List V→Ans):fillK [(0,1,u)] [.nils,a,b,c,d,e,f,g,i] κ=κ [u,a,b,c,d,e,f,g,i]:=by
 obtain⟨h1,h2⟩:=one_live h
 unfold fillK fillA
 rw[h1,h2]
 rfl
theorem par_open (hN:SpNow (D 23)) (hI:SpIs (D 22)) (hM:SpMust (D 21)) (hK:SpKind (D 20)) (hR:SpTks N (D 19)) {σ:H} {s:BS} {ts l l1:List Tok} {w:List Nat} {t:Nat × List Tok} (ht:Tidy σ) (hs:s.len≤8000) (hts:Tks N s.len s.nats ts) (h1:kindP 1 ts=some (w,l)) (h2:mustP (BS.mk 11 100710650190388740279911748) l=some l1) (h3:tagP l1=some t) :
  ∃xb lv σ',(∀K1,T13_0 E D (drawW E D) K1 s σ=K1 σ.next 0 xb 0 σ')∧Pm σ' xb σ.next lv ts t.2 ⟨ofN w,Int.ofNat t.1,.nils,.nils,.nils⟩ [] [] []∧σ.next≤xb∧Fr Nowhere σ σ':=by
 obtain⟨σ1,e1,f1,a1,n1⟩:=mkN ht rzC
 obtain⟨lv,σ2,g2,d2,m2,f2⟩:=hR σ1 s ts f1.tidy hs hts
 have le1:=f1.le
 have le2:=f2.le
 have a2:=f2.at_ a1 f1.tidy (fun h=>h)
 obtain⟨σ3,e3,f3,a3,n3⟩:=mkN f2.tidy (pc lv 0 ⟨BS.mk 0 0,Int.ofNat 0,.nils,.nils,.nils⟩)
 have ll:∀b,Names lv b→b<σ2.next:=fun b hb=>d2.lt f2.tidy hb
 have p3:Pz σ3 σ2.next lv ts ts ⟨BS.mk 0 0,Int.ofNat 0,.nils,.nils,.nils⟩:=⟨⟨0,a3,rfl⟩,(d2.fr f3 f2.tidy (fun _ _ h=>h)).src,(fun e=>by subst e;cases h1),fun b hb=>by have:=ll b hb;omega,hts.ok hs,f3.tidy⟩
 obtain⟨σ4,g4,p4,f4⟩:=hK p3 h1
 obtain⟨σ5,g5,p5,f5⟩:=p4.set (off:=2) (y := .str (ofN w)) ⟨ofN w,Int.ofNat 0,.nils,.nils,.nils⟩ rfl (by decide) (fun _=>rfl)
 obtain⟨σ6,g6,p6,f6⟩:=hM p5 h2
 have f36:=(f4.trans f5 (fun _ _ e=>e)).trans f6 (fun _ _ e=>e)
 obtain⟨σ7,g7,p7,f7⟩:=hI (BS.mk 8 6073459554577832005) p6
 have f37:=f36.trans f7 (fun _ _ e=>e)
 have fin:∀{σ':H} {t:Nat × List Tok},Pz σ' σ2.next lv ts t.2 ⟨ofN w,Int.ofNat t.1,.nils,.nils,.nils⟩→Fr (fun k=>k=σ2.next) σ3 σ'→Pm σ' σ2.next σ.next lv ts t.2 ⟨ofN w,Int.ofNat t.1,.nils,.nils,.nils⟩ [] [] []∧σ.next≤σ2.next∧Fr Nowhere σ σ':=by
  intro σ' t p f
  refine⟨⟨⟨p,⟨[],Dst.nil _ _,rfl,fun k nd u h=>by simp at h⟩,fun b hb=>hb.elim⟩,f.at_ (f3.at_ a2 f2.tidy (fun h=>h)) f3.tidy (fun e=>by omega),Dst.nil _ _,Dst.nil _ _,fun b hb=>hb.elim,fun b hb=>hb.elim,by omega,fun hn=>?_,fun h=>h⟩,by omega,((f1.trans f2 (fun _ _ h=>h)).trans f3 (fun _ _ h=>h)).trans f (fun b hb e=>by omega)⟩
  have:=m2 _ hn;omega
 unfold pc at e3
 have e3':newB σ2 (.cells [lv,.int .i64 (Int.ofNat 0),.str ⟨0,0⟩,.int .i64 (Int.ofNat 0),.nils,.nils,.nils,.int .i64 (Int.ofNat 0),.int .i64 (Int.ofNat 0)])=σ3:=e3
 have e1':newB σ (.cells [.str ⟨0,0⟩,.int .i64 (Int.ofNat 0),.nils,.nils,.nils])=σ1:=e1
 unfold T13_0
 cases hp:isP (BS.mk 8 6073459554577832005) l1 with
 | mk c l2=>
  rw[hp]at g7 p7
  have h3:(match isP (BS.mk 8 6073459554577832005) l1 with
   | (true,l1)=>(mustP (BS.mk 4 1397178708) l1).map fun l2=>(0,l2)
   | (false,l1)=>match isP (BS.mk 8 6073459554577829193) l1 with
    | (true,l2)=>(mustP (BS.mk 4 1397178708) l2).map fun l3=>(1,l3)
    | (false,l2)=>match isP (BS.mk 9 1241215773001651606849) l2 with
     | (true,l3)=>(mustP (BS.mk 4 1397178708) l3).map fun l4=>(2,l4)
     | (false,l3)=>some (0,l3):Option (Nat × List Tok))=some t:=h3
  rw[hp]at h3
  cases c with
  | true=>
   obtain⟨l3,hm,he⟩:=Option.map_eq_some_iff.1 h3
   cases he
   obtain⟨σ8,g8,p8,f8⟩:=hM p7 hm
   obtain⟨q1,q2,q3⟩:=fin (t:=(0,l3)) p8 (f37.trans f8 (fun _ _ e=>e))
   refine⟨_,lv,σ8,fun K1=>?_,q1,q2,q3⟩
   simp -implicitDefEqProofs only [↓rP,rA,Nat.reduceEqDiff,Nat.reduceLT,Nat.reduceLeDiff,↓e1',↓g2,↓fill1 d2.one,d2.one,↓e3',↓g4,↓g5,↓g6,↓g7,↓g8]
  | false=>
   obtain⟨σ8,g8,p8,f8⟩:=hI (BS.mk 8 6073459554577829193) p7
   have f38:=f37.trans f8 (fun _ _ e=>e)
   cases hp8:isP (BS.mk 8 6073459554577829193) l2 with
   | mk c l3=>
    rw[hp8]at g8 p8
    have h3:(match isP (BS.mk 8 6073459554577829193) l2 with
     | (true,l2)=>(mustP (BS.mk 4 1397178708) l2).map fun l3=>(1,l3)
     | (false,l2)=>match isP (BS.mk 9 1241215773001651606849) l2 with
      | (true,l3)=>(mustP (BS.mk 4 1397178708) l3).map fun l4=>(2,l4)
      | (false,l3)=>some (0,l3):Option (Nat × List Tok))=some t:=h3
    rw[hp8]at h3
    cases c with
    | true=>
     obtain⟨l4,hm,he⟩:=Option.map_eq_some_iff.1 h3
     cases he
     obtain⟨σ9,g9,p9,f9⟩:=p8.set (off:=3) (y := .int .i64 (Int.ofNat 1)) ⟨ofN w,Int.ofNat 1,.nils,.nils,.nils⟩ rfl (by decide) (fun _=>rfl)
     obtain⟨σ10,g10,p10,f10⟩:=hM p9 hm
     obtain⟨q1,q2,q3⟩:=fin (t:=(1,l4)) p10 ((f38.trans f9 (fun _ _ e=>e)).trans f10 (fun _ _ e=>e))
     refine⟨_,lv,σ10,fun K1=>?_,q1,q2,q3⟩
     simp -implicitDefEqProofs only [↓rP,rA,Nat.reduceEqDiff,Nat.reduceLT,Nat.reduceLeDiff,↓e1',↓g2,↓fill1 d2.one,d2.one,↓e3',↓g4,↓g5,↓g6,↓g7,↓g8,↓g9,↓g10]
    | false=>
     obtain⟨σ9,g9,p9,f9⟩:=hI (BS.mk 9 1241215773001651606849) p8
     have f39:=f38.trans f9 (fun _ _ e=>e)
     cases hp9:isP (BS.mk 9 1241215773001651606849) l3 with
     | mk c l4=>
      rw[hp9]at g9 p9
      have h3:(match isP (BS.mk 9 1241215773001651606849) l3 with
       | (true,l3)=>(mustP (BS.mk 4 1397178708) l3).map fun l4=>(2,l4)
       | (false,l3)=>some (0,l3):Option (Nat × List Tok))=some t:=h3
      rw[hp9]at h3
      cases c with
      | true=>
       obtain⟨l5,hm,he⟩:=Option.map_eq_some_iff.1 h3
       cases he
       obtain⟨σ10,g10,p10,f10⟩:=p9.set (off:=3) (y := .int .i64 (Int.ofNat 2)) ⟨ofN w,Int.ofNat 2,.nils,.nils,.nils⟩ rfl (by decide) (fun _=>rfl)
       obtain⟨σ11,g11,p11,f11⟩:=hM p10 hm
       obtain⟨q1,q2,q3⟩:=fin (t:=(2,l5)) p11 ((f39.trans f10 (fun _ _ e=>e)).trans f11 (fun _ _ e=>e))
       refine⟨_,lv,σ11,fun K1=>?_,q1,q2,q3⟩
       simp -implicitDefEqProofs only [↓rP,rA,Nat.reduceEqDiff,Nat.reduceLT,Nat.reduceLeDiff,↓e1',↓g2,↓fill1 d2.one,d2.one,↓e3',↓g4,↓g5,↓g6,↓g7,↓g8,↓g9,↓g10,↓g11]
      | false=>
       cases h3
       obtain⟨q1,q2,q3⟩:=fin (t:=(0,l4)) p9 f39
       refine⟨_,lv,σ9,fun K1=>?_,q1,q2,q3⟩
       simp -implicitDefEqProofs only [↓rP,rA,Nat.reduceEqDiff,Nat.reduceLT,Nat.reduceLeDiff,↓e1',↓g2,↓fill1 d2.one,d2.one,↓e3',↓g4,↓g5,↓g6,↓g7,↓g8,↓g9]
theorem parse_F {T:TypT} (hN:SpNow (D 23)) (hI:SpIs (D 22)) (hM:SpMust (D 21)) (hK:SpKind (D 20)) (hR:SpTks N (D 19)) (hT:SpTypT T (D 25)) (hF:1000<N):SpParse N T (F13 E D (drawW E D) N):=by
 intro σ s ts m ht hs hts hm
 obtain⟨⟨w,l⟩,h1,hm⟩:=Option.bind_eq_some_iff.1 hm
 obtain⟨l1,h2,hm⟩:=Option.bind_eq_some_iff.1 hm
 obtain⟨⟨tg,l2⟩,h3,hm⟩:=Option.bind_eq_some_iff.1 hm
 obtain⟨l3,h4,hm⟩:=Option.bind_eq_some_iff.1 hm
 obtain⟨l4,h5,hm⟩:=Option.bind_eq_some_iff.1 hm
 obtain⟨r,h6,hm⟩:=Option.bind_eq_some_iff.1 hm
 obtain⟨xb,lv,σ1,g1,p1,lx,f1⟩:=par_open (E:=E) hN hI hM hK hR ht hs hts h1 h2 h3
 obtain⟨σ2,g2,p2,f2⟩:=hM p1.p.p h4
 obtain⟨σ3,g3,p3,f3⟩:=hM p2 h5
 have q3:=(p1.go p2 f2).go p3 f3
 cases he:r.2.2.2 with
 | nil=>rw[he]at hm;cases hm
 | cons e l'=>
  rw[he]at hm
  have hm:(match decide (e.1=0)with
   | true=>some (⟨w,tg,r.1,r.2.1,r.2.2.1⟩:ModS)
   | false=>none)=some m:=hm
  cases h0:decide (e.1=0)with
  | false=>rw[h0]at hm;cases hm
  | true=>
   rw[h0]at hm
   cases hm
   obtain⟨nv,tv,dv,σ4,g4,m4,f4⟩:=asg_L (E:=E) (N:=N) hN hI hM hK hT 50 N q3 (by omega) rfl h6 he h0
   refine⟨nv,tv,dv,σ4,?_,m4,((f1.trans f2 (fun b hb e=>by omega)).trans f3 (fun b hb e=>by omega)).trans f4 (fun b hb e=>?_)⟩
   ·show T13_0 E D (drawW E D) (T13_1 E D (drawW E D) (L13_3 E D (drawW E D) N N)) s σ=_
    rw[g1]
    have key:∀K3,T13_1 E D (drawW E D) K3 σ.next 0 xb 0 σ1=K3 σ.next 0 xb 0 σ3:=by
     intro K3
     unfold T13_1
     simp -implicitDefEqProofs only [↓rP,rA,Nat.reduceEqDiff,Nat.reduceLT,Nat.reduceLeDiff,↓g2,↓g3]
    rw[key];exact g4
   ·rcases e with e|e|e|e|e
    ·omega
    ·omega
    ·exact e.elim
    ·exact e.elim
    ·exact e.elim
end
section
variable {E:List (Nat × Blk)} {D:Den} {N:Nat}
theorem type_reg {σ:H} {nb ib:Nat} {l:List V} {v:V} {k:Nat} {m:List V} {kd z1 z2 ro dd ii:Int} {tb eb:Nat} {y1 y2 y3 y4 mo:Bool}  (ht:Tidy σ) (ha:Atc σ nb l) (hv:l[5]? = some v) (hi:Atc σ ib [.int .i64 kd,.sl tb 0 1 (.ex 1),.bool y1,.bool y2,.bool y3,.bool y4,.int .i64 z1,.int .i64 z2,.nils,.nils,.int .i64 ro,.bool mo,.int .i64 (Int.ofNat 0)]) (hd:Dst σ 13 k v m) (hk:k≤9000) (hne:nb≠ib) (nv:¬Names v nb) (ni:¬Names v ib) :
    ∃e' u σ',drawW E D G47_0 H47_0 [(0,.ptr nb 0),(2,.int .i64 dd),(4,.ptr eb 0),(7,.int .i64 ii),(8,.ptr ib 0)] σ=some (e',σ')∧Go.Og.look e' 0=some (.ptr nb 0)∧Go.Og.look e' 2=some (.int .i64 dd)∧Go.Og.look e' 4=some (.ptr eb 0)∧Go.Og.look e' 7=some (.int .i64 ii)∧Atc σ' nb (spl l 5 [u])∧Dst σ' 13 (k+1) u (m++[.int .i64 kd,.sl tb 0 1 (.ex 1),.bool y1,.bool y2,.bool y3,.bool y4,.int .i64 z1,.int .i64 z2,.nils,.nils,.int .i64 ro,.bool mo,.int .i64 (Int.ofNat 0)])∧(∀b,Names u b→Names v b∨σ.next≤b)∧¬Names u nb∧Fr (fun b=>b=nb∨Names v b) σ σ':=by
  have fw:Fr Nowhere σ ⟨σ.next+11,σ.bl⟩:=(go_start (E:=E) (n:=11) (S:=Nowhere) ht).fr
  have lb:=ha.lt ht
  have li:=hi.lt ht
  obtain⟨σa,ha'⟩:∃σa,σa=(⟨σ.next+11,(σ.next+6,.cells [.int .i64 kd,.sl tb 0 1 (.ex 1),.bool y1,.bool y2,.bool y3,.bool y4,.int .i64 z1,.int .i64 z2,.nils,.nils,.int .i64 ro,.bool mo,.int .i64 (Int.ofNat 0)])::σ.bl⟩:H):=⟨_,rfl⟩
  have fa:Fr Nowhere σ σa:=by
    rw[ha']
    refine⟨fun b hb=>?_,Nat.le_add_right _ _,fun b hb hn=>?_⟩
    · have hb:σ.next+11≤b:=hb
      show lookF ((σ.next+6,_)::σ.bl) b=none
      rw[lookF_cons,if_neg (by simp only[];omega)]
      exact ht b (by omega)
    · show lookF ((σ.next+6,_)::σ.bl) b=_
      rw[lookF_cons,if_neg (by simp only[];omega)]
  have aa:Atc σa (σ.next+6) [.int .i64 kd,.sl tb 0 1 (.ex 1),.bool y1,.bool y2,.bool y3,.bool y4,.int .i64 z1,.int .i64 z2,.nils,.nils,.int .i64 ro,.bool mo,.int .i64 (Int.ofNat 0)]:=by
    rw[ha']
    show lookF ((σ.next+6,_)::σ.bl) _=_
    rw[lookF_cons,if_pos rfl]
  have xs:Src σa 13 1 (V.sl (σ.next+6) 0 1 (.ex 1)) [.int .i64 kd,.sl tb 0 1 (.ex 1),.bool y1,.bool y2,.bool y3,.bool y4,.int .i64 z1,.int .i64 z2,.nils,.nils,.int .i64 ro,.bool mo,.int .i64 (Int.ofNat 0)] := .inr ⟨_,_,_,_,rfl,aa,Nat.le_refl _,rfl⟩
  have ho:allOne [.int .i64 kd,.sl tb 0 1 (.ex 1),.bool y1,.bool y2,.bool y3,.bool y4,.int .i64 z1,.int .i64 z2,.nils,.nils,.int .i64 ro,.bool mo,.int .i64 (Int.ofNat 0)]=true:=by simp only[allOne_cons,allOne_nil,one_str,one_int,one_bool,one_nils,Bool.and_true];rfl
  obtain⟨u,σ2,g2,d2,m2,f2⟩:=app_all (E:=E) (bytes:=128) (hd.fr fa ht (fun _ _ h=>h)) fa.tidy xs ho (by unfold growable;simp only[Bool.and_eq_true,Nat.ble_eq];omega)
  have na:σa.next=σ.next+11:=by rw[ha']
  have vl:∀b,Names v b→b<σ.next:=fun b hb=>hd.lt ht hb
  have a2:Atc σ2 nb l:=f2.at_ (fa.at_ ha ht (fun h=>h)) fa.tidy nv
  obtain⟨o1,o2⟩:=one_live d2.one
  have st:∃σ3,den1 E D (.store 1 (.tmp 54) (.tmp 52)) [(54,.ptr nb 5),(52,u)] σ2=some (.dead,σ3)∧Fr (fun k=>k=nb) σ2 σ3∧Atc σ3 nb (spl l 5 [u]):=by
    obtain⟨σ3,q1,q2,q3⟩:=st_den (E:=E) (D:=D) (n:=1) (x := .tmp 54) (y := .tmp 52) (e:=[(54,.ptr nb 5),(52,u)]) f2.tidy a2 rfl (show (opv [(54,.ptr nb 5),(52,u)] (.tmp 52)).cells=[u] from o2) (by
      have:5<l.length:=by
        rcases Nat.lt_or_ge 5 l.length with h|h
        · exact h
        · rw[List.getElem?_eq_none h]at hv;cases hv
      simp only[allOne_cons,allOne_nil,d2.one,Bool.and_true,List.length_cons,List.length_nil,Nat.zero_add,Nat.beq_refl,Bool.true_and,Nat.ble_eq];omega)
    exact⟨σ3,q1,q2,q3⟩
  obtain⟨σ3,g3,f3,c3⟩:=st
  have un:¬Names u nb:=fun h=>(m2 nb h).elim nv fun h=>by omega
  have vb:V.beq v v=true:=by
    rcases hd with h|⟨b,rfl,_⟩
    · rcases h with ⟨_,rfl,_⟩ | ⟨_,rfl,_⟩<;>exact beq_self _ rfl
    · exact beq_self _ rfl
  have go:GoesQ (EndSt E σ 11 H47_0 _ σ3) E D σ 11 0 G47_0 H47_0 ⟨[(0,.ptr nb 0),(2,.int .i64 dd),(4,.ptr eb 0),(7,.int .i64 ii),(8,.ptr ib 0)],σ.next+11,[σ.bl],[],0,[]⟩:=
    goq_p (.ptr nb 0) rfl rfl <|
    goq_p (.ptr nb 0) rfl rfl <|
    goq_p (.ptr nb 0) rfl rfl <|
    goq_p (.ptr nb 5) rfl rfl <|
    goq_l v (go_start (S:=Names v) ht) rfl (old_ld1 (b:=nb) (off:=5) rfl ha hv ht nv vb) fun r1=>
    goq_l (.agg [.int .i64 kd,.sl tb 0 1 (.ex 1),.bool y1,.bool y2,.bool y3,.bool y4,.int .i64 z1,.int .i64 z2,.nils,.nils,.int .i64 ro,.bool mo,.int .i64 (Int.ofNat 0)]) r1 rfl (old_ldn (b:=ib) (off:=0) rfl hi rfl rfl ht ni (beq_self _ rfl)) fun r2=>
    goq_a (.sl (σ.next+6) 0 1 (.ex 1)) (.cells [.int .i64 kd,.sl tb 0 1 (.ex 1),.bool y1,.bool y2,.bool y3,.bool y4,.int .i64 z1,.int .i64 z2,.nils,.nils,.int .i64 ro,.bool mo,.int .i64 (Int.ofNat 0)]) 64 r2 rfl (by decide) (by decide) rfl fun _ r3=>
    goq_k u (by rw[←ha']at r3;exact r3) rfl (by decide) (S':=Names v) f2 (fun _ _ h=>h) (fun b h h1 _=>by have:=vl b h;omega) (app_den rfl rfl g2) fun _ _ r4=>
    goq_p (.ptr nb 0) rfl rfl <|
    goq_p (.ptr nb 5) rfl rfl <|
    goq_end .dead r4 rfl (by decide) f3 (fun b h h1 _=>by omega) g3 (fun x hx=>by
      simp only[List.mem_cons,List.not_mem_nil,or_false]at hx
      rcases hx with rfl|rfl
      · show legal H47_0 5 [10,7] []=false
        decide
      · show legal H47_0 4 [10,7] []=false
        decide)
  have d:=goq_draw (ops:=G47_0) go
  refine⟨_,u,σ3,d,rfl,rfl,rfl,rfl,c3,d2.fr f3 f2.tidy (fun b hb e=>un (e ▸ hb)),fun b hb=>(m2 b hb).elim .inl (fun h => .inr (by omega)),un,?_⟩
  exact((fa.mono (fun _ _ h=>h.elim):Fr (fun b=>b=nb∨Names v b) σ σa).trans f2 (fun _ _ h => .inr h)).trans f3 (fun _ _ h => .inl h)
def checkP (c:ConS) (sz:Bool):Bool:=!c.has || !(((c.hasLow&&c.hasHigh)&&ltF c.high c.low) || (sz&&(((!c.hasLow || ltF c.low (Int.ofNat 0)) || ltF (Int.ofNat 70000) c.low) || (c.hasHigh&&(ltF c.high (Int.ofNat 0) || ltF (Int.ofNat 70000) c.high)))))
def conA (c:ConS):List V:=[.bool c.has,.bool c.hasLow,.bool c.hasHigh,.bool c.more,.int .i64 c.low,.int .i64 c.high]
def SpCheck (F:List V→H→Ans):Prop:=∀(σ:H) (c:ConS) (sz:Bool),Tidy σ→checkP c sz=true→∃σ',F [.agg (conA c),.bool sz] σ=some (.int .i64 (Int.ofNat 0),σ')∧Fr Nowhere σ σ'
theorem check_F {W:DrawFn}:SpCheck (F80 E D W N):=by
 intro σ c sz ht hc
 obtain⟨ha,hl,hh,mo,lo,hi⟩:=c
 obtain⟨σ1,e1,f1,a1,n1⟩:=mkN ht [.bool ha,.bool hl,.bool hh,.bool mo,.int .i64 lo,.int .i64 hi]
 refine⟨σ1,?_,f1⟩
 unfold checkP at hc
 dsimp only at hc
 show T80_0 E D W ha hl hh mo lo hi sz σ=_
 unfold T80_0
 generalize h1:ltF hi lo=b1 at hc ⊢
 generalize h2:ltF lo (Int.ofNat 0)=b2 at hc ⊢
 generalize h3:ltF (Int.ofNat 70000) lo=b3 at hc ⊢
 generalize h4:ltF hi (Int.ofNat 0)=b4 at hc ⊢
 generalize h5:ltF (Int.ofNat 70000) hi=b5 at hc ⊢
 cases ha
 ·simp -implicitDefEqProofs only [↓rP,rA,Nat.reduceEqDiff,Nat.reduceLT,Nat.reduceLeDiff,↓e1,↓ldK_is a1]
 ·cases hl<;>cases hh<;>cases sz<;>(try cases b1)<;>(try cases b2)<;>(try cases b3)<;>(try cases b4)<;>(try cases b5)<;>first
   | exact absurd hc (by decide)
   | (simp -implicitDefEqProofs only [↓rP,rA,Nat.reduceEqDiff,Nat.reduceLT,Nat.reduceLeDiff,↓e1,↓ldK_is a1,h1,h2,h3,h4,h5];done)
def uniP (k:Nat):Nat:=match k with
 | 1=>1 | 2=>2 | 3=>10 | 4=>5 | 5=>4 | 6=>12 | 7=>16 | 8=>17 | 10=>16 | _=>0
def SpUni (F:List V→H→Ans):Prop:=∀(σ:H) (k:Nat),k≤10→F [.int .i64 (Int.ofNat k)] σ=some (.agg [.int .i64 (Int.ofNat 0),.int .i64 (Int.ofNat (uniP k))],σ)
theorem uni_F {W:DrawFn}:SpUni (F79 E D W N):=by
 intro σ k hk
 match k,hk with
 | 0,_=>rfl
 | 1,_=>rfl
 | 2,_=>rfl
 | 3,_=>rfl
 | 4,_=>rfl
 | 5,_=>rfl
 | 6,_=>rfl
 | 7,_=>rfl
 | 8,_=>rfl
 | 9,_=>rfl
 | 10,_=>rfl
theorem ndC_sub:∀(ns:List NodeS) (ws:List (V × V)) (i:Nat) (nd:NodeS) (u:V × V),ns[i]? = some nd→ws[i]? = some u→((ndCs ns ws).drop (i*16)).take 16=nd.c u.1 u.2
 | [],_,i,nd,u,h,_=>by simp at h
 | _::_,[],i,nd,u,_,h=>by simp at h
 | x::ns,y::ws,0,nd,u,h,h'=>by simp at h h';subst h;subst h';rfl
 | x::ns,y::ws,i+1,nd,u,h,h'=>by
  have h:ns[i]? = some nd:=by simpa using h
  have h':ws[i]? = some u:=by simpa using h'
  show ((x.c y.1 y.2++ndCs ns ws).drop ((i+1)*16)).take 16=_
  rw[show (i+1)*16=16+i*16 by omega,←List.drop_drop,show (x.c y.1 y.2++ndCs ns ws).drop 16=ndCs ns ws from rfl]
  exact ndC_sub ns ws i nd u h h'
theorem src_at {σ:H} {esz n i:Nat} {v:V} {m c:List V} (h:Src σ esz n v m) (hi:i<n) (hc:(m.drop (i*esz)).take esz=c) (hz:0<esz) (κ:List V→Ans):iaddrSK esz v (Int.ofNat i) (fun b o=>ldnK E σ b o esz κ)=κ c:=by
 rcases h with ⟨h0,_,_⟩|⟨b,o,cp,L,rfl,ha,hle,hm⟩
 ·omega
 ·rw[iaddrSK_lt hi]
  show ldnK E σ b (o+i*esz) esz κ=_
  have hmul:i*esz+esz≤n*esz:=by rw[←Nat.succ_mul];exact Nat.mul_le_mul_right _ hi
  rw[ldnK_is ha,subK_of (by omega)]
  rw[hm,List.drop_take,List.take_take,Nat.min_eq_left (by omega),List.drop_drop]at hc
  rw[hc]
theorem src_ld {σ:H} {n i:Nat} {v w:V} {m:List V} (h:Src σ 1 n v m) (hi:i<n) (hc:m[i]? = some w) (κ:V→Ans):iaddrSK 1 v (Int.ofNat i) (fun b o=>ldK E σ b o κ)=κ w:=by
 rcases h with ⟨h0,_,_⟩|⟨b,o,cp,L,rfl,ha,hle,hm⟩
 ·omega
 ·rw[iaddrSK_lt hi]
  show ldK E σ b (o+i*1) κ=_
  have:L[o+i*1]? = some w:=by
   rw[hm,List.getElem?_take_of_lt (by omega),List.getElem?_drop]at hc
   rw[Nat.mul_one];exact hc
  rw[ldK_is ha,nthK_of (by rw[nthF_eq];exact this)]
end
def SpInI (F:List V→H→Ans):Prop:=∀(σ:H) (v:V) (l:List Nat) (x:Nat),Src σ 1 l.length v (ksC l)→l.length≤9000→F [v,.int .i64 (Int.ofNat x)] σ=some (.bool (l.any fun y=>decide (y=x)),σ)
structure MdOk (m:ModS):Prop where
 kinds:∀nd∈m.ns,nd.kind≠11∧nd.kind≤10∧nd.fields.length≤5000
 few:m.ns.length≤300∧m.az.length≤40
 as_many:m.ks.length=m.az.length
 apart:∀i,i<m.az.length→((m.az.take i).map ofN).any (fun x=>x.beq (ofN (m.az[i]?.getD [])))=false
def SpUses (m:ModS) (q:Nat) (F:List V→H→Ans):Prop:=∀(σ:H) (nv tv dv:V) (k d:Nat),Tidy σ→MdS σ m nv tv dv→17≤d+q→d≤1000 →
 ∃σ',F [.agg (mdC m nv tv dv),.int .i64 (Int.ofNat k),.int .i64 (Int.ofNat d),.nils] σ=some (.tup [.nils,.bool false],σ')∧Fr Nowhere σ σ'
theorem MdS.fr {σ σ':H} {m:ModS} {nv tv dv:V} (h:MdS σ m nv tv dv) (f:Fr Nowhere σ σ') (ht:Tidy σ):MdS σ' m nv tv dv:=by
 obtain⟨ws,h1,h2,h3⟩:=h.d
 refine⟨h.n.fr f ht (fun _ _ h=>h),h.t.fr f ht (fun _ _ h=>h),ws,h1.fr f ht (fun _ _ h=>h),h2,fun k nd u hn hu=>?_⟩
 obtain⟨a,b⟩:=h3 k nd u hn hu
 exact⟨a.fr f ht (fun _ _ h=>h),b.fr f ht (fun _ _ h=>h)⟩
theorem MdS.nd {σ:H} {m:ModS} {nv tv dv:V} (h:MdS σ m nv tv dv) {k:Nat} {nd:NodeS} (hk:m.ns[k]? = some nd) :
  ∃iv fv,(∀(E:List (Nat × Blk)) (κ:List V→Ans),iaddrSK 16 dv (Int.ofNat k) (fun b o=>ldnK E σ b o 16 κ)=κ (nd.c iv fv))∧Src σ 3 nd.items.length iv (itC nd.items)∧Src σ 11 nd.fields.length fv (fdC nd.fields):=by
 obtain⟨ws,h1,h2,h3⟩:=h.d
 have hlt:k<m.ns.length:=(List.getElem?_eq_some_iff.1 hk).1
 obtain⟨u,hu⟩:∃u,ws[k]? = some u:=⟨ws[k],List.getElem?_eq_getElem (by omega)⟩
 obtain⟨a,b⟩:=h3 k nd u hk hu
 exact⟨u.1,u.2,fun E κ=>src_at (E:=E) h1 hlt (ndC_sub _ _ _ _ _ hk hu) (by decide) κ,a,b⟩
theorem fd_ty:∀(l:List FieldS) (i:Nat) (f:FieldS),l[i]? = some f→(fdC l)[i*11+1]? = some (.int .i64 (Int.ofNat f.type))
 | [],i,f,h=>by simp at h
 | x::l,0,f,h=>by simp at h;subst h;rfl
 | x::l,i+1,f,h=>by
  have h:l[i]? = some f:=by simpa using h
  show (x.c++fdC l)[(i+1)*11+1]? = _
  rw[List.getElem?_append_right (by show 11≤_;omega),show (i+1)*11+1-x.c.length=i*11+1 by show (i+1)*11+1-11=_;omega]
  exact fd_ty l i f h
section
variable {E:List (Nat × Blk)} {D:Den} {W:DrawFn} {N:Nat}
theorem src_ldo {σ:H} {esz n i off:Nat} {v w:V} {m:List V} (h:Src σ esz n v m) (hi:i<n) (ho:off<esz) (hc:m[i*esz+off]? = some w) (κ:V→Ans):iaddrSK esz v (Int.ofNat i) (fun b o=>ldK E σ b (Nat.add o off) κ)=κ w:=by
 rcases h with ⟨h0,_,_⟩|⟨b,o,cp,L,rfl,ha,hle,hm⟩
 ·omega
 ·rw[iaddrSK_lt hi]
  show ldK E σ b (o+i*esz+off) κ=_
  have hmul:i*esz+esz≤n*esz:=by rw[←Nat.succ_mul];exact Nat.mul_le_mul_right _ hi
  have:L[o+i*esz+off]? = some w:=by
   rw[hm,List.getElem?_take_of_lt (by omega),List.getElem?_drop]at hc
   rw[Nat.add_assoc];exact hc
  exact ldK_get ha this
theorem inI_F (hN:10000<N):SpInI (F12 E D W N):=by
 intro σ v l x hv hl
 have key:∀(m i n:Nat),i+m=l.length→m<n→L12_2 E D W N n v (Int.ofNat x) (Int.ofNat i) σ=some (.bool ((l.drop i).any fun y=>decide (y=x)),σ):=by
  intro m
  induction m with
  | zero=>
   intro i n hi hn
   obtain⟨n,rfl⟩:∃k,n=k+1:=⟨n-1,by omega⟩
   rw[List.drop_eq_nil_of_le (by omega)]
   show T12_2 E D W (T12_1 E D W) _ v (Int.ofNat x) (Int.ofNat i) σ=_
   have d1:decide (i<l.length)=false:=decide_eq_false (by omega)
   have sl:∀κ:Nat→Ans,slenK v κ=κ l.length:=fun κ=>hv.slen
   have k:∀R,T12_2 E D W (T12_1 E D W) R v (Int.ofNat x) (Int.ofNat i) σ=some (.bool false,σ):=by
    intro R
    unfold T12_2 T12_1
    simp -implicitDefEqProofs only [↓rP,rA,Nat.reduceEqDiff,Nat.reduceLT,Nat.reduceLeDiff,↓sl,d1]
   exact k _
  | succ m ih=>
   intro i n hi hn
   obtain⟨n,rfl⟩:∃k,n=k+1:=⟨n-1,by omega⟩
   have hlt:i<l.length:=by omega
   rw[List.drop_eq_getElem_cons hlt,List.any_cons]
   show T12_2 E D W (T12_1 E D W) (L12_2 E D W N n) v (Int.ofNat x) (Int.ofNat i) σ=_
   have d1:decide (i<l.length)=true:=decide_eq_true hlt
   have a1:addF .i64 (Int.ofNat i) (Int.ofNat 1)=Int.ofNat (i+1):=addF_nat (by omega)
   have sl:∀κ:Nat→Ans,slenK v κ=κ l.length:=fun κ=>hv.slen
   have rd:∀κ,iaddrSK 1 v (Int.ofNat i) (fun b o=>ldK E σ b o κ)=κ (.int .i64 (Int.ofNat l[i])):=fun κ=>src_ld hv hlt (by unfold ksC;rw[List.getElem?_map,List.getElem?_eq_getElem hlt];rfl) κ
   have k:∀R,T12_2 E D W (T12_1 E D W) R v (Int.ofNat x) (Int.ofNat i) σ=condK (decide (l[i]=x)) (some (.bool true,σ)) (R v (Int.ofNat x) (Int.ofNat (i+1)) σ):=by
    intro R
    unfold T12_2
    simp -implicitDefEqProofs only [↓rP,rA,Nat.reduceEqDiff,Nat.reduceLT,Nat.reduceLeDiff,↓sl,d1,↓rd,a1]
   rw[k,ih (i+1) n (by omega) (by omega)]
   cases decide (l[i]=x)<;>rfl
 exact key l.length 0 N (by omega) (by omega)
theorem uses_L {m:ModS} {q:Nat} (hU:SpUses m q (D 44)) (hN:6000<N) {nd:NodeS} {iv fv nv tv dv:V} {mb d:Nat} (hk11:nd.kind≠11) (hq:17≤d+1+q) (hd:d≤16) (hfl:nd.fields.length≤5000):∀(n i k:Nat) {σ:H},i+n=nd.fields.length→n<k→Tidy σ→Atc σ mb (mdC m nv tv dv)→MdS σ m nv tv dv→Src σ 11 nd.fields.length fv (fdC nd.fields) →
  ∃σ',L44_4 E D W N k (Int.ofNat d) .nils mb 0 false (Int.ofNat i) (Int.ofNat nd.kind) (ofN nd.name) nd.mHas nd.mNum (Int.ofNat nd.mMode) nd.con.has nd.con.hasLow nd.con.hasHigh nd.con.more nd.con.low nd.con.high iv fv (Int.ofNat nd.root) nd.more (Int.ofNat nd.of_) σ=some (.tup [.nils,.bool false],σ')∧Fr Nowhere σ σ':=by
 have ad:addF .i64 (Int.ofNat d) (Int.ofNat 1)=Int.ofNat (d+1):=addF_nat (by omega)
 intro n
 induction n with
 | zero=>
  intro i k σ hi hk ht ha hm hf
  obtain⟨k,rfl⟩:∃j,k=j+1:=⟨k-1,by omega⟩
  have d1:decide (i<nd.fields.length)=false:=decide_eq_false (by omega)
  have sl:∀κ:Nat→Ans,slenK fv κ=κ nd.fields.length:=fun κ=>hf.slen
  unfold mdC at ha
  have sub:∀κ:List V→Ans,subK [.str (ofN m.nm),.int .i64 (Int.ofNat m.tg),nv,tv,dv] 0 5 κ=κ [.str (ofN m.nm),.int .i64 (Int.ofNat m.tg),nv,tv,dv]:=fun κ=>by
   rw[subK_of (by simp)];rfl
  obtain⟨σ',g,f⟩:=hU σ nv tv dv nd.of_ (d+1) ht hm (by omega) (by omega)
  unfold mdC at g
  cases h10:decide (nd.kind=10)with
  | false=>
   refine⟨σ,?_,Fr.refl ht⟩
   show T44_4 E D W (T44_3 E D W (T44_5 E D W)) _ _ _ _ _ _ _ _ _ _ _ _ _ _ _ _ _ _ _ _ _ _ _ _=_
   have key:∀R,T44_4 E D W (T44_3 E D W (T44_5 E D W)) R (Int.ofNat d) .nils mb 0 false (Int.ofNat i) (Int.ofNat nd.kind) (ofN nd.name) nd.mHas nd.mNum (Int.ofNat nd.mMode) nd.con.has nd.con.hasLow nd.con.hasHigh nd.con.more nd.con.low nd.con.high iv fv (Int.ofNat nd.root) nd.more (Int.ofNat nd.of_) σ=some (.tup [.nils,.bool false],σ):=by
    intro R
    unfold T44_4 T44_3 T44_5
    simp -implicitDefEqProofs only [↓rP,rA,Nat.reduceEqDiff,Nat.reduceLT,Nat.reduceLeDiff,↓sl,d1,h10]
   exact key _
  | true=>
   refine⟨σ',?_,f⟩
   show T44_4 E D W (T44_3 E D W (T44_5 E D W)) _ _ _ _ _ _ _ _ _ _ _ _ _ _ _ _ _ _ _ _ _ _ _ _=_
   have key:∀R,T44_4 E D W (T44_3 E D W (T44_5 E D W)) R (Int.ofNat d) .nils mb 0 false (Int.ofNat i) (Int.ofNat nd.kind) (ofN nd.name) nd.mHas nd.mNum (Int.ofNat nd.mMode) nd.con.has nd.con.hasLow nd.con.hasHigh nd.con.more nd.con.low nd.con.high iv fv (Int.ofNat nd.root) nd.more (Int.ofNat nd.of_) σ=some (.tup [.nils,.bool false],σ'):=by
    intro R
    unfold T44_4 T44_3 T44_5
    simp -implicitDefEqProofs only [↓rP,rA,Nat.reduceEqDiff,Nat.reduceLT,Nat.reduceLeDiff,↓sl,d1,h10,↓ldnK_is ha,↓sub,ad,↓g]
   exact key _
 | succ n ih=>
  intro i k σ hi hk ht ha hm hf
  obtain⟨k,rfl⟩:∃j,k=j+1:=⟨k-1,by omega⟩
  have hlt:i<nd.fields.length:=by omega
  have d1:decide (i<nd.fields.length)=true:=decide_eq_true hlt
  have a1:addF .i64 (Int.ofNat i) (Int.ofNat 1)=Int.ofNat (i+1):=addF_nat (by omega)
  have sl:∀κ:Nat→Ans,slenK fv κ=κ nd.fields.length:=fun κ=>hf.slen
  have rd:∀κ,iaddrSK 11 fv (Int.ofNat i) (fun b o=>ldK E σ b (Nat.add o 1) κ)=κ (.int .i64 (Int.ofNat nd.fields[i].type)):=fun κ=>src_ldo hf hlt (by decide) (fd_ty _ _ _ (List.getElem?_eq_getElem hlt)) κ
  obtain⟨σ1,g,f1⟩:=hU σ nv tv dv nd.fields[i].type (d+1) ht hm (by omega) (by omega)
  obtain⟨σ',g',f'⟩:=ih (i+1) k (σ:=σ1) (by omega) (by omega) f1.tidy (f1.at_ ha ht (fun h=>h)) (hm.fr f1 ht) (hf.fr f1 ht (fun _ _ h=>h))
  refine⟨σ',?_,f1.trans f' (fun _ _ h=>h)⟩
  unfold mdC at ha g
  have sub:∀κ:List V→Ans,subK [.str (ofN m.nm),.int .i64 (Int.ofNat m.tg),nv,tv,dv] 0 5 κ=κ [.str (ofN m.nm),.int .i64 (Int.ofNat m.tg),nv,tv,dv]:=fun κ=>by
   rw[subK_of (by simp)];rfl
  show T44_4 E D W (T44_3 E D W (T44_5 E D W)) (L44_4 E D W N k) _ _ _ _ _ _ _ _ _ _ _ _ _ _ _ _ _ _ _ _ _ _ _=_
  have key:∀K R,T44_4 E D W K R (Int.ofNat d) .nils mb 0 false (Int.ofNat i) (Int.ofNat nd.kind) (ofN nd.name) nd.mHas nd.mNum (Int.ofNat nd.mMode) nd.con.has nd.con.hasLow nd.con.hasHigh nd.con.more nd.con.low nd.con.high iv fv (Int.ofNat nd.root) nd.more (Int.ofNat nd.of_) σ=R (Int.ofNat d) .nils mb 0 false (Int.ofNat (i+1)) (Int.ofNat nd.kind) (ofN nd.name) nd.mHas nd.mNum (Int.ofNat nd.mMode) nd.con.has nd.con.hasLow nd.con.hasHigh nd.con.more nd.con.low nd.con.high iv fv (Int.ofNat nd.root) nd.more (Int.ofNat nd.of_) σ1:=by
   intro K R
   unfold T44_4
   simp -implicitDefEqProofs only [↓rP,rA,Nat.reduceEqDiff,Nat.reduceLT,Nat.reduceLeDiff,↓sl,d1,↓ldnK_is ha,↓sub,↓rd,ad,a1,↓g]
  rw[key];exact g'
theorem uses_F {m:ModS} {q:Nat} (hm:MdOk m) (hN:6000<N) (hU:∀p,q=p+1→SpUses m p (D 44)):SpUses m q (F44 E D W N):=by
 intro σ nv tv dv k d ht hs hq hd
 obtain⟨σ1,e1,f1,a1,n1⟩:=mkN ht (mdC m nv tv dv)
 have sl:∀κ:Nat→Ans,slenK dv κ=κ m.ns.length:=fun κ=>by
  obtain⟨ws,h1,_⟩:=hs.d
  exact h1.slen
 have od:dv.one=true:=by
  obtain⟨ws,h1,_⟩:=hs.d
  exact h1.one
 have d0:decide (k<0)=false:=decide_eq_false (by omega)
 unfold mdC at e1 a1
 have s1:=hs.fr f1 ht
 show ∃σ',T44_0 E D W (T44_1 E D W (L44_4 E D W N N)) (T44_2 E D W) (ofN m.nm) (Int.ofNat m.tg) nv tv dv (Int.ofNat k) (Int.ofNat d) .nils σ=_∧_
 cases h1:decide (m.ns.length≤k)with
 | true=>
  refine⟨σ1,?_,f1⟩
  unfold T44_0
  simp -implicitDefEqProofs only [↓rP,rA,Nat.reduceEqDiff,Nat.reduceLT,Nat.reduceLeDiff,hs.n.one,hs.t.one,od,d0,↓e1,↓ldK_is a1,↓sl,h1]
 | false=>
  cases h2:decide (16<d)with
  | true=>
   refine⟨σ1,?_,f1⟩
   unfold T44_0
   simp -implicitDefEqProofs only [↓rP,rA,Nat.reduceEqDiff,Nat.reduceLT,Nat.reduceLeDiff,hs.n.one,hs.t.one,od,d0,↓e1,↓ldK_is a1,↓sl,h1,h2]
  | false=>
   have hk:k<m.ns.length:=by have:=of_decide_eq_false h1;omega
   have hd16:d≤16:=by have:=of_decide_eq_false h2;omega
   obtain⟨p,rfl⟩:∃p,q=p+1:=⟨q-1,by omega⟩
   obtain⟨iv,fv,rd,hi,hf⟩:=s1.nd (List.getElem?_eq_getElem hk)
   have hkd:=hm.kinds _ (List.getElem_mem hk)
   have a1':=a1
   obtain⟨nd,hnd⟩:∃nd,nd=m.ns[k]:=⟨_,rfl⟩
   rw[←hnd]at rd hi hf hkd
   obtain⟨σ2,g2,f2⟩:=uses_L (E:=E) (W:=W) (N:=N) (hU p rfl) hN (mb:=σ.next) (iv:=iv) hkd.1 (by omega) hd16 hkd.2.2 nd.fields.length 0 N (by omega) (by omega) f1.tidy a1 s1 hf
   refine⟨σ2,?_,f1.trans f2 (fun _ _ h=>h)⟩
   have h11:decide (nd.kind=11)=false:=decide_eq_false hkd.1
   have rd':=rd E
   unfold NodeS.c at rd'
   have key:∀K1 K2,T44_0 E D W K1 K2 (ofN m.nm) (Int.ofNat m.tg) nv tv dv (Int.ofNat k) (Int.ofNat d) .nils σ=K1 (Int.ofNat d) .nils σ.next 0 (Int.ofNat nd.kind) (ofN nd.name) nd.mHas nd.mNum (Int.ofNat nd.mMode) nd.con.has nd.con.hasLow nd.con.hasHigh nd.con.more nd.con.low nd.con.high iv fv (Int.ofNat nd.root) nd.more (Int.ofNat nd.of_) σ1:=by
    intro K1 K2
    unfold T44_0
    simp -implicitDefEqProofs only [↓rP,rA,Nat.reduceEqDiff,Nat.reduceLT,Nat.reduceLeDiff,hs.n.one,hs.t.one,od,d0,↓e1,↓ldK_is a1,↓sl,h1,h2,↓rd',h11,allOne_cons,allOne_nil,one_int,one_str,one_bool,hi.one,hf.one]
   rw[key];exact g2
end
def SpReach (F:List V→H→Ans):Prop:=∀(σ:H) (g:V) (n i j:Nat),Tidy σ→Src σ 1 n g (List.replicate n .nils)→i<n→∃σ',F [g,.int .i64 (Int.ofNat i),.int .i64 (Int.ofNat j)] σ=some (.bool false,σ')∧Fr Nowhere σ σ'
def SpOrder (m:ModS) (F:List V→H→Ans):Prop:=∀(σ:H) (nv tv dv:V),Tidy σ→MdS σ m nv tv dv→∃v σ',F [.agg (mdC m nv tv dv)] σ=some (.tup [v,.int .i64 (Int.ofNat 0),.int .i64 (Int.ofNat 0)],σ')∧v.one=true∧Fr Nowhere σ σ'
theorem zbnd (k d:Nat):bnd (some (.int .i64 (Int.ofNat k))) d=some k:=by
 show (if(0:Int)≤Int.ofNat k then some (Int.ofNat k).toNat else none)=_
 exact if_pos (Int.natCast_nonneg k)
theorem zpre {b n k:Nat} {c:Cap} (hc:c = .op 1∨c = .ex n) (hk:k≤n) (h0:0<n):sliceV 1 (.sl b 0 n c) none (some (.int .i64 (Int.ofNat k))) none=some (.sl b 0 k c):=by
 rcases hc with rfl|rfl
 ·unfold sliceV
  simp only[zbnd,show bnd none 0=some 0 from rfl]
  rw[if_pos (by simp;omega),if_neg (by simp;omega)]
  simp
 ·unfold sliceV
  simp only[zbnd,show bnd none 0=some 0 from rfl,show bnd none n=some n from rfl]
  rw[if_pos (by simp;omega)]
  simp
theorem dst_pre {σ:H} {n k:Nat} {v:V} {l:List V} (h:Dst σ 1 n v l) (hk:k≤n):∃u,sliceV 1 v none (some (.int .i64 (Int.ofNat k))) none=some u∧Src σ 1 k u (l.take k):=by
 have go:∀{b:Nat} {c:Cap},(c = .op 1∨c = .ex n)→0<n→Atc σ b l→v = .sl b 0 n c→∃u,sliceV 1 v none (some (.int .i64 (Int.ofNat k))) none=some u∧Src σ 1 k u (l.take k):=by
  intro b c hc h0 ha hv
  subst hv
  refine⟨_,zpre hc hk h0,.inr ⟨b,0,c,l,rfl,ha,?_,?_⟩⟩
  ·have:=h.length;omega
  ·rw[List.drop_zero,Nat.mul_one]
 rcases h with (⟨h0,hv,hl⟩|⟨b,hv,ha,h0,hl⟩)|⟨b,hv,ha,hl⟩
 ·subst h0;subst hv
  have:k=0:=by omega
  subst this
  exact⟨.nils,rfl,.inl ⟨rfl,rfl,by simp⟩⟩
 ·exact go (.inl rfl) h0 ha hv
 ·rcases Nat.eq_zero_or_pos n with h0|h0
  ·subst h0
   have:k=0:=by omega
   subst this
   subst hv
   exact⟨.sl b 0 0 (.ex 0),rfl,.inr ⟨b,0,_,l,rfl,ha,Nat.zero_le _,by simp⟩⟩
  ·exact go (.inr rfl) h0 ha hv
section
variable {E:List (Nat × Blk)} {D:Den} {W:DrawFn} {N:Nat}
theorem reach_F (hN:10<N):SpReach (F45 E D W N):=by
 intro σ g n i j ht hg hi
 obtain⟨N,rfl⟩:∃k,N=k+1:=⟨N-1,by omega⟩
 obtain⟨σ1,e1,f1,a1,n1⟩:=mkN ht []
 refine⟨σ1,?_,f1⟩
 have rd:∀κ:V→Ans,iaddrSK 1 g (Int.ofNat i) (fun b o=>ldK E σ1 b o κ)=κ .nils:=fun κ=>src_ld (hg.fr f1 ht (fun _ _ h=>h)) hi (by rw[List.getElem?_replicate,if_pos hi]) κ
 have ap:∀κ:V→H→Ans,appK E 1 8 .nils .nils σ1 κ=κ .nils σ1:=fun κ=>rfl
 show T45_0 E D W (T45_2 E D W (T45_1 E D W) _) g (Int.ofNat i) (Int.ofNat j) σ=_
 have key:∀R,T45_0 E D W (T45_2 E D W (T45_1 E D W) R) g (Int.ofNat i) (Int.ofNat j) σ=some (.bool false,σ1):=by
  intro R
  unfold T45_0 T45_2 T45_1
  simp -implicitDefEqProofs only [↓rP,rA,Nat.reduceEqDiff,Nat.reduceLT,Nat.reduceLeDiff,↓e1,↓rd,↓ap]
 exact key _
theorem ord_2 {m:ModS} (hm:MdOk m) (hS:SpInS (D 43)) {σ:H} {nv tv dv:V} {mb:Nat} (ha:Atc σ mb (mdC m nv tv dv)) (hs:MdS σ m nv tv dv):∀(n i k:Nat),i+n=m.az.length→n<k→∀K1,(Nat.rec (fun _ _ _ _ _ _=>none) (fun _ ih=>T26_2 E D W K1 ih) k:Nat→Nat→V→Int→Int→H→Ans) mb 0 .nils (Int.negSucc 0) (Int.ofNat i) σ=K1 mb 0 .nils (Int.negSucc 0) σ:=by
 have hfew:=hm.few.2
 have sl:∀κ:Nat→Ans,slenK nv κ=κ m.az.length:=fun κ=>hs.n.slen
 unfold mdC at ha
 intro n
 induction n with
 | zero=>
  intro i k hi hk K1
  obtain⟨k,rfl⟩:∃j,k=j+1:=⟨k-1,by omega⟩
  have d1:decide (i<m.az.length)=false:=decide_eq_false (by omega)
  show T26_2 E D W K1 _ mb 0 .nils (Int.negSucc 0) (Int.ofNat i) σ=_
  have key:∀R,T26_2 E D W K1 R mb 0 .nils (Int.negSucc 0) (Int.ofNat i) σ=K1 mb 0 .nils (Int.negSucc 0) σ:=by
   intro R
   unfold T26_2
   simp -implicitDefEqProofs only [↓rP,rA,Nat.reduceEqDiff,Nat.reduceLT,Nat.reduceLeDiff,↓ldK_is ha,↓sl,d1]
  exact key _
 | succ n ih=>
  intro i k hi hk K1
  obtain⟨k,rfl⟩:∃j,k=j+1:=⟨k-1,by omega⟩
  have hlt:i<m.az.length:=by omega
  have d1:decide (i<m.az.length)=true:=decide_eq_true hlt
  have a1:addF .i64 (Int.ofNat i) (Int.ofNat 1)=Int.ofNat (i+1):=addF_nat (by omega)
  obtain⟨u,hu,su⟩:=dst_pre hs.n (k:=i) (by omega)
  have gu:∀κ:V→Ans,gK (sliceV 1 nv none (some (.int .i64 (Int.ofNat i))) none) κ=κ u:=fun κ=>by rw[hu];rfl
  have rd:∀κ:V→Ans,iaddrSK 1 nv (Int.ofNat i) (fun b o=>ldK E σ b o κ)=κ (.str (ofN m.az[i])):=fun κ=>src_ld hs.n.src hlt (by unfold stC;rw[List.getElem?_map,List.getElem?_eq_getElem hlt];rfl) κ
  have gi:=hS σ u ((m.az.take i).map ofN) (ofN m.az[i]) (by
   rw[List.length_map,List.length_take,Nat.min_eq_left (by omega),List.map_map]
   have:stC m.az=m.az.map (V.str ∘ ofN):=rfl
   rw[this,←List.map_take]at su
   exact su) (by rw[List.length_map,List.length_take];omega)
  have:=hm.apart i hlt
  rw[List.getElem?_eq_getElem hlt]at this
  have this:((m.az.take i).map ofN).any (fun x=>x.beq (ofN m.az[i]))=false:=this
  rw[this]at gi
  show T26_2 E D W K1 _ mb 0 .nils (Int.negSucc 0) (Int.ofNat i) σ=_
  have key:∀R,T26_2 E D W K1 R mb 0 .nils (Int.negSucc 0) (Int.ofNat i) σ=R mb 0 .nils (Int.negSucc 0) (Int.ofNat (i+1)) σ:=by
   intro R
   unfold T26_2
   simp -implicitDefEqProofs only [↓rP,rA,Nat.reduceEqDiff,Nat.reduceLT,Nat.reduceLeDiff,↓ldK_is ha,↓sl,d1,↓gu,↓rd,↓gi,a1]
  rw[key]
  exact ih (i+1) k (by omega) (by omega) K1
theorem repl_snoc {α:Type} (n:Nat) (x:α):List.replicate n x++[x]=List.replicate (n+1) x:=by
 rw[List.replicate_succ']
theorem ord_4 {m:ModS} (hm:MdOk m) (hU:SpUses m 17 (D 44)) {nv tv dv:V} {mb:Nat} {σb:H} (htb:Tidy σb) (hab:Atc σb mb (mdC m nv tv dv)) (hsb:MdS σb m nv tv dv):∀(n i k:Nat) {σ:H} {u:V},i+n=m.az.length→n<k→Fr Nowhere σb σ→Dst σ 1 i u (List.replicate i .nils)→(∀b,Names u b→σb.next≤b) →
  ∃u' σ',(∀K3,(Nat.rec (fun _ _ _ _ _ _=>none) (fun _ ih=>T26_4 E D W K3 (T26_5 E D W ih)) k:Nat→Nat→V→Int→Int→H→Ans) mb 0 u (Int.negSucc 0) (Int.ofNat i) σ=K3 mb 0 u' (Int.negSucc 0) σ')∧Dst σ' 1 m.az.length u' (List.replicate m.az.length .nils)∧(∀b,Names u' b→σb.next≤b)∧Fr Nowhere σb σ':=by
 have hfew:=hm.few.2
 intro n
 induction n with
 | zero=>
  intro i k σ u hi hk f hu hmb
  obtain⟨k,rfl⟩:∃j,k=j+1:=⟨k-1,by omega⟩
  have hi:i=m.az.length:=by omega
  subst hi
  have ha:=f.at_ hab htb (fun h=>h)
  have sl:∀κ:Nat→Ans,slenK nv κ=κ m.az.length:=fun κ=>hsb.n.slen
  have d1:decide (m.az.length<m.az.length)=false:=decide_eq_false (by omega)
  unfold mdC at ha
  refine⟨u,σ,fun K3=>?_,hu,hmb,f⟩
  show T26_4 E D W K3 _ mb 0 u (Int.negSucc 0) (Int.ofNat m.az.length) σ=_
  have key:∀R,T26_4 E D W K3 R mb 0 u (Int.negSucc 0) (Int.ofNat m.az.length) σ=K3 mb 0 u (Int.negSucc 0) σ:=by
   intro R
   unfold T26_4
   simp -implicitDefEqProofs only [↓rP,rA,Nat.reduceEqDiff,Nat.reduceLT,Nat.reduceLeDiff,↓ldK_is ha,↓sl,d1]
  exact key _
 | succ n ih=>
  intro i k σ u hi hk f hu hmb
  obtain⟨k,rfl⟩:∃j,k=j+1:=⟨k-1,by omega⟩
  have hlt:i<m.az.length:=by omega
  have ha:=f.at_ hab htb (fun h=>h)
  have hs:=hsb.fr f htb
  have d1:decide (i<m.az.length)=true:=decide_eq_true hlt
  have a1:addF .i64 (Int.ofNat i) (Int.ofNat 1)=Int.ofNat (i+1):=addF_nat (by omega)
  have hks:i<m.ks.length:=by have:=hm.as_many;omega
  have rd:∀κ:V→Ans,iaddrSK 1 tv (Int.ofNat i) (fun b o=>ldK E σ b o κ)=κ (.int .i64 (Int.ofNat m.ks[i])):=fun κ=>src_ld hs.t hks (by unfold ksC;rw[List.getElem?_map,List.getElem?_eq_getElem hks];rfl) κ
  have sl:∀κ:Nat→Ans,slenK nv κ=κ m.az.length:=fun κ=>hsb.n.slen
  obtain⟨σ1,g1,f1⟩:=hU σ nv tv dv m.ks[i] 0 f.tidy hs (by omega) (by omega)
  obtain⟨σ2,e2,f2,a2,n2⟩:=mkN f1.tidy [.nils]
  have xs:Src σ2 1 1 (V.sl σ1.next 0 1 (.ex 1)) [.nils] := .inr ⟨_,_,_,_,rfl,a2,Nat.le_refl _,rfl⟩
  have f12:=f1.trans f2 (fun _ _ h=>h)
  obtain⟨u3,σ3,g3,d3,m3,f3⟩:=app_all (E:=E) (bytes:=24) (hu.fr f12 f.tidy (fun _ _ h=>h)) f2.tidy xs rfl (by unfold growable;simp only[Bool.and_eq_true,Nat.ble_eq];omega)
  have le:=f.le
  have le1:=f1.le
  have le2:=f2.le
  have f3':Fr Nowhere σb σ3:=((f.trans f12 (fun _ _ h=>h))).trans f3 (fun b hb h=>by have:=hmb b h;omega)
  rw[repl_snoc]at d3
  obtain⟨u',σ',g',d',m',f'⟩:=ih (i+1) k (by omega) (by omega) f3' d3 (fun b hb=>(m3 b hb).elim (hmb b) (fun h=>by omega))
  refine⟨u',σ',fun K3=>?_,d',m',f'⟩
  rw[←g' K3]
  unfold mdC at ha g1
  have sub:∀κ:List V→Ans,subK [.str (ofN m.nm),.int .i64 (Int.ofNat m.tg),nv,tv,dv] 0 5 κ=κ [.str (ofN m.nm),.int .i64 (Int.ofNat m.tg),nv,tv,dv]:=fun κ=>by
   rw[subK_of (by simp)];rfl
  have fl:∀κ:List V→Ans,fillK [(0,1,.nils)] [V.nils] κ=κ [.nils]:=fun κ=>rfl
  show T26_4 E D W K3 (T26_5 E D W _) mb 0 u (Int.negSucc 0) (Int.ofNat i) σ=_
  have key:∀R,T26_4 E D W K3 (T26_5 E D W R) mb 0 u (Int.negSucc 0) (Int.ofNat i) σ=R mb 0 u3 (Int.negSucc 0) (Int.ofNat (i+1)) σ3:=by
   intro R
   unfold T26_4 T26_5
   simp -implicitDefEqProofs only [↓rP,rA,Nat.reduceEqDiff,Nat.reduceLT,Nat.reduceLeDiff,↓ldK_is ha,↓ldnK_is ha,↓sub,↓sl,d1,↓rd,↓g1,↓fl,↓e2,↓g3,↓rtOne_of d3.one,a1]
  exact key _
theorem ord_7 {m:ModS} (hm:MdOk m) (hR:SpReach (D 45)) {nv tv dv u:V} {mb:Nat} {σb:H} (htb:Tidy σb) (hab:Atc σb mb (mdC m nv tv dv)) (hsb:MdS σb m nv tv dv) (hub:Src σb 1 m.az.length u (List.replicate m.az.length .nils)):∀(n i k:Nat) {σ:H},i+n=m.az.length→n<k→Fr Nowhere σb σ →
  ∃σ',(∀K6,(Nat.rec (fun _ _ _ _ _=>none) (fun _ ih=>T26_7 E D W K6 ih) k:Nat→Nat→V→Int→H→Ans) mb 0 u (Int.ofNat i) σ=K6 mb 0 u σ')∧Fr Nowhere σb σ':=by
 have hfew:=hm.few.2
 have sl:∀κ:Nat→Ans,slenK nv κ=κ m.az.length:=fun κ=>hsb.n.slen
 intro n
 induction n with
 | zero=>
  intro i k σ hi hk f
  obtain⟨k,rfl⟩:∃j,k=j+1:=⟨k-1,by omega⟩
  have ha:=f.at_ hab htb (fun h=>h)
  have d1:decide (i<m.az.length)=false:=decide_eq_false (by omega)
  unfold mdC at ha
  refine⟨σ,fun K6=>?_,f⟩
  show T26_7 E D W K6 _ mb 0 u (Int.ofNat i) σ=_
  have key:∀R,T26_7 E D W K6 R mb 0 u (Int.ofNat i) σ=K6 mb 0 u σ:=by
   intro R
   unfold T26_7
   simp -implicitDefEqProofs only [↓rP,rA,Nat.reduceEqDiff,Nat.reduceLT,Nat.reduceLeDiff,↓ldK_is ha,↓sl,d1]
  exact key _
 | succ n ih=>
  intro i k σ hi hk f
  obtain⟨k,rfl⟩:∃j,k=j+1:=⟨k-1,by omega⟩
  have ha:=f.at_ hab htb (fun h=>h)
  have d1:decide (i<m.az.length)=true:=decide_eq_true (by omega)
  have a1:addF .i64 (Int.ofNat i) (Int.ofNat 1)=Int.ofNat (i+1):=addF_nat (by omega)
  unfold mdC at ha
  obtain⟨σ1,g1,f1⟩:=hR σ u m.az.length i i f.tidy (hub.fr f htb (fun _ _ h=>h)) (by omega)
  obtain⟨σ',g',f'⟩:=ih (i+1) k (by omega) (by omega) (f.trans f1 (fun _ _ h=>h))
  refine⟨σ',fun K6=>?_,f'⟩
  rw[←g' K6]
  show T26_7 E D W K6 _ mb 0 u (Int.ofNat i) σ=_
  have key:∀R,T26_7 E D W K6 R mb 0 u (Int.ofNat i) σ=R mb 0 u (Int.ofNat (i+1)) σ1:=by
   intro R
   unfold T26_7
   simp -implicitDefEqProofs only [↓rP,rA,Nat.reduceEqDiff,Nat.reduceLT,Nat.reduceLeDiff,↓ldK_is ha,↓sl,d1,↓g1,a1]
  exact key _
theorem any_range (j x:Nat):(List.range j).any (fun y=>decide (y=x))=decide (x<j):=by
 rw[Bool.eq_iff_iff]
 simp
theorem ord_10 {m:ModS} (hm:MdOk m) (hI:SpInI (D 12)) (hN:10<N) {nv tv dv u:V} {mb:Nat} {σb:H} (htb:Tidy σb) (hab:Atc σb mb (mdC m nv tv dv)) (hsb:MdS σb m nv tv dv) (hub:Src σb 1 m.az.length u (List.replicate m.az.length .nils)) {σ:H} {v:V} {j:Nat} (f:Fr Nowhere σb σ) (hv:Dst σ 1 j v (ksC (List.range j))) (hn:∀b,Names v b→σb.next≤b) (hj:j<m.az.length) :
  ∃v' σ',(∀(n i k:Nat) R9,i+n=j→n<k→L26_10 E D W N R9 k mb 0 u v (Int.ofNat i) σ=R9 mb 0 u v' σ')∧Fr Nowhere σb σ'∧Dst σ' 1 (j+1) v' (ksC (List.range (j+1)))∧(∀b,Names v' b→σb.next≤b):=by
 have hfew:=hm.few.2
 have sl:∀κ:Nat→Ans,slenK nv κ=κ m.az.length:=fun κ=>hsb.n.slen
 have ha:=f.at_ hab htb (fun h=>h)
 have hu:=hub.fr f htb (fun _ _ h=>h)
 unfold mdC at ha
 have rd:∀i,i<m.az.length→∀κ:V→Ans,iaddrSK 1 u (Int.ofNat i) (fun b o=>ldK E σ b o κ)=κ .nils:=fun i hi κ=>src_ld hu hi (by rw[List.getElem?_replicate,if_pos hi]) κ
 have gi:∀i,D 12 [v,.int .i64 (Int.ofNat i)] σ=some (.bool (decide (i<j)),σ):=fun i=>by
  rw[hI σ v (List.range j) i (by rw[List.length_range];exact hv.src) (by rw[List.length_range];omega),any_range]
 obtain⟨σ2,e2,f2,a2,n2⟩:=mkN f.tidy [.int .i64 (Int.ofNat j)]
 have xs:Src σ2 1 1 (V.sl σ.next 0 1 (.ex 1)) [.int .i64 (Int.ofNat j)] := .inr ⟨_,_,_,_,rfl,a2,Nat.le_refl _,rfl⟩
 obtain⟨v3,σ3,g3,d3,m3,f3⟩:=app_all (E:=E) (bytes:=8) (hv.fr f2 f.tidy (fun _ _ h=>h)) f2.tidy xs rfl (by unfold growable;simp only[Bool.and_eq_true,Nat.ble_eq];omega)
 have le:=f.le
 refine⟨v3,σ3,?_,(f.trans f2 (fun _ _ h=>h)).trans f3 (fun b hb h=>by have:=hn b h;omega),by
  rw[show ksC (List.range (j+1))=ksC (List.range j)++[.int .i64 (Int.ofNat j)] by unfold ksC;rw[List.range_succ];simp]
  exact d3,fun b hb=>(m3 b hb).elim (hn b) (fun h=>by omega)⟩
 intro n
 induction n with
 | zero=>
  intro i k R9 hi hk
  obtain⟨k,rfl⟩:∃j,k=j+1:=⟨k-1,by omega⟩
  have hi:i=j:=by omega
  subst hi
  have d1:decide (i<m.az.length)=true:=decide_eq_true hj
  have d2:decide (i<i)=false:=decide_eq_false (by omega)
  have g:=gi i
  have r:=rd i hj
  obtain⟨N,rfl⟩:∃k,N=k+1:=⟨N-1,by omega⟩
  show T26_10 E D W (T26_13 E D W (T26_12 E D W (T26_11 E D W _) R9) _) R9 mb 0 u v (Int.ofNat i) σ=_
  have key:∀R R',T26_10 E D W (T26_13 E D W (T26_12 E D W (T26_11 E D W R) R9) R') R9 mb 0 u v (Int.ofNat i) σ=R9 mb 0 u v3 σ3:=by
   intro R R'
   unfold T26_10 T26_13 T26_12
   simp -implicitDefEqProofs only [↓rP,rA,Nat.reduceEqDiff,Nat.reduceLT,Nat.reduceLeDiff,↓ldK_is ha,↓sl,d1,↓g,↓r,d2,↓e2,↓g3,↓rtOne_of d3.one]
  exact key _ _
 | succ n ih=>
  intro i k R9 hi hk
  obtain⟨k,rfl⟩:∃j,k=j+1:=⟨k-1,by omega⟩
  have d1:decide (i<m.az.length)=true:=decide_eq_true (by omega)
  have d2:decide (i<j)=true:=decide_eq_true (by omega)
  have a1:addF .i64 (Int.ofNat i) (Int.ofNat 1)=Int.ofNat (i+1):=addF_nat (by omega)
  have g:=gi i
  have r:=rd i (by omega)
  rw[←ih (i+1) k R9 (by omega) (by omega)]
  obtain⟨N',hN'⟩:∃k,N=k+1:=⟨N-1,by omega⟩
  have key:∀R R',T26_10 E D W (T26_13 E D W (T26_12 E D W (T26_11 E D W R) R9) R') R9 mb 0 u v (Int.ofNat i) σ=R mb 0 u v (Int.ofNat (i+1)) σ:=by
   intro R R'
   unfold T26_10 T26_13 T26_12 T26_11
   simp -implicitDefEqProofs only [↓rP,rA,Nat.reduceEqDiff,Nat.reduceLT,Nat.reduceLeDiff,↓ldK_is ha,↓sl,d1,↓g,↓r,d2,a1]
  show T26_10 E D W (L26_13 E D W N R9 (L26_10 E D W N R9 k) N) R9 mb 0 u v (Int.ofNat i) σ=_
  have hL:L26_13 E D W N R9 (L26_10 E D W N R9 k) N=T26_13 E D W (T26_12 E D W (T26_11 E D W (L26_10 E D W N R9 k)) R9) (L26_13 E D W N R9 (L26_10 E D W N R9 k) N'):=by
   conv=>lhs;arg 7;rw[hN']
   rfl
  rw[hL]
  exact key _ _
theorem ord_9 {m:ModS} (hm:MdOk m) (hI:SpInI (D 12)) (hN:1000<N) {nv tv dv u:V} {mb:Nat} {σb:H} (htb:Tidy σb) (hab:Atc σb mb (mdC m nv tv dv)) (hsb:MdS σb m nv tv dv) (hub:Src σb 1 m.az.length u (List.replicate m.az.length .nils)):∀(n j k:Nat) {σ:H} {v:V},j+n=m.az.length→n<k→Fr Nowhere σb σ→Dst σ 1 j v (ksC (List.range j))→(∀b,Names v b→σb.next≤b) →
  ∃v' σ',L26_9 E D W N k mb 0 u v σ=some (.tup [v',.int .i64 (Int.ofNat 0),.int .i64 (Int.ofNat 0)],σ')∧v'.one=true∧Fr Nowhere σb σ':=by
 have hfew:=hm.few.2
 have sl:∀κ:Nat→Ans,slenK nv κ=κ m.az.length:=fun κ=>hsb.n.slen
 intro n
 induction n with
 | zero=>
  intro j k σ v hj hk f hv hn
  obtain⟨k,rfl⟩:∃i,k=i+1:=⟨k-1,by omega⟩
  have ha:=f.at_ hab htb (fun h=>h)
  unfold mdC at ha
  have sv:∀κ:Nat→Ans,slenK v κ=κ j:=fun κ=>hv.slen
  have d1:decide (j<m.az.length)=false:=decide_eq_false (by omega)
  refine⟨v,σ,?_,hv.one,f⟩
  show T26_9 E D W (T26_8 E D W) _ mb 0 u v σ=_
  have key:∀R,T26_9 E D W (T26_8 E D W) R mb 0 u v σ=some (.tup [v,.int .i64 (Int.ofNat 0),.int .i64 (Int.ofNat 0)],σ):=by
   intro R
   unfold T26_9 T26_8
   simp -implicitDefEqProofs only [↓rP,rA,Nat.reduceEqDiff,Nat.reduceLT,Nat.reduceLeDiff,↓ldK_is ha,↓sl,↓sv,d1]
  exact key _
 | succ n ih=>
  intro j k σ v hj hk f hv hn
  obtain⟨k,rfl⟩:∃i,k=i+1:=⟨k-1,by omega⟩
  have ha:=f.at_ hab htb (fun h=>h)
  unfold mdC at ha
  have sv:∀κ:Nat→Ans,slenK v κ=κ j:=fun κ=>hv.slen
  have d1:decide (j<m.az.length)=true:=decide_eq_true (by omega)
  obtain⟨v1,σ1,g1,f1,d1',n1⟩:=ord_10 (E:=E) (W:=W) (N:=N) hm hI (by omega) htb hab hsb hub f hv hn (by omega)
  obtain⟨v',σ',g',o',f'⟩:=ih (j+1) k (by omega) (by omega) f1 d1' n1
  refine⟨v',σ',?_,o',f'⟩
  rw[←g',←g1 j 0 N (L26_9 E D W N k) (by omega) (by omega)]
  show T26_9 E D W _ (L26_10 E D W N (L26_9 E D W N k) N) mb 0 u v σ=_
  have key:∀K8 R,T26_9 E D W K8 R mb 0 u v σ=R mb 0 u v (Int.ofNat 0) σ:=by
   intro K8 R
   unfold T26_9
   simp -implicitDefEqProofs only [↓rP,rA,Nat.reduceEqDiff,Nat.reduceLT,Nat.reduceLeDiff,↓ldK_is ha,↓sl,↓sv,d1]
  exact key _ _
theorem order_F {m:ModS} (hm:MdOk m) (hS:SpInS (D 43)) (hI:SpInI (D 12)) (hU:SpUses m 17 (D 44)) (hR:SpReach (D 45)) (hN:1000<N):SpOrder m (F26 E D W N):=by
 intro σ nv tv dv ht hs
 have hfew:=hm.few.2
 obtain⟨σ1,e1,f1,a1,n1⟩:=mkN ht (mdC m nv tv dv)
 have od:dv.one=true:=by
  obtain⟨ws,h1,_⟩:=hs.d
  exact h1.one
 have s1:=hs.fr f1 ht
 obtain⟨u4,σ4,g4,d4,m4,f4⟩:=ord_4 (E:=E) (W:=W) hm hU f1.tidy a1 s1 m.az.length 0 N (by omega) (by omega) (Fr.refl f1.tidy) (Dst.nil _ _) (fun b hb=>hb.elim)
 have a4:=f4.at_ a1 f1.tidy (fun h=>h)
 have s4:=s1.fr f4 f1.tidy
 obtain⟨σ7,g7,f7⟩:=ord_7 (E:=E) (W:=W) hm hR f4.tidy a4 s4 d4.src m.az.length 0 N (by omega) (by omega) (Fr.refl f4.tidy)
 obtain⟨v9,σ9,g9,o9,f9⟩:=ord_9 (E:=E) (W:=W) (N:=N) hm hI hN f7.tidy (f7.at_ a4 f4.tidy (fun h=>h)) (s4.fr f7 f4.tidy) (d4.src.fr f7 f4.tidy (fun _ _ h=>h)) m.az.length 0 N (by omega) (by omega) (Fr.refl f7.tidy) (Dst.nil _ _) (fun b hb=>hb.elim)
 refine⟨v9,σ9,?_,o9,((f1.trans f4 (fun _ _ h=>h)).trans f7 (fun _ _ h=>h)).trans f9 (fun _ _ h=>h)⟩
 have g2:=ord_2 (E:=E) (W:=W) hm hS a1 s1 m.az.length 0 N (by omega) (by omega)
 unfold mdC at e1
 have key0:∀K2,T26_0 E D W K2 (ofN m.nm) (Int.ofNat m.tg) nv tv dv σ=K2 σ.next 0 .nils (Int.negSucc 0) (Int.ofNat 0) σ1:=by
  intro K2
  unfold T26_0
  simp -implicitDefEqProofs only [↓rP,rA,Nat.reduceEqDiff,Nat.reduceLT,Nat.reduceLeDiff,hs.n.one,hs.t.one,od,↓e1]
 show T26_0 E D W (L26_2 E D W N N) (ofN m.nm) (Int.ofNat m.tg) nv tv dv σ=_
 rw[key0]
 refine(g2 (J26_1 E D W N)).trans ?_
 show L26_4 E D W N N σ.next 0 .nils (Int.negSucc 0) (Int.ofNat 0) σ1=_
 refine(g4 (J26_3 E D W N)).trans ?_
 show T26_3 E D W (L26_7 E D W N N) σ.next 0 u4 (Int.negSucc 0) σ4=_
 have key3:∀K7,T26_3 E D W K7 σ.next 0 u4 (Int.negSucc 0) σ4=K7 σ.next 0 u4 (Int.ofNat 0) σ4:=fun K7=>rfl
 rw[key3]
 exact(g7 (J26_6 E D W N)).trans g9
end
end
end Go.Proofs.YtgblfbajgpboiaaGreatDoor
