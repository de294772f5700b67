/- What the last text leans on, part 7 of 7: merged out of smaller texts. No condition. -/
import Derived.Test.YtgjjnbddbbhloaaGreatDoorChecked
import Derived.Test.YtgjjnbddbbhloaaGreatDoorCards
import Derived.KernelRfl
import Derived.Test.YtgjjnbddbbhloaaGreatDoorQ5
set_option linter.all false
set_option maxRecDepth 100000
namespace Go.Og
noncomputable section
section
variable {E:List (Nat × Blk)} {σ:H} {n:Nat} {S:Nat→Prop}
theorem old_ldE {x:AO} {em:Env} {b off:Nat} {c:List V} {v:V} (hx:opv em x = .ptr b off) (hn:lookF σ.bl b=none) (he:lookF E b=some (.cells c)) (hv:c[off]? = some v) (lt:b<σ.next) (hS:¬S b) (hb:V.beq v v=true):OldLd E σ n S (.load none x) em v:=
 ⟨hb,fun nx h p ho=>by
  rw[lookF_eq]at hn he
  unfold aopL
  simp only[hx,rd]
  rw[look_hide_old lt,ho b lt hS,hn,he]
  exact hv⟩
end
end
end Go.Og
namespace Go.Proofs.YtgjjnbddbbhloaaGreatDoor
open Go Go.Og
noncomputable section
structure ArgW (E:List (Nat × Blk)) (v:V) (n:Nat) (f:Nat→Int):Prop where
 is:(n=0∧v = .nils)∨∃cap,v = .sl 50 0 n (.ex cap)∧(n≠0→lookF E 50=some (.cells ((List.range n).map fun i => .int .i64 (f i))))
theorem ArgW.len {E:List (Nat × Blk)} {v:V} {n:Nat} {f:Nat→Int} (h:ArgW E v n f) (κ:Nat→Ans):slenK v κ=κ n:=by
 rcases h.is with ⟨rfl,rfl⟩|⟨cap,rfl,_⟩<;>rfl
def lvC (l:V):List V:=[.int .i64 (Int.ofNat 10),.int .i64 (Int.ofNat 0),.nils,l,.int .i64 (Int.ofNat 0),.nils]
def wdR (a:Int) (n:Nat):Nat:=(a % 18446744073709551616).toNat % (n+1)
theorem wdR_le (a:Int) (n:Nat):wdR a n≤n:=Nat.le_of_lt_succ (Nat.mod_lt _ (Nat.succ_pos n))
theorem wdR_eq (a:Int) {n:Nat}:Int.tmod (wrapF .u64 a) (Int.ofNat (n+1))=Int.ofNat (wdR a n):=by
 have h:wrapF .u64 a=Int.ofNat (a % 18446744073709551616).toNat:=by
  rw[wu64]
  exact(Int.toNat_of_nonneg (Int.emod_nonneg _ (by decide))).symm
 rw[h];rfl
section
variable {E:List (Nat × Blk)} {D:Den} {N:Nat}
theorem uw_reg {σ:H} {qv tb:Nat} {l v2:V} {i nA n:Nat} {m:List V} {f:Nat→Int} {lo v10:Int} {ok:Bool} (ht:Tidy σ) (ha:Atc σ qv (lvC l)) (hd:Dst σ 6 i l m) (hA:ArgW E v2 nA f) (hi:i<nA) (hk:i≤9000) (nl:¬Names l qv) (n50:lookF σ.bl 50=none) (lt50:100≤σ.next) (hl50:∀b,Names l b→100≤b) (hn:n≤5000) (hlo : -100000≤lo) (hlo':lo≤100000) :
    ∃e' u σ',drawW E D G3_0 H3_0 [(0,.int .i64 lo),(1,.int .i64 (Int.ofNat n)),(2,v2),(10,.int .i64 v10),(11,.ptr tb 0),(12,.bool ok),(13,.ptr qv 0),(14,.int .i64 (Int.ofNat i))] σ=some (e',σ') ∧
      (Go.Og.look e' 0=some (.int .i64 lo)∧Go.Og.look e' 1=some (.int .i64 (Int.ofNat n))∧Go.Og.look e' 2=some v2∧Go.Og.look e' 10=some (.int .i64 v10)∧Go.Og.look e' 11=some (.ptr tb 0)∧Go.Og.look e' 12=some (.bool ok)∧Go.Og.look e' 13=some (.ptr qv 0)∧Go.Og.look e' 14=some (.int .i64 (Int.ofNat i))) ∧
      Atc σ' qv (lvC u)∧Dst σ' 6 (i+1) u (m++(Vc.int (lo+(wdR (f i) n:Nat))).c)∧(∀b,Names u b→Names l b∨σ.next≤b)∧¬Names u qv∧Fr (fun b=>b=qv∨Names l b) σ σ':=by
  obtain⟨cap,rfl,hE⟩:∃cap,v2 = .sl 50 0 nA (.ex cap)∧(nA≠0→lookF E 50=some (.cells ((List.range nA).map fun i => .int .i64 (f i)))):=by
    rcases hA.is with ⟨h,_⟩|h
    · omega
    · exact h
  have hE:=hE (by omega)
  have fw:Fr Nowhere σ ⟨σ.next+19,σ.bl⟩:=(go_start (E:=E) (n:=19) (S:=Nowhere) ht).fr
  have lb:=ha.lt ht
  obtain⟨vc,hvc⟩:∃vc,vc=(Vc.int (lo+(wdR (f i) n:Nat))).c:=⟨_,rfl⟩
  obtain⟨σa,ha'⟩:∃σa,σa=(⟨σ.next+19,(σ.next+15,.cells vc)::σ.bl⟩:H):=⟨_,rfl⟩
  have fa:Fr Nowhere σ σa:=by
    rw[ha']
    refine⟨fun b hb=>?_,Nat.le_add_right _ _,fun b hb hn=>?_⟩
    · have hb:σ.next+19≤b:=hb
      show lookF ((σ.next+15,_)::σ.bl) b=none
      rw[lookF_cons,if_neg (by simp only[];omega)]
      exact ht b (by omega)
    · show lookF ((σ.next+15,_)::σ.bl) b=_
      rw[lookF_cons,if_neg (by simp only[];omega)]
  have aa:Atc σa (σ.next+15) vc:=by
    rw[ha']
    show lookF ((σ.next+15,_)::σ.bl) _=_
    rw[lookF_cons,if_pos rfl]
  have xs:Src σa 6 1 (V.sl (σ.next+15) 0 1 (.ex 1)) vc:=by
    rw[hvc]at aa ⊢
    exact .inr ⟨_,_,_,_,rfl,aa,Nat.le_refl _,rfl⟩
  have ho:allOne vc=true:=by rw[hvc];rfl
  obtain⟨u,σ2,g2,d2,m2,f2⟩:=app_all (E:=E) (bytes:=96) (hd.fr fa ht (fun _ _ h=>h)) fa.tidy xs ho (by unfold growable;simp only[Bool.and_eq_true,Nat.ble_eq];omega)
  have na:σa.next=σ.next+19:=by rw[ha']
  have vl:∀b,Names l b→b<σ.next:=fun b hb=>hd.lt ht hb
  have a2:Atc σ2 qv (lvC l):=f2.at_ (fa.at_ ha ht (fun h=>h)) fa.tidy nl
  obtain⟨o1,o2⟩:=one_live d2.one
  have st:∃σ3,den1 E D (.store 1 (.tmp 79) (.tmp 78)) [(79,.ptr qv 3),(78,u)] σ2=some (.dead,σ3)∧Fr (fun k=>k=qv) σ2 σ3∧Atc σ3 qv (lvC u):=by
    obtain⟨σ3,q1,q2,q3⟩:=st_den (E:=E) (D:=D) (n:=1) (x := .tmp 79) (y := .tmp 78) (e:=[(79,.ptr qv 3),(78,u)]) f2.tidy a2 rfl (show (opv [(79,.ptr qv 3),(78,u)] (.tmp 78)).cells=[u] from o2) (by
      simp only[allOne_cons,allOne_nil,d2.one,Bool.and_true,List.length_cons,List.length_nil,Nat.zero_add,Nat.beq_refl,Bool.true_and,Nat.ble_eq,lvC];omega)
    exact⟨σ3,q1,q2,q3⟩
  obtain⟨σ3,g3,f3,c3⟩:=st
  have un:¬Names u qv:=fun h=>(m2 qv h).elim nl fun h=>by omega
  have vb:V.beq l l=true:=by
    rcases hd with h|⟨b,rfl,_⟩
    · rcases h with ⟨_,rfl,_⟩ | ⟨_,rfl,_⟩<;>exact beq_self _ rfl
    · exact beq_self _ rfl
  have ea:addF .i64 (Int.ofNat n) (Int.ofNat 1)=Int.ofNat (n+1):=addF_nat (by omega)
  have ew:wrapF .u64 (Int.ofNat (n+1))=Int.ofNat (n+1):=wrapF_nat (show n+1≤18446744073709551615 by omega)
  have hr:=wdR_le (f i) n
  have h67:aopP (.iaddrS 1 (.tmp 65) (.tmp 66)) [(65,.sl 50 0 nA (.ex cap)),(66,.int .i64 (Int.ofNat i))]=some (.ptr 50 i):=by
    show (if(0:Int)≤Int.ofNat i∧Int.ofNat i<(nA:Int)then some (V.ptr 50 (0+(Int.ofNat i).toNat*1))else none)=_
    rw[if_pos ⟨by simp only[Int.ofNat_eq_natCast];omega,by simp only[Int.ofNat_eq_natCast];omega⟩,Nat.zero_add,Nat.mul_one];rfl
  have h69:aopP (.conv (.toInt .u64) (.tmp 68)) [(68,.int .i64 (f i))]=some (.int .u64 (wrapF .u64 (f i))):=by
    show some (V.int .u64 (IntKind.u64.wrap (f i)))=_
    rw[←wrapF_eq]
  have h71:aopP (.bin .add .none (.tmp 70) (.con (V.int .i64 (Int.ofNat 1)))) [(70,.int .i64 (Int.ofNat n))]=some (.int .i64 (Int.ofNat (n+1))):=by
    show some (V.int .i64 (IntKind.i64.wrap (Int.add (Int.ofNat n) (Int.ofNat 1))))=_
    rw[←wrapF_eq]
    exact congrArg (fun z=>some (V.int .i64 z)) ea
  have h72:aopP (.conv (.toInt .u64) (.tmp 71)) [(71,.int .i64 (Int.ofNat (n+1)))]=some (.int .u64 (Int.ofNat (n+1))):=by
    show some (V.int .u64 (IntKind.u64.wrap (Int.ofNat (n+1))))=_
    rw[←wrapF_eq,ew]
  have h73:aopP (.bin .rem .none (.tmp 69) (.tmp 72)) [(69,.int .u64 (wrapF .u64 (f i))),(72,.int .u64 (Int.ofNat (n+1)))]=some (.int .u64 (Int.ofNat (wdR (f i) n))):=by
    rw[←wdR_eq];rfl
  have h74:aopP (.conv (.toInt .i64) (.tmp 73)) [(73,.int .u64 (Int.ofNat (wdR (f i) n)))]=some (.int .i64 (Int.ofNat (wdR (f i) n))):=by
    show some (V.int .i64 (IntKind.i64.wrap (Int.ofNat (wdR (f i) n))))=_
    rw[←wrapF_eq,show wrapF .i64 (Int.ofNat (wdR (f i) n))=Int.ofNat (wdR (f i) n)from wrapF_nat (show wdR (f i) n≤9223372036854775807 by omega)]
  have h75:aopP (.bin .add .none (.tmp 64) (.tmp 74)) [(64,.int .i64 lo),(74,.int .i64 (Int.ofNat (wdR (f i) n)))]=some (.int .i64 (lo+(wdR (f i) n:Nat))):=by
    show some (V.int .i64 (IntKind.i64.wrap (lo+((wdR (f i) n:Nat):Int))))=_
    rw[←wrapF_eq,wrap64 (by omega) (by omega)]
  have go:GoesQ (EndSt E σ 19 H3_0 _ σ3) E D σ 19 0 G3_0 H3_0 ⟨[(0,.int .i64 lo),(1,.int .i64 (Int.ofNat n)),(2,.sl 50 0 nA (.ex cap)),(10,.int .i64 v10),(11,.ptr tb 0),(12,.bool ok),(13,.ptr qv 0),(14,.int .i64 (Int.ofNat i))],σ.next+19,[σ.bl],[],0,[]⟩:=
    goq_p (.ptr qv 3) rfl rfl <|
    goq_l l (go_start (S:=Names l) ht) rfl (old_ld1 (b:=qv) (off:=3) rfl ha rfl ht nl vb) fun r1=>
    goq_p (.int .i64 lo) rfl rfl <|
    goq_p (.sl 50 0 nA (.ex cap)) rfl rfl <|
    goq_p (.int .i64 (Int.ofNat i)) rfl rfl <|
    goq_p (.ptr 50 i) rfl h67 <|
    goq_l (.int .i64 (f i)) r1 rfl (old_ldE (b:=50) (off:=i) rfl n50 hE (by rw[List.getElem?_map,List.getElem?_range hi];rfl) (by omega) (fun h=>by have:=hl50 50 h;omega) (beq_self _ rfl)) fun r2=>
    goq_p (.int .u64 (wrapF .u64 (f i))) rfl h69 <|
    goq_p (.int .i64 (Int.ofNat n)) rfl rfl <|
    goq_p (.int .i64 (Int.ofNat (n+1))) rfl h71 <|
    goq_p (.int .u64 (Int.ofNat (n+1))) rfl h72 <|
    goq_p (.int .u64 (Int.ofNat (wdR (f i) n))) rfl h73 <|
    goq_p (.int .i64 (Int.ofNat (wdR (f i) n))) rfl h74 <|
    goq_p (.int .i64 (lo+(wdR (f i) n:Nat))) rfl h75 <|
    goq_p (.agg (Vc.int (lo+(wdR (f i) n:Nat))).c) rfl rfl <|
    goq_a (.sl (σ.next+15) 0 1 (.ex 1)) (.cells vc) 32768 r2 rfl (by decide) (by decide) (by rw[hvc];rfl) fun _ r3=>
    goq_k u (by rw[←ha']at r3;exact r3) rfl (by decide) (S':=Names l) f2 (fun _ _ h=>h) (fun b h h1 _=>by have:=vl b h;omega) (app_den rfl rfl g2) fun _ _ r4=>
    goq_p (.ptr qv 3) rfl rfl <|
    goq_end .dead r4 rfl (by decide) f3 (fun b h h1 _=>by omega) g3 (fun x hx=>by
      simp only[List.mem_cons,List.not_mem_nil,or_false]at hx
      rcases hx with rfl|rfl
      · show legal H3_0 6 [18,16] []=false
        decide
      · show legal H3_0 1 [18,16] []=false
        decide)
  have d:=goq_draw (ops:=G3_0) go
  refine⟨_,u,σ3,d,⟨rfl,rfl,rfl,rfl,rfl,rfl,rfl,rfl⟩,c3,?_,fun b hb=>(m2 b hb).elim .inl (fun h => .inr (by omega)),un,?_⟩
  · rw[←hvc];exact d2.fr f3 f2.tidy (fun b hb e=>un (e ▸ hb))
  · exact((fa.mono (fun _ _ h=>h.elim):Fr (fun b=>b=qv∨Names l b) σ σa).trans f2 (fun _ _ h => .inr h)).trans f3 (fun _ _ h => .inl h)
end
def flatR (m:Nat) (g:Nat→List V):List V:=((List.range m).map g).flatten
theorem flatR_succ (m:Nat) (g:Nat→List V):flatR (m+1) g=flatR m g++g m:=by
 unfold flatR;rw[List.range_succ,List.map_append,List.flatten_append];simp
theorem flatR_length {esz:Nat} {g:Nat→List V} (hg:∀k,(g k).length=esz):∀m,(flatR m g).length=m*esz
 | 0=>by simp[flatR]
 | m+1=>by rw[flatR_succ,List.length_append,flatR_length hg m,hg,Nat.add_mul,Nat.one_mul]
theorem flatR_cel {esz:Nat} {g:Nat→List V} (hg:∀k,(g k).length=esz):∀{m k:Nat},k<m→Cel (flatR m g) esz k (g k)
 | m+1,k,h=>by
  have hl:=flatR_length hg (m+1)
  refine⟨by rw[hl];have:=Nat.mul_le_mul_right esz (show k+1≤m+1 by omega);rw[Nat.add_mul,Nat.one_mul]at this;exact this,?_⟩
  rw[flatR_succ]
  by_cases hk:k<m
  ·have ih:=flatR_cel hg hk
   have h1:=ih.1
   rw[List.drop_append_of_le_length (by omega),List.take_append_of_le_length (by rw[List.length_drop];omega)]
   exact ih.2
  ·obtain rfl:k=m:=by omega
   rw[List.drop_append,List.drop_of_length_le (by rw[flatR_length hg];exact Nat.le_refl _),flatR_length hg,Nat.sub_self,List.nil_append,List.drop_zero,←hg k,List.take_length]
theorem Row.flat {σ:H} {b m esz:Nat} {c:Cap} {g:Nat→List V} (hg:∀k,(g k).length=esz) (h:Atc σ b (flatR m g)):Row σ esz m (.sl b 0 m c) g:=⟨.inr ⟨b,c,_,rfl,h,fun _ hk=>flatR_cel hg hk⟩⟩
theorem Dst.rowR {σ:H} {l:V} {n esz:Nat} {g:Nat→List V} (hg:∀k,(g k).length=esz) (h:Dst σ esz n l (flatR n g)):Row σ esz n l g:=by
 rcases h with (⟨rfl,rfl,_⟩|⟨b,rfl,a,_,_⟩)|⟨b,rfl,a,_⟩
 ·exact⟨.inl ⟨rfl,rfl⟩⟩
 ·exact Row.flat hg a
 ·exact Row.flat hg a
section
variable {E:List (Nat × Blk)} {D:Den} {N:Nat}
structure LwS (σ0 σ:H) (tb qv:Nat) (tc:List V) (l:V) (k:Nat) (m:List V):Prop where
 t:Atc σ tb tc
 q:Atc σ qv (lvC l)
 d:Dst σ 6 k l m
 nq:¬Names l qv
 lo:∀b,Names l b→σ0.next≤b
 f:Fr (fun b=>b=qv∨σ0.next≤b) σ0 σ
theorem law3_L {σ0:H} {qv tb:Nat} {v2:V} {nA n:Nat} {f:Nat→Int} {lo v10:Int} {ok:Bool} {tc:List V} (ht0:Tidy σ0) (hA:ArgW E v2 nA f) (hnA:nA≤60) (n50:lookF σ0.bl 50=none) (lt50:100≤σ0.next) (hqv:qv<σ0.next) (hq:100≤qv) (htb:tb<σ0.next) (hne:tb≠qv) (hn:n≤5000) (hlo : -100000≤lo) (hlo':lo≤100000) {K:Int→V→Int→Nat→Nat→Bool→Nat→Nat→H→Ans} :
  ∀(m n' i:Nat) (l:V) (σ:H),i+m=nA→m<n'→LwS σ0 σ tb qv tc l i (flatR i fun k=>(Vc.int (lo+(wdR (f k) n:Nat))).c) →
   ∃l' σ',(Nat.rec (fun _ _ _ _ _ _ _ _ _ _ _=>none) (fun _ ih=>T3_3 E D (drawW E D) K ih) n':Int→Int→V→Int→Nat→Nat→Bool→Nat→Nat→Int→H→Ans) lo (Int.ofNat n) v2 v10 tb 0 ok qv 0 (Int.ofNat i) σ=K (Int.ofNat n) v2 v10 tb 0 ok qv 0 σ' ∧
    LwS σ0 σ' tb qv tc l' nA (flatR nA fun k=>(Vc.int (lo+(wdR (f k) n:Nat))).c):=by
 intro m
 have sl:=hA.len
 induction m with
 | zero=>
  intro n' i l σ hi hn' h
  obtain⟨n',rfl⟩:∃k,n'=k+1:=⟨n'-1,by omega⟩
  obtain rfl:i=nA:=by omega
  refine⟨l,σ,?_,h⟩
  have d1:decide (i<i)=false:=decide_eq_false (by omega)
  show T3_3 E D (drawW E D) K _ lo (Int.ofNat n) v2 v10 tb 0 ok qv 0 (Int.ofNat i) σ=_
  have key:∀R,T3_3 E D (drawW E D) K R lo (Int.ofNat n) v2 v10 tb 0 ok qv 0 (Int.ofNat i) σ=K (Int.ofNat n) v2 v10 tb 0 ok qv 0 σ:=by
   intro R
   unfold T3_3
   simp -implicitDefEqProofs only [↓rP,rA,Nat.reduceEqDiff,Nat.reduceLT,Nat.reduceLeDiff,↓sl,d1]
  exact key _
 | succ m ih=>
  intro n' i l σ hi hn' h
  obtain⟨n',rfl⟩:∃k,n'=k+1:=⟨n'-1,by omega⟩
  have d1:decide (i<nA)=true:=decide_eq_true (by omega)
  have le:=h.f.le
  have ht:=h.f.tidy
  have n50':lookF σ.bl 50=none:=by rw[h.f.same 50 (by omega) (fun e=>by omega)];exact n50
  obtain⟨e',u,σ1,g1,⟨k0,k1,k2,k10,k11,k12,k13,k14⟩,a1,d1',m1,nu,f1⟩:=uw_reg (E:=E) (D:=D) (tb:=tb) (v10:=v10) (ok:=ok) (i:=i) ht h.q h.d hA (by omega) (by omega) h.nq n50' (by omega) (fun b hb=>by have:=h.lo b hb;omega) hn hlo hlo'
  rw[←flatR_succ i fun k=>(Vc.int (lo+(wdR (f k) n:Nat))).c]at d1'
  have h1:LwS σ0 σ1 tb qv tc u (i+1) (flatR (i+1) fun k=>(Vc.int (lo+(wdR (f k) n:Nat))).c):=
   ⟨f1.at_ h.t ht (fun e=>e.elim hne fun e=>by have:=h.lo tb e;omega),a1,d1',nu,fun b hb=>(m1 b hb).elim (h.lo b) (fun e=>by omega),h.f.trans f1 fun b hb e=>e.imp id (h.lo b)⟩
  obtain⟨l2,σ2,g2,h2⟩:=ih n' (i+1) u σ1 (by omega) (by omega) h1
  refine⟨l2,σ2,?_,h2⟩
  have gd:∀κ:Env→H→Ans,gdrawK (drawW E D G3_0 H3_0 [(0,.int .i64 lo),(1,.int .i64 (Int.ofNat n)),(2,v2),(10,.int .i64 v10),(11,.ptr tb 0),(12,.bool ok),(13,.ptr qv 0),(14,.int .i64 (Int.ofNat i))] σ) κ=κ e' σ1:=fun κ=>by rw[g1];rfl
  have v2o:v2.one=true:=by rcases hA.is with ⟨_,rfl⟩ | ⟨cap,rfl,_⟩<;>rfl
  have q0:∀κ:V→Ans,getL e' 0 κ=κ (.int .i64 lo):=fun κ=>getL_of k0 rfl
  have q1:∀κ:V→Ans,getL e' 1 κ=κ (.int .i64 (Int.ofNat n)):=fun κ=>getL_of k1 rfl
  have q2:∀κ:V→Ans,getL e' 2 κ=κ v2:=fun κ=>getL_of k2 (one_live v2o).1
  have q10:∀κ:V→Ans,getL e' 10 κ=κ (.int .i64 v10):=fun κ=>getL_of k10 rfl
  have q11:∀κ:V→Ans,getL e' 11 κ=κ (.ptr tb 0):=fun κ=>getL_of k11 rfl
  have q12:∀κ:V→Ans,getL e' 12 κ=κ (.bool ok):=fun κ=>getL_of k12 rfl
  have q13:∀κ:V→Ans,getL e' 13 κ=κ (.ptr qv 0):=fun κ=>getL_of k13 rfl
  have q14:∀κ:V→Ans,getL e' 14 κ=κ (.int .i64 (Int.ofNat i)):=fun κ=>getL_of k14 rfl
  show T3_3 E D (drawW E D) K _ lo (Int.ofNat n) v2 v10 tb 0 ok qv 0 (Int.ofNat i) σ=_
  have key:∀R,T3_3 E D (drawW E D) K R lo (Int.ofNat n) v2 v10 tb 0 ok qv 0 (Int.ofNat i) σ=R lo (Int.ofNat n) v2 v10 tb 0 ok qv 0 (Int.ofNat (i+1)) σ1:=by
   intro R
   unfold T3_3
   simp -implicitDefEqProofs only [↓rP,rA,Nat.reduceEqDiff,Nat.reduceLT,Nat.reduceLeDiff,↓sl,d1,↓gd,↓q0,↓q1,↓q2,↓q10,↓q11,↓q12,↓q13,↓q14,addF_nat (show i+1≤9223372036854775807 by omega)]
  exact(key _).trans g2
end
def wdPre:List Nat:=[77,32,68,69,70,73,78,73,84,73,79,78,83,32,58,58,61,32,66,69,71,73,78,32,65,32,58,58,61,32,83,69,81,85,69,78,67,69,32]
def wdOf:List Nat:=[79,70,32,73,78,84,69,71,69,82,32,40]
def wdS7:List Nat:=[40,83,73,90,69,32,40]
def wdS3:List Nat:=[41,41,32]
theorem wdText_N (w1 w2:List Nat):((((wdPre++[])++wdOf)++w1)++[46,46])++w2++ubPost=wdTextN w1 w2:=by
 unfold wdPre wdOf wdTextN
 simp only[List.append_assoc,List.cons_append,List.nil_append]
theorem wdText_F (w0 w1 w2:List Nat):((((wdPre++((wdS7++w0)++wdS3))++wdOf)++w1)++[46,46])++w2++ubPost=wdTextF w0 w1 w2:=by
 unfold wdPre wdOf wdS7 wdS3 wdTextF wdRestF
 simp only[List.append_assoc,List.cons_append,List.nil_append]
theorem numC_lt {v:Int} (h:In64 v):∀c∈numC v,c<256:=by
 obtain⟨m,ds,e,ok,_⟩:=numC_ok h (r:=[]) rfl rfl
 rw[e];exact numT_lt ok
theorem numC_len {v:Int} (h:In64 v):(numC v).length≤21:=by
 obtain⟨m,ds,e,ok,_⟩:=numC_ok h (r:=[]) rfl rfl
 rw[e]
 have:=ok.n19
 unfold numT
 split
 ·rw[List.length_cons];omega
 ·omega
def SpEncL (F:List V→H→Ans):Prop:=∀{n m:Nat} {g:Nat→Int} {ds:Nat→Nat} {lo hi:Int} {l:V} (hl:l.one=true) {σ:H} {nm:BS} {u rv lv:V} {fx:Bool} {n0:Nat} {az:List (List Nat)} {rs:List Nat},Tidy σ→TbS n0 σ az rs [tyL fx (Int.ofNat n),mkTy (ubNd lo hi)] u rv lv→Row σ 6 n l (fun k=>(Vc.int (g k)).c)→(∀k,k<n→InN lo hi (g k) (ds k) m)→m≤5000→n≤60 →
 ∃b σ',F [.agg [.str nm,u,rv,lv],.int .i64 (Int.ofNat 0),.agg (Vc.lst l hl).c] σ=some (.tup [b,.int .i64 (Int.ofNat 0)],σ')∧Nb σ σ' b (nI (padB (lstZ fx n fun k=>bitsOf (widN 60 m) (ds k))))∧Fr Nowhere σ σ'
theorem xEncT (E:List (Nat × Blk)) (d:Nat):SpEncL (TW E (d+12) 15):=by
 intro n m g ds lo hi l hl σ nm u rv lv fx n0 az rs ht hs hr hv hm hn
 obtain⟨ty,row,is⟩:=hs.rows
 obtain⟨o1,o2,o3⟩:=hs.one4
 have i0:=is 0 _ rfl
 have i1:=is 1 _ rfl
 refine xEncL d (ty:=ty) (i:=0) (j:=1) (nT:=2) (fx:=fx) (lo:=lo) (hi:=hi) ht ⟨row,o1,o2,o3⟩ (by decide) i0.kind i0.of_ ?_ (by decide) i1.kind ?_ hr hv hm hn (by decide) fun k hk=>?_
 ·unfold Ty.con
  rw[i0.has,i0.hasLow,i0.hasHigh,i0.conMore,i0.low,i0.high]
  cases fx<;>rfl
 ·unfold Ty.con
  rw[i1.has,i1.hasLow,i1.hasHigh,i1.conMore,i1.low,i1.high]
  rfl
 ·have hk:k=0∨k=1:=by omega
  rcases hk with rfl|rfl
  ·exact⟨0,0,0,⟨i0.fields.one,fun κ=>i0.fields.slen⟩,⟨i0.items.one,fun κ=>i0.items.slen⟩,i0.root,by decide,by decide⟩
  ·exact⟨0,0,0,⟨i1.fields.one,fun κ=>i1.fields.slen⟩,⟨i1.items.one,fun κ=>i1.items.slen⟩,i1.root,by decide,by decide⟩
section
variable {E:List (Nat × Blk)} {D:Den} {N:Nat}
theorem law3_F (hDg:SpDigits 19 (D 12)) (hNu:SpNumber (D 14)) (hTb:SpTable N (D 13)) (hW:SpWid (D 16)) (hA:SpAwk (D 11)) (hE:SpEncL (D 15)) (hN:100≤N) {σ:H} (ht:Tidy σ) (n50:lookF σ.bl 50=none) (lt50:100≤σ.next) (a b:Int) {v2:V} {nA:Nat} {f:Nat→Int} (hv:ArgW E v2 nA f) (fx:Bool) :
  ∃σ',F3 E D (drawW E D) N [.int .i64 a,.int .i64 b,v2,.bool fx] σ=some (.bool true,σ'):=by
 have v2o:v2.one=true:=by rcases hv.is with ⟨_,rfl⟩ | ⟨cap,rfl,_⟩<;>rfl
 have sl:=hv.len
 show ∃σ',T3_0 E D (drawW E D) (J3_1 E D (drawW E D) N) a b v2 fx σ=some (.bool true,σ')
 cases hd:decide (60<nA)with
 | true=>
  obtain⟨σ1,g1,f1⟩:=hA σ ht
  refine⟨σ1,?_⟩
  unfold T3_0
  simp -implicitDefEqProofs only [↓rP,rA,Nat.reduceEqDiff,Nat.reduceLT,Nat.reduceLeDiff,↓sl,hd,↓g1]
 | false=>
 have hd60:=of_decide_eq_false hd
 obtain⟨r1,hr1,e1⟩:=rem_m a 2000 (by decide) (by decide)
 obtain⟨n,hn5,e2⟩:=rem_m b 5000 (by decide) (by decide)
 obtain⟨lo,hlo,e3⟩:∃lo:Int,lo=(r1:Int)-1000∧subF .i64 (Int.ofNat r1) (Int.ofNat 1000)=lo:=⟨_,rfl,by
  show wrapF .i64 ((r1:Int)-1000)=_
  exact wrap64 (by omega) (by omega)⟩
 obtain⟨hi,hhi,e5⟩:∃hi:Int,hi=lo+n∧addF .i64 lo (Int.ofNat n)=hi:=⟨_,rfl,by
  show wrapF .i64 (lo+(n:Int))=_
  exact wrap64 (by omega) (by omega)⟩
 have ilo:In64 lo:=⟨by omega,by omega⟩
 have ihi:In64 hi:=⟨by omega,by omega⟩
 have lt1:=numC_lt ilo
 have lt2:=numC_lt ihi
 have ln1:=numC_len ilo
 have ln2:=numC_len ihi
 obtain⟨m2,d2,w2,ok2,i2⟩:=numC_ok ihi (r:=ubPost) rfl rfl
 obtain⟨m1,d1,w1,ok1,i1⟩:=numC_ok ilo (r:=46::46::(numT m2 d2++ubPost)) rfl rfl
 obtain⟨N',hN'⟩:∃k,N=k+10:=⟨N-10,by omega⟩
 have hpre:∀c∈wdPre,c<256:=by decide
 have hof:∀c∈wdOf,c<256:=by decide
 have hpost:∀c∈ubPost,c<256:=by decide
 have h46:∀c∈([46,46]:List Nat),c<256:=by decide
 have hs7:∀c∈wdS7,c<256:=by decide
 have hs3:∀c∈wdS3,c<256:=by decide
 have app:∀{l m:List Nat},(∀c∈l,c<256)→(∀c∈m,c<256)→∀c∈l++m,c<256:=fun h1 h2 c hc=>(List.mem_append.1 hc).elim (h1 c) (h2 c)
 have lpre:wdPre.length=39:=rfl
 have lof:wdOf.length=12:=rfl
 have lpost:ubPost.length=5:=rfl
 have ls7:wdS7.length=7:=rfl
 have ls3:wdS3.length=3:=rfl
 obtain⟨sz,ah,σ1,g0,f1,hsz,lsz,hah,htk⟩:∃(sz:List Nat) (ah:Nat) (σ1:H),(∀K,T3_0 E D (drawW E D) K a b v2 fx σ=K lo (Int.ofNat n) v2 (ofN sz) (Int.ofNat ah) σ1)∧Fr Nowhere σ σ1∧(∀c∈sz,c<256)∧sz.length≤40∧ah=(match fx with|true=>0|false=>8) ∧
   ∀len,∃ts,Tks N len (((((wdPre++sz)++wdOf)++numC lo)++[46,46])++numC hi++ubPost) ts∧modP (typP 2) ts=some (wdM fx (Int.ofNat nA) lo hi):=by
  cases fx with
  | false=>
   refine⟨[],8,σ,fun K=>?_,Fr.refl ht,(fun c hc=>by cases hc),by decide,rfl,fun len=>⟨wdToksN len (numC lo) (numC hi),?_,?_⟩⟩
   ·unfold T3_0
    simp -implicitDefEqProofs only [↓rP,rA,Nat.reduceEqDiff,Nat.reduceLT,Nat.reduceLeDiff,↓sl,hd,e1,e2,e3]
    rfl
   ·rw[wdText_N,w1,w2,hN']
    exact wd_toksN N' len ok1 ok2
   ·rw[wd_modN len (numC lo) (numC hi) (Int.ofNat nA),i1,i2]
  | true=>
   have in0:In64 (Int.ofNat nA):=⟨by simp only[Int.ofNat_eq_natCast];omega,by simp only[Int.ofNat_eq_natCast];omega⟩
   obtain⟨σ1,g1,f1⟩:=hDg σ nA ht (by show nA<100000000000000000000;omega) (by omega)
   have g1:D 12 [.int .u64 (Int.ofNat nA)] σ=some (.str (ofN (numC (Int.ofNat nA))),σ1):=g1
   have lt0:=numC_lt in0
   have ln0:=numC_len in0
   obtain⟨m0,d0,w0,ok0,i0⟩:=numC_ok in0 (r:=wdRestF (numT m1 d1) (numT m2 d2)) rfl rfl
   have p7:BS.mk 7 11294481308013352=ofN wdS7:=by decide +kernel
   have p3:BS.mk 3 2107689=ofN wdS3:=by decide +kernel
   have k1:∀κ:BS→Ans,catK (BS.mk 7 11294481308013352) (ofN (numC (Int.ofNat nA))) κ=κ (ofN (wdS7++numC (Int.ofNat nA))):=fun κ=>by
    rw[p7];exact catK_ofN hs7 lt0 (by omega) κ
   have k2:∀κ:BS→Ans,catK (ofN (wdS7++numC (Int.ofNat nA))) (BS.mk 3 2107689) κ=κ (ofN ((wdS7++numC (Int.ofNat nA))++wdS3)):=fun κ=>by
    rw[p3];exact catK_ofN (app hs7 lt0) hs3 (by rw[List.length_append];omega) κ
   have ew:wrapF .u64 (Int.ofNat nA)=Int.ofNat nA:=wrapF_nat (show nA≤18446744073709551615 by omega)
   refine⟨(wdS7++numC (Int.ofNat nA))++wdS3,0,σ1,fun K=>?_,f1,app (app hs7 lt0) hs3,by simp only[List.length_append];omega,rfl,fun len=>⟨wdToksF len (numC (Int.ofNat nA)) (numC lo) (numC hi),?_,?_⟩⟩
   ·unfold T3_0
    simp -implicitDefEqProofs only [↓rP,rA,Nat.reduceEqDiff,Nat.reduceLT,Nat.reduceLeDiff,↓sl,hd,e1,e2,e3,ew,↓g1,↓k1,↓k2]
   ·rw[wdText_F,w0,w1,w2,hN']
    exact wd_toksF N' len ok0 ok1 ok2
   ·rw[wd_modF len (numC (Int.ofNat nA)) (numC lo) (numC hi),i0,i1,i2]
 obtain⟨σ2,g2,f2⟩:=hNu σ1 lo f1.tidy ilo
 obtain⟨σ3,g3,f3⟩:=hNu σ2 hi f2.tidy ihi
 have pA:BS.mk 39 1051780610242351417963574433689884316989394642439178806028950380103244850973357568757992792141=ofN wdPre:=by decide +kernel
 have pB:BS.mk 12 12418474531094010924745377359=ofN wdOf:=by decide +kernel
 have pd:BS.mk 2 11822=ofN [46,46]:=by decide +kernel
 have pe:BS.mk 5 293370929193=ofN ubPost:=by decide +kernel
 have q1:∀κ:BS→Ans,catK (BS.mk 39 1051780610242351417963574433689884316989394642439178806028950380103244850973357568757992792141) (ofN sz) κ=κ (ofN (wdPre++sz)):=fun κ=>by
  rw[pA];exact catK_ofN hpre hsz (by omega) κ
 have q2:∀κ:BS→Ans,catK (ofN (wdPre++sz)) (BS.mk 12 12418474531094010924745377359) κ=κ (ofN ((wdPre++sz)++wdOf)):=fun κ=>by
  rw[pB];exact catK_ofN (app hpre hsz) hof (by rw[List.length_append];omega) κ
 have q3:∀κ:BS→Ans,catK (ofN ((wdPre++sz)++wdOf)) (ofN (numC lo)) κ=κ (ofN (((wdPre++sz)++wdOf)++numC lo)):=fun κ=>catK_ofN (app (app hpre hsz) hof) lt1 (by simp only[List.length_append];omega) κ
 have q4:∀κ:BS→Ans,catK (ofN (((wdPre++sz)++wdOf)++numC lo)) (BS.mk 2 11822) κ=κ (ofN ((((wdPre++sz)++wdOf)++numC lo)++[46,46])):=fun κ=>by
  rw[pd];exact catK_ofN (app (app (app hpre hsz) hof) lt1) h46 (by simp only[List.length_append,List.length_cons,List.length_nil];omega) κ
 have q5:∀κ:BS→Ans,catK (ofN ((((wdPre++sz)++wdOf)++numC lo)++[46,46])) (ofN (numC hi)) κ=κ (ofN (((((wdPre++sz)++wdOf)++numC lo)++[46,46])++numC hi)):=fun κ=>catK_ofN (app (app (app (app hpre hsz) hof) lt1) h46) lt2 (by simp only[List.length_append,List.length_cons,List.length_nil];omega) κ
 obtain⟨tx,htx⟩:∃tx,tx=((((wdPre++sz)++wdOf)++numC lo)++[46,46])++numC hi++ubPost:=⟨_,rfl⟩
 have q6:∀κ:BS→Ans,catK (ofN (((((wdPre++sz)++wdOf)++numC lo)++[46,46])++numC hi)) (BS.mk 5 293370929193) κ=κ (ofN tx):=fun κ=>by
  rw[pe,catK_ofN (app (app (app (app (app hpre hsz) hof) lt1) h46) lt2) hpost (by simp only[List.length_append,List.length_cons,List.length_nil];omega) κ,htx]
 have hall:∀c∈tx,c<256:=by rw[htx];exact app (app (app (app (app (app hpre hsz) hof) lt1) h46) lt2) hpost
 have hlen:(ofN tx).len≤3000:=by
  rw[ofN_len,htx];simp only[List.length_append,List.length_cons,List.length_nil];omega
 obtain⟨ts,tk,hmod⟩:=htk (ofN tx).len
 rw[←htx]at tk
 have tk:Tks N (ofN tx).len (ofN tx).nats ts:=by rw[ofN_nats hall];exact tk
 have hc:ltF hi lo=false:=by rw[ltF_eq];exact decide_eq_false (by omega)
 obtain⟨u,rv,lv,σ4,g4,s4,f4⟩:=hTb σ3 _ _ _ _ _ f3.tidy hlen tk hmod (wd_ok fx (Int.ofNat nA) lo hi) (wd_roots (fx:=fx) (n:=Int.ofNat nA) hc (by simp only[Int.ofNat_eq_natCast];omega) (by simp only[Int.ofNat_eq_natCast];omega))
 have i0:(wdM fx (Int.ofNat nA) lo hi).nm=[77]:=rfl
 obtain⟨o1,o2,o3⟩:=s4.one4
 obtain⟨σ5,e6,f5,a5,n5⟩:=mk_new f4.tidy [.str (BS.mk 0 0),.nils,.nils,.nils]
 obtain⟨σ6,e7,f6,a6⟩:=mk_set f5.tidy a5 (tbC [77] u rv lv)
 have ho:allOne (tbC [77] u rv lv)=true:=by
  unfold tbC
  simp only[allOne_cons,allOne_nil,one_str,o1,o2,o3,Bool.and_true]
 have st6:∀κ:H→Ans,stK 4 σ4.next 0 (.agg (tbC [77] u rv lv)) σ5 κ=κ σ6:=fun κ=>by
  rw[stK_at a5 (by rw[cells_agg,ho];rfl),cells_agg]
  show κ (setF σ5 σ4.next (.cells (tbC [77] u rv lv)))=_
  rw[e7]
 obtain⟨σ7,e8,f7,a7,n7⟩:=mk_new f6.tidy [.int .i64 (Int.ofNat 0),.int .i64 (Int.ofNat 0),.nils,.nils,.int .i64 (Int.ofNat 0),.nils]
 obtain⟨σ8,e9,f8,a8⟩:=mk_set f7.tidy a7 (lvC .nils)
 have st8:∀κ:H→Ans,stK 6 σ6.next 0 (.agg (lvC .nils)) σ7 κ=κ σ8:=fun κ=>by
  rw[stK_at a7 rfl]
  show κ (setF σ7 σ6.next (.cells (lvC .nils)))=_
  rw[e9]
 have l01:=f1.le
 have l12:=f2.le
 have l23:=f3.le
 have l34:=f4.le
 have l45:=f5.le
 have l56:=f6.le
 have l67:=f7.le
 have l78:=f8.le
 have f46:Fr Nowhere σ4 σ6:=f5.trans f6 (fun b hb e=>by omega)
 have f68:Fr Nowhere σ6 σ8:=f7.trans f8 (fun b hb e=>by omega)
 have f48:Fr Nowhere σ4 σ8:=f46.trans f68 (fun _ _ h=>h)
 have f04:Fr Nowhere σ σ4:=((f1.trans f2 (fun _ _ h=>h)).trans f3 (fun _ _ h=>h)).trans f4 (fun _ _ h=>h)
 have f08:Fr Nowhere σ σ8:=f04.trans f48 (fun _ _ h=>h)
 have a68:=f68.at_ a6 f6.tidy (fun h=>h)
 have l6:=a6.lt f6.tidy
 have l8:=a8.lt f8.tidy
 have st0:LwS σ8 σ8 σ4.next σ6.next (tbC [77] u rv lv) .nils 0 (flatR 0 fun k=>(Vc.int (lo+(wdR (f k) n:Nat))).c):=
  ⟨a68,a8,Dst.nil _ _,fun h=>h,fun _ h=>h.elim,Fr.refl f8.tidy⟩
 obtain⟨l,σ9,g9,s9⟩:=law3_L (E:=E) (D:=D) (v10:=Int.ofNat ah) (ok:=decide ([tyL fx (Int.ofNat nA),mkTy (ubNd lo hi)].length≤120)) (K:=J3_2 E D (drawW E D) N) f8.tidy hv (by omega) (by rw[f08.same 50 (by omega) (fun h=>h)];exact n50) (by omega) (by omega) (by omega) (by omega) (by omega) (by omega) (by omega) (by omega) nA N 0 .nils σ8 (by omega) (by omega) st0
 have le9:=s9.f.le
 have f49:Fr (fun b=>b=σ6.next∨σ8.next≤b) σ4 σ9:=(f48.mono (fun _ _ h=>h.elim):Fr (fun b=>b=σ6.next∨σ8.next≤b) σ4 σ8).trans s9.f (fun _ _ e=>e)
 have t9:TbS σ3.next σ9 [[65]] [0] [tyL fx (Int.ofNat nA),mkTy (ubNd lo hi)] u rv lv:=s4.fr f49 f4.tidy (fun b h1 h2 e=>by
  rcases e with e|e<;>omega)
 have row9:=Dst.rowR (h:=s9.d) (g:=fun k=>(Vc.int (lo+(wdR (f k) n:Nat))).c) (fun k=>rfl)
 have hin:∀k,k<nA→InN lo hi (lo+(wdR (f k) n:Nat)) (wdR (f k) n) n:=fun k hk=>by
  have:=wdR_le (f k) n
  exact⟨by rw[leF_eq];exact decide_eq_true (by omega),by rw[leF_eq];exact decide_eq_true (by omega),hc,subu (by omega) (by omega) (by omega) (by omega) (by omega),subu (by omega) (by omega) (by omega) (by omega) (by omega),this,by omega⟩
 have lone:l.one=true:=s9.d.one
 obtain⟨bv,σ10,g10,n10,f10⟩:=hE lone (nm:=ofN [77]) s9.f.tidy t9 row9 hin (by omega) (by omega)
 have g11:=hW σ10 n (by omega)
 obtain⟨σ12,g12,f12⟩:=hA σ10 f10.tidy
 refine⟨σ12,?_⟩
 rw[g0]
 show T3_1 E D (drawW E D) (L3_3 E D (drawW E D) N N) lo (Int.ofNat n) v2 (ofN sz) (Int.ofNat ah) σ1=_
 rw[i0]at g4
 unfold tbC at g4 st6
 unfold lvC at st8
 have dl:decide ([tyL fx (Int.ofNat nA),mkTy (ubNd lo hi)].length≤120)=true:=rfl
 rw[dl]at g4 g9
 have c1:∀K,T3_1 E D (drawW E D) K lo (Int.ofNat n) v2 (ofN sz) (Int.ofNat ah) σ1=K lo (Int.ofNat n) v2 (Int.ofNat ah) σ4.next 0 true σ6.next 0 (Int.ofNat 0) σ8:=by
  intro K
  unfold T3_1
  simp -implicitDefEqProofs only [↓rP,rA,Nat.reduceEqDiff,Nat.reduceLT,Nat.reduceLeDiff,↓q1,↓q2,↓g2,↓q3,↓q4,e5,↓g3,↓q5,↓q6,↓g4,o1,o2,o3,↓e6,↓st6,↓e8,↓st8]
 rw[c1]
 refine Eq.trans (show L3_3 E D (drawW E D) N N lo (Int.ofNat n) v2 (Int.ofNat ah) σ4.next 0 true σ6.next 0 (Int.ofNat 0) σ8=_ from g9) ?_
 show T3_2 E D (drawW E D) (Int.ofNat n) v2 (Int.ofNat ah) σ4.next 0 true σ6.next 0 σ9=_
 have at9:=s9.t
 have aq9:=s9.q
 unfold tbC at at9
 unfold lvC at aq9
 have ewn:wrapF .u64 (Int.ofNat n)=Int.ofNat n:=wrapF_nat (show n≤18446744073709551615 by omega)
 have w13:widN 60 n≤13:=widN_small 60 13 n (by omega)
 have hprod:nA*widN 60 n≤60*13:=Nat.mul_le_mul (by omega) w13
 have hah8:ah≤8:=by rw[hah];cases fx<;>decide
 have m1':mulF .i64 (Int.ofNat nA) (Int.ofNat (widN 60 n))=Int.ofNat (nA*widN 60 n):=by
  show wrapF .i64 (Int.ofNat nA*Int.ofNat (widN 60 n))=_
  exact wrapF_nat (show nA*widN 60 n≤9223372036854775807 by omega)
 have a1':addF .i64 (Int.ofNat ah) (Int.ofNat (nA*widN 60 n))=Int.ofNat (ah+nA*widN 60 n):=addF_nat (by omega)
 have a2':addF .i64 (Int.ofNat (ah+nA*widN 60 n)) (Int.ofNat 7)=Int.ofNat (ah+nA*widN 60 n+7):=addF_nat (by omega)
 have dv:quoF .i64 (Int.ofNat (ah+nA*widN 60 n+7)) (Int.ofNat 8)=Int.ofNat ((ah+nA*widN 60 n+7) / 8):=by
  show wrapF .i64 (Int.ofNat ((ah+nA*widN 60 n+7) / 8))=_
  exact wrapF_nat (show (ah+nA*widN 60 n+7) / 8≤9223372036854775807 by omega)
 have mx:maxF (Int.ofNat 1) (Int.ofNat ((ah+nA*widN 60 n+7) / 8))=Int.ofNat (max 1 ((ah+nA*widN 60 n+7) / 8)):=maxF_max _ _
 have bl:∀κ:Nat→Ans,slenK bv κ=κ (max 1 ((ah+nA*widN 60 n+7) / 8)):=fun κ=>by
  rw[n10.by_.slen,nI_length,padB_len,lstZ_len,hah]
  cases fx<;>rfl
 have bo:=n10.1.one
 unfold Vc.c Vc.lst at g10
 simp only[]at g10
 unfold T3_2
 simp -implicitDefEqProofs only [↓rP,rA,Nat.reduceEqDiff,Nat.reduceLT,Nat.reduceLeDiff,↓ldnK_is at9,↓ldnK_is aq9,↓g10,↓sl,ewn,↓g11,↓g12,↓bl,m1',a1',a2',dv,mx]
end
theorem uw_law {E:List (Nat × Blk)} (a b:Int) {v2:V} {nA:Nat} {f:Nat→Int} (hv:ArgW E v2 nA f) (fx:Bool):okB (F3 E (TW E 59) (drawW E (TW E 59)) 600000 [.int .i64 a,.int .i64 b,v2,.bool fx] ⟨100,[]⟩)=true:=by
 have ht:Tidy ⟨100,[]⟩:=fun _ _=>rfl
 obtain⟨σ',h⟩:=law3_F (E:=E) (D:=TW E 59) (N:=600000) (xDigits 39) (xNumber 38) (xTable 38) (xWid 58) (xAwk 58) (xEncT E 47) (by decide) ht rfl (Nat.le_refl _) a b hv fx
 rw[h];rfl
end
end Go.Proofs.YtgjjnbddbbhloaaGreatDoor
set_option maxHeartbeats 0
namespace Go.Proofs.YtgjjnbddbbhloaaGreatDoor.uperWidths
open Go
theorem k_inPlace:(Rows.uperWidthsRow.inPlace==Tryz.pinned.checked.prog.inPlace 3)=true:=by kernel_rfl
theorem k_unfollowed:(Rows.uperWidthsRow.unfollowed==Tryz.pinned.checked.prog.unfollowed 3)=true:=by kernel_rfl
theorem k_recurses:(Rows.uperWidthsRow.recurses==Tryz.pinned.checked.prog.recurses 3)=true:=by kernel_rfl
theorem k_varsNamed:(Rows.uperWidthsRow.named==Tryz.pinned.checked.prog.varsNamed 3)=true:=by kernel_rfl
end Go.Proofs.YtgjjnbddbbhloaaGreatDoor.uperWidths
