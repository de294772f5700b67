/- What the last text leans on, part 6 of 7: merged out of smaller texts. No condition. -/
import Derived.Test.YtgjjnbddbbhloaaGreatDoorQ4
set_option linter.all false
set_option maxRecDepth 100000
namespace Go.Proofs.YtgjjnbddbbhloaaGreatDoor
open Go Go.Og
noncomputable section
def markP (l:List Tok):Option ((Bool × Int × Nat) × List Tok):=match isP (BS.mk 1 91) l with
 | (false,l1)=>some ((false,0,0),l1)
 | (true,_)=>none
def nodeM (m:Bool × Int × Nat):NodeS:={ nodeZ with mHas:=m.1,mNum:=m.2.1,mMode:=m.2.2 }
def typS (T:TypT):TypT:=fun d l ns=>match l with
 | []=>none
 | t::l0=>match begB t&&(decide (d≤16)&&decide (ns.length<300))with
  | true=>(markP (t::l0)).bind fun m=>(baseP T d (nodeM m.1) m.2 (ns++[nodeZ])).map fun s=>(ns.length,s.2.1,s.2.2.set ns.length s.1)
  | false=>none
def typP:Nat→TypT
 | 0=>fun _ _ _=>none
 | q+1=>typS (typP q)
def MonT (T:TypT):Prop:=∀{d:Nat} {l:List Tok} {ns:List NodeS} {i:Nat} {l':List Tok} {ns':List NodeS},T d l ns=some (i,l',ns')→ns.length≤ns'.length
section
variable {T:TypT} {d:Nat} {nd nd':NodeS} {l l':List Tok} {ns ns':List NodeS}
theorem baseP_mon (hT:MonT T) (hs:baseP T d nd l ns=some (nd',l',ns')):ns.length≤ns'.length:=by
 unfold baseP at hs
 split at hs
 ·cases hs
 split at hs
 ·cases hs
 split at hs
 ·cases hs
 split at hs
 ·split at hs
  ·obtain⟨_,_,hs⟩:=Option.bind_eq_some_iff.1 hs
   obtain⟨_,_,he⟩:=Option.map_eq_some_iff.1 hs
   cases he;exact Nat.le_refl _
  ·cases hs;exact Nat.le_refl _
 ·cases hs
theorem typS_mon (hT:MonT T):MonT (typS T):=by
 intro d l ns i l' ns' hs
 cases l with
 | nil=>cases hs
 | cons t l0=>
  unfold typS at hs
  dsimp only at hs
  split at hs
  ·obtain⟨_,_,hs⟩:=Option.bind_eq_some_iff.1 hs
   obtain⟨⟨nd,lb,nsb⟩,hb,he⟩:=Option.map_eq_some_iff.1 hs
   cases he
   have:=baseP_mon hT hb
   rw[List.length_append,List.length_cons,List.length_nil]at this
   show ns.length≤(nsb.set ns.length nd).length
   rw[List.length_set];omega
  ·cases hs
theorem typP_mon:∀q,MonT (typP q)
 | 0=>fun hs=>by cases hs
 | q+1=>typS_mon (typP_mon q)
end
def zC:List V:=[.int .i64 (Int.ofNat 0),.str (BS.mk 0 0),.bool false,.int .i64 (Int.ofNat 0),.int .i64 (Int.ofNat 0),.bool false,.bool false,.bool false,.bool false,.int .i64 (Int.ofNat 0),.int .i64 (Int.ofNat 0),.nils,.nils,.int .i64 (Int.ofNat 0),.bool false,.int .i64 (Int.ofNat 0)]
section
variable {E:List (Nat × Blk)} {σ σ':H} {nb:Nat} {nd:NodeS} {iv fv:V} {xb:Nat} {lv dv dv':V} {ts l l':List Tok} {R:Rs} {ns:List NodeS} {Q Q':Nat→Prop}
theorem Pn.push (h:Pn σ xb lv ts l R ns Q) (hQ:∀b,Q b→b<σ.next) (hl:ns.length<300):∃u σ1 σ2 σ3,newB σ (.cells zC)=σ1∧(∀κ:V→H→Ans,appK E 16 144 R.dv (.sl σ.next 0 1 (.ex 1)) σ1 κ=κ u σ2)∧u.one=true∧(∀κ:H→Ans,stK 1 xb 6 u σ2 κ=κ σ3) ∧
  Pn σ3 xb lv ts l (R.wd u) (ns++[nodeZ]) Q∧Fr (PB xb R.dv) σ σ3∧(∀b,Names u b→Names R.dv b∨σ.next≤b):=by
 obtain⟨ws,k1,k2,k3⟩:=h.w
 obtain⟨a,ha,hl'⟩:=h.p.ex
 obtain⟨σ1,e1,f1,a1,n1⟩:=mkN h.p.ht zC
 have xs:Src σ1 16 1 (V.sl σ.next 0 1 (.ex 1)) zC := .inr ⟨_,_,_,_,rfl,a1,Nat.le_refl _,rfl⟩
 obtain⟨u,σ2,g2,d2,m2,f2⟩:=app_all (E:=E) (bytes:=144) (k1.fr f1 h.p.ht (fun _ _ h=>h)) f1.tidy xs rfl (by unfold growable;simp only[Bool.and_eq_true,Nat.ble_eq];omega)
 have le1:=f1.le
 have le2:=f2.le
 have hx:=h.p.lt
 have ha2:=f2.at_ (f1.at_ ha h.p.ht (fun h=>h)) f1.tidy (fun e=>(h.dx xb e).1 rfl)
 obtain⟨σ3,g3,f3,a3⟩:=stz (off:=6) f2.tidy ha2 d2.one (show 6<9 by decide)
 have a3:Atc σ3 xb (pc lv a (R.wd u)):=a3
 have mu:∀b,Names u b→Names R.dv b∨σ.next≤b:=fun b hb=>(m2 b hb).imp id fun h=>by omega
 have ux:∀b,Names u b→b≠xb:=fun b hb=>(mu b hb).elim (fun e=>(h.dx b e).1) (fun e=>by omega)
 have f13:Fr (PB xb R.dv) σ σ3:=((f1.mono (fun _ _ h=>h.elim):Fr (PB xb R.dv) σ σ1).trans f2 (fun _ _ e => .inr e)).trans f3 (fun _ _ e => .inl e)
 refine⟨u,σ1,σ2,σ3,e1,g2,d2.one,g3,⟨⟨⟨a,a3,hl'⟩,h.p.src.fr f13 h.p.ht (fun b hb e=>e.elim (h.p.nx b hb) (fun e=>(h.dx b e).2 hb)),h.p.ne,h.p.nx,h.p.ok,f13.tidy⟩,⟨ws++[(.nils,.nils)],?_,by simp[k2],fun k nd w hn hw=>?_⟩,fun b hb=>⟨ux b hb,fun hn=>(mu b hb).elim (fun e=>(h.dx b e).2 hn) (fun e=>by have:=h.llt hn;omega)⟩⟩,f13,mu⟩
 ·rw[List.length_append,List.length_cons,List.length_nil,ndCs_app _ _ _ _ k2]
  exact d2.fr f3 f2.tidy (fun b hb e=>ux b hb e)
 ·rcases Nat.lt_or_ge k ns.length with hk|hk
  ·rw[List.getElem?_append_left hk]at hn
   rw[List.getElem?_append_left (by omega)]at hw
   have hN:=k3 k nd w hn hw
   exact⟨hN.1.fr f13 h.p.ht fun b hb e=>e.elim (hN.2.2 b (.inl hb)).1 (hN.2.2 b (.inl hb)).2.1,hN.2.1.fr f13 h.p.ht fun b hb e=>e.elim (hN.2.2 b (.inr hb)).1 (hN.2.2 b (.inr hb)).2.1,fun b hb=>⟨(hN.2.2 b hb).1,fun hu=>(mu b hu).elim (hN.2.2 b hb).2.1 (fun e=>by have:=hN.lt h.p.ht hb;omega),(hN.2.2 b hb).2.2⟩⟩
  ·rw[List.getElem?_append_right hk]at hn
   rw[List.getElem?_append_right (by omega),k2]at hw
   obtain⟨j,hj⟩:∃j,k-ns.length=j:=⟨_,rfl⟩
   rw[hj]at hn hw
   cases j with
   | succ j=>simp at hn
   | zero=>
    cases hn
    cases hw
    exact⟨.inl ⟨rfl,rfl,rfl⟩,.inl ⟨rfl,rfl,rfl⟩,fun b hb=>hb.elim (fun h=>h.elim) (fun h=>h.elim)⟩
theorem Pn.put (h:Pn σ xb lv ts l R ns (fun b=>Q b∨LB nb iv fv b)) (q:Nq σ nb nd iv fv) (ap:Aq xb lv R.dv nb iv fv) (hq:∀b,Names iv b∨Names fv b→¬Q b) {i:Nat} (hi:i<ns.length) :
    ∃b σ',(∀κ:Nat→Nat→Ans,iaddrSK 16 R.dv (Int.ofNat i) κ=κ b (i*16))∧(∀κ:H→Ans,stK 16 b (i*16) (.agg (nd.c iv fv)) σ κ=κ σ')∧Pn σ' xb lv ts l R (ns.set i nd) Q∧Fr (Names R.dv) σ σ':=by
  obtain⟨ws,k1,k2,k3⟩:=h.w
  have hlen:=ndCs_len ns ws k2
  obtain⟨b,cp,hdv,hb⟩:∃b cp,R.dv = .sl b 0 ns.length cp∧Atc σ b (ndCs ns ws):=by
    rcases k1 with (⟨h0,_⟩|⟨b,hv,ha,_⟩)|⟨b,hv,ha,_⟩
    · omega
    · exact⟨b,_,hv,ha⟩
    · exact⟨b,_,hv,ha⟩
  obtain⟨σ',e,f,a⟩:=mkS h.p.ht hb (ndCs (ns.set i nd) (ws.set i (iv,fv)))
  have nmb:∀x,Names R.dv x↔x=b:=fun x=>by rw[hdv];exact Iff.rfl
  have f':Fr (Names R.dv) σ σ':=f.mono fun x _ e=>(nmb x).2 e
  have ho:allOne (nd.c iv fv)=true:=by
    unfold NodeS.c
    simp only[allOne_cons,allOne_nil,one_int,one_str,one_bool,q.i.one,q.f.one,Bool.and_true]
  have hl16:i*16+16≤(ndCs ns ws).length:=by rw[hlen];omega
  refine⟨b,σ',fun κ=>?_,fun κ=>?_,⟨h.p.fr f' (fun e=>(h.dx xb e).1 rfl) (fun x hx e=>(h.dx x e).2 hx),⟨ws.set i (iv,fv),?_,by rw[List.length_set,List.length_set,k2],fun k nd1 w hn hw=>?_⟩,h.dx⟩,f'⟩
  · rw[hdv,iaddrSK_lt hi]
    show κ b (0+i*16)=_
    rw[Nat.zero_add]
  · rw[stK_at hb (by
      rw[cells_agg,ho,ndC_len]
      simp only[Nat.beq_refl,Bool.true_and,Bool.and_true,Nat.ble_eq];exact hl16),cells_agg,ndCs_set ns ws i nd (iv,fv) k2 hi,e]
  · rw[List.length_set]
    rcases k1 with (⟨h0,_⟩|⟨b',hv,ha,h0,hl⟩)|⟨b',hv,ha,hl⟩
    · omega
    · have:b'=b:=by rw[hdv]at hv;cases hv;rfl
      subst this
      exact .inl (.inr ⟨b',hv,a,h0,by rw[ndCs_len _ _ (by rw[List.length_set,List.length_set,k2]),List.length_set]⟩)
    · have:b'=b:=by rw[hdv]at hv;cases hv;rfl
      subst this
      exact .inr ⟨b',hv,a,by rw[ndCs_len _ _ (by rw[List.length_set,List.length_set,k2]),List.length_set]⟩
  · by_cases hk:i=k
    · subst hk
      rw[List.getElem?_set_self hi]at hn
      rw[List.getElem?_set_self (by omega)]at hw
      cases hn
      cases hw
      exact⟨q.i.src.fr f' h.p.ht (fun x hx e=>ap.i x hx e),q.f.src.fr f' h.p.ht (fun x hx e=>ap.f x hx e),fun x hx=>⟨hx.elim (fun e=>(ap.a.i x e).1) (fun e=>(ap.a.f x e).1),hx.elim (ap.i x) (ap.f x),hq x hx⟩⟩
    · rw[List.getElem?_set_ne hk]at hn hw
      have hN:=k3 k nd1 w hn hw
      exact⟨hN.1.fr f' h.p.ht fun x hb e=>(hN.2.2 x (.inl hb)).2.1 e,hN.2.1.fr f' h.p.ht fun x hb e=>(hN.2.2 x (.inr hb)).2.1 e,fun x hx=>⟨(hN.2.2 x hx).1,(hN.2.2 x hx).2.1,fun e=>(hN.2.2 x hx).2.2 (.inl e)⟩⟩
end
section
variable {E:List (Nat × Blk)} {D:Den} {W:DrawFn} {N:Nat}
theorem subK_16 {a b c d e f g h i j k l m n o p:V} {κ:List V→Ans}:subK [a,b,c,d,e,f,g,h,i,j,k,l,m,n,o,p] 0 16 κ=κ [a,b,c,d,e,f,g,h,i,j,k,l,m,n,o,p]:=rfl
theorem typ_F {T:TypT} (hMon:MonT T) (hNow:SpNow (D 60)) (hBe:SpBeg (D 120)) (hI:SpIs (D 59)) (hM:SpMust (D 58)) (hN:SpNumb (D 121)) (hB:SpBaseT T (D 122)):SpTypT (typS T) (F62 E D W N):=by
 intro σ xb lv ts l l' R ns ns' Q d i h hQ hd hs
 cases l with
 | nil=>cases hs
 | cons t l0=>
 replace hs:(match begB t&&(decide (d≤16)&&decide (ns.length<300))with
  | true=>(markP (t::l0)).bind fun m=>(baseP T d (nodeM m.1) m.2 (ns++[nodeZ])).map fun s=>(ns.length,s.2.1,s.2.2.set ns.length s.1)
  | false=>none:Option (Nat × List Tok × List NodeS))=some (i,l',ns'):=hs
 cases hb:begB t&&(decide (d≤16)&&decide (ns.length<300))with
 | false=>rw[hb]at hs;cases hs
 | true=>
 rw[hb]at hs
 simp only[Bool.and_eq_true,decide_eq_true_eq]at hb
 obtain⟨hb,hd16,hl⟩:=hb
 obtain⟨⟨m,lm⟩,hm,hs⟩:=Option.bind_eq_some_iff.1 hs
 obtain⟨⟨nd,lb,nsb⟩,hbase,he⟩:=Option.map_eq_some_iff.1 hs
 cases he
 have gn:=hNow h.p
 obtain⟨σ1,g1,f1⟩:=hBe σ t h.p.ht
 rw[hb]at g1
 have le1:=f1.le
 have h1:=h.fr f1 (fun h=>h) (fun _ _ h=>h) (fun _ _ h=>h) (fun _ _ h=>h.elim)
 obtain⟨a,ha,_⟩:=h.p.ex
 obtain⟨a1,ha1,_⟩:=h1.p.ex
 unfold pc at ha ha1
 have hQ1:∀b,Q b→b<σ1.next:=fun b hb=>by have:=hQ b hb;omega
 obtain⟨u,σ2,σ3,σ4,e2,g3,uo,g4,h4,f14,mu⟩:=h1.push (E:=E) hQ1 hl
 obtain⟨σ5,e5,f5,a5,n5⟩:=mkN h4.p.ht zC
 obtain⟨σ6,e6,f6,a6⟩:=mkS f5.tidy a5 zC
 have s6:∀κ:H→Ans,stK 16 σ4.next 0 (.agg zC) σ5 κ=κ σ6:=fun κ=>by
  rw[stK_at a5 rfl]
  show κ (setF σ5 σ4.next (.cells zC))=_
  rw[e6]
 have f46:Fr Nowhere σ4 σ6:=f5.trans f6 (fun b hb e=>by omega)
 have le14:=f14.le
 have le46:=f46.le
 have q6:Nq σ6 σ4.next nodeZ .nils .nils:=⟨a6,Dst.nil _ _,Dst.nil _ _,fun h=>h,fun h=>h,fun _ h=>h.elim⟩
 have lx4:=h4.p.lt
 have ap6:Aq xb lv u σ4.next .nils .nils:=⟨⟨by omega,fun hn=>by have:=h4.llt hn;omega,fun _ h=>h.elim,fun _ h=>h.elim⟩,fun hn=>by have:=h4.dlt (R:=R.wd u) hn;omega,fun _ h=>h.elim,fun _ h=>h.elim⟩
 have h6:Pn σ6 xb lv ts (t::l0) (R.wd u) (ns++[nodeZ]) (fun b=>Q b∨LB σ4.next .nils .nils b):=(h4.ext (Q':=fun b=>Q b∨LB σ4.next .nils .nils b) fun b hb=>by
  rcases hb with hb|hb|hb|hb
  ·exact .inl hb
  ·exact .inr (by omega)
  ·exact hb.elim
  ·exact hb.elim).fr f46 (fun h=>h) (fun _ _ h=>h) (fun _ _ h=>h) (fun _ _ h=>h.elim)
 have s0:FldSt σ6 σ6 xb lv ts (t::l0) (R.wd u) (ns++[nodeZ]) Q σ4.next nodeZ .nils .nils .nils u:=⟨h6,q6,ap6,fun _ h => .inl h,fun _ h => .inl h,Fr.refl h6.p.ht⟩
 obtain⟨σ7,s7,k7⟩:∃σ7,FldSt σ6 σ7 xb lv ts lm (R.wd u) (ns++[nodeZ]) Q σ4.next (nodeM m) .nils .nils .nils u ∧
   ∀K1:Nat→Nat→Int→Int→Nat→Nat→H→Ans,T62_0 E D W K1 (T62_2 E D W K1) xb 0 (Int.ofNat d) σ=K1 xb 0 (Int.ofNat d) (Int.ofNat ns.length) σ4.next 0 σ7:=by
  obtain⟨σ7,g7,p7,f7⟩:=hI (BS.mk 1 91) s0.p.p
  have s7:=s0.trans (FldSt.go s0.p s0.q s0.ap p7 f7)
  obtain⟨ws,k1,k2,k3⟩:=h1.w
  have sd:∀κ:Nat→Ans,slenK R.dv κ=κ ns.length:=fun κ=>k1.slen
  have d16:decide (16<d)=false:=decide_eq_false (by omega)
  have d300:decide (300≤ns.length)=false:=decide_eq_false (by omega)
  unfold tokC at gn g1
  unfold zC at e2 e5 s6
  have pre:∀K1 K2,T62_0 E D W K1 K2 xb 0 (Int.ofNat d) σ=condK (isP (BS.mk 1 91) (t::l0)).1
    (callK (D 60 [.ptr xb 0] σ7) fun u63 s64=>rtAgg u63 fun l65=>xcI .i64 l65 fun x68 l67=>xcS l67 fun x71 l70=>xcI .i64 l70 fun x74 l73=>rtNil l73 (
     callK (D 121 [.ptr xb 0] s64) fun u75 s76=>rtInt .i64 u75 fun x77=>ldK E s76 xb 7 fun u78=>rtInt .i64 u78 fun x79=>
     joinB (fun c80 s81=>condK c80 (callK (D 61 [.ptr xb 0,.int .i64 (Int.ofNat 12),.agg [.int .i64 x68,.str x71,.int .i64 x74]] s81) fun u83 s84=>rtTup u83 fun l85=>rtNil l85 (K2 xb 0 (Int.ofNat d) (Int.ofNat ns.length) σ4.next 0 x77 s84)) (K2 xb 0 (Int.ofNat d) (Int.ofNat ns.length) σ4.next 0 x77 s81)) fun k82=>
     condK (eqF x79 (Int.ofNat 0)) (joinB (fun c86 s87=>k82 c86 s87) fun k88=>condK (ltF x77 (Int.ofNat 0)) (k88 true s76) (k88 (ltF (Int.ofNat 268435456) x77) s76)) (k82 false s76)))
    (K1 xb 0 (Int.ofNat d) (Int.ofNat ns.length) σ4.next 0 σ7):=by
   intro K1 K2
   unfold T62_0
   simp -implicitDefEqProofs only [↓rP,rA,Nat.reduceEqDiff,Nat.reduceLT,Nat.reduceLeDiff,↓ldK_is ha,↓gn,↓g1,d16,↓ldK_is ha1,↓sd,d300,↓e2,↓g3,↓rtOne_of uo,↓g4,↓e5,↓s6,↓g7]
  unfold markP at hm
  cases hq:isP (BS.mk 1 91) (t::l0)with
  | mk b l1=>
   rw[hq]at hm g7 s7 pre p7
   cases b with
   | false=>
    cases hm
    refine⟨σ7,s7,fun K1=>?_⟩
    rw[pre];rfl
   | true=>cases hm
 have le7:=s7.f.le
 obtain⟨dv',iv',fv',σ8,g8,b8⟩:=hB s7.p (fun b hb=>by have:=hQ1 b hb;omega) s7.q s7.ap rfl rfl (by omega) hbase
 have hlen:ns.length<nsb.length:=by
  have:=baseP_mon hMon hbase
  rw[List.length_append,List.length_cons,List.length_nil]at this;omega
 have fr7:∀b,b<σ.next→(PB xb u b∨LB σ4.next .nils .nils b)→PB xb R.dv b:=fun b hb e=>by
  rcases e with (e|e)|e|e|e
  ·exact .inl e
  ·exact(mu b e).elim .inr (fun h=>by omega)
  ·omega
  ·exact e.elim
  ·exact e.elim
 have mdv:∀b,Names dv' b→Names R.dv b∨σ.next≤b:=fun b hb=>by
  rcases b8.md b hb with h|h
  ·exact(mu b h).imp id (fun h=>by omega)
  ·exact .inr (by omega)
 obtain⟨bb,σ9,ia,s9,p9,f9⟩:=b8.p.put b8.q b8.ap (fun b hb hq=>by
  have:=hQ b hq
  rcases hb with hb|hb
  ·exact(b8.mi b hb).elim (fun h=>h.elim) (fun h=>by omega)
  ·exact(b8.mf b hb).elim (fun h=>h.elim) (fun h=>by omega)) hlen
 refine⟨dv',σ9,?_,p9,(((((f1.mono (fun _ _ h=>h.elim):Fr (PB xb R.dv) σ σ1).trans f14 (fun _ _ e=>e)).trans f46 (fun _ _ e=>e.elim)).trans s7.f (fun b hb e=>fr7 b hb (e.imp id (fun e=>e.elim .inl fun e=>e.elim)))).trans b8.f (fun b hb e=>fr7 b hb e)).trans f9 (fun b hb e=>(mdv b e).elim .inr (fun h=>by omega)),mdv⟩
 obtain⟨a8,ha8,_⟩:=b8.p.p.ex
 unfold pc at ha8
 have qa:=b8.q.a
 unfold NodeS.c at qa s9
 have g8':D 122 [.ptr xb 0,.ptr σ4.next 0,.int .i64 (Int.ofNat d)] σ7=some (.tup [],σ8):=g8
 show T62_0 E D W (T62_1 E D W) (T62_2 E D W (T62_1 E D W)) xb 0 (Int.ofNat d) σ=_
 rw[k7]
 have ia':∀κ:Nat→Nat→Ans,iaddrSK 16 (((R.wd u).wd u).wd dv').dv (Int.ofNat ns.length) κ=κ bb (ns.length*16):=ia
 unfold T62_1
 simp -implicitDefEqProofs only [↓rP,rA,Nat.reduceEqDiff,Nat.reduceLT,Nat.reduceLeDiff,↓g8',↓ldK_is ha8,↓ldnK_is qa,subK_16,↓ia',↓s9]
end
structure ModS where
 nm:List Nat
 tg:Nat
 az:List (List Nat)
 ks:List Nat
 ns:List NodeS
def stC (az:List (List Nat)):List V:=az.map fun w => .str (ofN w)
def ksC (ks:List Nat):List V:=ks.map fun k => .int .i64 (Int.ofNat k)
def tagP (l:List Tok):Option (Nat × List Tok):=match isP (BS.mk 8 6073459554577832005) l with
 | (true,l1)=>(mustP (BS.mk 4 1397178708) l1).map fun l2=>(0,l2)
 | (false,l1)=>match isP (BS.mk 8 6073459554577829193) l1 with
  | (true,l2)=>(mustP (BS.mk 4 1397178708) l2).map fun l3=>(1,l3)
  | (false,l2)=>match isP (BS.mk 9 1241215773001651606849) l2 with
   | (true,l3)=>(mustP (BS.mk 4 1397178708) l3).map fun l4=>(2,l4)
   | (false,l3)=>some (0,l3)
def asgP (T:TypT):Nat→List (List Nat)→List Nat→List NodeS→List Tok→Option (List (List Nat) × List Nat × List NodeS × List Tok)
 | 0,_,_,_,_=>none
 | n+1,az,ks,ns,l=>match isP (BS.mk 3 4476485) l with
  | (true,l1)=>some (az,ks,ns,l1)
  | (false,l1)=>(kindP 1 l1).bind fun a=>match decide (40≤az.length)with
   | true=>none
   | false=>(mustP (BS.mk 3 4012602) a.2).bind fun l2=>(T 0 l2 ns).bind fun t=>asgP T n (az++[a.1]) (ks++[t.1]) t.2.2 t.2.1
def modP (T:TypT) (ts:List Tok):Option ModS:=
 (kindP 1 ts).bind fun a=>(mustP (BS.mk 11 100710650190388740279911748) a.2).bind fun l1=>(tagP l1).bind fun t=>
  (mustP (BS.mk 3 4012602) t.2).bind fun l2=>(mustP (BS.mk 5 336236856642) l2).bind fun l3=>(asgP T 50 [] [] [] l3).bind fun r=>
   match r.2.2.2 with
   | []=>none
   | e::_=>match decide (e.1=0)with
    | true=>some ⟨a.1,t.1,r.1,r.2.1,r.2.2.1⟩
    | false=>none
structure MdS (σ:H) (m:ModS) (nv tv dv:V):Prop where
 n:Dst σ 1 m.az.length nv (stC m.az)
 t:Src σ 1 m.ks.length tv (ksC m.ks)
 d:∃ws:List (V × V),Src σ 16 m.ns.length dv (ndCs m.ns ws)∧ws.length=m.ns.length∧∀(k:Nat) (nd:NodeS) (u:V × V),m.ns[k]? = some nd→ws[k]? = some u→Src σ 3 nd.items.length u.1 (itC nd.items)∧Src σ 11 nd.fields.length u.2 (fdC nd.fields)
def mdC (m:ModS) (nv tv dv:V):List V:=[.str (ofN m.nm),.int .i64 (Int.ofNat m.tg),nv,tv,dv]
def SpParse (N:Nat) (T:TypT) (F:List V→H→Ans):Prop:=∀(σ:H) (s:BS) (ts:List Tok) (m:ModS),Tidy σ→s.len≤8000→Tks N s.len s.nats ts→modP T ts=some m →
 ∃nv tv dv σ',F [.str s] σ=some (.tup [.agg (mdC m nv tv dv),.int .i64 (Int.ofNat 0),.int .i64 (Int.ofNat 0)],σ')∧MdS σ' m nv tv dv∧Fr Nowhere σ σ'
theorem Tks.fin_ {N len:Nat} {r:List Nat} {ts:List Tok} (h:Tks N len r ts):∃p e,ts=p++[e]∧e.1=0:=by
 induction h with
 | fin _=>exact⟨[],_,rfl,rfl⟩
 | one _ _ _ ih=>
  obtain⟨p,e,rfl,h⟩:=ih
  exact⟨_::p,e,rfl,h⟩
theorem Tk.num_ {r w r':List Nat} {k:Nat} (h:Tk r k w r') (hk:k=3):∃m ds r,w=numT m ds∧NumOk m ds r:=by
 cases h with
 | name _ _ he=>
  exfalso
  split at he
  ·omega
  ·split at he<;>omega
 | num h=>exact⟨_,_,_,rfl,h⟩
 | sign=>cases hk
theorem Tks.num_ {N len:Nat} {r:List Nat} {ts:List Tok} (h:Tks N len r ts):∀t∈ts,t.1=3→∃m ds r,t.2.1=numT m ds∧NumOk m ds r:=by
 induction h with
 | fin _=>
  intro t ht hk
  rw[List.mem_singleton]at ht
  subst ht;cases hk
 | one _ htk _ ih=>
  intro t ht hk
  rcases List.mem_cons.1 ht with rfl|ht
  ·exact htk.num_ hk
  ·exact ih t ht hk
theorem Tks.ok {N:Nat} {s:BS} {ts:List Tok} (h:Tks N s.len s.nats ts) (hs:s.len≤8000):TsOk ts:=by
 have:=h.len
 rw[BS.length_nats]at this
 exact⟨by omega,h.fin_,h.num_⟩
section
variable {σ σ':H} {xb:Nat} {lv:V} {ts l l':List Tok} {R:Rs} {ns:List NodeS} {Q:Nat→Prop}
theorem Pz.set (h:Pz σ xb lv ts l R) {off:Nat} {y:V} (R':Rs) (hy:y.one=true) (ho:off<9) (hc:∀a,spl (pc lv a R) off [y]=pc lv a R') :
  ∃σ',(∀κ:H→Ans,stK 1 xb off y σ κ=κ σ')∧Pz σ' xb lv ts l R'∧Fr (fun k=>k=xb) σ σ':=by
 obtain⟨a,ha,hl⟩:=h.ex
 obtain⟨σ',g,f,a'⟩:=stz h.ht ha hy ho
 rw[hc]at a'
 exact⟨σ',g,⟨⟨a,a',hl⟩,h.src.fr f h.ht (fun b hb e=>h.nx b hb e),h.ne,h.nx,h.ok,f.tidy⟩,f⟩
theorem Pn.set (h:Pn σ xb lv ts l R ns Q) {off:Nat} {y:V} (R':Rs) (hd:R'.dv=R.dv) (hy:y.one=true) (ho:off<9) (hc:∀a,spl (pc lv a R) off [y]=pc lv a R') :
  ∃σ',(∀κ:H→Ans,stK 1 xb off y σ κ=κ σ')∧Pn σ' xb lv ts l R' ns Q∧Fr (fun k=>k=xb) σ σ':=by
 obtain⟨σ',g,p,f⟩:=h.p.set R' hy ho hc
 obtain⟨ws,k1,k2,k3⟩:=h.w
 refine⟨σ',g,⟨p,⟨ws,by rw[hd];exact k1.fr f h.p.ht fun b hb e=>(h.dx b hb).1 e,k2,fun k nd u hn hu=>?_⟩,by rw[hd];exact h.dx⟩,f⟩
 rw[hd]
 obtain⟨a,b,c⟩:=k3 k nd u hn hu
 exact⟨a.fr f h.p.ht fun b hb e=>(c b (.inl hb)).1 e,b.fr f h.p.ht fun b hb e=>(c b (.inr hb)).1 e,c⟩
end
def rzC:List V:=[.str (BS.mk 0 0),.int .i64 (Int.ofNat 0),.nils,.nils,.nils]
structure Pm (σ:H) (xb rb:Nat) (lv:V) (ts l:List Tok) (R:Rs) (ns:List NodeS) (az:List (List Nat)) (ks:List Nat):Prop where
 p:Pn σ xb lv ts l R ns (fun b=>Names R.nv b∨Names R.tv b∨b=rb)
 r:Atc σ rb rzC
 n:Dst σ 1 az.length R.nv (stC az)
 t:Dst σ 1 ks.length R.tv (ksC ks)
 nx:∀b,Names R.nv b→b≠xb∧¬Names lv b∧¬Names R.dv b∧¬Names R.tv b∧b≠rb
 tx:∀b,Names R.tv b→b≠xb∧¬Names lv b∧¬Names R.dv b∧b≠rb
 rx:rb≠xb∧¬Names lv rb∧¬Names R.dv rb
section
variable {E:List (Nat × Blk)} {D:Den} {W:DrawFn} {N:Nat} {σ σ':H} {xb rb:Nat} {lv:V} {ts l l':List Tok} {R:Rs} {ns ns':List NodeS} {az:List (List Nat)} {ks:List Nat}
theorem Pm.go (h:Pm σ xb rb lv ts l R ns az ks) (p:Pz σ' xb lv ts l' R) (f:Fr (fun k=>k=xb) σ σ'):Pm σ' xb rb lv ts l' R ns az ks:=
 ⟨h.p.go p f,f.at_ h.r h.p.p.ht h.rx.1,h.n.fr f h.p.p.ht (fun b hb e=>(h.nx b hb).1 e),h.t.fr f h.p.p.ht (fun b hb e=>(h.tx b hb).1 e),h.nx,h.tx,h.rx⟩
theorem Pm.q (h:Pm σ xb rb lv ts l R ns az ks):∀b,(Names R.nv b∨Names R.tv b∨b=rb)→b<σ.next:=fun b hb=>by
 rcases hb with hb|hb|rfl
 ·exact h.n.lt h.p.p.ht hb
 ·exact h.t.lt h.p.p.ht hb
 ·exact h.r.lt h.p.p.ht
theorem Pm.typ (h:Pm σ xb rb lv ts l R ns az ks) {dv':V} (p:Pn σ' xb lv ts l' (R.wd dv') ns' (fun b=>Names R.nv b∨Names R.tv b∨b=rb)) (f:Fr (PB xb R.dv) σ σ') (m:∀b,Names dv' b→Names R.dv b∨σ.next≤b):Pm σ' xb rb lv ts l' (R.wd dv') ns' az ks:=by
 have ht:=h.p.p.ht
 have lt:=h.q
 refine⟨p,f.at_ h.r ht (fun e=>e.elim h.rx.1 h.rx.2.2),h.n.fr f ht (fun b hb e=>e.elim (h.nx b hb).1 (h.nx b hb).2.2.1),h.t.fr f ht (fun b hb e=>e.elim (h.tx b hb).1 (h.tx b hb).2.2.1),fun b hb=>?_,fun b hb=>?_,?_⟩
 ·obtain⟨h1,h2,h3,h4,h5⟩:=h.nx b hb
  exact⟨h1,h2,fun e=>(m b e).elim h3 (fun e=>by have:=lt b (.inl hb);omega),h4,h5⟩
 ·obtain⟨h1,h2,h3,h4⟩:=h.tx b hb
  exact⟨h1,h2,fun e=>(m b e).elim h3 (fun e=>by have:=lt b (.inr (.inl hb));omega),h4⟩
 ·exact⟨h.rx.1,h.rx.2.1,fun e=>(m _ e).elim h.rx.2.2 (fun e=>by have:=lt rb (.inr (.inr rfl));omega)⟩
theorem Pm.name (h:Pm σ xb rb lv ts l R ns az ks) (w:List Nat) (hl:az.length≤4000):∃u σ1 σ2 σ3,newB σ (.cells [.str (ofN w)])=σ1∧(∀κ:V→H→Ans,appK E 1 16 R.nv (.sl σ.next 0 1 (.ex 1)) σ1 κ=κ u σ2)∧u.one=true∧(∀κ:H→Ans,stK 1 xb 4 u σ2 κ=κ σ3) ∧
  Pm σ3 xb rb lv ts l { R with nv:=u } ns (az++[w]) ks∧Fr (fun b=>b=xb∨Names R.nv b) σ σ3∧(∀b,Names u b→Names R.nv b∨σ.next≤b):=by
 have ht:=h.p.p.ht
 have lt:=h.q
 obtain⟨σ1,e1,f1,a1,n1⟩:=mkN ht [.str (ofN w)]
 have xs:Src σ1 1 1 (V.sl σ.next 0 1 (.ex 1)) [.str (ofN w)] := .inr ⟨_,_,_,_,rfl,a1,Nat.le_refl _,rfl⟩
 obtain⟨u,σ2,g2,d2,m2,f2⟩:=app_all (E:=E) (bytes:=16) (h.n.fr f1 ht (fun _ _ h=>h)) f1.tidy xs rfl (by unfold growable;simp only[Bool.and_eq_true,Nat.ble_eq];omega)
 have le1:=f1.le
 have mu:∀b,Names u b→Names R.nv b∨σ.next≤b:=fun b hb=>(m2 b hb).imp id fun h=>by omega
 have f12:Fr (Names R.nv) σ σ2:=(f1.mono (fun _ _ h=>h.elim):Fr (Names R.nv) σ σ1).trans f2 (fun _ _ e=>e)
 have p2:Pn σ2 xb lv ts l R ns (fun b=>(Names R.nv b∨Names R.tv b∨b=rb)∨σ.next≤b):=(h.p.ext (Q':=fun b=>(Names R.nv b∨Names R.tv b∨b=rb)∨σ.next≤b) fun _ h=>h).fr f12 (fun e=>(h.nx _ e).1 rfl) (fun b hb e=>(h.nx b e).2.1 hb) (fun b hb e=>(h.nx b e).2.2.1 hb) (fun b _ e => .inl (.inl e))
 obtain⟨σ3,g3,p3,f3⟩:=p2.set (off:=4) (y:=u) { R with nv:=u } rfl d2.one (by decide) (fun _=>rfl)
 have lx:=h.p.p.lt
 have f13:Fr (fun b=>b=xb∨Names R.nv b) σ σ3:=(f12.mono (fun _ _ e => .inr e):Fr (fun b=>b=xb∨Names R.nv b) σ σ2).trans f3 (fun _ _ e => .inl e)
 refine⟨u,σ1,σ2,σ3,e1,g2,d2.one,g3,⟨p3.ext (fun b hb=>?_),f13.at_ h.r ht (fun e=>e.elim h.rx.1 fun e=>(h.nx _ e).2.2.2.2 rfl),?_,h.t.fr f13 ht (fun b hb e=>e.elim (h.tx b hb).1 fun e=>(h.nx b e).2.2.2.1 hb),fun b hb=>?_,h.tx,h.rx⟩,f13,mu⟩
 ·rcases hb with hb|hb
  ·exact(mu b hb).elim (fun e => .inl (.inl (.inl e))) (fun e => .inl (.inr e))
  ·exact .inl (.inl (.inr hb))
 ·have d3:=d2.fr f3 f2.tidy (fun b hb e=>(mu b hb).elim (fun h'=>(h.nx b h').1 e) (fun h=>by omega))
  rw[List.length_append]
  show Dst σ3 1 (az.length+1) u (stC (az++[w]))
  rw[show stC (az++[w])=stC az++[.str (ofN w)] by unfold stC;simp]
  exact d3
 ·rcases mu b hb with e|e
  ·exact h.nx b e
  ·exact⟨by omega,fun hn=>by have:=h.p.llt hn;omega,fun hn=>by have:=h.p.dlt hn;omega,fun hn=>by have:=lt b (.inr (.inl hn));omega,fun hn=>by have:=lt b (.inr (.inr hn));omega⟩
theorem Pm.more (h:Pm σ xb rb lv ts l R ns az ks) (k:Nat) (hl:ks.length≤4000):∃u σ1 σ2 σ3,newB σ (.cells [.int .i64 (Int.ofNat k)])=σ1∧(∀κ:V→H→Ans,appK E 1 8 R.tv (.sl σ.next 0 1 (.ex 1)) σ1 κ=κ u σ2)∧u.one=true∧(∀κ:H→Ans,stK 1 xb 5 u σ2 κ=κ σ3) ∧
  Pm σ3 xb rb lv ts l { R with tv:=u } ns az (ks++[k])∧Fr (fun b=>b=xb∨Names R.tv b) σ σ3∧(∀b,Names u b→Names R.tv b∨σ.next≤b):=by
 have ht:=h.p.p.ht
 have lt:=h.q
 obtain⟨σ1,e1,f1,a1,n1⟩:=mkN ht [.int .i64 (Int.ofNat k)]
 have xs:Src σ1 1 1 (V.sl σ.next 0 1 (.ex 1)) [.int .i64 (Int.ofNat k)] := .inr ⟨_,_,_,_,rfl,a1,Nat.le_refl _,rfl⟩
 obtain⟨u,σ2,g2,d2,m2,f2⟩:=app_all (E:=E) (bytes:=8) (h.t.fr f1 ht (fun _ _ h=>h)) f1.tidy xs rfl (by unfold growable;simp only[Bool.and_eq_true,Nat.ble_eq];omega)
 have le1:=f1.le
 have mu:∀b,Names u b→Names R.tv b∨σ.next≤b:=fun b hb=>(m2 b hb).imp id fun h=>by omega
 have f12:Fr (Names R.tv) σ σ2:=(f1.mono (fun _ _ h=>h.elim):Fr (Names R.tv) σ σ1).trans f2 (fun _ _ e=>e)
 have p2:Pn σ2 xb lv ts l R ns (fun b=>(Names R.nv b∨Names R.tv b∨b=rb)∨σ.next≤b):=(h.p.ext (Q':=fun b=>(Names R.nv b∨Names R.tv b∨b=rb)∨σ.next≤b) fun _ h=>h).fr f12 (fun e=>(h.tx _ e).1 rfl) (fun b hb e=>(h.tx b e).2.1 hb) (fun b hb e=>(h.tx b e).2.2.1 hb) (fun b _ e => .inl (.inr (.inl e)))
 obtain⟨σ3,g3,p3,f3⟩:=p2.set (off:=5) (y:=u) { R with tv:=u } rfl d2.one (by decide) (fun _=>rfl)
 have lx:=h.p.p.lt
 have f13:Fr (fun b=>b=xb∨Names R.tv b) σ σ3:=(f12.mono (fun _ _ e => .inr e):Fr (fun b=>b=xb∨Names R.tv b) σ σ2).trans f3 (fun _ _ e => .inl e)
 refine⟨u,σ1,σ2,σ3,e1,g2,d2.one,g3,⟨p3.ext (fun b hb=>?_),f13.at_ h.r ht (fun e=>e.elim h.rx.1 fun e=>(h.tx _ e).2.2.2 rfl),h.n.fr f13 ht (fun b hb e=>e.elim (h.nx b hb).1 (h.nx b hb).2.2.2.1),?_,fun b hb=>?_,fun b hb=>?_,h.rx⟩,f13,mu⟩
 ·rcases hb with hb|hb|hb
  ·exact .inl (.inl (.inl hb))
  ·exact(mu b hb).elim (fun e => .inl (.inl (.inr (.inl e)))) (fun e => .inl (.inr e))
  ·exact .inl (.inl (.inr (.inr hb)))
 ·have d3:=d2.fr f3 f2.tidy (fun b hb e=>(mu b hb).elim (fun h'=>(h.tx b h').1 e) (fun h=>by omega))
  rw[List.length_append]
  show Dst σ3 1 (ks.length+1) u (ksC (ks++[k]))
  rw[show ksC (ks++[k])=ksC ks++[.int .i64 (Int.ofNat k)] by unfold ksC;simp]
  exact d3
 ·obtain⟨h1,h2,h3,h4,h5⟩:=h.nx b hb
  exact⟨h1,h2,h3,fun e=>(mu b e).elim h4 (fun e=>by have:=lt b (.inl hb);omega),h5⟩
 ·rcases mu b hb with e|e
  ·exact h.tx b e
  ·exact⟨by omega,fun hn=>by have:=h.p.llt hn;omega,fun hn=>by have:=h.p.dlt hn;omega,fun hn=>by have:=lt b (.inr (.inr hn));omega⟩
end
section
variable {E:List (Nat × Blk)} {D:Den} {N:Nat}
theorem par_end {σ:H} {xb rb:Nat} {lv:V} {ts l:List Tok} {nm:List Nat} {tg:Nat} {nv tv dv:V} {ns:List NodeS} {az:List (List Nat)} {ks:List Nat} {e:Tok} (hN:SpNow (D 60)) (h:Pm σ xb rb lv ts (e::l) ⟨ofN nm,Int.ofNat tg,nv,tv,dv⟩ ns az ks) (he:decide (e.1=0)=true) :
    ∃σ',T34_2 E D (drawW E D) (T34_5 E D (drawW E D)) rb 0 xb 0 σ=some (.tup [.agg (mdC ⟨nm,tg,az,ks,ns⟩ nv tv dv),.int .i64 (Int.ofNat 0),.int .i64 (Int.ofNat 0)],σ')∧MdS σ' ⟨nm,tg,az,ks,ns⟩ nv tv dv∧Fr (fun k=>k=rb) σ σ':=by
  have ht:=h.p.p.ht
  obtain⟨a,ha,_⟩:=h.p.p.ex
  unfold pc at ha
  obtain⟨ws,k1,k2,k3⟩:=h.p.w
  have gn:=hN h.p.p
  unfold tokC at gn
  have ho:allOne (mdC ⟨nm,tg,az,ks,ns⟩ nv tv dv)=true:=by
    unfold mdC
    simp only[allOne_cons,allOne_nil,one_int,one_str,h.n.one,h.t.one,k1.one,Bool.and_true]
  obtain⟨σ',e1,f1,a1⟩:=mkS ht h.r (mdC ⟨nm,tg,az,ks,ns⟩ nv tv dv)
  have hr:=h.r
  have g1:∀κ:H→Ans,stK 5 rb 0 (.agg [.str (ofN nm),.int .i64 (Int.ofNat tg),nv,tv,dv]) σ κ=κ σ':=fun κ=>by
    rw[stK_at hr (show _=true by
      rw[cells_agg]
      show (true&&true&&allOne (mdC ⟨nm,tg,az,ks,ns⟩ nv tv dv))=true
      rw[ho];rfl)]
    show κ (setF σ rb (.cells (mdC ⟨nm,tg,az,ks,ns⟩ nv tv dv)))=_
    rw[e1]
  refine⟨σ',?_,⟨h.n.fr f1 ht (fun b hb e=>(h.nx b hb).2.2.2.2 e),(h.t.fr f1 ht (fun b hb e=>(h.tx b hb).2.2.2 e)).src,ws,(k1.fr f1 ht (fun b hb e=>h.rx.2.2 (e ▸ hb))).src,k2,fun k nd u hn hu=>?_⟩,f1⟩
  · have sub:∀κ:List V→Ans,subK [lv,.int .i64 (Int.ofNat a),.str (ofN nm),.int .i64 (Int.ofNat tg),nv,tv,dv,.int .i64 (Int.ofNat 0),.int .i64 (Int.ofNat 0)] 2 5 κ=κ [.str (ofN nm),.int .i64 (Int.ofNat tg),nv,tv,dv]:=fun κ=>by
      rw[subK_of (by simp)];rfl
    have sub5:∀κ:List V→Ans,subK [.str (ofN nm),.int .i64 (Int.ofNat tg),nv,tv,dv] 0 5 κ=κ [.str (ofN nm),.int .i64 (Int.ofNat tg),nv,tv,dv]:=fun κ=>by
      rw[subK_of (by simp)];rfl
    unfold mdC at a1
    unfold T34_2 T34_5
    simp -implicitDefEqProofs only [↓rP,rA,Nat.reduceEqDiff,Nat.reduceLT,Nat.reduceLeDiff,↓ldK_is ha,↓ldnK_is ha,↓gn,he,↓sub,↓g1,↓ldnK_is a1,↓sub5]
    rfl
  · obtain⟨x1,x2,x3⟩:=k3 k nd u hn hu
    exact⟨x1.fr f1 ht (fun b hb e=>(x3 b (.inl hb)).2.2 (.inr (.inr e))),x2.fr f1 ht (fun b hb e=>(x3 b (.inr hb)).2.2 (.inr (.inr e)))⟩
theorem asg_L {T:TypT} (hN:SpNow (D 60)) (hI:SpIs (D 59)) (hM:SpMust (D 58)) (hK:SpKind (D 57)) (hT:SpTypT T (D 62)) {xb rb:Nat} {lv:V} {ts:List Tok} {nm:List Nat} {tg:Nat}:∀(n k:Nat) {σ:H} {l:List Tok} {nv tv dv:V} {ns:List NodeS} {az:List (List Nat)} {ks:List Nat} {r:List (List Nat) × List Nat × List NodeS × List Tok} {e:Tok} {l':List Tok},
  Pm σ xb rb lv ts l ⟨ofN nm,Int.ofNat tg,nv,tv,dv⟩ ns az ks→n<k→ks.length=az.length→asgP T n az ks ns l=some r→r.2.2.2=e::l'→decide (e.1=0)=true →
  ∃nv' tv' dv' σ',L34_3 E D (drawW E D) N k rb 0 xb 0 σ=some (.tup [.agg (mdC ⟨nm,tg,r.1,r.2.1,r.2.2.1⟩ nv' tv' dv'),.int .i64 (Int.ofNat 0),.int .i64 (Int.ofNat 0)],σ')∧MdS σ' ⟨nm,tg,r.1,r.2.1,r.2.2.1⟩ nv' tv' dv'∧Fr (fun b=>b=rb∨b=xb∨Names nv b∨Names tv b∨Names dv b) σ σ':=by
 intro n
 induction n with
 | zero=>intro k σ l nv tv dv ns az ks r e l' h hk hs0 hs;cases hs
 | succ n ih=>
  intro k σ l nv tv dv ns az ks r e l' h hk hs0 hs hr he
  obtain⟨k,rfl⟩:∃j,k=j+1:=⟨k-1,by omega⟩
  obtain⟨a,ha,_⟩:=h.p.p.ex
  unfold pc at ha
  obtain⟨σ1,g1,p1,f1⟩:=hI (BS.mk 3 4476485) h.p.p
  show ∃nv' tv' dv' σ',T34_3 E D (drawW E D) (T34_2 E D (drawW E D) (T34_5 E D (drawW E D))) (T34_4 E D (drawW E D) (L34_3 E D (drawW E D) N k)) rb 0 xb 0 σ=_∧_
  have hs:(match isP (BS.mk 3 4476485) l with
   | (true,l1)=>some (az,ks,ns,l1)
   | (false,l1)=>(kindP 1 l1).bind fun a=>match decide (40≤az.length)with
    | true=>none
    | false=>(mustP (BS.mk 3 4012602) a.2).bind fun l2=>(T 0 l2 ns).bind fun t=>asgP T n (az++[a.1]) (ks++[t.1]) t.2.2 t.2.1:Option (List (List Nat) × List Nat × List NodeS × List Tok))=some r:=hs
  cases hp:isP (BS.mk 3 4476485) l with
  | mk c l1=>
   rw[hp]at hs g1 p1
   have h1:=h.go p1 f1
   cases c with
   | true=>
    cases hs
    have hr:l1=e::l':=hr
    subst hr
    obtain⟨σ2,g2,m2,f2⟩:=par_end (E:=E) hN h1 he
    refine⟨nv,tv,dv,σ2,?_,m2,(f1.mono (fun _ _ e => .inr (.inl e)):Fr (fun b=>b=rb∨b=xb∨Names nv b∨Names tv b∨Names dv b) σ σ1).trans f2 (fun _ _ e => .inl e)⟩
    have key:∀K4,T34_3 E D (drawW E D) (T34_2 E D (drawW E D) (T34_5 E D (drawW E D))) K4 rb 0 xb 0 σ=T34_2 E D (drawW E D) (T34_5 E D (drawW E D)) rb 0 xb 0 σ1:=by
     intro K4
     unfold T34_3
     simp -implicitDefEqProofs only [↓rP,rA,Nat.reduceEqDiff,Nat.reduceLT,Nat.reduceLeDiff,↓ldK_is ha,↓g1]
    rw[key];exact g2
   | false=>
    have hs:((kindP 1 l1).bind fun a=>match decide (40≤az.length)with
     | true=>none
     | false=>(mustP (BS.mk 3 4012602) a.2).bind fun l2=>(T 0 l2 ns).bind fun t=>asgP T n (az++[a.1]) (ks++[t.1]) t.2.2 t.2.1:Option (List (List Nat) × List Nat × List NodeS × List Tok))=some r:=hs
    obtain⟨⟨w,l2⟩,hw,hs⟩:=Option.bind_eq_some_iff.1 hs
    have hs:(match decide (40≤az.length)with
     | true=>none
     | false=>(mustP (BS.mk 3 4012602) l2).bind fun l2=>(T 0 l2 ns).bind fun t=>asgP T n (az++[w]) (ks++[t.1]) t.2.2 t.2.1:Option (List (List Nat) × List Nat × List NodeS × List Tok))=some r:=hs
    cases hd:decide (40≤az.length)with
    | true=>rw[hd]at hs;cases hs
    | false=>
     rw[hd]at hs
     obtain⟨l3,hm,hs⟩:=Option.bind_eq_some_iff.1 hs
     obtain⟨⟨i,l4,ns4⟩,ht,hs⟩:=Option.bind_eq_some_iff.1 hs
     have hs9:asgP T n (az++[w]) (ks++[i]) ns4 l4=some r:=hs
     have hlen:az.length<40:=by have:=of_decide_eq_false hd;omega
     obtain⟨t1,l1',rfl⟩:∃t1 l1',l1=t1::l1':=by
      cases l1 with
      | nil=>cases hw
      | cons t l1=>exact⟨t,l1,rfl⟩
     have gn:=hN p1
     unfold tokC at gn
     obtain⟨σ2,g2,p2,f2⟩:=hK p1 hw
     have h2:=h1.go p2 f2
     obtain⟨a2,ha2,_⟩:=p2.ex
     unfold pc at ha2
     obtain⟨σ3,g3,p3,f3⟩:=hM p2 hm
     have h3:=h2.go p3 f3
     obtain⟨dv4,σ4,g4,p4,f4,m4⟩:=hT (d:=0) h3.p h3.q (by omega) ht
     have h4:Pm σ4 xb rb lv ts l4 ⟨ofN nm,Int.ofNat tg,nv,tv,dv4⟩ ns4 az ks:=h3.typ p4 f4 m4
     obtain⟨a4,ha4,_⟩:=h4.p.p.ex
     unfold pc at ha4
     obtain⟨u5,σ5,σ6,σ7,e5,g5,o5,s5,h7,f7,m7⟩:=h4.name (E:=E) w (by omega)
     have h7:Pm σ7 xb rb lv ts l4 ⟨ofN nm,Int.ofNat tg,u5,tv,dv4⟩ ns4 (az++[w]) ks:=h7
     obtain⟨a7,ha7,_⟩:=h7.p.p.ex
     unfold pc at ha7
     obtain⟨u8,σ8,σ9,σ10,e8,g8,o8,s8,h10,f10,m10⟩:=h7.more (E:=E) i (by omega)
     have h10:Pm σ10 xb rb lv ts l4 ⟨ofN nm,Int.ofNat tg,u5,u8,dv4⟩ ns4 (az++[w]) (ks++[i]):=h10
     obtain⟨nv',tv',dv',σ',g',m',f'⟩:=ih k h10 (by omega) (by simp[hs0]) hs9 hr he
     refine⟨nv',tv',dv',σ',?_,m',?_⟩
     ·have key:∀K2 R3,T34_3 E D (drawW E D) K2 (T34_4 E D (drawW E D) R3) rb 0 xb 0 σ=R3 rb 0 xb 0 σ10:=by
       intro K2 R3
       unfold T34_3 T34_4
       simp -implicitDefEqProofs only [↓rP,rA,Nat.reduceEqDiff,Nat.reduceLT,Nat.reduceLeDiff,↓ldK_is ha,↓g1,↓gn,↓g2,↓ldK_is ha2,h2.n.slen,hd,↓g3,↓g4,↓ldK_is ha4,↓e5,↓g5,↓rtOne_of o5,↓s5,↓ldK_is ha7,↓e8,↓g8,↓rtOne_of o8,↓s8]
      rw[key];exact g'
     ·have le1:=f1.le
      have le2:=f2.le
      have le3:=f3.le
      have le4:=f4.le
      have le7:=f7.le
      have m7:∀b,Names u5 b→Names nv b∨σ4.next≤b:=m7
      have m10:∀b,Names u8 b→Names tv b∨σ7.next≤b:=m10
      have m4:∀b,Names dv4 b→Names dv b∨σ3.next≤b:=m4
      refine((((((f1.mono (fun _ _ e => .inr (.inl e)):Fr (fun b=>b=rb∨b=xb∨Names nv b∨Names tv b∨Names dv b) σ σ1).trans f2 (fun _ _ e => .inr (.inl e))).trans f3 (fun _ _ e => .inr (.inl e))).trans f4 (fun b _ e=>e.elim (fun e => .inr (.inl e)) fun e => .inr (.inr (.inr (.inr e))))).trans f7 (fun b _ e=>e.elim (fun e => .inr (.inl e)) fun e => .inr (.inr (.inl e)))).trans f10 (fun b _ e=>e.elim (fun e => .inr (.inl e)) fun e => .inr (.inr (.inr (.inl e))))).trans f' (fun b hb e=>?_)
      rcases e with e|e|e|e|e
      ·exact .inl e
      ·exact .inr (.inl e)
      ·exact(m7 b e).elim (fun e => .inr (.inr (.inl e))) (fun e=>by omega)
      ·exact(m10 b e).elim (fun e => .inr (.inr (.inr (.inl e)))) (fun e=>by omega)
      ·exact(m4 b e).elim (fun e => .inr (.inr (.inr (.inr e)))) (fun e=>by omega)
theorem fill1 {u a b c d e f g i:V} (h:u.one=true) (κ:List V→Ans):fillK [(0,1,u)] [.nils,a,b,c,d,e,f,g,i] κ=κ [u,a,b,c,d,e,f,g,i]:=by
 obtain⟨h1,h2⟩:=one_live h
 unfold fillK fillA
 rw[h1,h2]
 rfl
theorem par_open (hN:SpNow (D 60)) (hI:SpIs (D 59)) (hM:SpMust (D 58)) (hK:SpKind (D 57)) (hR:SpTks N (D 56)) {σ:H} {s:BS} {ts l l1:List Tok} {w:List Nat} {t:Nat × List Tok} (ht:Tidy σ) (hs:s.len≤8000) (hts:Tks N s.len s.nats ts) (h1:kindP 1 ts=some (w,l)) (h2:mustP (BS.mk 11 100710650190388740279911748) l=some l1) (h3:tagP l1=some t) :
  ∃xb lv σ',(∀K1,T34_0 E D (drawW E D) K1 s σ=K1 σ.next 0 xb 0 σ')∧Pm σ' xb σ.next lv ts t.2 ⟨ofN w,Int.ofNat t.1,.nils,.nils,.nils⟩ [] [] []∧σ.next≤xb∧Fr Nowhere σ σ':=by
 obtain⟨σ1,e1,f1,a1,n1⟩:=mkN ht rzC
 obtain⟨lv,σ2,g2,d2,m2,f2⟩:=hR σ1 s ts f1.tidy hs hts
 have le1:=f1.le
 have le2:=f2.le
 have a2:=f2.at_ a1 f1.tidy (fun h=>h)
 obtain⟨σ3,e3,f3,a3,n3⟩:=mkN f2.tidy (pc lv 0 ⟨BS.mk 0 0,Int.ofNat 0,.nils,.nils,.nils⟩)
 have ll:∀b,Names lv b→b<σ2.next:=fun b hb=>d2.lt f2.tidy hb
 have p3:Pz σ3 σ2.next lv ts ts ⟨BS.mk 0 0,Int.ofNat 0,.nils,.nils,.nils⟩:=⟨⟨0,a3,rfl⟩,(d2.fr f3 f2.tidy (fun _ _ h=>h)).src,(fun e=>by subst e;cases h1),fun b hb=>by have:=ll b hb;omega,hts.ok hs,f3.tidy⟩
 obtain⟨σ4,g4,p4,f4⟩:=hK p3 h1
 obtain⟨σ5,g5,p5,f5⟩:=p4.set (off:=2) (y := .str (ofN w)) ⟨ofN w,Int.ofNat 0,.nils,.nils,.nils⟩ rfl (by decide) (fun _=>rfl)
 obtain⟨σ6,g6,p6,f6⟩:=hM p5 h2
 have f36:=(f4.trans f5 (fun _ _ e=>e)).trans f6 (fun _ _ e=>e)
 obtain⟨σ7,g7,p7,f7⟩:=hI (BS.mk 8 6073459554577832005) p6
 have f37:=f36.trans f7 (fun _ _ e=>e)
 have fin:∀{σ':H} {t:Nat × List Tok},Pz σ' σ2.next lv ts t.2 ⟨ofN w,Int.ofNat t.1,.nils,.nils,.nils⟩→Fr (fun k=>k=σ2.next) σ3 σ'→Pm σ' σ2.next σ.next lv ts t.2 ⟨ofN w,Int.ofNat t.1,.nils,.nils,.nils⟩ [] [] []∧σ.next≤σ2.next∧Fr Nowhere σ σ':=by
  intro σ' t p f
  refine⟨⟨⟨p,⟨[],Dst.nil _ _,rfl,fun k nd u h=>by simp at h⟩,fun b hb=>hb.elim⟩,f.at_ (f3.at_ a2 f2.tidy (fun h=>h)) f3.tidy (fun e=>by omega),Dst.nil _ _,Dst.nil _ _,fun b hb=>hb.elim,fun b hb=>hb.elim,by omega,fun hn=>?_,fun h=>h⟩,by omega,((f1.trans f2 (fun _ _ h=>h)).trans f3 (fun _ _ h=>h)).trans f (fun b hb e=>by omega)⟩
  have:=m2 _ hn;omega
 unfold pc at e3
 have e3':newB σ2 (.cells [lv,.int .i64 (Int.ofNat 0),.str ⟨0,0⟩,.int .i64 (Int.ofNat 0),.nils,.nils,.nils,.int .i64 (Int.ofNat 0),.int .i64 (Int.ofNat 0)])=σ3:=e3
 have e1':newB σ (.cells [.str ⟨0,0⟩,.int .i64 (Int.ofNat 0),.nils,.nils,.nils])=σ1:=e1
 unfold T34_0
 cases hp:isP (BS.mk 8 6073459554577832005) l1 with
 | mk c l2=>
  rw[hp]at g7 p7
  have h3:(match isP (BS.mk 8 6073459554577832005) l1 with
   | (true,l1)=>(mustP (BS.mk 4 1397178708) l1).map fun l2=>(0,l2)
   | (false,l1)=>match isP (BS.mk 8 6073459554577829193) l1 with
    | (true,l2)=>(mustP (BS.mk 4 1397178708) l2).map fun l3=>(1,l3)
    | (false,l2)=>match isP (BS.mk 9 1241215773001651606849) l2 with
     | (true,l3)=>(mustP (BS.mk 4 1397178708) l3).map fun l4=>(2,l4)
     | (false,l3)=>some (0,l3):Option (Nat × List Tok))=some t:=h3
  rw[hp]at h3
  cases c with
  | true=>
   obtain⟨l3,hm,he⟩:=Option.map_eq_some_iff.1 h3
   cases he
   obtain⟨σ8,g8,p8,f8⟩:=hM p7 hm
   obtain⟨q1,q2,q3⟩:=fin (t:=(0,l3)) p8 (f37.trans f8 (fun _ _ e=>e))
   refine⟨_,lv,σ8,fun K1=>?_,q1,q2,q3⟩
   simp -implicitDefEqProofs only [↓rP,rA,Nat.reduceEqDiff,Nat.reduceLT,Nat.reduceLeDiff,↓e1',↓g2,↓fill1 d2.one,d2.one,↓e3',↓g4,↓g5,↓g6,↓g7,↓g8]
  | false=>
   obtain⟨σ8,g8,p8,f8⟩:=hI (BS.mk 8 6073459554577829193) p7
   have f38:=f37.trans f8 (fun _ _ e=>e)
   cases hp8:isP (BS.mk 8 6073459554577829193) l2 with
   | mk c l3=>
    rw[hp8]at g8 p8
    have h3:(match isP (BS.mk 8 6073459554577829193) l2 with
     | (true,l2)=>(mustP (BS.mk 4 1397178708) l2).map fun l3=>(1,l3)
     | (false,l2)=>match isP (BS.mk 9 1241215773001651606849) l2 with
      | (true,l3)=>(mustP (BS.mk 4 1397178708) l3).map fun l4=>(2,l4)
      | (false,l3)=>some (0,l3):Option (Nat × List Tok))=some t:=h3
    rw[hp8]at h3
    cases c with
    | true=>
     obtain⟨l4,hm,he⟩:=Option.map_eq_some_iff.1 h3
     cases he
     obtain⟨σ9,g9,p9,f9⟩:=p8.set (off:=3) (y := .int .i64 (Int.ofNat 1)) ⟨ofN w,Int.ofNat 1,.nils,.nils,.nils⟩ rfl (by decide) (fun _=>rfl)
     obtain⟨σ10,g10,p10,f10⟩:=hM p9 hm
     obtain⟨q1,q2,q3⟩:=fin (t:=(1,l4)) p10 ((f38.trans f9 (fun _ _ e=>e)).trans f10 (fun _ _ e=>e))
     refine⟨_,lv,σ10,fun K1=>?_,q1,q2,q3⟩
     simp -implicitDefEqProofs only [↓rP,rA,Nat.reduceEqDiff,Nat.reduceLT,Nat.reduceLeDiff,↓e1',↓g2,↓fill1 d2.one,d2.one,↓e3',↓g4,↓g5,↓g6,↓g7,↓g8,↓g9,↓g10]
    | false=>
     obtain⟨σ9,g9,p9,f9⟩:=hI (BS.mk 9 1241215773001651606849) p8
     have f39:=f38.trans f9 (fun _ _ e=>e)
     cases hp9:isP (BS.mk 9 1241215773001651606849) l3 with
     | mk c l4=>
      rw[hp9]at g9 p9
      have h3:(match isP (BS.mk 9 1241215773001651606849) l3 with
       | (true,l3)=>(mustP (BS.mk 4 1397178708) l3).map fun l4=>(2,l4)
       | (false,l3)=>some (0,l3):Option (Nat × List Tok))=some t:=h3
      rw[hp9]at h3
      cases c with
      | true=>
       obtain⟨l5,hm,he⟩:=Option.map_eq_some_iff.1 h3
       cases he
       obtain⟨σ10,g10,p10,f10⟩:=p9.set (off:=3) (y := .int .i64 (Int.ofNat 2)) ⟨ofN w,Int.ofNat 2,.nils,.nils,.nils⟩ rfl (by decide) (fun _=>rfl)
       obtain⟨σ11,g11,p11,f11⟩:=hM p10 hm
       obtain⟨q1,q2,q3⟩:=fin (t:=(2,l5)) p11 ((f39.trans f10 (fun _ _ e=>e)).trans f11 (fun _ _ e=>e))
       refine⟨_,lv,σ11,fun K1=>?_,q1,q2,q3⟩
       simp -implicitDefEqProofs only [↓rP,rA,Nat.reduceEqDiff,Nat.reduceLT,Nat.reduceLeDiff,↓e1',↓g2,↓fill1 d2.one,d2.one,↓e3',↓g4,↓g5,↓g6,↓g7,↓g8,↓g9,↓g10,↓g11]
      | false=>
       cases h3
       obtain⟨q1,q2,q3⟩:=fin (t:=(0,l4)) p9 f39
       refine⟨_,lv,σ9,fun K1=>?_,q1,q2,q3⟩
       simp -implicitDefEqProofs only [↓rP,rA,Nat.reduceEqDiff,Nat.reduceLT,Nat.reduceLeDiff,↓e1',↓g2,↓fill1 d2.one,d2.one,↓e3',↓g4,↓g5,↓g6,↓g7,↓g8,↓g9]
theorem parse_F {T:TypT} (hN:SpNow (D 60)) (hI:SpIs (D 59)) (hM:SpMust (D 58)) (hK:SpKind (D 57)) (hR:SpTks N (D 56)) (hT:SpTypT T (D 62)) (hF:1000<N):SpParse N T (F34 E D (drawW E D) N):=by
 intro σ s ts m ht hs hts hm
 obtain⟨⟨w,l⟩,h1,hm⟩:=Option.bind_eq_some_iff.1 hm
 obtain⟨l1,h2,hm⟩:=Option.bind_eq_some_iff.1 hm
 obtain⟨⟨tg,l2⟩,h3,hm⟩:=Option.bind_eq_some_iff.1 hm
 obtain⟨l3,h4,hm⟩:=Option.bind_eq_some_iff.1 hm
 obtain⟨l4,h5,hm⟩:=Option.bind_eq_some_iff.1 hm
 obtain⟨r,h6,hm⟩:=Option.bind_eq_some_iff.1 hm
 obtain⟨xb,lv,σ1,g1,p1,lx,f1⟩:=par_open (E:=E) hN hI hM hK hR ht hs hts h1 h2 h3
 obtain⟨σ2,g2,p2,f2⟩:=hM p1.p.p h4
 obtain⟨σ3,g3,p3,f3⟩:=hM p2 h5
 have q3:=(p1.go p2 f2).go p3 f3
 cases he:r.2.2.2 with
 | nil=>rw[he]at hm;cases hm
 | cons e l'=>
  rw[he]at hm
  have hm:(match decide (e.1=0)with
   | true=>some (⟨w,tg,r.1,r.2.1,r.2.2.1⟩:ModS)
   | false=>none)=some m:=hm
  cases h0:decide (e.1=0)with
  | false=>rw[h0]at hm;cases hm
  | true=>
   rw[h0]at hm
   cases hm
   obtain⟨nv,tv,dv,σ4,g4,m4,f4⟩:=asg_L (E:=E) (N:=N) hN hI hM hK hT 50 N q3 (by omega) rfl h6 he h0
   refine⟨nv,tv,dv,σ4,?_,m4,((f1.trans f2 (fun b hb e=>by omega)).trans f3 (fun b hb e=>by omega)).trans f4 (fun b hb e=>?_)⟩
   ·show T34_0 E D (drawW E D) (T34_1 E D (drawW E D) (L34_3 E D (drawW E D) N N)) s σ=_
    rw[g1]
    have key:∀K3,T34_1 E D (drawW E D) K3 σ.next 0 xb 0 σ1=K3 σ.next 0 xb 0 σ3:=by
     intro K3
     unfold T34_1
     simp -implicitDefEqProofs only [↓rP,rA,Nat.reduceEqDiff,Nat.reduceLT,Nat.reduceLeDiff,↓g2,↓g3]
    rw[key];exact g4
   ·rcases e with e|e|e|e|e
    ·omega
    ·omega
    ·exact e.elim
    ·exact e.elim
    ·exact e.elim
end
section
variable {E:List (Nat × Blk)} {D:Den} {N:Nat}
theorem type_reg {σ:H} {nb ib:Nat} {l:List V} {v:V} {k:Nat} {m:List V} {kd z1 z2 ro dd ii:Int} {tb eb:Nat} {y1 y2 y3 y4 mo:Bool}  (ht:Tidy σ) (ha:Atc σ nb l) (hv:l[5]? = some v) (hi:Atc σ ib [.int .i64 kd,.sl tb 0 1 (.ex 1),.bool y1,.bool y2,.bool y3,.bool y4,.int .i64 z1,.int .i64 z2,.nils,.nils,.int .i64 ro,.bool mo,.int .i64 (Int.ofNat 0)]) (hd:Dst σ 13 k v m) (hk:k≤9000) (hne:nb≠ib) (nv:¬Names v nb) (ni:¬Names v ib) :
    ∃e' u σ',drawW E D G127_0 H127_0 [(0,.ptr nb 0),(2,.int .i64 dd),(4,.ptr eb 0),(7,.int .i64 ii),(8,.ptr ib 0)] σ=some (e',σ')∧Go.Og.look e' 0=some (.ptr nb 0)∧Go.Og.look e' 2=some (.int .i64 dd)∧Go.Og.look e' 4=some (.ptr eb 0)∧Go.Og.look e' 7=some (.int .i64 ii)∧Atc σ' nb (spl l 5 [u])∧Dst σ' 13 (k+1) u (m++[.int .i64 kd,.sl tb 0 1 (.ex 1),.bool y1,.bool y2,.bool y3,.bool y4,.int .i64 z1,.int .i64 z2,.nils,.nils,.int .i64 ro,.bool mo,.int .i64 (Int.ofNat 0)])∧(∀b,Names u b→Names v b∨σ.next≤b)∧¬Names u nb∧Fr (fun b=>b=nb∨Names v b) σ σ':=by
  have fw:Fr Nowhere σ ⟨σ.next+11,σ.bl⟩:=(go_start (E:=E) (n:=11) (S:=Nowhere) ht).fr
  have lb:=ha.lt ht
  have li:=hi.lt ht
  obtain⟨σa,ha'⟩:∃σa,σa=(⟨σ.next+11,(σ.next+6,.cells [.int .i64 kd,.sl tb 0 1 (.ex 1),.bool y1,.bool y2,.bool y3,.bool y4,.int .i64 z1,.int .i64 z2,.nils,.nils,.int .i64 ro,.bool mo,.int .i64 (Int.ofNat 0)])::σ.bl⟩:H):=⟨_,rfl⟩
  have fa:Fr Nowhere σ σa:=by
    rw[ha']
    refine⟨fun b hb=>?_,Nat.le_add_right _ _,fun b hb hn=>?_⟩
    · have hb:σ.next+11≤b:=hb
      show lookF ((σ.next+6,_)::σ.bl) b=none
      rw[lookF_cons,if_neg (by simp only[];omega)]
      exact ht b (by omega)
    · show lookF ((σ.next+6,_)::σ.bl) b=_
      rw[lookF_cons,if_neg (by simp only[];omega)]
  have aa:Atc σa (σ.next+6) [.int .i64 kd,.sl tb 0 1 (.ex 1),.bool y1,.bool y2,.bool y3,.bool y4,.int .i64 z1,.int .i64 z2,.nils,.nils,.int .i64 ro,.bool mo,.int .i64 (Int.ofNat 0)]:=by
    rw[ha']
    show lookF ((σ.next+6,_)::σ.bl) _=_
    rw[lookF_cons,if_pos rfl]
  have xs:Src σa 13 1 (V.sl (σ.next+6) 0 1 (.ex 1)) [.int .i64 kd,.sl tb 0 1 (.ex 1),.bool y1,.bool y2,.bool y3,.bool y4,.int .i64 z1,.int .i64 z2,.nils,.nils,.int .i64 ro,.bool mo,.int .i64 (Int.ofNat 0)] := .inr ⟨_,_,_,_,rfl,aa,Nat.le_refl _,rfl⟩
  have ho:allOne [.int .i64 kd,.sl tb 0 1 (.ex 1),.bool y1,.bool y2,.bool y3,.bool y4,.int .i64 z1,.int .i64 z2,.nils,.nils,.int .i64 ro,.bool mo,.int .i64 (Int.ofNat 0)]=true:=by simp only[allOne_cons,allOne_nil,one_str,one_int,one_bool,one_nils,Bool.and_true];rfl
  obtain⟨u,σ2,g2,d2,m2,f2⟩:=app_all (E:=E) (bytes:=128) (hd.fr fa ht (fun _ _ h=>h)) fa.tidy xs ho (by unfold growable;simp only[Bool.and_eq_true,Nat.ble_eq];omega)
  have na:σa.next=σ.next+11:=by rw[ha']
  have vl:∀b,Names v b→b<σ.next:=fun b hb=>hd.lt ht hb
  have a2:Atc σ2 nb l:=f2.at_ (fa.at_ ha ht (fun h=>h)) fa.tidy nv
  obtain⟨o1,o2⟩:=one_live d2.one
  have st:∃σ3,den1 E D (.store 1 (.tmp 54) (.tmp 52)) [(54,.ptr nb 5),(52,u)] σ2=some (.dead,σ3)∧Fr (fun k=>k=nb) σ2 σ3∧Atc σ3 nb (spl l 5 [u]):=by
    obtain⟨σ3,q1,q2,q3⟩:=st_den (E:=E) (D:=D) (n:=1) (x := .tmp 54) (y := .tmp 52) (e:=[(54,.ptr nb 5),(52,u)]) f2.tidy a2 rfl (show (opv [(54,.ptr nb 5),(52,u)] (.tmp 52)).cells=[u] from o2) (by
      have:5<l.length:=by
        rcases Nat.lt_or_ge 5 l.length with h|h
        · exact h
        · rw[List.getElem?_eq_none h]at hv;cases hv
      simp only[allOne_cons,allOne_nil,d2.one,Bool.and_true,List.length_cons,List.length_nil,Nat.zero_add,Nat.beq_refl,Bool.true_and,Nat.ble_eq];omega)
    exact⟨σ3,q1,q2,q3⟩
  obtain⟨σ3,g3,f3,c3⟩:=st
  have un:¬Names u nb:=fun h=>(m2 nb h).elim nv fun h=>by omega
  have vb:V.beq v v=true:=by
    rcases hd with h|⟨b,rfl,_⟩
    · rcases h with ⟨_,rfl,_⟩ | ⟨_,rfl,_⟩<;>exact beq_self _ rfl
    · exact beq_self _ rfl
  have go:GoesQ (EndSt E σ 11 H127_0 _ σ3) E D σ 11 0 G127_0 H127_0 ⟨[(0,.ptr nb 0),(2,.int .i64 dd),(4,.ptr eb 0),(7,.int .i64 ii),(8,.ptr ib 0)],σ.next+11,[σ.bl],[],0,[]⟩:=
    goq_p (.ptr nb 0) rfl rfl <|
    goq_p (.ptr nb 0) rfl rfl <|
    goq_p (.ptr nb 0) rfl rfl <|
    goq_p (.ptr nb 5) rfl rfl <|
    goq_l v (go_start (S:=Names v) ht) rfl (old_ld1 (b:=nb) (off:=5) rfl ha hv ht nv vb) fun r1=>
    goq_l (.agg [.int .i64 kd,.sl tb 0 1 (.ex 1),.bool y1,.bool y2,.bool y3,.bool y4,.int .i64 z1,.int .i64 z2,.nils,.nils,.int .i64 ro,.bool mo,.int .i64 (Int.ofNat 0)]) r1 rfl (old_ldn (b:=ib) (off:=0) rfl hi rfl rfl ht ni (beq_self _ rfl)) fun r2=>
    goq_a (.sl (σ.next+6) 0 1 (.ex 1)) (.cells [.int .i64 kd,.sl tb 0 1 (.ex 1),.bool y1,.bool y2,.bool y3,.bool y4,.int .i64 z1,.int .i64 z2,.nils,.nils,.int .i64 ro,.bool mo,.int .i64 (Int.ofNat 0)]) 64 r2 rfl (by decide) (by decide) rfl fun _ r3=>
    goq_k u (by rw[←ha']at r3;exact r3) rfl (by decide) (S':=Names v) f2 (fun _ _ h=>h) (fun b h h1 _=>by have:=vl b h;omega) (app_den rfl rfl g2) fun _ _ r4=>
    goq_p (.ptr nb 0) rfl rfl <|
    goq_p (.ptr nb 5) rfl rfl <|
    goq_end .dead r4 rfl (by decide) f3 (fun b h h1 _=>by omega) g3 (fun x hx=>by
      simp only[List.mem_cons,List.not_mem_nil,or_false]at hx
      rcases hx with rfl|rfl
      · show legal H127_0 5 [10,7] []=false
        decide
      · show legal H127_0 4 [10,7] []=false
        decide)
  have d:=goq_draw (ops:=G127_0) go
  refine⟨_,u,σ3,d,rfl,rfl,rfl,rfl,c3,d2.fr f3 f2.tidy (fun b hb e=>un (e ▸ hb)),fun b hb=>(m2 b hb).elim .inl (fun h => .inr (by omega)),un,?_⟩
  exact((fa.mono (fun _ _ h=>h.elim):Fr (fun b=>b=nb∨Names v b) σ σa).trans f2 (fun _ _ h => .inr h)).trans f3 (fun _ _ h => .inl h)
def checkP (c:ConS) (sz:Bool):Bool:=!c.has || !(((c.hasLow&&c.hasHigh)&&ltF c.high c.low) || (sz&&(((!c.hasLow || ltF c.low (Int.ofNat 0)) || ltF (Int.ofNat 70000) c.low) || (c.hasHigh&&(ltF c.high (Int.ofNat 0) || ltF (Int.ofNat 70000) c.high)))))
def conA (c:ConS):List V:=[.bool c.has,.bool c.hasLow,.bool c.hasHigh,.bool c.more,.int .i64 c.low,.int .i64 c.high]
def SpCheck (F:List V→H→Ans):Prop:=∀(σ:H) (c:ConS) (sz:Bool),Tidy σ→checkP c sz=true→∃σ',F [.agg (conA c),.bool sz] σ=some (.int .i64 (Int.ofNat 0),σ')∧Fr Nowhere σ σ'
theorem check_F {W:DrawFn}:SpCheck (F221 E D W N):=by
 intro σ c sz ht hc
 obtain⟨ha,hl,hh,mo,lo,hi⟩:=c
 obtain⟨σ1,e1,f1,a1,n1⟩:=mkN ht [.bool ha,.bool hl,.bool hh,.bool mo,.int .i64 lo,.int .i64 hi]
 refine⟨σ1,?_,f1⟩
 unfold checkP at hc
 dsimp only at hc
 show T221_0 E D W ha hl hh mo lo hi sz σ=_
 unfold T221_0
 generalize h1:ltF hi lo=b1 at hc ⊢
 generalize h2:ltF lo (Int.ofNat 0)=b2 at hc ⊢
 generalize h3:ltF (Int.ofNat 70000) lo=b3 at hc ⊢
 generalize h4:ltF hi (Int.ofNat 0)=b4 at hc ⊢
 generalize h5:ltF (Int.ofNat 70000) hi=b5 at hc ⊢
 cases ha
 ·simp -implicitDefEqProofs only [↓rP,rA,Nat.reduceEqDiff,Nat.reduceLT,Nat.reduceLeDiff,↓e1,↓ldK_is a1]
 ·cases hl<;>cases hh<;>cases sz<;>(try cases b1)<;>(try cases b2)<;>(try cases b3)<;>(try cases b4)<;>(try cases b5)<;>first
   | exact absurd hc (by decide)
   | (simp -implicitDefEqProofs only [↓rP,rA,Nat.reduceEqDiff,Nat.reduceLT,Nat.reduceLeDiff,↓e1,↓ldK_is a1,h1,h2,h3,h4,h5];done)
def uniP (k:Nat):Nat:=match k with
 | 1=>1 | 2=>2 | 3=>10 | 4=>5 | 5=>4 | 6=>12 | 7=>16 | 8=>17 | 10=>16 | _=>0
def SpUni (F:List V→H→Ans):Prop:=∀(σ:H) (k:Nat),k≤10→F [.int .i64 (Int.ofNat k)] σ=some (.agg [.int .i64 (Int.ofNat 0),.int .i64 (Int.ofNat (uniP k))],σ)
theorem uni_F {W:DrawFn}:SpUni (F220 E D W N):=by
 intro σ k hk
 match k,hk with
 | 0,_=>rfl
 | 1,_=>rfl
 | 2,_=>rfl
 | 3,_=>rfl
 | 4,_=>rfl
 | 5,_=>rfl
 | 6,_=>rfl
 | 7,_=>rfl
 | 8,_=>rfl
 | 9,_=>rfl
 | 10,_=>rfl
theorem ndC_sub:∀(ns:List NodeS) (ws:List (V × V)) (i:Nat) (nd:NodeS) (u:V × V),ns[i]? = some nd→ws[i]? = some u→((ndCs ns ws).drop (i*16)).take 16=nd.c u.1 u.2
 | [],_,i,nd,u,h,_=>by simp at h
 | _::_,[],i,nd,u,_,h=>by simp at h
 | x::ns,y::ws,0,nd,u,h,h'=>by simp at h h';subst h;subst h';rfl
 | x::ns,y::ws,i+1,nd,u,h,h'=>by
  have h:ns[i]? = some nd:=by simpa using h
  have h':ws[i]? = some u:=by simpa using h'
  show ((x.c y.1 y.2++ndCs ns ws).drop ((i+1)*16)).take 16=_
  rw[show (i+1)*16=16+i*16 by omega,←List.drop_drop,show (x.c y.1 y.2++ndCs ns ws).drop 16=ndCs ns ws from rfl]
  exact ndC_sub ns ws i nd u h h'
theorem src_at {σ:H} {esz n i:Nat} {v:V} {m c:List V} (h:Src σ esz n v m) (hi:i<n) (hc:(m.drop (i*esz)).take esz=c) (hz:0<esz) (κ:List V→Ans):iaddrSK esz v (Int.ofNat i) (fun b o=>ldnK E σ b o esz κ)=κ c:=by
 rcases h with ⟨h0,_,_⟩|⟨b,o,cp,L,rfl,ha,hle,hm⟩
 ·omega
 ·rw[iaddrSK_lt hi]
  show ldnK E σ b (o+i*esz) esz κ=_
  have hmul:i*esz+esz≤n*esz:=by rw[←Nat.succ_mul];exact Nat.mul_le_mul_right _ hi
  rw[ldnK_is ha,subK_of (by omega)]
  rw[hm,List.drop_take,List.take_take,Nat.min_eq_left (by omega),List.drop_drop]at hc
  rw[hc]
theorem src_ld {σ:H} {n i:Nat} {v w:V} {m:List V} (h:Src σ 1 n v m) (hi:i<n) (hc:m[i]? = some w) (κ:V→Ans):iaddrSK 1 v (Int.ofNat i) (fun b o=>ldK E σ b o κ)=κ w:=by
 rcases h with ⟨h0,_,_⟩|⟨b,o,cp,L,rfl,ha,hle,hm⟩
 ·omega
 ·rw[iaddrSK_lt hi]
  show ldK E σ b (o+i*1) κ=_
  have:L[o+i*1]? = some w:=by
   rw[hm,List.getElem?_take_of_lt (by omega),List.getElem?_drop]at hc
   rw[Nat.mul_one];exact hc
  rw[ldK_is ha,nthK_of (by rw[nthF_eq];exact this)]
end
def SpInI (F:List V→H→Ans):Prop:=∀(σ:H) (v:V) (l:List Nat) (x:Nat),Src σ 1 l.length v (ksC l)→l.length≤9000→F [v,.int .i64 (Int.ofNat x)] σ=some (.bool (l.any fun y=>decide (y=x)),σ)
structure MdOk (m:ModS):Prop where
 kinds:∀nd∈m.ns,nd.kind≠11∧nd.kind≤10∧nd.fields.length≤5000
 few:m.ns.length≤300∧m.az.length≤40
 as_many:m.ks.length=m.az.length
 apart:∀i,i<m.az.length→((m.az.take i).map ofN).any (fun x=>x.beq (ofN (m.az[i]?.getD [])))=false
def SpUses (m:ModS) (q:Nat) (F:List V→H→Ans):Prop:=∀(σ:H) (nv tv dv:V) (k d:Nat),Tidy σ→MdS σ m nv tv dv→17≤d+q→d≤1000 →
 ∃σ',F [.agg (mdC m nv tv dv),.int .i64 (Int.ofNat k),.int .i64 (Int.ofNat d),.nils] σ=some (.tup [.nils,.bool false],σ')∧Fr Nowhere σ σ'
theorem MdS.fr {σ σ':H} {m:ModS} {nv tv dv:V} (h:MdS σ m nv tv dv) (f:Fr Nowhere σ σ') (ht:Tidy σ):MdS σ' m nv tv dv:=by
 obtain⟨ws,h1,h2,h3⟩:=h.d
 refine⟨h.n.fr f ht (fun _ _ h=>h),h.t.fr f ht (fun _ _ h=>h),ws,h1.fr f ht (fun _ _ h=>h),h2,fun k nd u hn hu=>?_⟩
 obtain⟨a,b⟩:=h3 k nd u hn hu
 exact⟨a.fr f ht (fun _ _ h=>h),b.fr f ht (fun _ _ h=>h)⟩
theorem MdS.nd {σ:H} {m:ModS} {nv tv dv:V} (h:MdS σ m nv tv dv) {k:Nat} {nd:NodeS} (hk:m.ns[k]? = some nd) :
  ∃iv fv,(∀(E:List (Nat × Blk)) (κ:List V→Ans),iaddrSK 16 dv (Int.ofNat k) (fun b o=>ldnK E σ b o 16 κ)=κ (nd.c iv fv))∧Src σ 3 nd.items.length iv (itC nd.items)∧Src σ 11 nd.fields.length fv (fdC nd.fields):=by
 obtain⟨ws,h1,h2,h3⟩:=h.d
 have hlt:k<m.ns.length:=(List.getElem?_eq_some_iff.1 hk).1
 obtain⟨u,hu⟩:∃u,ws[k]? = some u:=⟨ws[k],List.getElem?_eq_getElem (by omega)⟩
 obtain⟨a,b⟩:=h3 k nd u hk hu
 exact⟨u.1,u.2,fun E κ=>src_at (E:=E) h1 hlt (ndC_sub _ _ _ _ _ hk hu) (by decide) κ,a,b⟩
theorem fd_ty:∀(l:List FieldS) (i:Nat) (f:FieldS),l[i]? = some f→(fdC l)[i*11+1]? = some (.int .i64 (Int.ofNat f.type))
 | [],i,f,h=>by simp at h
 | x::l,0,f,h=>by simp at h;subst h;rfl
 | x::l,i+1,f,h=>by
  have h:l[i]? = some f:=by simpa using h
  show (x.c++fdC l)[(i+1)*11+1]? = _
  rw[List.getElem?_append_right (by show 11≤_;omega),show (i+1)*11+1-x.c.length=i*11+1 by show (i+1)*11+1-11=_;omega]
  exact fd_ty l i f h
section
variable {E:List (Nat × Blk)} {D:Den} {W:DrawFn} {N:Nat}
theorem src_ldo {σ:H} {esz n i off:Nat} {v w:V} {m:List V} (h:Src σ esz n v m) (hi:i<n) (ho:off<esz) (hc:m[i*esz+off]? = some w) (κ:V→Ans):iaddrSK esz v (Int.ofNat i) (fun b o=>ldK E σ b (Nat.add o off) κ)=κ w:=by
 rcases h with ⟨h0,_,_⟩|⟨b,o,cp,L,rfl,ha,hle,hm⟩
 ·omega
 ·rw[iaddrSK_lt hi]
  show ldK E σ b (o+i*esz+off) κ=_
  have hmul:i*esz+esz≤n*esz:=by rw[←Nat.succ_mul];exact Nat.mul_le_mul_right _ hi
  have:L[o+i*esz+off]? = some w:=by
   rw[hm,List.getElem?_take_of_lt (by omega),List.getElem?_drop]at hc
   rw[Nat.add_assoc];exact hc
  exact ldK_get ha this
theorem inI_F (hN:10000<N):SpInI (F29 E D W N):=by
 intro σ v l x hv hl
 have key:∀(m i n:Nat),i+m=l.length→m<n→L29_2 E D W N n v (Int.ofNat x) (Int.ofNat i) σ=some (.bool ((l.drop i).any fun y=>decide (y=x)),σ):=by
  intro m
  induction m with
  | zero=>
   intro i n hi hn
   obtain⟨n,rfl⟩:∃k,n=k+1:=⟨n-1,by omega⟩
   rw[List.drop_eq_nil_of_le (by omega)]
   show T29_2 E D W (T29_1 E D W) _ v (Int.ofNat x) (Int.ofNat i) σ=_
   have d1:decide (i<l.length)=false:=decide_eq_false (by omega)
   have sl:∀κ:Nat→Ans,slenK v κ=κ l.length:=fun κ=>hv.slen
   have k:∀R,T29_2 E D W (T29_1 E D W) R v (Int.ofNat x) (Int.ofNat i) σ=some (.bool false,σ):=by
    intro R
    unfold T29_2 T29_1
    simp -implicitDefEqProofs only [↓rP,rA,Nat.reduceEqDiff,Nat.reduceLT,Nat.reduceLeDiff,↓sl,d1]
   exact k _
  | succ m ih=>
   intro i n hi hn
   obtain⟨n,rfl⟩:∃k,n=k+1:=⟨n-1,by omega⟩
   have hlt:i<l.length:=by omega
   rw[List.drop_eq_getElem_cons hlt,List.any_cons]
   show T29_2 E D W (T29_1 E D W) (L29_2 E D W N n) v (Int.ofNat x) (Int.ofNat i) σ=_
   have d1:decide (i<l.length)=true:=decide_eq_true hlt
   have a1:addF .i64 (Int.ofNat i) (Int.ofNat 1)=Int.ofNat (i+1):=addF_nat (by omega)
   have sl:∀κ:Nat→Ans,slenK v κ=κ l.length:=fun κ=>hv.slen
   have rd:∀κ,iaddrSK 1 v (Int.ofNat i) (fun b o=>ldK E σ b o κ)=κ (.int .i64 (Int.ofNat l[i])):=fun κ=>src_ld hv hlt (by unfold ksC;rw[List.getElem?_map,List.getElem?_eq_getElem hlt];rfl) κ
   have k:∀R,T29_2 E D W (T29_1 E D W) R v (Int.ofNat x) (Int.ofNat i) σ=condK (decide (l[i]=x)) (some (.bool true,σ)) (R v (Int.ofNat x) (Int.ofNat (i+1)) σ):=by
    intro R
    unfold T29_2
    simp -implicitDefEqProofs only [↓rP,rA,Nat.reduceEqDiff,Nat.reduceLT,Nat.reduceLeDiff,↓sl,d1,↓rd,a1]
   rw[k,ih (i+1) n (by omega) (by omega)]
   cases decide (l[i]=x)<;>rfl
 exact key l.length 0 N (by omega) (by omega)
theorem uses_L {m:ModS} {q:Nat} (hU:SpUses m q (D 124)) (hN:6000<N) {nd:NodeS} {iv fv nv tv dv:V} {mb d:Nat} (hk11:nd.kind≠11) (hq:17≤d+1+q) (hd:d≤16) (hfl:nd.fields.length≤5000):∀(n i k:Nat) {σ:H},i+n=nd.fields.length→n<k→Tidy σ→Atc σ mb (mdC m nv tv dv)→MdS σ m nv tv dv→Src σ 11 nd.fields.length fv (fdC nd.fields) →
  ∃σ',L124_4 E D W N k (Int.ofNat d) .nils mb 0 false (Int.ofNat i) (Int.ofNat nd.kind) (ofN nd.name) nd.mHas nd.mNum (Int.ofNat nd.mMode) nd.con.has nd.con.hasLow nd.con.hasHigh nd.con.more nd.con.low nd.con.high iv fv (Int.ofNat nd.root) nd.more (Int.ofNat nd.of_) σ=some (.tup [.nils,.bool false],σ')∧Fr Nowhere σ σ':=by
 have ad:addF .i64 (Int.ofNat d) (Int.ofNat 1)=Int.ofNat (d+1):=addF_nat (by omega)
 intro n
 induction n with
 | zero=>
  intro i k σ hi hk ht ha hm hf
  obtain⟨k,rfl⟩:∃j,k=j+1:=⟨k-1,by omega⟩
  have d1:decide (i<nd.fields.length)=false:=decide_eq_false (by omega)
  have sl:∀κ:Nat→Ans,slenK fv κ=κ nd.fields.length:=fun κ=>hf.slen
  unfold mdC at ha
  have sub:∀κ:List V→Ans,subK [.str (ofN m.nm),.int .i64 (Int.ofNat m.tg),nv,tv,dv] 0 5 κ=κ [.str (ofN m.nm),.int .i64 (Int.ofNat m.tg),nv,tv,dv]:=fun κ=>by
   rw[subK_of (by simp)];rfl
  obtain⟨σ',g,f⟩:=hU σ nv tv dv nd.of_ (d+1) ht hm (by omega) (by omega)
  unfold mdC at g
  cases h10:decide (nd.kind=10)with
  | false=>
   refine⟨σ,?_,Fr.refl ht⟩
   show T124_4 E D W (T124_3 E D W (T124_5 E D W)) _ _ _ _ _ _ _ _ _ _ _ _ _ _ _ _ _ _ _ _ _ _ _ _=_
   have key:∀R,T124_4 E D W (T124_3 E D W (T124_5 E D W)) R (Int.ofNat d) .nils mb 0 false (Int.ofNat i) (Int.ofNat nd.kind) (ofN nd.name) nd.mHas nd.mNum (Int.ofNat nd.mMode) nd.con.has nd.con.hasLow nd.con.hasHigh nd.con.more nd.con.low nd.con.high iv fv (Int.ofNat nd.root) nd.more (Int.ofNat nd.of_) σ=some (.tup [.nils,.bool false],σ):=by
    intro R
    unfold T124_4 T124_3 T124_5
    simp -implicitDefEqProofs only [↓rP,rA,Nat.reduceEqDiff,Nat.reduceLT,Nat.reduceLeDiff,↓sl,d1,h10]
   exact key _
  | true=>
   refine⟨σ',?_,f⟩
   show T124_4 E D W (T124_3 E D W (T124_5 E D W)) _ _ _ _ _ _ _ _ _ _ _ _ _ _ _ _ _ _ _ _ _ _ _ _=_
   have key:∀R,T124_4 E D W (T124_3 E D W (T124_5 E D W)) R (Int.ofNat d) .nils mb 0 false (Int.ofNat i) (Int.ofNat nd.kind) (ofN nd.name) nd.mHas nd.mNum (Int.ofNat nd.mMode) nd.con.has nd.con.hasLow nd.con.hasHigh nd.con.more nd.con.low nd.con.high iv fv (Int.ofNat nd.root) nd.more (Int.ofNat nd.of_) σ=some (.tup [.nils,.bool false],σ'):=by
    intro R
    unfold T124_4 T124_3 T124_5
    simp -implicitDefEqProofs only [↓rP,rA,Nat.reduceEqDiff,Nat.reduceLT,Nat.reduceLeDiff,↓sl,d1,h10,↓ldnK_is ha,↓sub,ad,↓g]
   exact key _
 | succ n ih=>
  intro i k σ hi hk ht ha hm hf
  obtain⟨k,rfl⟩:∃j,k=j+1:=⟨k-1,by omega⟩
  have hlt:i<nd.fields.length:=by omega
  have d1:decide (i<nd.fields.length)=true:=decide_eq_true hlt
  have a1:addF .i64 (Int.ofNat i) (Int.ofNat 1)=Int.ofNat (i+1):=addF_nat (by omega)
  have sl:∀κ:Nat→Ans,slenK fv κ=κ nd.fields.length:=fun κ=>hf.slen
  have rd:∀κ,iaddrSK 11 fv (Int.ofNat i) (fun b o=>ldK E σ b (Nat.add o 1) κ)=κ (.int .i64 (Int.ofNat nd.fields[i].type)):=fun κ=>src_ldo hf hlt (by decide) (fd_ty _ _ _ (List.getElem?_eq_getElem hlt)) κ
  obtain⟨σ1,g,f1⟩:=hU σ nv tv dv nd.fields[i].type (d+1) ht hm (by omega) (by omega)
  obtain⟨σ',g',f'⟩:=ih (i+1) k (σ:=σ1) (by omega) (by omega) f1.tidy (f1.at_ ha ht (fun h=>h)) (hm.fr f1 ht) (hf.fr f1 ht (fun _ _ h=>h))
  refine⟨σ',?_,f1.trans f' (fun _ _ h=>h)⟩
  unfold mdC at ha g
  have sub:∀κ:List V→Ans,subK [.str (ofN m.nm),.int .i64 (Int.ofNat m.tg),nv,tv,dv] 0 5 κ=κ [.str (ofN m.nm),.int .i64 (Int.ofNat m.tg),nv,tv,dv]:=fun κ=>by
   rw[subK_of (by simp)];rfl
  show T124_4 E D W (T124_3 E D W (T124_5 E D W)) (L124_4 E D W N k) _ _ _ _ _ _ _ _ _ _ _ _ _ _ _ _ _ _ _ _ _ _ _=_
  have key:∀K R,T124_4 E D W K R (Int.ofNat d) .nils mb 0 false (Int.ofNat i) (Int.ofNat nd.kind) (ofN nd.name) nd.mHas nd.mNum (Int.ofNat nd.mMode) nd.con.has nd.con.hasLow nd.con.hasHigh nd.con.more nd.con.low nd.con.high iv fv (Int.ofNat nd.root) nd.more (Int.ofNat nd.of_) σ=R (Int.ofNat d) .nils mb 0 false (Int.ofNat (i+1)) (Int.ofNat nd.kind) (ofN nd.name) nd.mHas nd.mNum (Int.ofNat nd.mMode) nd.con.has nd.con.hasLow nd.con.hasHigh nd.con.more nd.con.low nd.con.high iv fv (Int.ofNat nd.root) nd.more (Int.ofNat nd.of_) σ1:=by
   intro K R
   unfold T124_4
   simp -implicitDefEqProofs only [↓rP,rA,Nat.reduceEqDiff,Nat.reduceLT,Nat.reduceLeDiff,↓sl,d1,↓ldnK_is ha,↓sub,↓rd,ad,a1,↓g]
  rw[key];exact g'
theorem uses_F {m:ModS} {q:Nat} (hm:MdOk m) (hN:6000<N) (hU:∀p,q=p+1→SpUses m p (D 124)):SpUses m q (F124 E D W N):=by
 intro σ nv tv dv k d ht hs hq hd
 obtain⟨σ1,e1,f1,a1,n1⟩:=mkN ht (mdC m nv tv dv)
 have sl:∀κ:Nat→Ans,slenK dv κ=κ m.ns.length:=fun κ=>by
  obtain⟨ws,h1,_⟩:=hs.d
  exact h1.slen
 have od:dv.one=true:=by
  obtain⟨ws,h1,_⟩:=hs.d
  exact h1.one
 have d0:decide (k<0)=false:=decide_eq_false (by omega)
 unfold mdC at e1 a1
 have s1:=hs.fr f1 ht
 show ∃σ',T124_0 E D W (T124_1 E D W (L124_4 E D W N N)) (T124_2 E D W) (ofN m.nm) (Int.ofNat m.tg) nv tv dv (Int.ofNat k) (Int.ofNat d) .nils σ=_∧_
 cases h1:decide (m.ns.length≤k)with
 | true=>
  refine⟨σ1,?_,f1⟩
  unfold T124_0
  simp -implicitDefEqProofs only [↓rP,rA,Nat.reduceEqDiff,Nat.reduceLT,Nat.reduceLeDiff,hs.n.one,hs.t.one,od,d0,↓e1,↓ldK_is a1,↓sl,h1]
 | false=>
  cases h2:decide (16<d)with
  | true=>
   refine⟨σ1,?_,f1⟩
   unfold T124_0
   simp -implicitDefEqProofs only [↓rP,rA,Nat.reduceEqDiff,Nat.reduceLT,Nat.reduceLeDiff,hs.n.one,hs.t.one,od,d0,↓e1,↓ldK_is a1,↓sl,h1,h2]
  | false=>
   have hk:k<m.ns.length:=by have:=of_decide_eq_false h1;omega
   have hd16:d≤16:=by have:=of_decide_eq_false h2;omega
   obtain⟨p,rfl⟩:∃p,q=p+1:=⟨q-1,by omega⟩
   obtain⟨iv,fv,rd,hi,hf⟩:=s1.nd (List.getElem?_eq_getElem hk)
   have hkd:=hm.kinds _ (List.getElem_mem hk)
   have a1':=a1
   obtain⟨nd,hnd⟩:∃nd,nd=m.ns[k]:=⟨_,rfl⟩
   rw[←hnd]at rd hi hf hkd
   obtain⟨σ2,g2,f2⟩:=uses_L (E:=E) (W:=W) (N:=N) (hU p rfl) hN (mb:=σ.next) (iv:=iv) hkd.1 (by omega) hd16 hkd.2.2 nd.fields.length 0 N (by omega) (by omega) f1.tidy a1 s1 hf
   refine⟨σ2,?_,f1.trans f2 (fun _ _ h=>h)⟩
   have h11:decide (nd.kind=11)=false:=decide_eq_false hkd.1
   have rd':=rd E
   unfold NodeS.c at rd'
   have key:∀K1 K2,T124_0 E D W K1 K2 (ofN m.nm) (Int.ofNat m.tg) nv tv dv (Int.ofNat k) (Int.ofNat d) .nils σ=K1 (Int.ofNat d) .nils σ.next 0 (Int.ofNat nd.kind) (ofN nd.name) nd.mHas nd.mNum (Int.ofNat nd.mMode) nd.con.has nd.con.hasLow nd.con.hasHigh nd.con.more nd.con.low nd.con.high iv fv (Int.ofNat nd.root) nd.more (Int.ofNat nd.of_) σ1:=by
    intro K1 K2
    unfold T124_0
    simp -implicitDefEqProofs only [↓rP,rA,Nat.reduceEqDiff,Nat.reduceLT,Nat.reduceLeDiff,hs.n.one,hs.t.one,od,d0,↓e1,↓ldK_is a1,↓sl,h1,h2,↓rd',h11,allOne_cons,allOne_nil,one_int,one_str,one_bool,hi.one,hf.one]
   rw[key];exact g2
end
def SpReach (F:List V→H→Ans):Prop:=∀(σ:H) (g:V) (n i j:Nat),Tidy σ→Src σ 1 n g (List.replicate n .nils)→i<n→∃σ',F [g,.int .i64 (Int.ofNat i),.int .i64 (Int.ofNat j)] σ=some (.bool false,σ')∧Fr Nowhere σ σ'
def SpOrder (m:ModS) (F:List V→H→Ans):Prop:=∀(σ:H) (nv tv dv:V),Tidy σ→MdS σ m nv tv dv→∃v σ',F [.agg (mdC m nv tv dv)] σ=some (.tup [v,.int .i64 (Int.ofNat 0),.int .i64 (Int.ofNat 0)],σ')∧v.one=true∧Fr Nowhere σ σ'
theorem zbnd (k d:Nat):bnd (some (.int .i64 (Int.ofNat k))) d=some k:=by
 show (if(0:Int)≤Int.ofNat k then some (Int.ofNat k).toNat else none)=_
 exact if_pos (Int.natCast_nonneg k)
theorem zpre {b n k:Nat} {c:Cap} (hc:c = .op 1∨c = .ex n) (hk:k≤n) (h0:0<n):sliceV 1 (.sl b 0 n c) none (some (.int .i64 (Int.ofNat k))) none=some (.sl b 0 k c):=by
 rcases hc with rfl|rfl
 ·unfold sliceV
  simp only[zbnd,show bnd none 0=some 0 from rfl]
  rw[if_pos (by simp;omega),if_neg (by simp;omega)]
  simp
 ·unfold sliceV
  simp only[zbnd,show bnd none 0=some 0 from rfl,show bnd none n=some n from rfl]
  rw[if_pos (by simp;omega)]
  simp
theorem dst_pre {σ:H} {n k:Nat} {v:V} {l:List V} (h:Dst σ 1 n v l) (hk:k≤n):∃u,sliceV 1 v none (some (.int .i64 (Int.ofNat k))) none=some u∧Src σ 1 k u (l.take k):=by
 have go:∀{b:Nat} {c:Cap},(c = .op 1∨c = .ex n)→0<n→Atc σ b l→v = .sl b 0 n c→∃u,sliceV 1 v none (some (.int .i64 (Int.ofNat k))) none=some u∧Src σ 1 k u (l.take k):=by
  intro b c hc h0 ha hv
  subst hv
  refine⟨_,zpre hc hk h0,.inr ⟨b,0,c,l,rfl,ha,?_,?_⟩⟩
  ·have:=h.length;omega
  ·rw[List.drop_zero,Nat.mul_one]
 rcases h with (⟨h0,hv,hl⟩|⟨b,hv,ha,h0,hl⟩)|⟨b,hv,ha,hl⟩
 ·subst h0;subst hv
  have:k=0:=by omega
  subst this
  exact⟨.nils,rfl,.inl ⟨rfl,rfl,by simp⟩⟩
 ·exact go (.inl rfl) h0 ha hv
 ·rcases Nat.eq_zero_or_pos n with h0|h0
  ·subst h0
   have:k=0:=by omega
   subst this
   subst hv
   exact⟨.sl b 0 0 (.ex 0),rfl,.inr ⟨b,0,_,l,rfl,ha,Nat.zero_le _,by simp⟩⟩
  ·exact go (.inr rfl) h0 ha hv
section
variable {E:List (Nat × Blk)} {D:Den} {W:DrawFn} {N:Nat}
theorem reach_F (hN:10<N):SpReach (F125 E D W N):=by
 intro σ g n i j ht hg hi
 obtain⟨N,rfl⟩:∃k,N=k+1:=⟨N-1,by omega⟩
 obtain⟨σ1,e1,f1,a1,n1⟩:=mkN ht []
 refine⟨σ1,?_,f1⟩
 have rd:∀κ:V→Ans,iaddrSK 1 g (Int.ofNat i) (fun b o=>ldK E σ1 b o κ)=κ .nils:=fun κ=>src_ld (hg.fr f1 ht (fun _ _ h=>h)) hi (by rw[List.getElem?_replicate,if_pos hi]) κ
 have ap:∀κ:V→H→Ans,appK E 1 8 .nils .nils σ1 κ=κ .nils σ1:=fun κ=>rfl
 show T125_0 E D W (T125_2 E D W (T125_1 E D W) _) g (Int.ofNat i) (Int.ofNat j) σ=_
 have key:∀R,T125_0 E D W (T125_2 E D W (T125_1 E D W) R) g (Int.ofNat i) (Int.ofNat j) σ=some (.bool false,σ1):=by
  intro R
  unfold T125_0 T125_2 T125_1
  simp -implicitDefEqProofs only [↓rP,rA,Nat.reduceEqDiff,Nat.reduceLT,Nat.reduceLeDiff,↓e1,↓rd,↓ap]
 exact key _
theorem ord_2 {m:ModS} (hm:MdOk m) (hS:SpInS (D 123)) {σ:H} {nv tv dv:V} {mb:Nat} (ha:Atc σ mb (mdC m nv tv dv)) (hs:MdS σ m nv tv dv):∀(n i k:Nat),i+n=m.az.length→n<k→∀K1,(Nat.rec (fun _ _ _ _ _ _=>none) (fun _ ih=>T63_2 E D W K1 ih) k:Nat→Nat→V→Int→Int→H→Ans) mb 0 .nils (Int.negSucc 0) (Int.ofNat i) σ=K1 mb 0 .nils (Int.negSucc 0) σ:=by
 have hfew:=hm.few.2
 have sl:∀κ:Nat→Ans,slenK nv κ=κ m.az.length:=fun κ=>hs.n.slen
 unfold mdC at ha
 intro n
 induction n with
 | zero=>
  intro i k hi hk K1
  obtain⟨k,rfl⟩:∃j,k=j+1:=⟨k-1,by omega⟩
  have d1:decide (i<m.az.length)=false:=decide_eq_false (by omega)
  show T63_2 E D W K1 _ mb 0 .nils (Int.negSucc 0) (Int.ofNat i) σ=_
  have key:∀R,T63_2 E D W K1 R mb 0 .nils (Int.negSucc 0) (Int.ofNat i) σ=K1 mb 0 .nils (Int.negSucc 0) σ:=by
   intro R
   unfold T63_2
   simp -implicitDefEqProofs only [↓rP,rA,Nat.reduceEqDiff,Nat.reduceLT,Nat.reduceLeDiff,↓ldK_is ha,↓sl,d1]
  exact key _
 | succ n ih=>
  intro i k hi hk K1
  obtain⟨k,rfl⟩:∃j,k=j+1:=⟨k-1,by omega⟩
  have hlt:i<m.az.length:=by omega
  have d1:decide (i<m.az.length)=true:=decide_eq_true hlt
  have a1:addF .i64 (Int.ofNat i) (Int.ofNat 1)=Int.ofNat (i+1):=addF_nat (by omega)
  obtain⟨u,hu,su⟩:=dst_pre hs.n (k:=i) (by omega)
  have gu:∀κ:V→Ans,gK (sliceV 1 nv none (some (.int .i64 (Int.ofNat i))) none) κ=κ u:=fun κ=>by rw[hu];rfl
  have rd:∀κ:V→Ans,iaddrSK 1 nv (Int.ofNat i) (fun b o=>ldK E σ b o κ)=κ (.str (ofN m.az[i])):=fun κ=>src_ld hs.n.src hlt (by unfold stC;rw[List.getElem?_map,List.getElem?_eq_getElem hlt];rfl) κ
  have gi:=hS σ u ((m.az.take i).map ofN) (ofN m.az[i]) (by
   rw[List.length_map,List.length_take,Nat.min_eq_left (by omega),List.map_map]
   have:stC m.az=m.az.map (V.str ∘ ofN):=rfl
   rw[this,←List.map_take]at su
   exact su) (by rw[List.length_map,List.length_take];omega)
  have:=hm.apart i hlt
  rw[List.getElem?_eq_getElem hlt]at this
  have this:((m.az.take i).map ofN).any (fun x=>x.beq (ofN m.az[i]))=false:=this
  rw[this]at gi
  show T63_2 E D W K1 _ mb 0 .nils (Int.negSucc 0) (Int.ofNat i) σ=_
  have key:∀R,T63_2 E D W K1 R mb 0 .nils (Int.negSucc 0) (Int.ofNat i) σ=R mb 0 .nils (Int.negSucc 0) (Int.ofNat (i+1)) σ:=by
   intro R
   unfold T63_2
   simp -implicitDefEqProofs only [↓rP,rA,Nat.reduceEqDiff,Nat.reduceLT,Nat.reduceLeDiff,↓ldK_is ha,↓sl,d1,↓gu,↓rd,↓gi,a1]
  rw[key]
  exact ih (i+1) k (by omega) (by omega) K1
theorem repl_snoc {α:Type} (n:Nat) (x:α):List.replicate n x++[x]=List.replicate (n+1) x:=by
 rw[List.replicate_succ']
theorem ord_4 {m:ModS} (hm:MdOk m) (hU:SpUses m 17 (D 124)) {nv tv dv:V} {mb:Nat} {σb:H} (htb:Tidy σb) (hab:Atc σb mb (mdC m nv tv dv)) (hsb:MdS σb m nv tv dv):∀(n i k:Nat) {σ:H} {u:V},i+n=m.az.length→n<k→Fr Nowhere σb σ→Dst σ 1 i u (List.replicate i .nils)→(∀b,Names u b→σb.next≤b) →
  ∃u' σ',(∀K3,(Nat.rec (fun _ _ _ _ _ _=>none) (fun _ ih=>T63_4 E D W K3 (T63_5 E D W ih)) k:Nat→Nat→V→Int→Int→H→Ans) mb 0 u (Int.negSucc 0) (Int.ofNat i) σ=K3 mb 0 u' (Int.negSucc 0) σ')∧Dst σ' 1 m.az.length u' (List.replicate m.az.length .nils)∧(∀b,Names u' b→σb.next≤b)∧Fr Nowhere σb σ':=by
 have hfew:=hm.few.2
 intro n
 induction n with
 | zero=>
  intro i k σ u hi hk f hu hmb
  obtain⟨k,rfl⟩:∃j,k=j+1:=⟨k-1,by omega⟩
  have hi:i=m.az.length:=by omega
  subst hi
  have ha:=f.at_ hab htb (fun h=>h)
  have sl:∀κ:Nat→Ans,slenK nv κ=κ m.az.length:=fun κ=>hsb.n.slen
  have d1:decide (m.az.length<m.az.length)=false:=decide_eq_false (by omega)
  unfold mdC at ha
  refine⟨u,σ,fun K3=>?_,hu,hmb,f⟩
  show T63_4 E D W K3 _ mb 0 u (Int.negSucc 0) (Int.ofNat m.az.length) σ=_
  have key:∀R,T63_4 E D W K3 R mb 0 u (Int.negSucc 0) (Int.ofNat m.az.length) σ=K3 mb 0 u (Int.negSucc 0) σ:=by
   intro R
   unfold T63_4
   simp -implicitDefEqProofs only [↓rP,rA,Nat.reduceEqDiff,Nat.reduceLT,Nat.reduceLeDiff,↓ldK_is ha,↓sl,d1]
  exact key _
 | succ n ih=>
  intro i k σ u hi hk f hu hmb
  obtain⟨k,rfl⟩:∃j,k=j+1:=⟨k-1,by omega⟩
  have hlt:i<m.az.length:=by omega
  have ha:=f.at_ hab htb (fun h=>h)
  have hs:=hsb.fr f htb
  have d1:decide (i<m.az.length)=true:=decide_eq_true hlt
  have a1:addF .i64 (Int.ofNat i) (Int.ofNat 1)=Int.ofNat (i+1):=addF_nat (by omega)
  have hks:i<m.ks.length:=by have:=hm.as_many;omega
  have rd:∀κ:V→Ans,iaddrSK 1 tv (Int.ofNat i) (fun b o=>ldK E σ b o κ)=κ (.int .i64 (Int.ofNat m.ks[i])):=fun κ=>src_ld hs.t hks (by unfold ksC;rw[List.getElem?_map,List.getElem?_eq_getElem hks];rfl) κ
  have sl:∀κ:Nat→Ans,slenK nv κ=κ m.az.length:=fun κ=>hsb.n.slen
  obtain⟨σ1,g1,f1⟩:=hU σ nv tv dv m.ks[i] 0 f.tidy hs (by omega) (by omega)
  obtain⟨σ2,e2,f2,a2,n2⟩:=mkN f1.tidy [.nils]
  have xs:Src σ2 1 1 (V.sl σ1.next 0 1 (.ex 1)) [.nils] := .inr ⟨_,_,_,_,rfl,a2,Nat.le_refl _,rfl⟩
  have f12:=f1.trans f2 (fun _ _ h=>h)
  obtain⟨u3,σ3,g3,d3,m3,f3⟩:=app_all (E:=E) (bytes:=24) (hu.fr f12 f.tidy (fun _ _ h=>h)) f2.tidy xs rfl (by unfold growable;simp only[Bool.and_eq_true,Nat.ble_eq];omega)
  have le:=f.le
  have le1:=f1.le
  have le2:=f2.le
  have f3':Fr Nowhere σb σ3:=((f.trans f12 (fun _ _ h=>h))).trans f3 (fun b hb h=>by have:=hmb b h;omega)
  rw[repl_snoc]at d3
  obtain⟨u',σ',g',d',m',f'⟩:=ih (i+1) k (by omega) (by omega) f3' d3 (fun b hb=>(m3 b hb).elim (hmb b) (fun h=>by omega))
  refine⟨u',σ',fun K3=>?_,d',m',f'⟩
  rw[←g' K3]
  unfold mdC at ha g1
  have sub:∀κ:List V→Ans,subK [.str (ofN m.nm),.int .i64 (Int.ofNat m.tg),nv,tv,dv] 0 5 κ=κ [.str (ofN m.nm),.int .i64 (Int.ofNat m.tg),nv,tv,dv]:=fun κ=>by
   rw[subK_of (by simp)];rfl
  have fl:∀κ:List V→Ans,fillK [(0,1,.nils)] [V.nils] κ=κ [.nils]:=fun κ=>rfl
  show T63_4 E D W K3 (T63_5 E D W _) mb 0 u (Int.negSucc 0) (Int.ofNat i) σ=_
  have key:∀R,T63_4 E D W K3 (T63_5 E D W R) mb 0 u (Int.negSucc 0) (Int.ofNat i) σ=R mb 0 u3 (Int.negSucc 0) (Int.ofNat (i+1)) σ3:=by
   intro R
   unfold T63_4 T63_5
   simp -implicitDefEqProofs only [↓rP,rA,Nat.reduceEqDiff,Nat.reduceLT,Nat.reduceLeDiff,↓ldK_is ha,↓ldnK_is ha,↓sub,↓sl,d1,↓rd,↓g1,↓fl,↓e2,↓g3,↓rtOne_of d3.one,a1]
  exact key _
theorem ord_7 {m:ModS} (hm:MdOk m) (hR:SpReach (D 125)) {nv tv dv u:V} {mb:Nat} {σb:H} (htb:Tidy σb) (hab:Atc σb mb (mdC m nv tv dv)) (hsb:MdS σb m nv tv dv) (hub:Src σb 1 m.az.length u (List.replicate m.az.length .nils)):∀(n i k:Nat) {σ:H},i+n=m.az.length→n<k→Fr Nowhere σb σ →
  ∃σ',(∀K6,(Nat.rec (fun _ _ _ _ _=>none) (fun _ ih=>T63_7 E D W K6 ih) k:Nat→Nat→V→Int→H→Ans) mb 0 u (Int.ofNat i) σ=K6 mb 0 u σ')∧Fr Nowhere σb σ':=by
 have hfew:=hm.few.2
 have sl:∀κ:Nat→Ans,slenK nv κ=κ m.az.length:=fun κ=>hsb.n.slen
 intro n
 induction n with
 | zero=>
  intro i k σ hi hk f
  obtain⟨k,rfl⟩:∃j,k=j+1:=⟨k-1,by omega⟩
  have ha:=f.at_ hab htb (fun h=>h)
  have d1:decide (i<m.az.length)=false:=decide_eq_false (by omega)
  unfold mdC at ha
  refine⟨σ,fun K6=>?_,f⟩
  show T63_7 E D W K6 _ mb 0 u (Int.ofNat i) σ=_
  have key:∀R,T63_7 E D W K6 R mb 0 u (Int.ofNat i) σ=K6 mb 0 u σ:=by
   intro R
   unfold T63_7
   simp -implicitDefEqProofs only [↓rP,rA,Nat.reduceEqDiff,Nat.reduceLT,Nat.reduceLeDiff,↓ldK_is ha,↓sl,d1]
  exact key _
 | succ n ih=>
  intro i k σ hi hk f
  obtain⟨k,rfl⟩:∃j,k=j+1:=⟨k-1,by omega⟩
  have ha:=f.at_ hab htb (fun h=>h)
  have d1:decide (i<m.az.length)=true:=decide_eq_true (by omega)
  have a1:addF .i64 (Int.ofNat i) (Int.ofNat 1)=Int.ofNat (i+1):=addF_nat (by omega)
  unfold mdC at ha
  obtain⟨σ1,g1,f1⟩:=hR σ u m.az.length i i f.tidy (hub.fr f htb (fun _ _ h=>h)) (by omega)
  obtain⟨σ',g',f'⟩:=ih (i+1) k (by omega) (by omega) (f.trans f1 (fun _ _ h=>h))
  refine⟨σ',fun K6=>?_,f'⟩
  rw[←g' K6]
  show T63_7 E D W K6 _ mb 0 u (Int.ofNat i) σ=_
  have key:∀R,T63_7 E D W K6 R mb 0 u (Int.ofNat i) σ=R mb 0 u (Int.ofNat (i+1)) σ1:=by
   intro R
   unfold T63_7
   simp -implicitDefEqProofs only [↓rP,rA,Nat.reduceEqDiff,Nat.reduceLT,Nat.reduceLeDiff,↓ldK_is ha,↓sl,d1,↓g1,a1]
  exact key _
theorem any_range (j x:Nat):(List.range j).any (fun y=>decide (y=x))=decide (x<j):=by
 rw[Bool.eq_iff_iff]
 simp
theorem ord_10 {m:ModS} (hm:MdOk m) (hI:SpInI (D 29)) (hN:10<N) {nv tv dv u:V} {mb:Nat} {σb:H} (htb:Tidy σb) (hab:Atc σb mb (mdC m nv tv dv)) (hsb:MdS σb m nv tv dv) (hub:Src σb 1 m.az.length u (List.replicate m.az.length .nils)) {σ:H} {v:V} {j:Nat} (f:Fr Nowhere σb σ) (hv:Dst σ 1 j v (ksC (List.range j))) (hn:∀b,Names v b→σb.next≤b) (hj:j<m.az.length) :
  ∃v' σ',(∀(n i k:Nat) R9,i+n=j→n<k→L63_10 E D W N R9 k mb 0 u v (Int.ofNat i) σ=R9 mb 0 u v' σ')∧Fr Nowhere σb σ'∧Dst σ' 1 (j+1) v' (ksC (List.range (j+1)))∧(∀b,Names v' b→σb.next≤b):=by
 have hfew:=hm.few.2
 have sl:∀κ:Nat→Ans,slenK nv κ=κ m.az.length:=fun κ=>hsb.n.slen
 have ha:=f.at_ hab htb (fun h=>h)
 have hu:=hub.fr f htb (fun _ _ h=>h)
 unfold mdC at ha
 have rd:∀i,i<m.az.length→∀κ:V→Ans,iaddrSK 1 u (Int.ofNat i) (fun b o=>ldK E σ b o κ)=κ .nils:=fun i hi κ=>src_ld hu hi (by rw[List.getElem?_replicate,if_pos hi]) κ
 have gi:∀i,D 29 [v,.int .i64 (Int.ofNat i)] σ=some (.bool (decide (i<j)),σ):=fun i=>by
  rw[hI σ v (List.range j) i (by rw[List.length_range];exact hv.src) (by rw[List.length_range];omega),any_range]
 obtain⟨σ2,e2,f2,a2,n2⟩:=mkN f.tidy [.int .i64 (Int.ofNat j)]
 have xs:Src σ2 1 1 (V.sl σ.next 0 1 (.ex 1)) [.int .i64 (Int.ofNat j)] := .inr ⟨_,_,_,_,rfl,a2,Nat.le_refl _,rfl⟩
 obtain⟨v3,σ3,g3,d3,m3,f3⟩:=app_all (E:=E) (bytes:=8) (hv.fr f2 f.tidy (fun _ _ h=>h)) f2.tidy xs rfl (by unfold growable;simp only[Bool.and_eq_true,Nat.ble_eq];omega)
 have le:=f.le
 refine⟨v3,σ3,?_,(f.trans f2 (fun _ _ h=>h)).trans f3 (fun b hb h=>by have:=hn b h;omega),by
  rw[show ksC (List.range (j+1))=ksC (List.range j)++[.int .i64 (Int.ofNat j)] by unfold ksC;rw[List.range_succ];simp]
  exact d3,fun b hb=>(m3 b hb).elim (hn b) (fun h=>by omega)⟩
 intro n
 induction n with
 | zero=>
  intro i k R9 hi hk
  obtain⟨k,rfl⟩:∃j,k=j+1:=⟨k-1,by omega⟩
  have hi:i=j:=by omega
  subst hi
  have d1:decide (i<m.az.length)=true:=decide_eq_true hj
  have d2:decide (i<i)=false:=decide_eq_false (by omega)
  have g:=gi i
  have r:=rd i hj
  obtain⟨N,rfl⟩:∃k,N=k+1:=⟨N-1,by omega⟩
  show T63_10 E D W (T63_13 E D W (T63_12 E D W (T63_11 E D W _) R9) _) R9 mb 0 u v (Int.ofNat i) σ=_
  have key:∀R R',T63_10 E D W (T63_13 E D W (T63_12 E D W (T63_11 E D W R) R9) R') R9 mb 0 u v (Int.ofNat i) σ=R9 mb 0 u v3 σ3:=by
   intro R R'
   unfold T63_10 T63_13 T63_12
   simp -implicitDefEqProofs only [↓rP,rA,Nat.reduceEqDiff,Nat.reduceLT,Nat.reduceLeDiff,↓ldK_is ha,↓sl,d1,↓g,↓r,d2,↓e2,↓g3,↓rtOne_of d3.one]
  exact key _ _
 | succ n ih=>
  intro i k R9 hi hk
  obtain⟨k,rfl⟩:∃j,k=j+1:=⟨k-1,by omega⟩
  have d1:decide (i<m.az.length)=true:=decide_eq_true (by omega)
  have d2:decide (i<j)=true:=decide_eq_true (by omega)
  have a1:addF .i64 (Int.ofNat i) (Int.ofNat 1)=Int.ofNat (i+1):=addF_nat (by omega)
  have g:=gi i
  have r:=rd i (by omega)
  rw[←ih (i+1) k R9 (by omega) (by omega)]
  obtain⟨N',hN'⟩:∃k,N=k+1:=⟨N-1,by omega⟩
  have key:∀R R',T63_10 E D W (T63_13 E D W (T63_12 E D W (T63_11 E D W R) R9) R') R9 mb 0 u v (Int.ofNat i) σ=R mb 0 u v (Int.ofNat (i+1)) σ:=by
   intro R R'
   unfold T63_10 T63_13 T63_12 T63_11
   simp -implicitDefEqProofs only [↓rP,rA,Nat.reduceEqDiff,Nat.reduceLT,Nat.reduceLeDiff,↓ldK_is ha,↓sl,d1,↓g,↓r,d2,a1]
  show T63_10 E D W (L63_13 E D W N R9 (L63_10 E D W N R9 k) N) R9 mb 0 u v (Int.ofNat i) σ=_
  have hL:L63_13 E D W N R9 (L63_10 E D W N R9 k) N=T63_13 E D W (T63_12 E D W (T63_11 E D W (L63_10 E D W N R9 k)) R9) (L63_13 E D W N R9 (L63_10 E D W N R9 k) N'):=by
   conv=>lhs;arg 7;rw[hN']
   rfl
  rw[hL]
  exact key _ _
theorem ord_9 {m:ModS} (hm:MdOk m) (hI:SpInI (D 29)) (hN:1000<N) {nv tv dv u:V} {mb:Nat} {σb:H} (htb:Tidy σb) (hab:Atc σb mb (mdC m nv tv dv)) (hsb:MdS σb m nv tv dv) (hub:Src σb 1 m.az.length u (List.replicate m.az.length .nils)):∀(n j k:Nat) {σ:H} {v:V},j+n=m.az.length→n<k→Fr Nowhere σb σ→Dst σ 1 j v (ksC (List.range j))→(∀b,Names v b→σb.next≤b) →
  ∃v' σ',L63_9 E D W N k mb 0 u v σ=some (.tup [v',.int .i64 (Int.ofNat 0),.int .i64 (Int.ofNat 0)],σ')∧v'.one=true∧Fr Nowhere σb σ':=by
 have hfew:=hm.few.2
 have sl:∀κ:Nat→Ans,slenK nv κ=κ m.az.length:=fun κ=>hsb.n.slen
 intro n
 induction n with
 | zero=>
  intro j k σ v hj hk f hv hn
  obtain⟨k,rfl⟩:∃i,k=i+1:=⟨k-1,by omega⟩
  have ha:=f.at_ hab htb (fun h=>h)
  unfold mdC at ha
  have sv:∀κ:Nat→Ans,slenK v κ=κ j:=fun κ=>hv.slen
  have d1:decide (j<m.az.length)=false:=decide_eq_false (by omega)
  refine⟨v,σ,?_,hv.one,f⟩
  show T63_9 E D W (T63_8 E D W) _ mb 0 u v σ=_
  have key:∀R,T63_9 E D W (T63_8 E D W) R mb 0 u v σ=some (.tup [v,.int .i64 (Int.ofNat 0),.int .i64 (Int.ofNat 0)],σ):=by
   intro R
   unfold T63_9 T63_8
   simp -implicitDefEqProofs only [↓rP,rA,Nat.reduceEqDiff,Nat.reduceLT,Nat.reduceLeDiff,↓ldK_is ha,↓sl,↓sv,d1]
  exact key _
 | succ n ih=>
  intro j k σ v hj hk f hv hn
  obtain⟨k,rfl⟩:∃i,k=i+1:=⟨k-1,by omega⟩
  have ha:=f.at_ hab htb (fun h=>h)
  unfold mdC at ha
  have sv:∀κ:Nat→Ans,slenK v κ=κ j:=fun κ=>hv.slen
  have d1:decide (j<m.az.length)=true:=decide_eq_true (by omega)
  obtain⟨v1,σ1,g1,f1,d1',n1⟩:=ord_10 (E:=E) (W:=W) (N:=N) hm hI (by omega) htb hab hsb hub f hv hn (by omega)
  obtain⟨v',σ',g',o',f'⟩:=ih (j+1) k (by omega) (by omega) f1 d1' n1
  refine⟨v',σ',?_,o',f'⟩
  rw[←g',←g1 j 0 N (L63_9 E D W N k) (by omega) (by omega)]
  show T63_9 E D W _ (L63_10 E D W N (L63_9 E D W N k) N) mb 0 u v σ=_
  have key:∀K8 R,T63_9 E D W K8 R mb 0 u v σ=R mb 0 u v (Int.ofNat 0) σ:=by
   intro K8 R
   unfold T63_9
   simp -implicitDefEqProofs only [↓rP,rA,Nat.reduceEqDiff,Nat.reduceLT,Nat.reduceLeDiff,↓ldK_is ha,↓sl,↓sv,d1]
  exact key _ _
theorem order_F {m:ModS} (hm:MdOk m) (hS:SpInS (D 123)) (hI:SpInI (D 29)) (hU:SpUses m 17 (D 124)) (hR:SpReach (D 125)) (hN:1000<N):SpOrder m (F63 E D W N):=by
 intro σ nv tv dv ht hs
 have hfew:=hm.few.2
 obtain⟨σ1,e1,f1,a1,n1⟩:=mkN ht (mdC m nv tv dv)
 have od:dv.one=true:=by
  obtain⟨ws,h1,_⟩:=hs.d
  exact h1.one
 have s1:=hs.fr f1 ht
 obtain⟨u4,σ4,g4,d4,m4,f4⟩:=ord_4 (E:=E) (W:=W) hm hU f1.tidy a1 s1 m.az.length 0 N (by omega) (by omega) (Fr.refl f1.tidy) (Dst.nil _ _) (fun b hb=>hb.elim)
 have a4:=f4.at_ a1 f1.tidy (fun h=>h)
 have s4:=s1.fr f4 f1.tidy
 obtain⟨σ7,g7,f7⟩:=ord_7 (E:=E) (W:=W) hm hR f4.tidy a4 s4 d4.src m.az.length 0 N (by omega) (by omega) (Fr.refl f4.tidy)
 obtain⟨v9,σ9,g9,o9,f9⟩:=ord_9 (E:=E) (W:=W) (N:=N) hm hI hN f7.tidy (f7.at_ a4 f4.tidy (fun h=>h)) (s4.fr f7 f4.tidy) (d4.src.fr f7 f4.tidy (fun _ _ h=>h)) m.az.length 0 N (by omega) (by omega) (Fr.refl f7.tidy) (Dst.nil _ _) (fun b hb=>hb.elim)
 refine⟨v9,σ9,?_,o9,((f1.trans f4 (fun _ _ h=>h)).trans f7 (fun _ _ h=>h)).trans f9 (fun _ _ h=>h)⟩
 have g2:=ord_2 (E:=E) (W:=W) hm hS a1 s1 m.az.length 0 N (by omega) (by omega)
 unfold mdC at e1
 have key0:∀K2,T63_0 E D W K2 (ofN m.nm) (Int.ofNat m.tg) nv tv dv σ=K2 σ.next 0 .nils (Int.negSucc 0) (Int.ofNat 0) σ1:=by
  intro K2
  unfold T63_0
  simp -implicitDefEqProofs only [↓rP,rA,Nat.reduceEqDiff,Nat.reduceLT,Nat.reduceLeDiff,hs.n.one,hs.t.one,od,↓e1]
 show T63_0 E D W (L63_2 E D W N N) (ofN m.nm) (Int.ofNat m.tg) nv tv dv σ=_
 rw[key0]
 refine(g2 (J63_1 E D W N)).trans ?_
 show L63_4 E D W N N σ.next 0 .nils (Int.negSucc 0) (Int.ofNat 0) σ1=_
 refine(g4 (J63_3 E D W N)).trans ?_
 show T63_3 E D W (L63_7 E D W N N) σ.next 0 u4 (Int.negSucc 0) σ4=_
 have key3:∀K7,T63_3 E D W K7 σ.next 0 u4 (Int.negSucc 0) σ4=K7 σ.next 0 u4 (Int.ofNat 0) σ4:=fun K7=>rfl
 rw[key3]
 exact(g7 (J63_6 E D W N)).trans g9
end
structure TyS where
 kind:Nat
 tags:List (Nat × Nat)
 con:ConS
 items:List ItemS
 fields:List FieldS
 root:Nat
 more:Bool
 of_:Nat
def tgC (l:List (Nat × Nat)):List V:=l.flatMap fun t=>[.int .i64 (Int.ofNat t.1),.int .i64 (Int.ofNat t.2)]
def TyS.c (t:TyS) (u:V × V × V):List V:=[.int .i64 (Int.ofNat t.kind),u.1,.bool t.con.has,.bool t.con.hasLow,.bool t.con.hasHigh,.bool t.con.more,.int .i64 t.con.low,.int .i64 t.con.high,u.2.1,u.2.2,.int .i64 (Int.ofNat t.root),.bool t.more,.int .i64 (Int.ofNat t.of_)]
def tyCs:List TyS→List (V × V × V)→List V
 | t::tl,u::ws=>t.c u++tyCs tl ws
 | _,_=>[]
theorem tyCs_app:∀(tl:List TyS) (ws:List (V × V × V)) (t:TyS) (u:V × V × V),ws.length=tl.length→tyCs (tl++[t]) (ws++[u])=tyCs tl ws++t.c u
 | [],[],t,u,_=>by simp[tyCs]
 | x::tl,y::ws,t,u,h=>by
  have ih:=tyCs_app tl ws t u (by simpa using h)
  show x.c y++tyCs (tl++[t]) (ws++[u])=(x.c y++tyCs tl ws)++_
  rw[ih,List.append_assoc]
 | [],_::_,_,_,h=>by simp at h
 | _::_,[],_,_,h=>by simp at h
theorem tyCs_len:∀(tl:List TyS) (ws:List (V × V × V)),ws.length=tl.length→(tyCs tl ws).length=tl.length*13
 | [],[],_=>rfl
 | x::tl,y::ws,h=>by
  have ih:=tyCs_len tl ws (by simpa using h)
  show (x.c y++tyCs tl ws).length=_
  rw[List.length_append,ih,List.length_cons]
  show 13+_=_
  omega
 | [],_::_,h=>by simp at h
 | _::_,[],h=>by simp at h
theorem tyCs_of (r:Nat):∀(tl:List TyS) (ws:List (V × V × V)) (i:Nat) (t:TyS),ws.length=tl.length→tl[i]? = some t→spl (tyCs tl ws) (i*13+12) [.int .i64 (Int.ofNat r)]=tyCs (tl.set i { t with of_:=r }) ws
 | x::tl,y::ws,0,t,_,h=>by
  simp at h;subst h
  show spl (x.c y++tyCs tl ws) 12 _=({ x with of_:=r }:TyS).c y++tyCs tl ws
  generalize tyCs tl ws=z
  cases z<;>rfl
 | x::tl,y::ws,i+1,t,h,hi=>by
  have ih:=tyCs_of r tl ws i t (by simpa using h) (by simpa using hi)
  show spl (x.c y++tyCs tl ws) ((i+1)*13+12) _=x.c y++tyCs (tl.set i { t with of_:=r }) ws
  rw[←ih,show (i+1)*13+12=(x.c y).length+(i*13+12)by show _=13+_;omega,spl_app16]
 | [],_,_,_,_,h=>by simp at h
 | _::_,[],_,_,h,_=>by simp at h
def mkC (m:ModS) (nv tv dv lv:V):List V:=[.str (ofN m.nm),.int .i64 (Int.ofNat m.tg),nv,tv,dv,lv,.int .i64 (Int.ofNat 0)]
structure Mk (σ0 σ:H) (xb:Nat) (m:ModS) (nv tv dv:V) (tl:List TyS) (lv:V) (Q:Nat→Prop):Prop where
 a:Atc σ xb (mkC m nv tv dv lv)
 w:∃ws:List (V × V × V),Dst σ 13 tl.length lv (tyCs tl ws)∧ws.length=tl.length∧∀(k:Nat) (t:TyS) (u:V × V × V),tl[k]? = some t→ws[k]? = some u→Src σ 2 t.tags.length u.1 (tgC t.tags)∧Src σ 3 t.items.length u.2.1 (itC t.items)∧Src σ 11 t.fields.length u.2.2 (fdC t.fields)∧∀b,(Names u.1 b∨Names u.2.1 b∨Names u.2.2 b)→b≠xb∧¬Names lv b∧¬Q b
 lx:∀b,Names lv b→b≠xb∧σ0.next≤b∧¬Q b
 qx:¬Q xb
 x0:σ0.next≤xb
 f:Fr Nowhere σ0 σ
abbrev NodT:=Nat→Nat→List TyS→Option (Nat × List TyS)
def mkTy (nd:NodeS):TyS:=⟨nd.kind,[(0,uniP nd.kind)],nd.con,[],[],nd.root,nd.more,0⟩
def leafB (k:Nat):Bool:=k==1 || k==2 || k==4 || k==5 || k==6 || k==10
def conB (k:Nat):Bool:=k==2 || k==5 || k==6 || k==10
def madeS (T:NodT) (d:Nat) (nd:NodeS) (tl:List TyS):Option (Nat × List TyS):=
 match leafB nd.kind&&(decide (d≤16)&&(decide (tl.length<300)&&(!conB nd.kind || checkP nd.con (!decide (nd.kind=2)))))with
 | false=>none
 | true=>match decide (nd.kind=10)with
  | false=>some (tl.length,tl++[mkTy nd])
  | true=>(T (d+1) nd.of_ (tl++[mkTy nd])).bind fun r=>match r.2[tl.length]? with
   | none=>none
   | some t=>some (tl.length,r.2.set tl.length { t with of_:=r.1 })
def nodeS (m:ModS) (T:NodT):NodT:=fun d k tl=>match m.ns[k]? with
 | none=>none
 | some nd=>match decide (nd.kind=11) || nd.mHas with
  | true=>none
  | false=>madeS T d nd tl
def nodP (m:ModS):Nat→NodT
 | 0=>fun _ _ _=>none
 | q+1=>nodeS m (nodP m q)
def SpMnode (m:ModS) (T:NodT) (F:List V→H→Ans):Prop:=∀{σ0 σ:H} {xb:Nat} {nv tv dv lv:V} {tl tl':List TyS} {d k i:Nat} {Q:Nat→Prop},Tidy σ0→MdS σ0 m nv tv dv→Mk σ0 σ xb m nv tv dv tl lv Q→(∀b,Q b→b<σ.next)→d≤900→T d k tl=some (i,tl') →
 ∃lv' σ',F [.ptr xb 0,.int .i64 (Int.ofNat k),.int .i64 (Int.ofNat d)] σ=some (.int .i64 (Int.ofNat i),σ')∧Mk σ0 σ' xb m nv tv dv tl' lv' Q∧(∀b,Names lv' b→Names lv b∨σ.next≤b)∧Fr (fun b=>b=xb∨Names lv b) σ σ'
def SpMmade (m:ModS) (T:NodT) (F:List V→H→Ans):Prop:=∀{σ0 σ:H} {xb:Nat} {nv tv dv lv iv fv:V} {tl tl':List TyS} {d i:Nat} {nd:NodeS} {Q:Nat→Prop},Tidy σ0→MdS σ0 m nv tv dv→Mk σ0 σ xb m nv tv dv tl lv Q→(∀b,Q b→b<σ.next)→d≤900→iv.one=true→fv.one=true→madeS T d nd tl=some (i,tl') →
 ∃lv' σ',F [.ptr xb 0,.agg (nd.c iv fv),.int .i64 (Int.ofNat d)] σ=some (.int .i64 (Int.ofNat i),σ')∧Mk σ0 σ' xb m nv tv dv tl' lv' Q∧(∀b,Names lv' b→Names lv b∨σ.next≤b)∧Fr (fun b=>b=xb∨Names lv b) σ σ'
section
variable {E:List (Nat × Blk)} {D:Den} {N:Nat} {σ0 σ σ':H} {xb:Nat} {m:ModS} {nv tv dv lv:V} {tl:List TyS} {Q Q':Nat→Prop}
theorem Mk.ht (h:Mk σ0 σ xb m nv tv dv tl lv Q):Tidy σ:=h.f.tidy
theorem Mk.len (h:Mk σ0 σ xb m nv tv dv tl lv Q) {κ:Nat→Ans}:slenK lv κ=κ tl.length:=by
 obtain⟨ws,h1,_⟩:=h.w
 exact h1.slen
theorem Mk.llt (h:Mk σ0 σ xb m nv tv dv tl lv Q) {b:Nat} (hb:Names lv b):b<σ.next:=by
 obtain⟨ws,h1,_⟩:=h.w
 exact h1.lt h.ht hb
theorem Mk.fr {S:Nat→Prop} (h:Mk σ0 σ xb m nv tv dv tl lv Q) (f:Fr S σ σ') (hS:∀b,S b→σ.next≤b∨Q b) (hS0:∀b,S b→σ0.next≤b):Mk σ0 σ' xb m nv tv dv tl lv Q:=by
 have ht:=h.ht
 have le:=h.f.le
 obtain⟨ws,h1,h2,h3⟩:=h.w
 refine⟨f.at_ h.a ht (fun e=>(hS _ e).elim (fun e=>by have:=h.a.lt ht;omega) h.qx),⟨ws,h1.fr f ht (fun b hb e=>(hS _ e).elim (fun e=>by have:=h1.lt ht hb;omega) (h.lx b hb).2.2),h2,fun k t u hk hu=>?_⟩,h.lx,h.qx,h.x0,h.f.trans f (fun b hb e=>by have:=hS0 b e;omega)⟩
 obtain⟨a,b,c,d⟩:=h3 k t u hk hu
 exact⟨a.fr f ht (fun x hx e=>(hS _ e).elim (fun e=>by have:=a.lt ht hx;omega) (d x (.inl hx)).2.2),b.fr f ht (fun x hx e=>(hS _ e).elim (fun e=>by have:=b.lt ht hx;omega) (d x (.inr (.inl hx))).2.2),c.fr f ht (fun x hx e=>(hS _ e).elim (fun e=>by have:=c.lt ht hx;omega) (d x (.inr (.inr hx))).2.2),d⟩
theorem Mk.ext (h:Mk σ0 σ xb m nv tv dv tl lv Q) (hQ:∀b,Q' b→Q b∨σ.next≤b):Mk σ0 σ xb m nv tv dv tl lv Q':=by
 have ht:=h.ht
 obtain⟨ws,h1,h2,h3⟩:=h.w
 refine⟨h.a,⟨ws,h1,h2,fun k t u hk hu=>?_⟩,fun b hb=>⟨(h.lx b hb).1,(h.lx b hb).2.1,fun q=>(hQ b q).elim (h.lx b hb).2.2 (fun e=>by have:=h1.lt ht hb;omega)⟩,fun q=>(hQ _ q).elim h.qx (fun e=>by have:=h.a.lt ht;omega),h.x0,h.f⟩
 obtain⟨a,b,c,d⟩:=h3 k t u hk hu
 have nn:∀x,(Names u.1 x∨Names u.2.1 x∨Names u.2.2 x)→x<σ.next:=fun x hx=>by
  rcases hx with hx|hx|hx
  ·exact a.lt ht hx
  ·exact b.lt ht hx
  ·exact c.lt ht hx
 exact⟨a,b,c,fun x hx=>⟨(d x hx).1,(d x hx).2.1,fun q=>(hQ x q).elim (d x hx).2.2 (fun e=>by have:=nn x hx;omega)⟩⟩
theorem Mk.push (h:Mk σ0 σ xb m nv tv dv tl lv Q) {nd:NodeS} {gb tb eb:Nat} {dd ii:Int} (hl:tl.length<300) (hg:Atc σ gb ((mkTy nd).c (.sl tb 0 1 (.ex 1),.nils,.nils))) (ht:Atc σ tb [.int .i64 (Int.ofNat 0),.int .i64 (Int.ofNat (uniP nd.kind))]) (hgx:gb≠xb) (hgl:¬Names lv gb) (htx:tb≠xb) (htl:¬Names lv tb) (htq:¬Q tb) (hQ:∀b,Q b→b<σ.next) :
  ∃e' u σ',drawW E D G127_0 H127_0 [(0,.ptr xb 0),(2,.int .i64 dd),(4,.ptr eb 0),(7,.int .i64 ii),(8,.ptr gb 0)] σ=some (e',σ')∧Go.Og.look e' 0=some (.ptr xb 0)∧Go.Og.look e' 2=some (.int .i64 dd)∧Go.Og.look e' 4=some (.ptr eb 0)∧Go.Og.look e' 7=some (.int .i64 ii) ∧
   Mk σ0 σ' xb m nv tv dv (tl++[mkTy nd]) u Q∧(∀b,Names u b→Names lv b∨σ.next≤b)∧Fr (fun b=>b=xb∨Names lv b) σ σ':=by
 obtain⟨ws,h1,h2,h3⟩:=h.w
 have hx:=h.a
 unfold mkC at hx
 obtain⟨e',u,σ',g,t0,t2,t4,t7,a',d',m',n',f'⟩:=type_reg (E:=E) (D:=D) (v:=lv) (dd:=dd) (ii:=ii) (eb:=eb) h.ht hx rfl hg h1 (by omega) (fun e=>hgx e.symm) (fun e=>(h.lx _ e).1 rfl) hgl
 have le:=h.f.le
 have lx:=h.a.lt h.ht
 refine⟨e',u,σ',g,t0,t2,t4,t7,⟨a',⟨ws++[(.sl tb 0 1 (.ex 1),.nils,.nils)],?_,by simp[h2],fun k t w hk hw=>?_⟩,fun b hb=>⟨fun e=>n' (e ▸ hb),(m' b hb).elim (fun e=>(h.lx b e).2.1) (fun e=>by omega),fun q=>(m' b hb).elim (fun e=>(h.lx b e).2.2 q) (fun e=>by have:=hQ b q;omega)⟩,h.qx,h.x0,h.f.trans f' (fun b hb e=>e.elim (fun e=>by have:=h.x0;omega) (fun e=>by have:=(h.lx b e).2.1;omega))⟩,m',f'⟩
 ·rw[List.length_append,List.length_cons,List.length_nil,tyCs_app _ _ _ _ h2]
  exact d'
 ·rcases Nat.lt_or_ge k tl.length with hlt|hge
  ·rw[List.getElem?_append_left hlt]at hk
   rw[List.getElem?_append_left (by omega)]at hw
   obtain⟨a,b,c,d⟩:=h3 k t w hk hw
   have nn:∀x,(Names w.1 x∨Names w.2.1 x∨Names w.2.2 x)→x<σ.next:=fun x hx=>by
    rcases hx with hx|hx|hx
    ·exact a.lt h.ht hx
    ·exact b.lt h.ht hx
    ·exact c.lt h.ht hx
   exact⟨a.fr f' h.ht (fun x hx e=>e.elim (d x (.inl hx)).1 (d x (.inl hx)).2.1),b.fr f' h.ht (fun x hx e=>e.elim (d x (.inr (.inl hx))).1 (d x (.inr (.inl hx))).2.1),c.fr f' h.ht (fun x hx e=>e.elim (d x (.inr (.inr hx))).1 (d x (.inr (.inr hx))).2.1),fun x hx=>⟨(d x hx).1,fun hu=>(m' x hu).elim (d x hx).2.1 (fun e=>by have:=nn x hx;omega),(d x hx).2.2⟩⟩
  ·rw[List.getElem?_append_right hge]at hk
   rw[List.getElem?_append_right (by omega),h2]at hw
   obtain⟨j,hj⟩:∃j,k-tl.length=j:=⟨_,rfl⟩
   rw[hj]at hk hw
   cases j with
   | succ j=>simp at hk
   | zero=>
    cases hk
    cases hw
    have ltb:=ht.lt h.ht
    have a2:=f'.at_ ht h.ht (fun e=>e.elim htx htl)
    refine⟨.inr ⟨tb,0,_,_,rfl,a2,Nat.le_refl _,rfl⟩,.inl ⟨rfl,rfl,rfl⟩,.inl ⟨rfl,rfl,rfl⟩,fun x hx=>?_⟩
    have:x=tb:=by
     rcases hx with hx|hx|hx
     ·exact hx
     ·exact hx.elim
     ·exact hx.elim
    subst this
    exact⟨htx,fun hu=>(m' _ hu).elim htl (fun e=>by omega),htq⟩
theorem Mk.of (h:Mk σ0 σ xb m nv tv dv tl lv Q) {i r:Nat} {t:TyS} (hi:tl[i]? = some t) :
  ∃b σ',(∀κ:Nat→Nat→Ans,iaddrSK 13 lv (Int.ofNat i) κ=κ b (i*13))∧(∀κ:H→Ans,stK 1 b (Nat.add (i*13) 12) (.int .i64 (Int.ofNat r)) σ κ=κ σ')∧Mk σ0 σ' xb m nv tv dv (tl.set i { t with of_:=r }) lv Q∧Fr (Names lv) σ σ':=by
 obtain⟨ws,h1,h2,h3⟩:=h.w
 have hlt:i<tl.length:=(List.getElem?_eq_some_iff.1 hi).1
 have hlen:=tyCs_len tl ws h2
 obtain⟨b,cp,hv,hb⟩:∃b cp,lv = .sl b 0 tl.length cp∧Atc σ b (tyCs tl ws):=by
  rcases h1 with (⟨h0,_⟩|⟨b,hv,ha,_⟩)|⟨b,hv,ha,_⟩
  ·omega
  ·exact⟨b,_,hv,ha⟩
  ·exact⟨b,_,hv,ha⟩
 obtain⟨σ',g,f,a⟩:=stz (off:=i*13+12) (y := .int .i64 (Int.ofNat r)) h.ht hb rfl (by omega)
 rw[tyCs_of r tl ws i t h2 hi]at a
 have nmb:∀x,Names lv x↔x=b:=fun x=>by rw[hv];exact Iff.rfl
 have f':Fr (Names lv) σ σ':=f.mono fun x _ e=>(nmb x).2 e
 refine⟨b,σ',fun κ=>?_,g,⟨f'.at_ h.a h.ht (fun e=>(h.lx _ e).1 rfl),⟨ws,?_,by rw[List.length_set,h2],fun k t1 w hk hw=>?_⟩,h.lx,h.qx,h.x0,h.f.trans f' (fun x _ e=>by have:=(h.lx x e).2.1;omega)⟩,f'⟩
 ·rw[hv,iaddrSK_lt hlt]
  show κ b (0+i*13)=_
  rw[Nat.zero_add]
 ·rw[List.length_set]
  have e13:(tyCs (tl.set i { t with of_:=r }) ws).length=tl.length*13:=by rw[tyCs_len _ _ (by rw[List.length_set,h2]),List.length_set]
  rcases h1 with (⟨h0,_⟩|⟨b',hv',ha,h0,hl⟩)|⟨b',hv',ha,hl⟩
  ·omega
  ·have:b'=b:=by rw[hv]at hv';cases hv';rfl
   subst this
   exact .inl (.inr ⟨b',hv',a,h0,e13⟩)
  ·have:b'=b:=by rw[hv]at hv';cases hv';rfl
   subst this
   exact .inr ⟨b',hv',a,e13⟩
 ·by_cases hk':i=k
  ·subst hk'
   rw[List.getElem?_set_self hlt]at hk
   cases hk
   obtain⟨x1,x2,x3,x4⟩:=h3 i t w hi hw
   exact⟨x1.fr f' h.ht (fun x hx e=>(x4 x (.inl hx)).2.1 e),x2.fr f' h.ht (fun x hx e=>(x4 x (.inr (.inl hx))).2.1 e),x3.fr f' h.ht (fun x hx e=>(x4 x (.inr (.inr hx))).2.1 e),x4⟩
  ·rw[List.getElem?_set_ne hk']at hk
   obtain⟨x1,x2,x3,x4⟩:=h3 k t1 w hk hw
   exact⟨x1.fr f' h.ht (fun x hx e=>(x4 x (.inl hx)).2.1 e),x2.fr f' h.ht (fun x hx e=>(x4 x (.inr (.inl hx))).2.1 e),x3.fr f' h.ht (fun x hx e=>(x4 x (.inr (.inr hx))).2.1 e),x4⟩
end
section
variable {E:List (Nat × Blk)} {D:Den} {N:Nat}
theorem made_F {m:ModS} {T:NodT} (hU:SpUni (D 220)) (hC:SpCheck (D 221)) (hT:SpMnode m T (D 64)):SpMmade m T (F127 E D (drawW E D) N):=by
  intro σ0 σ xb nv tv dv lv iv fv tl tl' d i nd Q ht0 hs0 h hQ hd io fo hs
  unfold madeS at hs
  cases hgd:(leafB nd.kind&&(decide (d≤16)&&(decide (tl.length<300)&&(!conB nd.kind || checkP nd.con (!decide (nd.kind=2))))))with
  | false=>rw[hgd]at hs;cases hs
  | true=>
    rw[hgd]at hs
    simp only[Bool.and_eq_true,decide_eq_true_eq]at hgd
    obtain⟨hleaf,hd16,hl,hcon⟩:=hgd
    have hkind:nd.kind=1∨nd.kind=2∨nd.kind=4∨nd.kind=5∨nd.kind=6∨nd.kind=10:=by
      unfold leafB at hleaf
      simp only[Bool.or_eq_true,beq_iff_eq]at hleaf
      omega
    have ht:=h.ht
    obtain⟨σ1,e1,f1,a1,n1⟩:=mkN ht (nd.c iv fv)
    obtain⟨σ2,e2,f2,a2,n2⟩:=mkN f1.tidy [.int .i64 (Int.ofNat 0),.nils,.bool false,.bool false,.bool false,.bool false,.int .i64 (Int.ofNat 0),.int .i64 (Int.ofNat 0),.nils,.nils,.int .i64 (Int.ofNat 0),.bool false,.int .i64 (Int.ofNat 0)]
    obtain⟨σ3,e3,f3,a3⟩:=mkS f2.tidy a2 ((mkTy nd).c (.nils,.nils,.nils))
    have s3:∀κ:H→Ans,stK 13 σ1.next 0 (.agg [.int .i64 (Int.ofNat nd.kind),.nils,.bool nd.con.has,.bool nd.con.hasLow,.bool nd.con.hasHigh,.bool nd.con.more,.int .i64 nd.con.low,.int .i64 nd.con.high,.nils,.nils,.int .i64 (Int.ofNat nd.root),.bool nd.more,.int .i64 (Int.ofNat 0)]) σ2 κ=κ σ3:=fun κ=>by
      rw[stK_at a2 rfl]
      show κ (setF σ2 σ1.next (.cells ((mkTy nd).c (.nils,.nils,.nils))))=_
      rw[e3]
    have gU:=hU σ3 nd.kind (by omega)
    obtain⟨σ4,e4,f4,a4,n4⟩:=mkN f3.tidy [.int .i64 (Int.ofNat 0),.int .i64 (Int.ofNat (uniP nd.kind))]
    have a34:=f4.at_ a3 f3.tidy (fun h=>h)
    obtain⟨σ5,g5,f5,a5⟩:=stz (off:=1) (y := .sl σ3.next 0 1 (.ex 1)) f4.tidy a34 rfl (show 1<13 by decide)
    have a5:Atc σ5 σ1.next ((mkTy nd).c (.sl σ3.next 0 1 (.ex 1),.nils,.nils)):=a5
    have le1:=f1.le
    have le2:=f2.le
    have le3:=f3.le
    have le4:=f4.le
    have lg:σ1.next<σ2.next:=a2.lt f2.tidy
    have lt4:σ3.next<σ4.next:=a4.lt f4.tidy
    have a45:=f5.at_ a4 f4.tidy (by omega)
    have f05:Fr (fun b=>σ.next≤b) σ σ5:=((((f1.mono (fun _ _ h=>h.elim):Fr (fun b=>σ.next≤b) σ σ1).trans f2 (fun _ _ h=>h.elim)).trans f3 (fun b _ e=>by omega)).trans f4 (fun _ _ h=>h.elim)).trans f5 (fun b _ e=>by omega)
    have h5:=h.fr f05 (fun _ h => .inl h) (fun b e=>by have:=h.f.le;omega)
    have lx:=h.a.lt ht
    obtain⟨e',u,σ6,g6,t0,t2,t4,t7,h6,m6,f6⟩:=h5.push (E:=E) (D:=D) (nd:=nd) (gb:=σ1.next) (tb:=σ3.next) (eb:=σ.next) (dd:=Int.ofNat d) (ii:=Int.ofNat tl.length) hl a5 a45 (by omega) (fun e=>by have:=h.llt e;omega) (by omega) (fun e=>by have:=h.llt e;omega) (fun q=>by have:=hQ _ q;omega) (fun b q=>by have:=hQ b q;have:=f05.le;omega)
    have le05:=f05.le
    have a15:Atc σ5 σ.next (nd.c iv fv):=f5.at_ (f4.at_ (f3.at_ (f2.at_ a1 f1.tidy (fun h=>h)) f2.tidy (by omega)) f3.tidy (fun h=>h)) f4.tidy (by omega)
    have a16:=f6.at_ a15 f5.tidy (fun e=>e.elim (by omega) (fun e=>by have:=h.llt e;omega))
    have f06:Fr (fun b=>b=xb∨Names lv b) σ σ6:=by
      refine Fr.trans (f05.mono fun b hb e=>?_) f6 (fun b _ e=>e)
      omega
    have hx:=h.a
    have hx1:=f1.at_ hx ht (fun h=>h)
    unfold mkC at hx1
    unfold NodeS.c at a1 a16 e1
    unfold mkTy TyS.c at a3
    have sl1:∀κ:Nat→Ans,slenK lv κ=κ tl.length:=fun κ=>h.len
    have d1:decide (16<d)=false:=decide_eq_false (by omega)
    have d2:decide (300≤tl.length)=false:=decide_eq_false (by omega)
    have h9:decide (nd.kind=9)=false:=decide_eq_false (by omega)
    have sub1:∀κ:List V→Ans,subK [.int .i64 (Int.ofNat nd.kind),.str (ofN nd.name),.bool nd.mHas,.int .i64 nd.mNum,.int .i64 (Int.ofNat nd.mMode),.bool nd.con.has,.bool nd.con.hasLow,.bool nd.con.hasHigh,.bool nd.con.more,.int .i64 nd.con.low,.int .i64 nd.con.high,iv,fv,.int .i64 (Int.ofNat nd.root),.bool nd.more,.int .i64 (Int.ofNat nd.of_)] 5 6 κ=κ [.bool nd.con.has,.bool nd.con.hasLow,.bool nd.con.hasHigh,.bool nd.con.more,.int .i64 nd.con.low,.int .i64 nd.con.high]:=fun κ=>by
      rw[subK_of (by simp)];rfl
    have a13:=f3.at_ (f2.at_ a1 f1.tidy (fun h=>h)) f2.tidy (by omega)
    have key0:∀K1,T127_0 E D (drawW E D) K1 xb 0 (Int.ofNat nd.kind) (ofN nd.name) nd.mHas nd.mNum (Int.ofNat nd.mMode) nd.con.has nd.con.hasLow nd.con.hasHigh nd.con.more nd.con.low nd.con.high iv fv (Int.ofNat nd.root) nd.more (Int.ofNat nd.of_) (Int.ofNat d) σ=K1 xb 0 (Int.ofNat d) σ.next 0 (Int.ofNat tl.length) σ1.next 0 σ5:=by
      intro K1
      unfold T127_0
      simp -implicitDefEqProofs only [↓rP,rA,Nat.reduceEqDiff,Nat.reduceLT,Nat.reduceLeDiff,io,fo,↓e1,d1,↓ldK_is hx1,↓sl1,d2,↓ldK_is a1,↓ldnK_is a1,↓sub1,↓e2,↓s3,↓ldK_is a13,h9,↓gU,↓e4,↓g5]
    have gd:∀κ:Env→H→Ans,gdrawK (drawW E D G127_0 H127_0 [(0,.ptr xb 0),(2,.int .i64 (Int.ofNat d)),(4,.ptr σ.next 0),(7,.int .i64 (Int.ofNat tl.length)),(8,.ptr σ1.next 0)] σ5) κ=κ e' σ6:=fun κ=>by rw[g6];rfl
    have m0:∀κ:V→Ans,getL e' 0 κ=κ (.ptr xb 0):=fun κ=>getL_of t0 rfl
    have m2:∀κ:V→Ans,getL e' 2 κ=κ (.int .i64 (Int.ofNat d)):=fun κ=>getL_of t2 rfl
    have m4:∀κ:V→Ans,getL e' 4 κ=κ (.ptr σ.next 0):=fun κ=>getL_of t4 rfl
    have m7:∀κ:V→Ans,getL e' 7 κ=κ (.int .i64 (Int.ofNat tl.length)):=fun κ=>getL_of t7 rfl
    show ∃lv' σ',T127_0 E D (drawW E D) (T127_1 E D (drawW E D) (T127_3 E D (drawW E D) (T127_2 E D (drawW E D)) (T127_4 E D (drawW E D) (T127_2 E D (drawW E D))) (T127_5 E D (drawW E D) (T127_2 E D (drawW E D))))) xb 0 (Int.ofNat nd.kind) (ofN nd.name) nd.mHas nd.mNum (Int.ofNat nd.mMode) nd.con.has nd.con.hasLow nd.con.hasHigh nd.con.more nd.con.low nd.con.high iv fv (Int.ofNat nd.root) nd.more (Int.ofNat nd.of_) (Int.ofNat d) σ=_∧_
    rw[key0]
    have mu:∀b,Names u b→Names lv b∨σ.next≤b:=fun b hb=>(m6 b hb).imp id (fun h=>by omega)
    have plain:nd.kind=1∨nd.kind=4→∃lv' σ',T127_1 E D (drawW E D) (T127_3 E D (drawW E D) (T127_2 E D (drawW E D)) (T127_4 E D (drawW E D) (T127_2 E D (drawW E D))) (T127_5 E D (drawW E D) (T127_2 E D (drawW E D)))) xb 0 (Int.ofNat d) σ.next 0 (Int.ofNat tl.length) σ1.next 0 σ5=some (.int .i64 (Int.ofNat i),σ')∧Mk σ0 σ' xb m nv tv dv tl' lv' Q∧(∀b,Names lv' b→Names lv b∨σ.next≤b)∧Fr (fun b=>b=xb∨Names lv b) σ σ':=by
      intro hk
      have h10:decide (nd.kind=10)=false:=decide_eq_false (by omega)
      rw[h10]at hs
      cases hs
      refine⟨u,σ6,?_,h6,mu,f06⟩
      rcases hk with hk|hk <;>
      (unfold T127_1 T127_3 T127_5 T127_2
       simp -implicitDefEqProofs only [↓rP,rA,Nat.reduceEqDiff,Nat.reduceLT,Nat.reduceLeDiff,↓gd,↓m0,↓m2,↓m4,↓m7,↓ldK_is a16,hk])
    have boundd:nd.kind=2∨nd.kind=5∨nd.kind=6∨nd.kind=10→∃lv' σ',T127_1 E D (drawW E D) (T127_3 E D (drawW E D) (T127_2 E D (drawW E D)) (T127_4 E D (drawW E D) (T127_2 E D (drawW E D))) (T127_5 E D (drawW E D) (T127_2 E D (drawW E D)))) xb 0 (Int.ofNat d) σ.next 0 (Int.ofNat tl.length) σ1.next 0 σ5=some (.int .i64 (Int.ofNat i),σ')∧Mk σ0 σ' xb m nv tv dv tl' lv' Q∧(∀b,Names lv' b→Names lv b∨σ.next≤b)∧Fr (fun b=>b=xb∨Names lv b) σ σ':=by
      intro hk
      have hc:checkP nd.con (!decide (nd.kind=2))=true:=by
        rcases hk with hk|hk|hk|hk<;>(rw[hk]at hcon ⊢;simpa[conB]using hcon)
      obtain⟨σ7,g7,f7⟩:=hC σ6 nd.con (!decide (nd.kind=2)) h6.ht hc
      unfold conA at g7
      have h7:=h6.fr f7 (fun _ h=>h.elim) (fun _ h=>h.elim)
      have a17:=f7.at_ a16 f6.tidy (fun h=>h)
      have f07:Fr (fun b=>b=xb∨Names lv b) σ σ7:=f06.trans f7 (fun _ _ h=>h.elim)
      have key1:T127_1 E D (drawW E D) (T127_3 E D (drawW E D) (T127_2 E D (drawW E D)) (T127_4 E D (drawW E D) (T127_2 E D (drawW E D))) (T127_5 E D (drawW E D) (T127_2 E D (drawW E D)))) xb 0 (Int.ofNat d) σ.next 0 (Int.ofNat tl.length) σ1.next 0 σ5=T127_4 E D (drawW E D) (T127_2 E D (drawW E D)) xb 0 (Int.ofNat d) σ.next 0 (Int.ofNat tl.length) σ7:=by
        have g7f:nd.kind=2→D 221 [.agg [.bool nd.con.has,.bool nd.con.hasLow,.bool nd.con.hasHigh,.bool nd.con.more,.int .i64 nd.con.low,.int .i64 nd.con.high],.bool false] σ6=some (.int .i64 (Int.ofNat 0),σ7):=fun e=>by
          rw[show (!decide (nd.kind=2))=false by rw[e];rfl]at g7
          exact g7
        have g7t:nd.kind≠2→D 221 [.agg [.bool nd.con.has,.bool nd.con.hasLow,.bool nd.con.hasHigh,.bool nd.con.more,.int .i64 nd.con.low,.int .i64 nd.con.high],.bool true] σ6=some (.int .i64 (Int.ofNat 0),σ7):=fun e=>by
          rw[show (!decide (nd.kind=2))=true by rw[decide_eq_false e];rfl]at g7
          exact g7
        rcases hk with hk|hk|hk|hk
        · have g7:=g7f hk
          unfold T127_1 T127_3
          simp -implicitDefEqProofs only [↓rP,rA,Nat.reduceEqDiff,Nat.reduceLT,Nat.reduceLeDiff,↓gd,↓m0,↓m2,↓m4,↓m7,↓ldK_is a16,↓ldnK_is a16,↓sub1,hk,↓g7]
        all_goals
        (have g7:=g7t (by omega)
         unfold T127_1 T127_3
         simp -implicitDefEqProofs only [↓rP,rA,Nat.reduceEqDiff,Nat.reduceLT,Nat.reduceLeDiff,↓gd,↓m0,↓m2,↓m4,↓m7,↓ldK_is a16,↓ldnK_is a16,↓sub1,hk,↓g7])
      rw[key1]
      cases h10:decide (nd.kind=10)with
      | false=>
        rw[h10]at hs
        cases hs
        refine⟨u,σ7,?_,h7,mu,f07⟩
        unfold T127_4 T127_2
        simp -implicitDefEqProofs only [↓rP,rA,Nat.reduceEqDiff,Nat.reduceLT,Nat.reduceLeDiff,↓ldK_is a17,h10]
      | true=>
        rw[h10]at hs
        obtain⟨⟨r,tl8⟩,h8,hs⟩:=Option.bind_eq_some_iff.1 hs
        obtain⟨lv8,σ8,g8,k8,m8,f8⟩:=hT ht0 hs0 h7 (fun b q=>by have:=hQ b q;have:=f07.le;omega) (by omega) h8
        have ad:addF .i64 (Int.ofNat d) (Int.ofNat 1)=Int.ofNat (d+1):=addF_nat (by omega)
        dsimp only at hs
        cases ht8:tl8[tl.length]? with
        | none=>rw[ht8]at hs;cases hs
        | some t=>
          rw[ht8]at hs
          cases hs
          obtain⟨b,σ9,g9,s9,k9,f9⟩:=k8.of (r:=r) ht8
          have hx8:=k8.a
          unfold mkC at hx8
          have le07:=f07.le
          refine⟨lv8,σ9,?_,k9,fun b hb=>(m8 b hb).elim (mu b) (fun h => .inr (by omega)),(f07.trans f8 (fun b hb e=>e.elim .inl (fun e=>(mu b e).elim .inr (fun h=>by omega)))).trans f9 (fun b hb e=>(m8 b e).elim (fun e=>(mu b e).elim .inr (fun h=>by omega)) (fun h=>by omega))⟩
          unfold T127_4 T127_2
          simp -implicitDefEqProofs only [↓rP,rA,Nat.reduceEqDiff,Nat.reduceLT,Nat.reduceLeDiff,↓ldK_is a17,h10,ad,↓g8,↓ldK_is hx8,↓g9,↓s9]
    rcases hkind with hk|hk|hk|hk|hk|hk
    · exact plain (.inl hk)
    · exact boundd (.inl hk)
    · exact plain (.inr hk)
    · exact boundd (.inr (.inl hk))
    · exact boundd (.inr (.inr (.inl hk)))
    · exact boundd (.inr (.inr (.inr hk)))
theorem node_F {m:ModS} {T:NodT} (hM:SpMmade m T (D 127)):SpMnode m (nodeS m T) (F64 E D (drawW E D) N):=by
 intro σ0 σ xb nv tv dv lv tl tl' d k i Q ht0 hs0 h hQ hd hs
 unfold nodeS at hs
 cases hn:m.ns[k]? with
 | none=>rw[hn]at hs;cases hs
 | some nd=>
  rw[hn]at hs
  dsimp only at hs
  cases hg:decide (nd.kind=11) || nd.mHas with
  | true=>rw[hg]at hs;cases hs
  | false=>
   rw[hg]at hs
   rw[Bool.or_eq_false_iff]at hg
   obtain⟨h11,hm⟩:=hg
   have ht:=h.ht
   obtain⟨iv,fv,rd,hi,hf⟩:=(hs0.fr h.f ht0).nd hn
   have rd:=rd E
   obtain⟨σ1,e1,f1,a1,n1⟩:=mkN ht [.int .i64 (Int.ofNat 0),.str ⟨0,0⟩,.bool false,.int .i64 (Int.ofNat 0),.int .i64 (Int.ofNat 0),.bool false,.bool false,.bool false,.bool false,.int .i64 (Int.ofNat 0),.int .i64 (Int.ofNat 0),.nils,.nils,.int .i64 (Int.ofNat 0),.bool false,.int .i64 (Int.ofNat 0)]
   obtain⟨σ2,e2,f2,a2⟩:=mkS f1.tidy a1 (nd.c iv fv)
   have ho:allOne (nd.c iv fv)=true:=by
    unfold NodeS.c
    simp only[allOne_cons,allOne_nil,one_int,one_str,one_bool,hi.one,hf.one,Bool.and_true]
   have s2:∀κ:H→Ans,stK 16 σ.next 0 (.agg (nd.c iv fv)) σ1 κ=κ σ2:=fun κ=>by
    rw[stK_at a1 (by
     rw[cells_agg,ho,ndC_len]
     rfl),cells_agg]
    show κ (setF σ1 σ.next (.cells (nd.c iv fv)))=_
    rw[e2]
   have f02:Fr (fun b=>σ.next≤b) σ σ2:=(f1.mono (fun _ _ h=>h.elim):Fr (fun b=>σ.next≤b) σ σ1).trans f2 (fun b _ e=>by omega)
   have h2:=h.fr f02 (fun _ h => .inl h) (fun b e=>by have:=h.f.le;omega)
   have le:=f02.le
   obtain⟨lv',σ3,g3,h3,m3,f3⟩:=hM ht0 hs0 h2 (fun b q=>by have:=hQ b q;omega) hd hi.one hf.one hs
   have lx:=h.a.lt ht
   have a3:=f3.at_ a2 f2.tidy (fun e=>e.elim (by omega) (fun e=>by have:=h.llt e;omega))
   have hx:=h.a
   have hx3:=h3.a
   refine⟨lv',σ3,?_,h3,fun b hb=>(m3 b hb).imp id (fun h=>by omega),Fr.trans (f02.mono fun b hb e=>by omega) f3 (fun b _ e=>e)⟩
   unfold mkC at hx hx3
   unfold NodeS.c at rd s2 a2 a3 g3
   have sub:∀κ:List V→Ans,subK [.int .i64 (Int.ofNat nd.kind),.str (ofN nd.name),.bool nd.mHas,.int .i64 nd.mNum,.int .i64 (Int.ofNat nd.mMode),.bool nd.con.has,.bool nd.con.hasLow,.bool nd.con.hasHigh,.bool nd.con.more,.int .i64 nd.con.low,.int .i64 nd.con.high,iv,fv,.int .i64 (Int.ofNat nd.root),.bool nd.more,.int .i64 (Int.ofNat nd.of_)] 0 16 κ=κ [.int .i64 (Int.ofNat nd.kind),.str (ofN nd.name),.bool nd.mHas,.int .i64 nd.mNum,.int .i64 (Int.ofNat nd.mMode),.bool nd.con.has,.bool nd.con.hasLow,.bool nd.con.hasHigh,.bool nd.con.more,.int .i64 nd.con.low,.int .i64 nd.con.high,iv,fv,.int .i64 (Int.ofNat nd.root),.bool nd.more,.int .i64 (Int.ofNat nd.of_)]:=fun κ=>by
    rw[subK_of (by simp)];rfl
   simp only[hm]at rd s2 a2 a3 g3 sub
   show T64_0 E D (drawW E D) (T64_1 E D (drawW E D) (T64_2 E D (drawW E D)) (T64_3 E D (drawW E D) (T64_2 E D (drawW E D)))) xb 0 (Int.ofNat k) (Int.ofNat d) σ=_
   unfold T64_0 T64_1 T64_2
   simp -implicitDefEqProofs only [↓rP,rA,Nat.reduceEqDiff,Nat.reduceLT,Nat.reduceLeDiff,↓ldK_is hx,↓rd,↓e1,↓s2,↓ldK_is a2,h11,↓ldnK_is a2,↓sub,↓g3,↓ldK_is hx3,↓ldK_is a3]
end
end
end Go.Proofs.YtgjjnbddbbhloaaGreatDoor
namespace Go.Og
noncomputable section
section
variable {Q:DS→Prop} {E:List (Nat × Blk)} {D:Den} {σ σc σ':H} {n i:Nat} {S:Nat→Prop} {d:Option Nat} {o:AOp} {l:List AOper} {anc:Nat} {lk:List Nat} {pl:List DP} {e env:Env} {nx am:Nat} {ss:List (List (Nat × Blk))} {ks:List Nat} {ls:List (Nat × AOp × Env × V)}
theorem goq_end2 {pl0:List DP} {S2:Nat→Prop} {σ2:H} (v:V) (hr:RegOk E σ n S nx ss am ls σc) (hc:o.cls = .k) (hva:∀j,j<n→am.testBit j=true→anc.testBit j=true) (hf:Fr S2 σc σ2) (hg:∀j,j<n→S2 (σ.next+j)→am.testBit j=true)
  (hv:den1 E D o (restr lk e) σc=some (v,σ2)) (hl:∀x∈ls,legal pl0 x.1 (i::ks) []=false):GoesQ (EndSt E σ n pl0 (putE e d v) σ2) E D σ n i [⟨d,o,none⟩] [⟨anc,lk⟩] ⟨e,nx,ss,ks,am,ls⟩:=by
 obtain⟨⟨hn,r,rfl⟩,h2,h3,h4,h5,h6⟩:=hr
 subst hn
 refine⟨_,(dk v σ2.next σ2.bl hc (hide_keep fun j hj hp=>?_) hv).trans dsteps_nil,rfl,rfl,⟨_,rfl⟩,?_,fun j hj hb=>?_⟩
 ·refine h5 _ List.mem_cons_self j hj ?_
  cases ha:am.testBit j with
  | false=>rfl
  | true=>
   exfalso
   unfold visK at hp
   rw[ha,hva j hj ha]at hp
   cases hp
 ·refine List.all_eq_true.2 fun x hx=>?_
  show checkL E σ.next n pl0 am x.1 x.2.1 x.2.2.1 x.2.2.2 (σ2.bl::σc.bl::r) (i::ks) []=true
  rw[check_skip (hl x hx)]
  exact check_all (h6 x hx) _ _ _ h4
 ·have hb:am.testBit j=false:=hb
  have:=hf.same (σ.next+j) (by omega) (fun hs=>by have:=hg j hj hs;rw[hb]at this;cases this)
  rw[←lookF_eq,this,lookF_eq]
  exact h5 _ List.mem_cons_self j hj hb
end
theorem bld2 {x y:AO} {em:Env} {s:BS} {u:V} (hx:opv em x = .str s) (hy:opv em y=u) (h:u.one=true):aopP (.build [.str ⟨0,0⟩,.nils,.nils,.nils] [(0,1,x),(1,1,y)]) em=some (.agg [.str s,u,.nils,.nils]):=by
 obtain⟨h1,h2⟩:=one_live h
 show (match fillA [(0,1,opv em x),(1,1,opv em y)] [.str ⟨0,0⟩,.nils,.nils,.nils]with
  | some l=>some (V.agg l)
  | none=>none)=_
 rw[hx,hy]
 show (match fillA [(1,1,u)] [.str s,.nils,.nils,.nils]with
  | some l=>some (V.agg l)
  | none=>none)=_
 unfold fillA
 rw[h1,h2]
 rfl
theorem iaddr_of {esz:Nat} {x y:AO} {em:Env} {b o n i:Nat} {c:Cap} (hx:opv em x = .sl b o n c) (hy:opv em y = .int .i64 (Int.ofNat i)) (hi:i<n):aopP (.iaddrS esz x y) em=some (.ptr b (o+i*esz)):=by
 show (match opv em x,opv em y with
  | .sl b off len _,.int _ n=>if 0≤n∧n<len then some (V.ptr b (off+n.toNat*esz))else none
  | _,_=>none)=_
 rw[hx,hy]
 show (if 0≤Int.ofNat i∧Int.ofNat i<(n:Int)then some (V.ptr b (o+i*esz))else none)=_
 rw[if_pos ⟨Int.natCast_nonneg i,Int.ofNat_lt.2 hi⟩]
end
end Go.Og
namespace Go.Proofs.YtgjjnbddbbhloaaGreatDoor
open Go Go.Og
noncomputable section
section
variable {E:List (Nat × Blk)} {D:Den} {N:Nat}
theorem zdbeq {σ:H} {esz k:Nat} {v:V} {m:List V} (hd:Dst σ esz k v m):V.beq v v=true:=by
 rcases hd with h|⟨b,rfl,_⟩
 ·rcases h with ⟨_,rfl,_⟩|⟨_,rfl,_⟩<;>exact beq_self _ rfl
 ·exact beq_self _ rfl
theorem make_reg0 {σ:H} {cb:Nat} {m:ModS} {nv tv dv p2 p8:V} (ht:Tidy σ) (ha:Atc σ cb (mdC m nv tv dv)) (hn:Dst σ 1 m.az.length nv (stC m.az)) (hl:m.az.length≤40) :
    ∃e' u σ',drawW E D G35_0 H35_0 [(1,.ptr cb 0),(2,p2),(8,p8)] σ=some (e',σ')∧Go.Og.look e' 1=some (.ptr cb 0)∧Go.Og.look e' 2=some p2∧Go.Og.look e' 8=some p8∧Go.Og.look e' 9=some (.ptr (σ.next+6) 0)∧Atc σ' (σ.next+6) [.str (ofN m.nm),u,.nils,.nils]∧Dst σ' 1 m.az.length u (stC m.az)∧(∀b,Names u b→σ.next+8≤b)∧σ.next+8≤σ'.next∧Fr Nowhere σ σ':=by
  have fw:Fr Nowhere σ ⟨σ.next+8,σ.bl⟩:=(go_start (E:=E) (n:=8) (S:=Nowhere) ht).fr
  have xs:=(hn.fr fw ht (fun _ _ h=>h)).src
  have ho:allOne (stC m.az)=true:=by
    unfold stC
    generalize m.az=l
    induction l with
    | nil=>rfl
    | cons x l ih=>show (true&&allOne (l.map _))=true;rw[Bool.true_and];exact ih
  obtain⟨u,σ2,g2,d2,m2,f2⟩:=app_all (E:=E) (bytes:=16) (Dst.nil ⟨σ.next+8,σ.bl⟩ 1) fw.tidy xs ho (by unfold growable;simp only[Bool.and_eq_true,Nat.ble_eq];omega)
  rw[Nat.zero_add,List.nil_append]at d2
  have le2:σ.next+8≤σ2.next:=f2.le
  have ul:∀b,Names u b→σ.next+8≤b:=fun b hb=>(m2 b hb).elim (fun h=>h.elim) (fun h=>h)
  obtain⟨σ3,h3⟩:∃σ3,σ3=(⟨σ2.next,(σ.next+6,.cells [.str ⟨0,0⟩,.nils,.nils,.nils])::σ2.bl⟩:H):=⟨_,rfl⟩
  have f3:Fr (fun k=>k=σ.next+6) σ2 σ3:=by
    rw[h3]
    refine⟨fun b hb=>?_,Nat.le_refl _,fun b hb hn=>?_⟩
    · have hb:σ2.next≤b:=hb
      show lookF ((σ.next+6,_)::σ2.bl) b=none
      rw[lookF_cons,if_neg (by simp only[];omega)]
      exact f2.tidy b hb
    · show lookF ((σ.next+6,_)::σ2.bl) b=_
      rw[lookF_cons,if_neg (by simp only[];omega)]
  have a3:Atc σ3 (σ.next+6) [.str ⟨0,0⟩,.nils,.nils,.nils]:=by
    rw[h3]
    show lookF ((σ.next+6,_)::σ2.bl) _=_
    rw[lookF_cons,if_pos rfl]
  have hoc:allOne [.str (ofN m.nm),u,.nils,.nils]=true:=by simp only[allOne_cons,allOne_nil,one_str,one_nils,d2.one,Bool.and_true]
  have st:∃σ4,den1 E D (.store 4 (.tmp 9) (.tmp 30)) [(9,.ptr (σ.next+6) 0),(30,.agg [.str (ofN m.nm),u,.nils,.nils])] σ3=some (.dead,σ4)∧Fr (fun k=>k=σ.next+6) σ3 σ4∧Atc σ4 (σ.next+6) [.str (ofN m.nm),u,.nils,.nils]:=by
    obtain⟨σ4,q1,q2,q3⟩:=st_den (E:=E) (D:=D) (n:=4) (x := .tmp 9) (y := .tmp 30) (e:=[(9,.ptr (σ.next+6) 0),(30,.agg [.str (ofN m.nm),u,.nils,.nils])]) f3.tidy a3 rfl (show (opv [(9,.ptr (σ.next+6) 0),(30,.agg [.str (ofN m.nm),u,.nils,.nils])] (.tmp 30)).cells=[.str (ofN m.nm),u,.nils,.nils] from rfl) (by
      rw[hoc];rfl)
    exact⟨σ4,q1,q2,q3⟩
  obtain⟨σ4,g4,f4,a4⟩:=st
  have uo:=d2.one
  have go:GoesQ (EndSt E σ 8 H35_0 _ σ4) E D σ 8 0 G35_0 H35_0 ⟨[(1,.ptr cb 0),(2,p2),(8,p8)],σ.next+8,[σ.bl],[],0,[]⟩:=
    goq_p (.ptr cb 0) rfl rfl <|
    goq_l (.str (ofN m.nm)) (go_start (S:=Nowhere) ht) rfl (old_ld1 (b:=cb) (off:=0) rfl ha rfl ht (fun h=>h) (beq_self _ rfl)) fun r1=>
    goq_p (.ptr cb 2) rfl rfl <|
    goq_l nv r1 rfl (old_ld1 (b:=cb) (off:=2) rfl ha rfl ht (fun h=>h) (zdbeq hn)) fun r2=>
    goq_k u r2 rfl (by decide) (S':=Nowhere) (f2.mono fun _ _ h=>h.elim) (fun _ _ h=>h.elim) (fun _ h _ _=>h) (app_den rfl rfl g2) fun _ _ r4=>
    goq_p (.agg [.str (ofN m.nm),u,.nils,.nils]) rfl (bld2 rfl rfl uo) <|
    goq_a (.ptr (σ.next+6) 0) (.cells [.str ⟨0,0⟩,.nils,.nils,.nils]) 64 r4 rfl (by decide) (by decide) rfl fun _ r5=>
    goq_end2 .dead (by rw[←h3]at r5;exact r5) rfl (by decide) f4 (fun j hj e=>by
      have:j=6:=by omega
      subst this;decide) g4 (fun x hx=>by
      simp only[List.mem_cons,List.not_mem_nil,or_false]at hx
      rcases hx with rfl|rfl
      · show legal H35_0 3 [7,4] []=false
        decide
      · show legal H35_0 1 [7,4] []=false
        decide)
  have d:=goq_draw (ops:=G35_0) go
  refine⟨_,u,σ4,d,rfl,rfl,rfl,rfl,a4,?_,ul,?_,?_⟩
  · exact(d2.fr f3 f2.tidy (fun b hb e=>by have:=ul b hb;omega)).fr f4 f3.tidy (fun b hb e=>by have:=ul b hb;omega)
  · have:=f3.le
    have:=f4.le
    omega
  · exact((fw.trans (f2.mono fun _ _ h=>h.elim:Fr Nowhere _ σ2) (fun _ _ h=>h)).trans f3 (fun b hb e=>by omega)).trans f4 (fun b hb e=>by omega)
theorem make_reg1 {m:ModS} {T:NodT} (hT:SpMnode m T (D 64)) {σ0 σ:H} {cb xb tb:Nat} {nv tv dv lv u rv p2:V} {tl tl':List TyS} {rs:List Nat} {i k r:Nat} {nm:BS} {P:Nat→Prop} (hP:∀b,P b→b<σ.next) (ht0:Tidy σ0) (hs0:MdS σ0 m nv tv dv) (h:Mk σ0 σ xb m nv tv dv tl lv (fun b=>b=tb∨Names rv b∨P b)) (hc:Atc σ cb (mdC m nv tv dv)) (ht:Atc σ tb [.str nm,u,rv,.nils]) (hr:Dst σ 1 rs.length rv (ksC rs)) (hrl:rs.length≤40) (hk:m.ks[i]? = some k)
    (cx:cb≠xb) (cl:¬Names lv cb) (cr:¬Names rv cb) (ct:cb≠tb) (tr:¬Names rv tb) (rx:∀b,Names rv b→σ0.next≤b) (t0:σ0.next≤tb) (hd:T 0 k tl=some (r,tl')) :
    ∃e' lv' rv' σ',drawW E D G35_1 H35_1 [(1,.ptr cb 0),(2,p2),(8,.ptr xb 0),(9,.ptr tb 0),(10,.int .i64 (Int.ofNat i))] σ=some (e',σ')∧Go.Og.look e' 1=some (.ptr cb 0)∧Go.Og.look e' 2=some p2∧Go.Og.look e' 8=some (.ptr xb 0)∧Go.Og.look e' 9=some (.ptr tb 0)∧Go.Og.look e' 10=some (.int .i64 (Int.ofNat i)) ∧
      Mk σ0 σ' xb m nv tv dv tl' lv' (fun b=>b=tb∨Names rv' b∨P b)∧Atc σ' tb [.str nm,u,rv',.nils]∧Dst σ' 1 (rs.length+1) rv' (ksC (rs++[r]))∧(∀b,Names lv' b→Names lv b∨σ.next≤b)∧(∀b,Names rv' b→Names rv b∨σ.next≤b)∧Fr (fun b=>b=xb∨b=tb∨Names lv b∨Names rv b) σ σ':=by
  have hti:=h.ht
  have le0:=h.f.le
  have fw:Fr Nowhere σ ⟨σ.next+13,σ.bl⟩:=(go_start (E:=E) (n:=13) (S:=Nowhere) hti).fr
  have rl:∀b,Names rv b→b<σ.next:=fun b hb=>hr.lt hti hb
  have tl_lt:=ht.lt hti
  have cl_lt:=hc.lt hti
  have xl:=h.a.lt hti
  have hw:=(h.ext (Q':=fun b=>(b=tb∨Names rv b∨P b)∨(σ.next≤b∧b<σ.next+13)) (fun b q=>q.imp id (fun q=>q.1))).fr fw (fun _ h=>h.elim) (fun _ h=>h.elim)
  obtain⟨lv',σ1,g1,h1,m1,f1⟩:=hT ht0 hs0 hw (fun b q=>by
    show b<σ.next+13
    rcases q with (q|q|q)|q
    · omega
    · have:=rl b q;omega
    · have:=hP b q;omega
    · omega) (by omega) hd
  have le1:σ.next+13≤σ1.next:=f1.le
  have lxq:∀b,Names lv b→b≠tb∧¬Names rv b:=fun b hb=>⟨fun e=>(h.lx b hb).2.2 (.inl e),fun e=>(h.lx b hb).2.2 (.inr (.inl e))⟩
  obtain⟨σ2,h2⟩:∃σ2,σ2=(⟨σ1.next,(σ.next+9,.cells [.int .i64 (Int.ofNat r)])::σ1.bl⟩:H):=⟨_,rfl⟩
  have f2:Fr (fun k=>k=σ.next+9) σ1 σ2:=by
    rw[h2]
    refine⟨fun b hb=>?_,Nat.le_refl _,fun b hb hn=>?_⟩
    · have hb:σ1.next≤b:=hb
      show lookF ((σ.next+9,_)::σ1.bl) b=none
      rw[lookF_cons,if_neg (by simp only[];omega)]
      exact f1.tidy b hb
    · show lookF ((σ.next+9,_)::σ1.bl) b=_
      rw[lookF_cons,if_neg (by simp only[];omega)]
  have a2:Atc σ2 (σ.next+9) [.int .i64 (Int.ofNat r)]:=by
    rw[h2]
    show lookF ((σ.next+9,_)::σ1.bl) _=_
    rw[lookF_cons,if_pos rfl]
  have xs:Src σ2 1 1 (V.sl (σ.next+9) 0 1 (.ex 1)) [.int .i64 (Int.ofNat r)] := .inr ⟨_,_,_,_,rfl,a2,Nat.le_refl _,rfl⟩
  have hr1:Dst σ1 1 rs.length rv (ksC rs):=(hr.fr fw hti (fun _ _ h=>h)).fr f1 fw.tidy (fun b hb e=>e.elim (fun e=>h.qx (.inr (.inl (e ▸ hb)))) (fun e=>(lxq b e).2 hb))
  obtain⟨rv',σ3,g3,d3,m3,f3⟩:=app_all (E:=E) (bytes:=8) (hr1.fr f2 f1.tidy (fun b hb e=>by have:=rl b hb;omega)) f2.tidy xs rfl (by unfold growable;simp only[Bool.and_eq_true,Nat.ble_eq];omega)
  have n2:σ2.next=σ1.next:=by rw[h2]
  have t1:Atc σ1 tb [.str nm,u,rv,.nils]:=f1.at_ (fw.at_ ht hti (fun h=>h)) fw.tidy (fun e=>e.elim (fun e=>h.qx (.inl e.symm)) (fun e=>(lxq tb e).1 rfl))
  have t3:=f3.at_ (f2.at_ t1 f1.tidy (by omega)) f2.tidy tr
  obtain⟨o1,o2⟩:=one_live d3.one
  have st:∃σ4,den1 E D (.store 1 (.tmp 49) (.tmp 48)) [(49,.ptr tb 2),(48,rv')] σ3=some (.dead,σ4)∧Fr (fun k=>k=tb) σ3 σ4∧Atc σ4 tb [.str nm,u,rv',.nils]:=by
    obtain⟨σ4,q1,q2,q3⟩:=st_den (E:=E) (D:=D) (n:=1) (x := .tmp 49) (y := .tmp 48) (e:=[(49,.ptr tb 2),(48,rv')]) f3.tidy t3 rfl (show (opv [(49,.ptr tb 2),(48,rv')] (.tmp 48)).cells=[rv'] from o2) (by
      simp only[allOne_cons,allOne_nil,d3.one,Bool.and_true];rfl)
    exact⟨σ4,q1,q2,q3⟩
  obtain⟨σ4,g4,f4,a4⟩:=st
  have le3:=f3.le
  have le2:=f2.le
  have hs:=hs0.fr h.f ht0
  have hkl:i<m.ks.length:=(List.getElem?_eq_some_iff.1 hk).1
  have mr:∀b,Names rv' b→Names rv b∨σ1.next≤b:=fun b hb=>(m3 b hb).imp id (fun h=>by omega)
  have ml:∀b,Names lv' b→Names lv b∨σ.next≤b:=fun b hb=>(m1 b hb).imp id (fun h=>by have h:σ.next+13≤b:=h;omega)
  have h4:Mk σ0 σ4 xb m nv tv dv tl' lv' (fun b=>((b=tb∨Names rv b∨P b)∨(σ.next≤b∧b<σ.next+13))∨σ1.next≤b):=(((h1.ext (Q':=fun b=>((b=tb∨Names rv b∨P b)∨(σ.next≤b∧b<σ.next+13))∨σ1.next≤b) (fun b q=>q)).fr f2 (fun b e => .inr (.inl (.inr (by omega)))) (fun b e=>by omega)).fr f3 (fun b e => .inr (.inl (.inl (.inr (.inl e))))) (fun b e=>rx b e)).fr f4 (fun b e => .inr (.inl (.inl (.inl e)))) (fun b e=>by omega)
  obtain⟨vb,vo,vc,L,htv,hva,hvle,hvm⟩:∃vb vo vc L,tv = .sl vb vo m.ks.length vc∧Atc σ vb L∧vo+m.ks.length*1≤L.length∧ksC m.ks=(L.drop vo).take (m.ks.length*1):=by
    rcases hs.t with ⟨h0,_,_⟩|⟨b,o,c,L,e1,e2,e3,e4⟩
    · omega
    · exact⟨b,o,c,L,e1,e2,e3,e4⟩
  have hvb:vb<σ0.next:=hs0.t.lt ht0 (by rw[htv];rfl)
  have hLk:L[vo+i*1]? = some (.int .i64 (Int.ofNat k)):=by
    have:(ksC m.ks)[i]? = some (.int .i64 (Int.ofNat k)):=by unfold ksC;rw[List.getElem?_map,hk];rfl
    rw[hvm,List.getElem?_take_of_lt (by omega),List.getElem?_drop]at this
    rw[Nat.mul_one];exact this
  have hct:=hc
  unfold mdC at hct
  rw[htv]at hct
  have go:GoesQ (EndSt E σ 13 H35_1 _ σ4) E D σ 13 0 G35_1 H35_1 ⟨[(1,.ptr cb 0),(2,p2),(8,.ptr xb 0),(9,.ptr tb 0),(10,.int .i64 (Int.ofNat i))],σ.next+13,[σ.bl],[],0,[]⟩:=
    goq_p (.ptr tb 2) rfl rfl <|
    goq_l rv (go_start (S:=fun b=>b=xb∨Names lv b∨Names rv b) hti) rfl (old_ld1 (b:=tb) (off:=2) rfl ht rfl hti (fun e=>by
      rcases e with e|e|e
      · exact h.qx (.inl e.symm)
      · exact(lxq _ e).1 rfl
      · exact tr e) (zdbeq hr)) fun r1=>
    goq_p (.ptr xb 0) rfl rfl <|
    goq_p (.ptr cb 3) rfl rfl <|
    goq_l (.sl vb vo m.ks.length vc) r1 rfl (old_ld1 (b:=cb) (off:=3) rfl hct rfl hti (fun e=>by
      rcases e with e|e|e
      · exact cx e
      · exact cl e
      · exact cr e) (beq_self _ rfl)) fun r2=>
    goq_p (.int .i64 (Int.ofNat i)) rfl rfl <|
    goq_p (.ptr vb (vo+i*1)) rfl (iaddr_of rfl rfl hkl) <|
    goq_l (.int .i64 (Int.ofNat k)) r2 rfl (old_ld1 (b:=vb) (off:=vo+i*1) rfl hva hLk hti (fun e=>by
      rcases e with e|e|e
      · have:=h.x0;omega
      · have:=(h.lx _ e).2.1;omega
      · have:=rx _ e;omega) (beq_self _ rfl)) fun r3=>
    goq_k (.int .i64 (Int.ofNat r)) r3 rfl (by decide) (S':=fun b=>b=xb∨Names lv b) f1 (fun b _ e=>e.imp id .inl) (fun b e e1 e2=>by
      rcases e with e|e
      · omega
      · have:=h.llt e;omega) (call_of (vs:=[.ptr xb 0,.int .i64 (Int.ofNat k),.int .i64 (Int.ofNat 0)]) rfl rfl g1) fun _ _ r4=>
    goq_a (.sl (σ.next+9) 0 1 (.ex 1)) (.cells [.int .i64 (Int.ofNat r)]) 512 r4 rfl (by decide) (by decide) rfl fun _ r5=>
    goq_k (S:=fun b=>b=xb∨Names lv b∨Names rv b) rv' (by rw[←h2]at r5;exact r5) rfl (by decide) (S':=Names rv) f3 (fun _ _ e=>Or.inr (Or.inr e)) (fun b e e1 e2=>by have:=rl b e;omega) (app_den rfl rfl g3) fun _ _ r6=>
    goq_p (.ptr tb 2) rfl rfl <|
    goq_end .dead r6 rfl (by decide) f4 (fun b e e1 _=>by omega) g4 (fun x hx=>by
      simp only[List.mem_cons,List.not_mem_nil,or_false]at hx
      rcases hx with rfl|rfl|rfl
      · show legal H35_1 7 [12,10,8] []=false
        decide
      · show legal H35_1 4 [12,10,8] []=false
        decide
      · show legal H35_1 1 [12,10,8] []=false
        decide)
  have d:=goq_draw (ops:=G35_1) go
  refine⟨_,lv',rv',σ4,d,rfl,rfl,rfl,rfl,rfl,h4.ext (fun b q=>?_),a4,?_,ml,fun b hb=>(mr b hb).imp id (fun h=>by omega),?_⟩
  · rcases q with q | q | q
    · exact .inl (.inl (.inl (.inl q)))
    · exact(mr b q).elim (fun e=>Or.inl (Or.inl (Or.inl (Or.inr (Or.inl e))))) (fun e=>Or.inl (Or.inr e))
    · exact .inl (.inl (.inl (.inr (.inr q))))
  · have d4:=d3.fr f4 f3.tidy (fun b hb e=>(mr b hb).elim (fun h=>tr (e ▸ h)) (fun h=>by omega))
    rw[show ksC (rs++[r])=ksC rs++[.int .i64 (Int.ofNat r)] by unfold ksC;simp]
    exact d4
  · have F1:Fr (fun b=>b=xb∨b=tb∨Names lv b∨Names rv b) σ ⟨σ.next+13,σ.bl⟩:=fw.mono (fun _ _ h=>h.elim)
    have F2:Fr (fun b=>b=xb∨b=tb∨Names lv b∨Names rv b) σ σ1:=F1.trans f1 (fun b _ e=>e.elim Or.inl (fun e=>Or.inr (Or.inr (Or.inl e))))
    have F3:Fr (fun b=>b=xb∨b=tb∨Names lv b∨Names rv b) σ σ2:=F2.trans f2 (fun b hb e=>by omega)
    have F4:Fr (fun b=>b=xb∨b=tb∨Names lv b∨Names rv b) σ σ3:=F3.trans f3 (fun b _ e=>Or.inr (Or.inr (Or.inr e)))
    exact F4.trans f4 (fun b _ e=>Or.inr (Or.inl e))
end
def Zo (v:V):Prop:=v = .nils∨∃b n c,v = .sl b 0 n c
theorem Dst.zo {σ:H} {esz k:Nat} {v:V} {l:List V} (h:Dst σ esz k v l):Zo v:=by
 rcases h with (⟨_,e,_⟩|⟨b,e,_⟩)|⟨b,e,_⟩
 ·exact .inl e
 ·exact .inr ⟨_,_,_,e⟩
 ·exact .inr ⟨_,_,_,e⟩
structure TbS (n0:Nat) (σ:H) (az:List (List Nat)) (rs:List Nat) (tl:List TyS) (u rv lv:V):Prop where
 n:Src σ 1 az.length u (stC az)
 r:Src σ 1 rs.length rv (ksC rs)
 t:∃ws:List (V × V × V),Src σ 13 tl.length lv (tyCs tl ws)∧ws.length=tl.length∧∀(k:Nat) (t:TyS) (w:V × V × V),tl[k]? = some t→ws[k]? = some w→Src σ 2 t.tags.length w.1 (tgC t.tags)∧Src σ 3 t.items.length w.2.1 (itC t.items)∧Src σ 11 t.fields.length w.2.2 (fdC t.fields)∧∀b,(Names w.1 b∨Names w.2.1 b∨Names w.2.2 b)→n0≤b
 f:∀b,(Names u b∨Names rv b∨Names lv b)→n0≤b
 z:Zo lv
def rootsP (T:NodT):List Nat→List TyS→List Nat→Option (List Nat × List TyS)
 | [],tl,rs=>some (rs,tl)
 | k::ks,tl,rs=>(T 0 k tl).bind fun r=>rootsP T ks r.2 (rs++[r.1])
def tbC (nm:List Nat) (u rv lv:V):List V:=[.str (ofN nm),u,rv,lv]
def SpMake (m:ModS) (T:NodT) (F:List V→H→Ans):Prop:=∀(σ:H) (nv tv dv:V) (rs:List Nat) (tl:List TyS),Tidy σ→MdS σ m nv tv dv→rootsP T m.ks [] []=some (rs,tl) →
 ∃u rv lv σ',F [.agg (mdC m nv tv dv)] σ=some (.tup [.agg (tbC m.nm u rv lv),.int .i64 (Int.ofNat 0),.int .i64 (Int.ofNat 0)],σ')∧TbS σ.next σ' m.az rs tl u rv lv∧Fr Nowhere σ σ'
section
variable {E:List (Nat × Blk)} {D:Den} {N:Nat}
theorem make_L {m:ModS} {T:NodT} (hm:MdOk m) (hT:SpMnode m T (D 64)) {σ0 σ5:H} {cb rb xb tb:Nat} {nv tv dv u:V} (ht0:Tidy σ0) (hs0:MdS σ0 m nv tv dv) (ht5:Tidy σ5) (hc5:Atc σ5 cb (mdC m nv tv dv)) (hr5:Atc σ5 rb [.str (BS.mk 0 0),.nils,.nils,.nils]) (hu5:Dst σ5 1 m.az.length u (stC m.az)) (l05:σ0.next≤σ5.next)
  (cx:cb≠xb) (ct:cb≠tb) (rx:rb≠xb) (rt:rb≠tb) (ux:∀b,Names u b→b≠xb∧b≠tb∧b≠rb∧σ0.next≤b) (x5:xb<σ5.next) (t5:tb<σ5.next) (t0:σ0.next≤tb) (r0:σ0.next≤rb):∀(ks:List Nat) (i k:Nat) {σ:H} {lv rv:V} {tl tl':List TyS} {rs rs':List Nat},m.ks.drop i=ks→i+ks.length=m.az.length→ks.length<k→rs.length=i →
  Mk σ0 σ xb m nv tv dv tl lv (fun b=>b=tb∨Names rv b∨(b=rb∨b<σ0.next))→Atc σ tb [.str (ofN m.nm),u,rv,.nils]→Dst σ 1 rs.length rv (ksC rs)→(∀b,Names lv b→σ5.next≤b)→(∀b,Names rv b→σ5.next≤b)→Fr (fun b=>b=xb∨b=tb) σ5 σ→rootsP T ks tl rs=some (rs',tl') →
  ∃rv' lv' σ',L35_2 E D (drawW E D) N k cb 0 rb 0 xb 0 tb 0 (Int.ofNat i) σ=some (.tup [.agg (tbC m.nm u rv' lv'),.int .i64 (Int.ofNat 0),.int .i64 (Int.ofNat 0)],σ')∧TbS σ0.next σ' m.az rs' tl' u rv' lv'∧Fr (fun b=>b=xb∨b=tb∨b=rb) σ5 σ':=by
 have hfew:=hm.few.2
 have hc_lt:=hc5.lt ht5
 have hr_lt:=hr5.lt ht5
 intro ks
 induction ks with
 | nil=>
  intro i k σ lv rv tl tl' rs rs' hk hi hn hrs h ht hr ll rl f hp
  obtain⟨k,rfl⟩:∃j,k=j+1:=⟨k-1,by omega⟩
  cases hp
  have hti:=h.ht
  have hc:=f.at_ hc5 ht5 (fun e=>e.elim cx ct)
  have hrb:=f.at_ hr5 ht5 (fun e=>e.elim rx rt)
  have hu:=hu5.fr f ht5 (fun b hb e=>e.elim (ux b hb).1 (ux b hb).2.1)
  have sl:∀κ:Nat→Ans,slenK nv κ=κ m.az.length:=fun κ=>hs0.n.slen
  have d1:decide (i<m.az.length)=false:=decide_eq_false (by simp only[List.length_nil]at hi;omega)
  obtain⟨ws,h1,h2,h3⟩:=h.w
  obtain⟨σa,ga,fa,aa⟩:=stz (off:=3) (y:=lv) hti ht h1.one (show 3<4 by decide)
  have aa:Atc σa tb (tbC m.nm u rv lv):=aa
  have hra:=fa.at_ hrb hti (by omega)
  obtain⟨σb,eb,fb,ab⟩:=mkS fa.tidy hra (tbC m.nm u rv lv)
  have ho:allOne (tbC m.nm u rv lv)=true:=by
   unfold tbC
   simp only[allOne_cons,allOne_nil,one_str,hu.one,hr.one,h1.one,Bool.and_true]
  have gb:∀κ:H→Ans,stK 4 rb 0 (.agg (tbC m.nm u rv lv)) σa κ=κ σb:=fun κ=>by
   rw[stK_at hra (by
    rw[cells_agg,ho]
    rfl),cells_agg]
   show κ (setF σa rb (.cells (tbC m.nm u rv lv)))=_
   rw[eb]
  have hx:=h.a
  have fab:Fr (fun b=>b=tb∨b=rb) σ σb:=(fa.mono (fun _ _ e => .inl e):Fr (fun b=>b=tb∨b=rb) σ σa).trans fb (fun _ _ e => .inr e)
  refine⟨rv,lv,σb,?_,⟨(hu.fr fab hti (fun b hb e=>e.elim (ux b hb).2.1 (ux b hb).2.2.1)).src,(hr.fr fab hti (fun b hb e=>by have:=rl b hb;omega)).src,⟨ws,(h1.fr fab hti (fun b hb e=>by have:=ll b hb;omega)).src,h2,fun j t w hj hw=>?_⟩,fun b hb=>?_,Dst.zo h1⟩,(f.mono (fun _ _ e=>e.imp id .inl):Fr (fun b=>b=xb∨b=tb∨b=rb) σ5 σ).trans fab (fun b _ e => .inr e)⟩
  ·unfold mdC at hc
   unfold mkC at hx
   unfold tbC at aa ab gb ⊢
   have sub:∀κ:List V→Ans,subK [.str (ofN m.nm),u,rv,lv] 0 4 κ=κ [.str (ofN m.nm),u,rv,lv]:=fun κ=>by
    rw[subK_of (by simp)];rfl
   have o1:=hu.one
   have o2:=hr.one
   have o3:=h1.one
   show T35_2 E D (drawW E D) (T35_1 E D (drawW E D)) _ cb 0 rb 0 xb 0 tb 0 (Int.ofNat i) σ=_
   have key:∀R,T35_2 E D (drawW E D) (T35_1 E D (drawW E D)) R cb 0 rb 0 xb 0 tb 0 (Int.ofNat i) σ=some (.tup [.agg [.str (ofN m.nm),u,rv,lv],.int .i64 (Int.ofNat 0),.int .i64 (Int.ofNat 0)],σb):=by
    intro R
    unfold T35_2 T35_1
    simp -implicitDefEqProofs only [↓rP,rA,Nat.reduceEqDiff,Nat.reduceLT,Nat.reduceLeDiff,↓ldK_is hc,↓sl,d1,↓ldK_is hx,↓ga,↓ldnK_is aa,↓sub,↓gb,↓ldnK_is ab]
   exact key _
  ·obtain⟨a,b,c,d⟩:=h3 j t w hj hw
   have nn:∀x,(Names w.1 x∨Names w.2.1 x∨Names w.2.2 x)→¬(x=tb∨x=rb):=fun x hx e=>(d x hx).2.2 (e.elim .inl (fun e => .inr (.inr (.inl e))))
   exact⟨a.fr fab hti (fun x hx e=>nn x (.inl hx) e),b.fr fab hti (fun x hx e=>nn x (.inr (.inl hx)) e),c.fr fab hti (fun x hx e=>nn x (.inr (.inr hx)) e),fun x hx=>Nat.le_of_not_lt fun e=>(d x hx).2.2 (.inr (.inr (.inr e)))⟩
  ·rcases hb with hb|hb|hb
   ·exact(ux b hb).2.2.2
   ·have:=rl b hb;omega
   ·have:=ll b hb;omega
 | cons k0 ks ih=>
  intro i k σ lv rv tl tl' rs rs' hk hi hn hrs h ht hr ll rl f hp
  obtain⟨k,rfl⟩:∃j,k=j+1:=⟨k-1,by omega⟩
  obtain⟨⟨r,tl1⟩,h1,hp⟩:=Option.bind_eq_some_iff.1 hp
  simp only[List.length_cons]at hi hn
  have hti:=h.ht
  have hc:=f.at_ hc5 ht5 (fun e=>e.elim cx ct)
  have le:=f.le
  have hki:m.ks[i]? = some k0:=by
   have:=congrArg (fun l:List Nat=>l[0]?) hk
   simpa using this
  obtain⟨e',lv1,rv1,σ1,g,t1,t2,t8,t9,t10,hm1,ha1,hr1,m1,m2,f1⟩:=make_reg1 (E:=E) (D:=D) (p2 := .ptr rb 0) (P:=fun b=>b=rb∨b<σ0.next) hT (fun b e=>by omega) ht0 hs0 h hc ht hr (by omega) hki cx (fun e=>by have:=ll _ e;omega) (fun e=>by have:=rl _ e;omega) ct (fun e=>by have:=rl _ e;omega) (fun b hb=>by have:=rl b hb;omega) t0 h1
  have F1:Fr (fun b=>b=xb∨b=tb) σ5 σ1:=f.trans f1 (fun b hb e=>by
   rcases e with e|e|e|e
   ·exact .inl e
   ·exact .inr e
   ·have:=ll b e;omega
   ·have:=rl b e;omega)
  have a1:addF .i64 (Int.ofNat i) (Int.ofNat 1)=Int.ofNat (i+1):=addF_nat (by omega)
  obtain⟨rv',lv',σ',g',tb',f'⟩:=ih (i+1) k (by rw[←List.drop_drop,hk];rfl) (by omega) (by omega) (by simp[hrs]) hm1 ha1 (by rw[List.length_append];exact hr1) (fun b hb=>(m1 b hb).elim (ll b) (fun e=>by omega)) (fun b hb=>(m2 b hb).elim (rl b) (fun e=>by omega)) F1 hp
  refine⟨rv',lv',σ',?_,tb',f'⟩
  have sl:∀κ:Nat→Ans,slenK nv κ=κ m.az.length:=fun κ=>hs0.n.slen
  have d1:decide (i<m.az.length)=true:=decide_eq_true (by omega)
  have gd:∀κ:Env→H→Ans,gdrawK (drawW E D G35_1 H35_1 [(1,.ptr cb 0),(2,.ptr rb 0),(8,.ptr xb 0),(9,.ptr tb 0),(10,.int .i64 (Int.ofNat i))] σ) κ=κ e' σ1:=fun κ=>by rw[g];rfl
  have m1':∀κ:V→Ans,getL e' 1 κ=κ (.ptr cb 0):=fun κ=>getL_of t1 rfl
  have m2':∀κ:V→Ans,getL e' 2 κ=κ (.ptr rb 0):=fun κ=>getL_of t2 rfl
  have m8':∀κ:V→Ans,getL e' 8 κ=κ (.ptr xb 0):=fun κ=>getL_of t8 rfl
  have m9':∀κ:V→Ans,getL e' 9 κ=κ (.ptr tb 0):=fun κ=>getL_of t9 rfl
  have m10':∀κ:V→Ans,getL e' 10 κ=κ (.int .i64 (Int.ofNat i)):=fun κ=>getL_of t10 rfl
  have hx1:=hm1.a
  unfold mdC at hc
  unfold mkC at hx1
  show T35_2 E D (drawW E D) (T35_1 E D (drawW E D)) (L35_2 E D (drawW E D) N k) cb 0 rb 0 xb 0 tb 0 (Int.ofNat i) σ=_
  have key:∀R,T35_2 E D (drawW E D) (T35_1 E D (drawW E D)) R cb 0 rb 0 xb 0 tb 0 (Int.ofNat i) σ=R cb 0 rb 0 xb 0 tb 0 (Int.ofNat (i+1)) σ1:=by
   intro R
   unfold T35_2
   simp -implicitDefEqProofs only [↓rP,rA,Nat.reduceEqDiff,Nat.reduceLT,Nat.reduceLeDiff,↓ldK_is hc,↓sl,d1,↓gd,↓m1',↓m2',↓m8',↓m9',↓m10',↓ldK_is hx1,a1]
  rw[key];exact g'
theorem make_F {m:ModS} {T:NodT} (hm:MdOk m) (hO:SpOrder m (D 63)) (hT:SpMnode m T (D 64)) (hN:100<N):SpMake m T (F35 E D (drawW E D) N):=by
 intro σ nv tv dv rs tl ht hs hp
 have hfew:=hm.few.2
 obtain⟨σ1,e1,f1,a1,n1⟩:=mkN ht (mdC m nv tv dv)
 obtain⟨σ2,e2,f2,a2,n2⟩:=mkN f1.tidy [.str (BS.mk 0 0),.nils,.nils,.nils]
 have od:dv.one=true:=by
  obtain⟨ws,h1,_⟩:=hs.d
  exact h1.one
 have f02:=f1.trans f2 (fun _ _ h=>h)
 obtain⟨v3,σ3,g3,o3,f3⟩:=hO σ2 nv tv dv f2.tidy (hs.fr f02 ht)
 have f03:=f02.trans f3 (fun _ _ h=>h)
 obtain⟨σ4,e4,f4,a4,n4⟩:=mkN f3.tidy (mkC m nv tv dv .nils)
 have f04:=f03.trans f4 (fun _ _ h=>h)
 have c2:=f2.at_ a1 f1.tidy (fun h=>h)
 have c3:=f3.at_ c2 f2.tidy (fun h=>h)
 have c4:=f4.at_ c3 f3.tidy (fun h=>h)
 have r4:=f4.at_ (f3.at_ a2 f2.tidy (fun h=>h)) f3.tidy (fun h=>h)
 obtain⟨e',u,σ5,g5,t1,t2,t8,t9,a5,d5,m5,l5,f5⟩:=make_reg0 (E:=E) (D:=D) (p2 := .ptr σ1.next 0) (p8 := .ptr σ3.next 0) f4.tidy c4 (hs.n.fr f04 ht (fun _ _ h=>h)) (by omega)
 have le1:=f1.le
 have le2:=f2.le
 have le3:=f3.le
 have le4:=f4.le
 have x4:=a4.lt f4.tidy
 have r2:=a2.lt f2.tidy
 have f05:=f04.trans f5 (fun _ _ h=>h)
 have mk:Mk σ σ5 σ3.next m nv tv dv [] .nils (fun b=>b=σ4.next+6∨Names .nils b∨(b=σ1.next∨b<σ.next)):=⟨f5.at_ a4 f4.tidy (fun h=>h),⟨[],Dst.nil _ _,rfl,fun k t w h=>by simp at h⟩,fun b hb=>hb.elim,fun q=>by
  rcases q with q|q|q
  ·omega
  ·exact q.elim
  ·omega,by omega,f05⟩
 obtain⟨rv',lv',σ',g',tbs,f'⟩:=make_L (E:=E) (N:=N) (k:=N) (cb:=σ.next) (rb:=σ1.next) hm hT ht hs f5.tidy (f5.at_ c4 f4.tidy (fun h=>h)) (f5.at_ r4 f4.tidy (fun h=>h)) d5 (by omega) (by omega) (by omega) (by omega) (by omega) (fun b hb=>by have:=m5 b hb;omega) (by omega) (by omega) (by omega) (by omega) m.ks 0 (by simp) (by rw[hm.as_many];omega) (by rw[hm.as_many];omega) rfl mk a5 (Dst.nil _ _) (fun b hb=>hb.elim) (fun b hb=>hb.elim) (Fr.refl f5.tidy) hp
 refine⟨u,rv',lv',σ',?_,tbs,f05.trans f' (fun b hb e=>by omega)⟩
 unfold mdC at e1 a1 g3 c2 c3
 unfold mkC at e4
 have sub:∀κ:List V→Ans,subK [.str (ofN m.nm),.int .i64 (Int.ofNat m.tg),nv,tv,dv] 0 5 κ=κ [.str (ofN m.nm),.int .i64 (Int.ofNat m.tg),nv,tv,dv]:=fun κ=>by
  rw[subK_of (by simp)];rfl
 have gd:∀κ:Env→H→Ans,gdrawK (drawW E D G35_0 H35_0 [(1,.ptr σ.next 0),(2,.ptr σ1.next 0),(8,.ptr σ3.next 0)] σ4) κ=κ e' σ5:=fun κ=>by rw[g5];rfl
 have m1':∀κ:V→Ans,getL e' 1 κ=κ (.ptr σ.next 0):=fun κ=>getL_of t1 rfl
 have m2':∀κ:V→Ans,getL e' 2 κ=κ (.ptr σ1.next 0):=fun κ=>getL_of t2 rfl
 have m8':∀κ:V→Ans,getL e' 8 κ=κ (.ptr σ3.next 0):=fun κ=>getL_of t8 rfl
 have m9':∀κ:V→Ans,getL e' 9 κ=κ (.ptr (σ4.next+6) 0):=fun κ=>getL_of t9 rfl
 have o1:=hs.n.one
 have o2:=hs.t.one
 show T35_0 E D (drawW E D) (L35_2 E D (drawW E D) N N) (ofN m.nm) (Int.ofNat m.tg) nv tv dv σ=_
 have key:∀K2,T35_0 E D (drawW E D) K2 (ofN m.nm) (Int.ofNat m.tg) nv tv dv σ=K2 σ.next 0 σ1.next 0 σ3.next 0 (σ4.next+6) 0 (Int.ofNat 0) σ5:=by
  intro K2
  unfold T35_0
  simp -implicitDefEqProofs only [↓rP,rA,Nat.reduceEqDiff,Nat.reduceLT,Nat.reduceLeDiff,o1,o2,od,↓e1,↓e2,↓ldnK_is c2,↓sub,↓g3,↓rtCons,o3,↓ldnK_is c3,↓e4,↓gd,↓m1',↓m2',↓m8',↓m9']
 rw[key];exact g'
end
end
end Go.Proofs.YtgjjnbddbbhloaaGreatDoor
namespace Go.Og
noncomputable section
section
variable {Q:DS→Prop} {E:List (Nat × Blk)} {D:Den} {σ σc σ':H} {n i:Nat} {S:Nat→Prop} {d:Option Nat} {o:AOp} {l:List AOper} {anc:Nat} {lk:List Nat} {pl:List DP} {e env:Env} {nx am:Nat} {ss:List (List (Nat × Blk))} {ks:List Nat} {ls:List (Nat × AOp × Env × V)} {g:Option (Nat × Bool)}
theorem goq_pg (v:V) (hg:wantedA (restr lk e) g=some true) (hc:o.cls = .p) (hv:aopP o (restr lk e)=some v) (k:GoesQ Q E D σ n (i+1) l pl ⟨putE e d v,nx,ss,ks,am,ls⟩):GoesQ Q E D σ n i (⟨d,o,g⟩::l) (⟨anc,lk⟩::pl) ⟨e,nx,ss,ks,am,ls⟩:=by
 obtain⟨s',h1,h2⟩:=k
 have h:dstep E D σ.next n i ⟨d,o,g⟩ ⟨anc,lk⟩ ⟨e,nx,ss,ks,am,ls⟩=some ⟨putE e d v,nx,ss,ks,am,ls⟩:=by
  unfold dstep;simp only[hg,hc,hv]
 refine⟨s',?_,h2⟩
 show (match dstep E D σ.next n i ⟨d,o,g⟩ ⟨anc,lk⟩ ⟨e,nx,ss,ks,am,ls⟩with | none=>none | some s'=>dsteps E D σ.next n (i+1) l pl s')=_
 rw[h];exact h1
theorem goq_lg (v:V) (hr:RegOk E σ n S nx ss am ls σc) (hg:wantedA (restr lk e) g=some true) (hc:o.cls = .l) (hv:OldLd E σ n S o (restr lk e) v) (k:RegOk E σ n S nx ss am ((i,o,restr lk e,v)::ls) σc→GoesQ Q E D σ n (i+1) l pl ⟨putE e d v,nx,ss,ks,am,(i,o,restr lk e,v)::ls⟩) :
  GoesQ Q E D σ n i (⟨d,o,g⟩::l) (⟨anc,lk⟩::pl) ⟨e,nx,ss,ks,am,ls⟩:=by
 obtain⟨⟨hn,r,rfl⟩,h2,h3,h4,h5,h6⟩:=hr
 obtain⟨s',k1,k2⟩:=k ⟨⟨hn,r,rfl⟩,h2,h3,h4,h5,fun x hx=>by
  rcases List.mem_cons.1 hx with rfl|hx
  ·exact hv
  ·exact h6 x hx⟩
 have h:dstep E D σ.next n i ⟨d,o,g⟩ ⟨anc,lk⟩ ⟨e,nx,σc.bl::r,ks,am,ls⟩=some ⟨putE e d v,nx,σc.bl::r,ks,am,(i,o,restr lk e,v)::ls⟩:=by
  unfold dstep;simp only[hg,hc,hv.2 nx σc.bl _ (h4 _ List.mem_cons_self)]
 refine⟨s',?_,k2⟩
 show (match dstep E D σ.next n i ⟨d,o,g⟩ ⟨anc,lk⟩ ⟨e,nx,σc.bl::r,ks,am,ls⟩with | none=>none | some s'=>dsteps E D σ.next n (i+1) l pl s')=_
 rw[h];exact k1
theorem goq_fin {pl0:List DP} (hr:RegOk E σ n S nx ss am ls σc):GoesQ (EndSt E σ n pl0 e σc) E D σ n i [] pl ⟨e,nx,ss,ks,am,ls⟩:=by
 obtain⟨⟨hn,r,rfl⟩,h2,h3,h4,h5,h6⟩:=hr
 refine⟨_,dsteps_nil,rfl,hn,⟨r,rfl⟩,?_,fun j hj hb=>h5 _ List.mem_cons_self j hj hb⟩
 exact List.all_eq_true.2 fun x hx=>check_all (h6 x hx) _ _ _ h4
end
end
end Go.Og
namespace Go.Proofs.YtgjjnbddbbhloaaGreatDoor
open Go Go.Og
noncomputable section
def SpTable (N:Nat) (F:List V→H→Ans):Prop:=∀(σ:H) (s:BS) (ts:List Tok) (m:ModS) (rs:List Nat) (tl:List TyS),Tidy σ→s.len≤3000→Tks N s.len s.nats ts→modP (typP 2) ts=some m→MdOk m→rootsP (nodP m 2) m.ks [] []=some (rs,tl) →
 ∃u rv lv σ',F [.str s] σ=some (.tup [.agg (tbC m.nm u rv lv),.bool (decide (tl.length≤120))],σ')∧TbS σ.next σ' m.az rs tl u rv lv∧Fr Nowhere σ σ'
section
variable {E:List (Nat × Blk)} {D:Den} {N:Nat}
theorem table_reg {σ:H} {rb tb:Nat} {nm:List Nat} {u rv lv:V} {az:List (List Nat)} {rs:List Nat} {tl:List TyS} (ht:Tidy σ) (hr:Atc σ rb [.str (BS.mk 0 0),.nils,.nils,.nils]) (ha:Atc σ tb (tbC nm u rv lv)) {n0:Nat} (hs:TbS n0 σ az rs tl u rv lv) (hne:tb≠rb) (bu:V.beq u u=true) (br:V.beq rv rv=true) (bl:V.beq lv lv=true) :
    ∃e' σ',drawW E D G13_0 H13_0 [(2,.ptr rb 0),(7,.ptr tb 0),(9,.int .i64 (Int.ofNat 0))] σ=some (e',σ')∧Go.Og.look e' 2=some (.ptr rb 0)∧Go.Og.look e' 3=some (.bool (decide (tl.length≤120)))∧Atc σ' rb (tbC nm u rv lv)∧Fr (fun k=>k=rb) σ σ':=by
  obtain⟨ws,h1,h2,h3⟩:=hs.t
  have fw:Fr Nowhere σ ⟨σ.next+11,σ.bl⟩:=(go_start (E:=E) (n:=11) (S:=Nowhere) ht).fr
  have lr:=hr.lt ht
  have ho:allOne (tbC nm u rv lv)=true:=by
    unfold tbC
    simp only[allOne_cons,allOne_nil,one_str,hs.n.one,hs.r.one,h1.one,Bool.and_true]
  have st:∃σ4,den1 E D (.store 4 (.tmp 2) (.tmp 29)) [(2,.ptr rb 0),(29,.agg (tbC nm u rv lv))] ⟨σ.next+11,σ.bl⟩=some (.dead,σ4)∧Fr (fun k=>k=rb) ⟨σ.next+11,σ.bl⟩ σ4∧Atc σ4 rb (tbC nm u rv lv):=by
    obtain⟨σ4,q1,q2,q3⟩:=st_den (E:=E) (D:=D) (n:=4) (x := .tmp 2) (y := .tmp 29) (e:=[(2,.ptr rb 0),(29,.agg (tbC nm u rv lv))]) fw.tidy (fw.at_ hr ht (fun h=>h)) rfl (show (opv [(2,.ptr rb 0),(29,.agg (tbC nm u rv lv))] (.tmp 29)).cells=tbC nm u rv lv from rfl) (by
      rw[ho];rfl)
    exact⟨σ4,q1,q2,q3⟩
  obtain⟨σ4,g4,f4,a4⟩:=st
  have ha':=ha
  unfold tbC at ha'
  have bagg:V.beq (.agg (tbC nm u rv lv)) (.agg (tbC nm u rv lv))=true:=by
    show (V.beq (.str (ofN nm)) (.str (ofN nm))&&(V.beq u u&&(V.beq rv rv&&(V.beq lv lv&&true))))=true
    rw[bu,br,bl]
    show (decide _&&_)=true
    rw[decide_eq_true rfl];rfl
  have hlen:aopP (.len false (.tmp 34)) [(34,lv),(32,.bool true)]=some (.int .i64 (Int.ofNat tl.length)):=by
    rcases h1 with ⟨h0,e,_⟩|⟨b,o,c,L,e,_⟩
    · rw[h0,e];rfl
    · rw[e];rfl
  have hle:aopP (.bin .leq .none (.tmp 35) (.con (.int .i64 (Int.ofNat 120)))) [(35,.int .i64 (Int.ofNat tl.length)),(32,.bool true)]=some (.bool (decide (tl.length≤120))):=by
    show some (V.bool (decide (Int.ofNat tl.length≤Int.ofNat 120)))=_
    rw[show decide (Int.ofNat tl.length≤Int.ofNat 120)=decide (tl.length≤120)from decide_eq_decide.2 Int.ofNat_le]
  have go:GoesQ (EndSt E σ 11 H13_0 _ σ4) E D σ 11 0 G13_0 H13_0 ⟨[(2,.ptr rb 0),(7,.ptr tb 0),(9,.int .i64 (Int.ofNat 0))],σ.next+11,[σ.bl],[],0,[]⟩:=
    goq_l (.agg (tbC nm u rv lv)) (go_start (S:=fun k=>k=rb) ht) rfl (old_ldn (b:=tb) (off:=0) rfl ha rfl rfl ht hne bagg) fun r1=>
    goq_p (.int .i64 (Int.ofNat 0)) rfl rfl <|
    goq_p (.bool true) rfl rfl <|
    goq_p (.bool true) rfl rfl <|
    goq_pg (.ptr tb 3) rfl rfl rfl <|
    goq_lg lv r1 rfl rfl (old_ld1 (b:=tb) (off:=3) rfl ha' rfl ht hne bl) fun r2=>
    goq_pg (.int .i64 (Int.ofNat tl.length)) rfl rfl hlen <|
    goq_pg (.bool (decide (tl.length≤120))) rfl rfl hle <|
    goq_p (.bool (decide (tl.length≤120))) rfl rfl <|
    goq_k .dead r2 rfl (by decide) (S':=fun k=>k=rb) f4 (fun _ _ h=>h) (fun b h h1 _=>by omega) g4 fun _ _ r3=>
    goq_p (.bool (decide (tl.length≤120))) rfl rfl <|
    goq_fin r3
  have d:=goq_draw (ops:=G13_0) go
  exact⟨_,σ4,d,rfl,rfl,a4,(fw.mono (fun _ _ h=>h.elim):Fr (fun k=>k=rb) σ _).trans f4 (fun _ _ h=>h)⟩
theorem src_beq {σ:H} {esz n:Nat} {v:V} {m:List V} (h:Src σ esz n v m):V.beq v v=true:=by
 rcases h with ⟨_,rfl,_⟩|⟨b,o,c,L,rfl,_⟩<;>exact beq_self _ rfl
theorem TbS.fr {n0:Nat} {σ σ':H} {S:Nat→Prop} {az:List (List Nat)} {rs:List Nat} {tl:List TyS} {u rv lv:V} (h:TbS n0 σ az rs tl u rv lv) (f:Fr S σ σ') (ht:Tidy σ) (hS:∀b,n0≤b→b<σ.next→¬S b):TbS n0 σ' az rs tl u rv lv:=by
 obtain⟨ws,h1,h2,h3⟩:=h.t
 refine⟨h.n.fr f ht (fun b hb=>hS b (h.f b (.inl hb)) (h.n.lt ht hb)),h.r.fr f ht (fun b hb=>hS b (h.f b (.inr (.inl hb))) (h.r.lt ht hb)),⟨ws,h1.fr f ht (fun b hb=>hS b (h.f b (.inr (.inr hb))) (h1.lt ht hb)),h2,fun k t w hk hw=>?_⟩,h.f,h.z⟩
 obtain⟨a,b,c,d⟩:=h3 k t w hk hw
 exact⟨a.fr f ht (fun x hx=>hS x (d x (.inl hx)) (a.lt ht hx)),b.fr f ht (fun x hx=>hS x (d x (.inr (.inl hx))) (b.lt ht hx)),c.fr f ht (fun x hx=>hS x (d x (.inr (.inr hx))) (c.lt ht hx)),d⟩
theorem TbS.low {n0 n1:Nat} {σ:H} {az:List (List Nat)} {rs:List Nat} {tl:List TyS} {u rv lv:V} (h:TbS n0 σ az rs tl u rv lv) (hn:n1≤n0):TbS n1 σ az rs tl u rv lv:=by
 obtain⟨ws,h1,h2,h3⟩:=h.t
 exact⟨h.n,h.r,⟨ws,h1,h2,fun k t w hk hw=>⟨(h3 k t w hk hw).1,(h3 k t w hk hw).2.1,(h3 k t w hk hw).2.2.1,fun b hb=>Nat.le_trans hn ((h3 k t w hk hw).2.2.2 b hb)⟩⟩,fun b hb=>Nat.le_trans hn (h.f b hb),h.z⟩
theorem table_F (hP:SpParse N (typP 2) (D 34)) (hM:∀m,MdOk m→SpMake m (nodP m 2) (D 35)):SpTable N (F13 E D (drawW E D) N):=by
 intro σ s ts m rs tl ht hs hts hm hok hr
 obtain⟨σ1,e1,f1,a1,n1⟩:=mkN ht [.str (BS.mk 0 0),.nils,.nils,.nils]
 obtain⟨nv,tv,dv,σ2,g2,s2,f2⟩:=hP σ1 s ts m f1.tidy (by omega) hts hm
 obtain⟨u,rv,lv,σ3,g3,s3,f3⟩:=hM m hok σ2 nv tv dv rs tl f2.tidy s2 hr
 obtain⟨σ4,e4,f4,a4,n4⟩:=mkN f3.tidy [.str (BS.mk 0 0),.nils,.nils,.nils]
 obtain⟨σ5,e5,f5,a5⟩:=mkS f4.tidy a4 (tbC m.nm u rv lv)
 have l3:=s3.t
 obtain⟨ws,h1,h2,h3⟩:=l3
 have ho:allOne (tbC m.nm u rv lv)=true:=by
  unfold tbC
  simp only[allOne_cons,allOne_nil,one_str,s3.n.one,s3.r.one,h1.one,Bool.and_true]
 have g5:∀κ:H→Ans,stK 4 σ3.next 0 (.agg (tbC m.nm u rv lv)) σ4 κ=κ σ5:=fun κ=>by
  rw[stK_at a4 (by
   rw[cells_agg,ho]
   rfl),cells_agg]
  show κ (setF σ4 σ3.next (.cells (tbC m.nm u rv lv)))=_
  rw[e5]
 have le1:=f1.le
 have le2:=f2.le
 have le3:=f3.le
 have le4:=f4.le
 have lr:=a1.lt f1.tidy
 have f25:Fr (fun b=>σ3.next≤b) σ3 σ5:=(f4.mono (fun _ _ h=>h.elim):Fr (fun b=>σ3.next≤b) σ3 σ4).trans f5 (fun b _ e=>by omega)
 have s5:=s3.fr f25 f3.tidy (fun b _ h1 h2=>by omega)
 have r5:=f25.at_ (f3.at_ (f2.at_ a1 f1.tidy (fun h=>h)) f2.tidy (fun h=>h)) f3.tidy (by omega)
 obtain⟨e',σ6,g6,t2,t3,a6,f6⟩:=table_reg (E:=E) (D:=D) f5.tidy r5 a5 s5 (by omega) (src_beq s5.n) (src_beq s5.r) (src_beq h1)
 refine⟨u,rv,lv,σ6,?_,(s5.fr f6 f5.tidy (fun b h1 _ e=>by omega)).low (by omega),((((f1.trans f2 (fun _ _ h=>h)).trans f3 (fun _ _ h=>h)).trans f25 (fun b hb e=>by omega))).trans f6 (fun b hb e=>by omega)⟩
 have d1:decide (3000<s.len)=false:=decide_eq_false (by omega)
 have gd:∀κ:Env→H→Ans,gdrawK (drawW E D G13_0 H13_0 [(2,.ptr σ.next 0),(7,.ptr σ3.next 0),(9,.int .i64 (Int.ofNat 0))] σ5) κ=κ e' σ6:=fun κ=>by rw[g6];rfl
 have m2':∀κ:V→Ans,getL e' 2 κ=κ (.ptr σ.next 0):=fun κ=>getL_of t2 rfl
 have m3':∀κ:V→Ans,getL e' 3 κ=κ (.bool (decide (tl.length≤120))):=fun κ=>getL_of t3 rfl
 have o1:=s2.n.one
 have o2:=s2.t.one
 have o3:dv.one=true:=by
  obtain⟨ws,h1,_⟩:=s2.d
  exact h1.one
 unfold mdC at g2 g3
 unfold tbC at g3 g5 a6 ⊢
 have sub:∀κ:List V→Ans,subK [.str (ofN m.nm),u,rv,lv] 0 4 κ=κ [.str (ofN m.nm),u,rv,lv]:=fun κ=>by
  rw[subK_of (by simp)];rfl
 show T13_0 E D (drawW E D) s σ=_
 unfold T13_0
 simp -implicitDefEqProofs only [↓rP,rA,Nat.reduceEqDiff,Nat.reduceLT,Nat.reduceLeDiff,↓e1,d1,↓g2,o1,o2,o3,allOne_cons,allOne_nil,one_str,one_int,↓g3,↓e4,↓g5,↓gd,↓m2',↓m3',↓ldnK_is a6]
end
theorem cat_canon {a b:BS} (hb:b.canon):(a.cat b).canon:=by
 show a.low ||| b.val <<< (8*a.len)<2 ^ (8*(a.len+b.len))
 have h0:a.low<2 ^ (8*a.len):=Nat.mod_lt _ (Nat.pow_pos (by decide))
 have h1:a.low<2 ^ (8*(a.len+b.len)):=Nat.lt_of_lt_of_le h0 (Nat.pow_le_pow_right (by decide) (by omega))
 have h2:b.val <<< (8*a.len)<2 ^ (8*(a.len+b.len)):=by
  rw[Nat.shiftLeft_eq,Nat.mul_add,Nat.add_comm,Nat.pow_add]
  exact Nat.mul_lt_mul_of_pos_right hb (Nat.pow_pos (by decide))
 exact Nat.or_lt_two_pow h1 h2
theorem ofN_cat {a b:List Nat} (ha:∀c∈a,c<256) (hb:∀c∈b,c<256):(ofN a).cat (ofN b)=ofN (a++b):=by
 have hab:∀c∈a++b,c<256:=fun c hc=>by
  rcases List.mem_append.1 hc with h|h
  ·exact ha c h
  ·exact hb c h
 exact BS.canon_ext (cat_canon (ofN_canon hb)) (ofN_canon hab) (by rw[BS.nats_cat,ofN_nats ha,ofN_nats hb,ofN_nats hab])
theorem catK_ofN {a b:List Nat} (ha:∀c∈a,c<256) (hb:∀c∈b,c<256) (hl:a.length+b.length≤1000000) (κ:BS→Ans):catK (ofN a) (ofN b) κ=κ (ofN (a++b)):=by
 unfold catK
 rw[show Nat.ble (Nat.add (ofN a).len (ofN b).len) 1000000000000=true from ble_of (by rw[ofN_len,ofN_len];show a.length+b.length≤_;omega),ofN_cat ha hb]
def digsF:Nat→Nat→List Nat
 | 0,v=>[48+v]
 | k+1,v=>match Nat.blt v 10 with
  | true=>[48+v]
  | false=>digsF k (v / 10)++[48+v % 10]
def Digs (l:List Nat):Prop:=∀c∈l,48≤c∧c≤57
theorem Digs.bd {l:List Nat} (h:Digs l):∀c∈l,c<256:=fun c hc=>by have:=h c hc;omega
theorem valD_app:∀(l m:List Nat) (a:Nat),valD a (l++m)=valD (valD a l) m
 | [],_,_=>rfl
 | c::l,m,a=>valD_app l m (10*a+(c-48))
theorem dval_snoc (l:List Nat) (c:Nat):valD 0 (l++[c])=10*valD 0 l+(c-48):=by
 rw[valD_app];rfl
theorem digsF_ok:∀(k v:Nat),v<10 ^ (k+1)→Digs (digsF k v)∧valD 0 (digsF k v)=v∧0<(digsF k v).length∧(digsF k v).length≤k+1∧(v<10→(digsF k v).length=1)∧(0<v→(digsF k v).getD 0 0≠48)
 | 0,v,h=>by
  have h:v<10:=by simpa using h
  refine⟨?_,?_,by simp[digsF],by simp[digsF],fun _=>rfl,fun hv=>by simp[digsF];omega⟩
  ·intro c hc
   simp[digsF]at hc;omega
  ·show 10*0+(48+v-48)=v
   omega
 | k+1,v,h=>by
  by_cases hv:v<10
  ·have e:digsF (k+1) v=[48+v]:=by
    show (match Nat.blt v 10 with | true=>_ | false=>_)=_
    rw[show Nat.blt v 10=true by simpa[Nat.blt_eq]using hv]
   rw[e]
   refine⟨?_,?_,by simp,by simp,fun _=>rfl,fun h=>by simp;omega⟩
   ·intro c hc
    simp at hc;omega
   ·show 10*0+(48+v-48)=v
    omega
  ·have e:digsF (k+1) v=digsF k (v / 10)++[48+v % 10]:=by
    show (match Nat.blt v 10 with | true=>_ | false=>_)=_
    rw[show Nat.blt v 10=false by rw[Bool.eq_false_iff];simpa[Nat.blt_eq]using hv]
   have hk:v / 10<10 ^ (k+1):=by
    rw[Nat.div_lt_iff_lt_mul (by decide)]
    rw[Nat.pow_succ]at h;exact h
   obtain⟨h1,h2,h3,h4,h5,h6⟩:=digsF_ok k (v / 10) hk
   rw[e]
   refine⟨?_,?_,by simp,by simp;omega,fun h=>absurd h hv,fun _=>?_⟩
   ·intro c hc
    rcases List.mem_append.1 hc with hc|hc
    ·exact h1 c hc
    ·simp at hc;omega
   ·rw[dval_snoc,h2];omega
   ·have h7:=h6 (by omega)
    cases hd:digsF k (v / 10)with
    | nil=>rw[hd]at h3;simp at h3
    | cons c l=>rw[hd]at h7;exact h7
def SpDigits (k:Nat) (F:List V→H→Ans):Prop:=∀(σ:H) (v:Nat),Tidy σ→v<10 ^ (k+1)→v≤18446744073709551615 →
 ∃σ',F [.int .u64 (Int.ofNat v)] σ=some (.str (ofN (digsF k v)),σ')∧Fr Nowhere σ σ'
theorem bytes_one {m:Nat} (h:m<256):BS.ofList [UInt8.ofNat (Int.ofNat m).toNat]=ofN [m]:=
 (ofN_eq (l:=[m]) (fun c hc=>by simp at hc;omega)).symm
theorem digits_small {k:Nat} (E:List (Nat × Blk)) (D:Den) (W:DrawFn) (N:Nat) (σ:H) (v:Nat) (ht:Tidy σ) (hv:v<10):∃σ',F12 E D W N [.int .u64 (Int.ofNat v)] σ=some (.str (ofN (digsF k v)),σ')∧Fr Nowhere σ σ':=by
 refine⟨newB σ (.cells [.int .u8 (Int.ofNat (48+v))]),?_,Fr.new ht _⟩
 have e:digsF k v=[48+v]:=by
  cases k with
  | zero=>rfl
  | succ k=>
   show (match Nat.blt v 10 with | true=>_ | false=>_)=_
   rw[show Nat.blt v 10=true by simpa[Nat.blt_eq]using hv]
 have h1:wrapF .u8 (addF .u64 (Int.ofNat 48) (Int.ofNat v))=Int.ofNat (48+v):=by
  have:addF .u64 (Int.ofNat 48) (Int.ofNat v)=Int.ofNat (48+v):=wrapF_nat (k := .u64) (m:=48+v) (show _≤18446744073709551615 by omega)
  rw[this]
  exact wrapF_nat (k := .u8) (show _≤255 by omega)
 show T12_0 E D W (Int.ofNat v) σ=_
 simp only[T12_0,ltF_nat,h1]
 rw[decide_eq_true hv,condK_true]
 have ha:Atc (newB σ (.cells [.int .u8 (Int.ofNat (48+v))])) σ.next [.int .u8 (Int.ofNat (48+v))]:=Atc_newB _
 rw[toStrK_sl,srcK_ex ha (by simp)]
 show some (V.str (BS.ofList [UInt8.ofNat (Int.ofNat (48+v)).toNat]),_)=_
 rw[bytes_one (by omega),e]
theorem digits0_F (E:List (Nat × Blk)) (D:Den) (W:DrawFn) (N:Nat):SpDigits 0 (F12 E D W N):=fun σ v ht hv _=>digits_small E D W N σ v ht (by simpa using hv)
theorem digits_F {E:List (Nat × Blk)} {D:Den} {N k:Nat} (h:SpDigits k (D 12)) (hk:k≤30):SpDigits (k+1) (F12 E D (drawW E D) N):=by
 intro σ v ht hv hv2
 by_cases hs:v<10
 ·exact digits_small E D _ N σ v ht hs
 have hk1:v / 10<10 ^ (k+1):=by
  rw[Nat.div_lt_iff_lt_mul (by decide)]
  rw[Nat.pow_succ]at hv;exact hv
 obtain⟨σ1,g1,g2⟩:=h ⟨σ.next+11,σ.bl⟩ (v / 10) (ht.wide 11) hk1 (by omega)
 have hgap:=g2.gap ht (fun b hb=>hb.elim)
 obtain⟨d1,d2,d3,d4,_⟩:=digsF_ok k (v / 10) hk1
 have hle:σ.next+11≤σ1.next:=g2.le
 let c:Blk := .cells [.int .u8 (Int.ofNat (48+v % 10))]
 have e:digsF (k+1) v=digsF k (v / 10)++[48+v % 10]:=by
  show (match Nat.blt v 10 with | true=>_ | false=>_)=_
  rw[show Nat.blt v 10=false by rw[Bool.eq_false_iff];simpa[Nat.blt_eq]using hs]
 have hquo:binV .quo .none (.int .u64 (Int.ofNat v)) (.int .u64 (Int.ofNat 10))=some (.int .u64 (Int.ofNat (v / 10))):=by
  show some (V.int .u64 (IntKind.wrap .u64 (Int.ofNat (v / 10))))=_
  rw[←wrapF_eq,wrapF_nat (k := .u64) (show v / 10≤18446744073709551615 by omega)]
 have hrem:binV .rem .none (.int .u64 (Int.ofNat v)) (.int .u64 (Int.ofNat 10))=some (.int .u64 (Int.ofNat (v % 10))):=rfl
 have hadd:binV .add .none (.int .u64 (Int.ofNat 48)) (.int .u64 (Int.ofNat (v % 10)))=some (.int .u64 (Int.ofNat (48+v % 10))):=by
  show some (V.int .u64 (IntKind.wrap .u64 (Int.ofNat (48+v % 10))))=_
  rw[←wrapF_eq,wrapF_nat (k := .u64) (show 48+v % 10≤18446744073709551615 by omega)]
 have hconv:aopP (.conv (.toInt .u8) (.tmp 15)) [(15,.int .u64 (Int.ofNat (48+v % 10)))]=some (.int .u8 (Int.ofNat (48+v % 10))):=by
  show some (V.int .u8 (IntKind.wrap .u8 (Int.ofNat (48+v % 10))))=_
  rw[←wrapF_eq,wrapF_nat (k := .u8) (show 48+v % 10≤255 by omega)]
 have hcall:den1 E D (.call 12 [.tmp 11]) [(11,.int .u64 (Int.ofNat (v / 10)))] ⟨σ.next+11,σ.bl⟩=some (.str (ofN (digsF k (v / 10))),σ1):=g1
 have hstr:∀(l:List (Nat × Blk)) (nx:Nat),aopL E (.conv .toStr (.tmp 17)) [(17,.sl (σ.next+7) 0 1 (.ex 1))] ⟨nx,hideB σ.next 11 (visK 248 128) ((σ.next+7,c)::l)⟩=some (.str (ofN [48+v % 10])):=fun l nx=>by
  have hl:Go.Og.look (hideB σ.next 11 (visK 248 128) ((σ.next+7,c)::l)) (σ.next+7)=some c:=by
   rw[look_hide_kept (by decide),look_cons_eq]
  show (match (rdN E ⟨nx,hideB σ.next 11 (visK 248 128) ((σ.next+7,c)::l)⟩ (σ.next+7) 0 (1*1)).map (fun l=>(1,l))with
   | some (_,l)=>(match bytesOf l with | some s=>some (V.str (BS.ofList s)) | none=>none)
   | none=>none)=_
  unfold rdN rd
  simp only[hl]
  show some (V.str (BS.ofList [UInt8.ofNat (Int.ofNat (48+v % 10)).toNat]))=_
  rw[bytes_one (by omega)]
 have hcat:binV .add .none (.str (ofN (digsF k (v / 10)))) (.str (ofN [48+v % 10]))=some (.str (ofN (digsF (k+1) v))):=by
  show (match Nat.ble (Nat.add (ofN (digsF k (v / 10))).len (ofN [48+v % 10]).len) 1000000000000 with | true=>some (V.str ((ofN (digsF k (v / 10))).cat (ofN [48+v % 10]))) | false=>none)=_
  rw[show Nat.ble (Nat.add (ofN (digsF k (v / 10))).len (ofN [48+v % 10]).len) 1000000000000=true from ble_of (by rw[ofN_len,ofN_len];show (digsF k (v / 10)).length+1≤_;omega)]
  simp only[]
  rw[ofN_cat d1.bd (fun c hc=>by simp at hc;omega),e]
 have h0:=ht.gap 11
 have hdr:drawW E D G12_0 H12_0 [(0,.int .u64 (Int.ofNat v))] σ=some ((2,.str (ofN (digsF (k+1) v)))::[(19,.str (ofN (digsF (k+1) v))),(18,.str (ofN [48+v % 10])),(17,.sl (σ.next+7) 0 1 (.ex 1)),(16,.int .u8 (Int.ofNat (48+v % 10))),(15,.int .u64 (Int.ofNat (48+v % 10))),(14,.int .u64 (Int.ofNat (v % 10))),(13,.int .u64 (Int.ofNat v)),(12,.str (ofN (digsF k (v / 10)))),(11,.int .u64 (Int.ofNat (v / 10))),(10,.int .u64 (Int.ofNat v)),(0,.int .u64 (Int.ofNat v))],
   ⟨σ1.next,hideB σ.next 11 (fun k=>(128:Nat).testBit k) ((σ.next+7,c)::σ1.bl)⟩):=by
  refine drawW_of (s:=⟨_,σ1.next,[(σ.next+7,c)::σ1.bl,(σ.next+7,c)::σ.bl],[2],128,[(8,.conv .toStr (.tmp 17),[(17,.sl (σ.next+7) 0 1 (.ex 1))],.str (ofN [48+v % 10]))]⟩) ?_ ?_ rfl
  ·refine(dsteps_p rfl rfl rfl).trans ?_
   refine(dsteps_p (v := .int .u64 (Int.ofNat (v / 10))) rfl rfl ?_).trans ?_
   ·exact hquo
   refine(dsteps_k (σ':=σ1) (v := .str (ofN (digsF k (v / 10)))) rfl rfl rfl ?_).trans ?_
   ·show den1 E D (.call 12 [.tmp 11]) [(11,.int .u64 (Int.ofNat (v / 10)))] ⟨σ.next+11,hideB σ.next 11 (visK 3 0) σ.bl⟩=_
    rw[hideB_id h0];exact hcall
   show dsteps E D σ.next 11 3 _ _ ⟨_,σ1.next,[keepB σ.next 11 (visK 3 0) σ.bl++σ1.bl,σ.bl],[2],0,[]⟩=_
   rw[keepB_id h0]
   refine(dsteps_p rfl rfl rfl).trans ?_
   refine(dsteps_p (v := .int .u64 (Int.ofNat (v % 10))) rfl rfl ?_).trans ?_
   ·exact hrem
   refine(dsteps_p (v := .int .u64 (Int.ofNat (48+v % 10))) rfl rfl ?_).trans ?_
   ·exact hadd
   refine(dsteps_p (v := .int .u8 (Int.ofNat (48+v % 10))) rfl rfl ?_).trans ?_
   ·exact hconv
   refine(dsteps_a' (v := .sl (σ.next+7) 0 1 (.ex 1)) (b:=c) (id:=σ.next+7) (am':=128) rfl rfl rfl (show (0:Nat) ||| 2 ^ 7=128 from by decide) rfl).trans ?_
   show dsteps E D σ.next 11 8 _ _ ⟨_,σ1.next,[(σ.next+7,c)::σ1.bl,(σ.next+7,c)::σ.bl],[2],128,[]⟩=_
   refine(dsteps_l (v := .str (ofN [48+v % 10])) rfl rfl rfl ?_).trans ?_
   ·exact hstr σ1.bl σ1.next
   refine(dsteps_p (v := .str (ofN (digsF (k+1) v))) rfl rfl ?_).trans ?_
   ·exact hcat
   refine(dsteps_p rfl rfl rfl).trans ?_
   exact dsteps_nil
  ·simp only[List.all_cons,List.all_nil,Bool.and_true]
   have hs1:=hstr σ1.bl 0
   have hs0:=hstr σ.bl 0
   show (((!legal H12_0 8 [2] []) || (match aopL E (.conv .toStr (.tmp 17)) [(17,.sl (σ.next+7) 0 1 (.ex 1))] ⟨0,hideB σ.next 11 (visK 248 128) ((σ.next+7,c)::σ1.bl)⟩with | some u=>V.beq u (.str (ofN [48+v % 10])) | none=>false)) &&
    (((!legal H12_0 8 [] [2]) || (match aopL E (.conv .toStr (.tmp 17)) [(17,.sl (σ.next+7) 0 1 (.ex 1))] ⟨0,hideB σ.next 11 (visK 248 128) ((σ.next+7,c)::σ.bl)⟩with | some u=>V.beq u (.str (ofN [48+v % 10])) | none=>false))&&true))=true
   rw[hs1,hs0]
   have hb:V.beq (.str (ofN [48+v % 10])) (.str (ofN [48+v % 10]))=true:=by
    show decide _=true
    exact decide_eq_true rfl
   simp only[hb,Bool.or_true,Bool.and_true]
 refine⟨⟨σ1.next,hideB σ.next 11 (fun k=>(128:Nat).testBit k) ((σ.next+7,c)::σ1.bl)⟩,?_,?_⟩
 ·show T12_0 E D (drawW E D) (Int.ofNat v) σ=_
  simp only[T12_0,ltF_nat]
  rw[decide_eq_false hs,condK_false,hdr]
  rfl
 ·refine⟨fun b hb=>?_,show σ.next≤σ1.next by omega,fun b hb hn=>?_⟩
  ·have hb':σ1.next≤b:=hb
   show lookF (hideB _ _ _ _) b=none
   rw[lookF_eq,look_hide_new (by omega),look_cons_ne (by omega),←lookF_eq]
   exact g2.tidy b hb'
  ·show lookF (hideB _ _ _ _) b=_
   rw[lookF_eq,look_hide_old hb,look_cons_ne (by omega),←lookF_eq]
   exact g2.same b (show b<σ.next+11 by omega) hn
def numC (v:Int):List Nat:=match v with
 | .ofNat m=>digsF 19 m
 | .negSucc m=>45::digsF 19 (m+1)
def In64 (v:Int):Prop:=-9223372036854775808≤v∧v≤9223372036854775807
def SpNumber (F:List V→H→Ans):Prop:=∀(σ:H) (v:Int),Tidy σ→In64 v→∃σ',F [.int .i64 v] σ=some (.str (ofN (numC v)),σ')∧Fr Nowhere σ σ'
theorem number_F {E:List (Nat × Blk)} {D:Den} {W:DrawFn} {N:Nat} (h:SpDigits 19 (D 12)):SpNumber (F14 E D W N):=by
 intro σ v ht hv
 obtain⟨h1,h2⟩:=hv
 show ∃σ',T14_0 E D W v σ=_∧_
 unfold T14_0
 cases v with
 | ofNat m=>
  simp only[Int.ofNat_eq_natCast]at h1 h2
  obtain⟨σ',g1,g2⟩:=h σ m ht (by show m<100000000000000000000;omega) (by omega)
  refine⟨σ',?_,g2⟩
  rw[show ltF (Int.ofNat m) (Int.ofNat 0)=false by rw[ltF_nat];exact decide_eq_false (by omega),condK_false,wrapF_nat (k := .u64) (show m≤18446744073709551615 by omega),g1]
  rfl
 | negSucc m=>
  obtain⟨d1,d2,d3,d4,_⟩:=digsF_ok 19 (m+1) (by show m+1<100000000000000000000;omega)
  obtain⟨σ',g1,g2⟩:=h σ (m+1) ht (by show m+1<100000000000000000000;omega) (by omega)
  refine⟨σ',?_,g2⟩
  have e1:addF .i64 (Int.negSucc m) (Int.ofNat 1) = -(m:Int):=by
   show wrapF .i64 (Int.negSucc m+((1:Nat):Int))=_
   rw[wrap64 (by omega) (by omega)];omega
  have e2:negF .i64 (-(m:Int))=Int.ofNat m:=by
   show wrapF .i64 (0-(-(m:Int)))=_
   rw[wrap64 (by omega) (by omega)]
   simp only[Int.ofNat_eq_natCast];omega
  have e3:addF .u64 (Int.ofNat m) (Int.ofNat 1)=Int.ofNat (m+1):=wrapF_nat (k := .u64) (m:=m+1) (show _≤18446744073709551615 by omega)
  rw[show ltF (Int.negSucc m) (Int.ofNat 0)=true from rfl,condK_true,e1,e2,wrapF_nat (k := .u64) (show m≤18446744073709551615 by omega),e3,g1]
  simp only[callK_some_,rtStr_str]
  rw[show (BS.mk 1 45)=ofN [45] from by decide +kernel,catK_ofN (fun c hc=>by simp at hc;omega) d1.bd (by simp;omega)]
  rfl
theorem digB_iff (c:Nat):digB c=true↔48≤c∧c≤57:=by
 unfold digB
 rw[Bool.and_eq_true,decide_eq_true_eq,decide_eq_true_eq]
theorem digsF_len:∀(k v p:Nat),v<10 ^ (p+1)→v<10 ^ (k+1)→(digsF k v).length≤p+1
 | 0,v,p,h,_=>by show 1≤p+1;omega
 | k+1,v,p,h,hk=>by
  by_cases hv:v<10
  ·rw[(digsF_ok (k+1) v hk).2.2.2.2.1 hv];omega
  ·have e:digsF (k+1) v=digsF k (v / 10)++[48+v % 10]:=by
    show (match Nat.blt v 10 with | true=>_ | false=>_)=_
    rw[show Nat.blt v 10=false by rw[Bool.eq_false_iff];simpa[Nat.blt_eq]using hv]
   obtain⟨p,rfl⟩:∃j,p=j+1:=⟨p-1,by
    rcases p with _|p
    ·simp at h;omega
    ·rfl⟩
   have:=digsF_len k (v / 10) p (by rw[Nat.div_lt_iff_lt_mul (by decide)];rw[Nat.pow_succ]at h;exact h) (by rw[Nat.div_lt_iff_lt_mul (by decide)];rw[Nat.pow_succ]at hk;exact hk)
   rw[e,List.length_append,List.length_cons,List.length_nil];omega
theorem numC_ok {v:Int} (h:In64 v) {r:List Nat} (hd:digB (r.headD 0)=false) (hl:letB (r.headD 0)=false):∃m ds,numC v=numT m ds∧NumOk m ds r∧numI (numC v)=v:=by
 obtain⟨h1,h2⟩:=h
 cases v with
 | ofNat m=>
  simp only[Int.ofNat_eq_natCast]at h1 h2
  obtain⟨d1,d2,d3,d4,d5,d6⟩:=digsF_ok 19 m (by show m<100000000000000000000;omega)
  have hn:=digsF_len 19 m 18 (by show m<10000000000000000000;omega) (by show m<100000000000000000000;omega)
  refine⟨false,digsF 19 m,rfl,⟨fun d h=>(digB_iff d).2 (d1 d h),d3,hn,?_,(fun e=>by cases e),hd,hl,by omega,fun _=>by omega⟩,?_⟩
  ·rcases Nat.eq_zero_or_pos m with h0|h0
   ·exact .inl (d5 (by omega))
   ·have:=d6 h0
    cases hds:digsF 19 m with
    | nil=>rw[hds]at d3;simp at d3
    | cons c l=>rw[hds]at this;exact .inr this
  ·show numI (digsF 19 m)=_
   cases hds:digsF 19 m with
   | nil=>rw[hds]at d3;simp at d3
   | cons c l=>
    have hc:=d1 c (by rw[hds];simp)
    rw[hds]at d2
    show (match decide (c=45)with
     | true=>-Int.ofNat (valD 0 l)
     | false=>Int.ofNat (valD 0 (c::l)))=_
    rw[decide_eq_false (by omega),d2]
 | negSucc m=>
  obtain⟨d1,d2,d3,d4,d5,d6⟩:=digsF_ok 19 (m+1) (by show m+1<100000000000000000000;omega)
  have hn:=digsF_len 19 (m+1) 18 (by show m+1<10000000000000000000;omega) (by show m+1<100000000000000000000;omega)
  have h7:(digsF 19 (m+1)).headD 0≠48:=by
   have:=d6 (by omega)
   cases hds:digsF 19 (m+1)with
   | nil=>simp
   | cons c l=>rw[hds]at this;exact this
  refine⟨true,digsF 19 (m+1),rfl,⟨fun d h=>(digB_iff d).2 (d1 d h),d3,hn,.inr h7,fun _=>h7,hd,hl,by omega,fun e=>by cases e⟩,?_⟩
  show -Int.ofNat (valD 0 (digsF 19 (m+1)))=_
  rw[d2];rfl
theorem sg_skip {t:BS} {l:List BS} {c:Nat} {r:List Nat} (h:t.nats.head?≠some c) (h0:t.nats≠[]):sgIn (t::l) (c::r)=sgIn l (c::r):=by
 rw[sgIn_cons]
 have:decide ((c::r).take t.len=t.nats)=false:=decide_eq_false fun e=>by
  cases hl:t.len with
  | zero=>rw[hl]at e;exact h0 e.symm
  | succ n=>rw[hl]at e;rw[←e]at h;exact h rfl
 rw[this,Bool.and_false]
theorem sg_skip3 {t:BS} {l:List BS} {a b c:Nat} {r:List Nat} (hn:t.nats=[46,46,46]) (hl:t.len=3) (hc:c≠46):sgIn (t::l) (a::b::c::r)=sgIn l (a::b::c::r):=by
 rw[sgIn_cons]
 have:decide ((a::b::c::r).take t.len=t.nats)=false:=decide_eq_false fun e=>by
  rw[hl,hn]at e
  have e:[a,b,c]=[46,46,46]:=e
  injection e with _ e
  injection e with _ e
  injection e with e _
  exact hc e
 rw[this,Bool.and_false]
theorem sg_hit {t:BS} {l:List BS} {r s:List Nat} (hn:r=t.nats++s):sgIn (t::l) r=t.len:=by
 rw[sgIn_cons]
 have hl:=BS.length_nats t
 rw[decide_eq_true (by rw[hn,List.length_append];omega),decide_eq_true (by rw[hn,←hl,List.take_left])]
 rfl
theorem sg_asg (r:List Nat):sgIn signsV (58::58::61::r)=3:=sg_hit (t:=BS.mk 3 4012602) (s:=r) (by rw[show (BS.mk 3 4012602).nats=[58,58,61] from by decide +kernel];rfl)
theorem sg_lp (r:List Nat):sgIn signsV (40::r)=1:=by
 unfold signsV
 rw[sg_skip (by decide +kernel) (by decide +kernel)]
 rw[sg_skip (by decide +kernel) (by decide +kernel)]
 rw[sg_skip (by decide +kernel) (by decide +kernel)]
 rw[sg_skip (by decide +kernel) (by decide +kernel)]
 rw[sg_skip (by decide +kernel) (by decide +kernel)]
 rw[sg_skip (by decide +kernel) (by decide +kernel)]
 rw[sg_skip (by decide +kernel) (by decide +kernel)]
 rw[sg_skip (by decide +kernel) (by decide +kernel)]
 rw[sg_skip (by decide +kernel) (by decide +kernel)]
 exact sg_hit (t:=BS.mk 1 40) (s:=r) (by rw[show (BS.mk 1 40).nats=[40] from by decide +kernel];rfl)
theorem sg_rp (r:List Nat):sgIn signsV (41::r)=1:=by
 unfold signsV
 rw[sg_skip (by decide +kernel) (by decide +kernel)]
 rw[sg_skip (by decide +kernel) (by decide +kernel)]
 rw[sg_skip (by decide +kernel) (by decide +kernel)]
 rw[sg_skip (by decide +kernel) (by decide +kernel)]
 rw[sg_skip (by decide +kernel) (by decide +kernel)]
 rw[sg_skip (by decide +kernel) (by decide +kernel)]
 rw[sg_skip (by decide +kernel) (by decide +kernel)]
 rw[sg_skip (by decide +kernel) (by decide +kernel)]
 rw[sg_skip (by decide +kernel) (by decide +kernel)]
 rw[sg_skip (by decide +kernel) (by decide +kernel)]
 exact sg_hit (t:=BS.mk 1 41) (s:=r) (by rw[show (BS.mk 1 41).nats=[41] from by decide +kernel];rfl)
theorem sg_dd (c:Nat) (r:List Nat) (hc:c≠46):sgIn signsV (46::46::c::r)=2:=by
 unfold signsV
 rw[sg_skip (by decide +kernel) (by decide +kernel),sg_skip3 (by decide +kernel) rfl hc]
 exact sg_hit (t:=BS.mk 2 11822) (s:=c::r) (by rw[show (BS.mk 2 11822).nats=[46,46] from by decide +kernel];rfl)
theorem wht_no {N c:Nat} {r:List Nat} (h1:isWs c=false) (h2:dash c r=false):wht (N+1) (c::r)=c::r:=by
 unfold wht
 rw[h1,h2]
theorem wht_ws {N c:Nat} {r:List Nat} (h1:isWs c=false) (h2:dash c r=false):wht (N+2) (32::c::r)=c::r:=
 (rfl:wht (N+2) (32::c::r)=wht (N+1) (c::r)).trans (wht_no h1 h2)
theorem tk_sign {c n:Nat} {r w r':List Nat} (h:sgIn signsV (c::r)=n) (h0:0<n) (hw:(c::r).take n=w) (hr:(c::r).drop n=r') (h1:letB c=false) (h2:digB c=false) (h3:c≠45) (h4:c≠39) (h5:c≠34):Tk (c::r) 6 w r':=by
 subst h;subst hw;subst hr
 exact .sign h1 h2 (fun e=>absurd e h3) h4 h5 h0
theorem tk_name {c n k:Nat} {r w r':List Nat} (h:nmL (c::r)=n) (hw:(c::r).take n=w) (hr:(c::r).drop n=r') (h1:letB c=true) (h2:nmBad w=false) (hk:k=(if wdB (ofN w)=true then 5 else if c≤90 then 1 else 2)):Tk (c::r) k w r':=by
 subst h;subst hw;subst hr
 exact .name h1 h2 hk
def ubPost:List Nat:=[41,32,69,78,68]
theorem ub_post (N len:Nat):Tks (N+10) len (41::32::69::78::68::[]) [(6,[41],len-(41::32::69::78::68::[]).length),(5,[69,78,68],len-(69::78::68::[]).length),(0,[],len)]:=by
 refine .one (wht_no rfl rfl) (tk_sign (sg_rp _) (by decide) rfl rfl rfl rfl (by decide) (by decide) (by decide)) ?_
 refine .one (wht_ws rfl rfl) (tk_name (n:=3) rfl rfl rfl rfl (by decide +kernel) (by decide +kernel)) ?_
 exact .fin rfl
theorem numT_head {m:Bool} {ds r:List Nat} (h:NumOk m ds r):∃c l,numT m ds=c::l∧isWs c=false∧c≠46∧(∀t,dash c (l++t)=false):=by
 have h1:=h.n1
 cases hd:ds with
 | nil=>rw[hd]at h1;simp at h1
 | cons d l=>
  have hdg:=(digB_iff d).1 (h.dig d (by rw[hd];simp))
  cases m with
  | false=>
   refine⟨d,l,rfl,?_,by omega,fun t=>?_⟩
   ·unfold isWs
    rw[decide_eq_false (by omega),decide_eq_false (by omega),decide_eq_false (by omega),decide_eq_false (by omega)];rfl
   ·unfold dash
    rw[decide_eq_false (by omega)];rfl
  | true=>
   refine⟨45,d::l,rfl,rfl,by decide,fun t=>?_⟩
   show (true&&decide (d=45))=false
   rw[decide_eq_false (by omega)];rfl
def widN:Nat→Nat→Nat
 | 0,_=>0
 | k+1,n=>match decide (0<n)with
  | true=>widN k (n / 2)+1
  | false=>0
def SpWid (F:List V→H→Ans):Prop:=∀(σ:H) (n:Nat),n<2 ^ 60→F [.int .u64 (Int.ofNat n)] σ=some (.int .i64 (Int.ofNat (widN 60 n)),σ)
def SpBtwY (F:List V→H→Ans):Prop:=∀(σ:H) (w:Nat) (u:V) (L:List Nat) (v n:Nat),Wr σ w u L→Tidy σ→L.length<8000000→v≤n→n<2 ^ 60→widN 60 n≤64 →
 ∃u' σ',F [.ptr w 0,.int .u64 (Int.ofNat v),.int .u64 (Int.ofNat n)] σ=some (.tup [],σ')∧Wst σ w u σ' u' (L++bitsOf (widN 60 n) v)
section
variable {E:List (Nat × Blk)} {D:Den} {W:DrawFn} {N:Nat}
theorem wid_F (hN:100<N):SpWid (F16 E D W N):=by
 intro σ n hn
 have loop:∀(k j n w:Nat),n<2 ^ k→k<j→w+k≤1000→L16_2 E D W N j (Int.ofNat n) (Int.ofNat w) σ=some (.int .i64 (Int.ofNat (w+widN k n)),σ):=by
  intro k
  induction k with
  | zero=>
   intro j n w h hj hw
   obtain⟨j,rfl⟩:∃i,j=i+1:=⟨j-1,by omega⟩
   have hn0:n=0:=by simpa using h
   subst hn0
   show T16_2 E D W (T16_1 E D W) _ (Int.ofNat 0) (Int.ofNat w) σ=_
   rfl
  | succ k ih=>
   intro j n w h hj hw
   obtain⟨j,rfl⟩:∃i,j=i+1:=⟨j-1,by omega⟩
   show T16_2 E D W (T16_1 E D W) (L16_2 E D W N j) (Int.ofNat n) (Int.ofNat w) σ=_
   have a1:addF .i64 (Int.ofNat w) (Int.ofNat 1)=Int.ofNat (w+1):=addF_nat (by omega)
   have key:∀R,T16_2 E D W (T16_1 E D W) R (Int.ofNat n) (Int.ofNat w) σ=condK (decide (0<n)) (R (shrF .u64 (Int.ofNat n) 1) (Int.ofNat (w+1)) σ) (some (.int .i64 (Int.ofNat w),σ)):=by
    intro R
    unfold T16_2 T16_1
    simp -implicitDefEqProofs only [↓rP,rA,Nat.reduceEqDiff,Nat.reduceLT,Nat.reduceLeDiff,a1]
   rw[key]
   unfold widN
   cases hd:decide (0<n)with
   | false=>rfl
   | true=>
    rw[condK_true,show shrF .u64 (Int.ofNat n) 1=Int.ofNat (n / 2)from(show Int.ofNat (n >>> 1)=Int.ofNat (n / 2)by rw[Nat.shiftRight_eq_div_pow])]
    rw[ih j (n / 2) (w+1) (by rw[Nat.pow_succ]at h;omega) (by omega) (by omega)]
    show some (V.int .i64 (Int.ofNat (w+1+widN k (n / 2))),σ)=some (V.int .i64 (Int.ofNat (w+(widN k (n / 2)+1))),σ)
    rw[show w+1+widN k (n / 2)=w+(widN k (n / 2)+1)by omega]
 have:=loop 60 N n 0 hn (by omega) (by omega)
 rw[Nat.zero_add]at this
 exact this
theorem betw_Fy (hW:SpWid (D 16)) (hB:SpBits (D 20)):SpBtwY (F27 E D W N):=by
 intro σ w u L v n h ht hl hv hn hw
 have g:=hW σ n hn
 obtain⟨u',σ',g1,s1⟩:=hB σ w u L v (widN 60 n) h ht hl (by omega) hw
 refine⟨u',σ',?_,s1⟩
 have hm:minF (Int.ofNat v) (Int.ofNat n)=Int.ofNat v:=by
  unfold minF
  exact if_neg (fun e=>by have:=Int.ofNat_lt.1 e;omega)
 show T27_0 E D W (.ptr w 0) (Int.ofNat v) (Int.ofNat n) σ=_
 unfold T27_0
 simp -implicitDefEqProofs only [↓rP,rA,Nat.reduceEqDiff,Nat.reduceLT,Nat.reduceLeDiff,↓g,hm,↓g1]
end
theorem tyC_sub:∀(tl:List TyS) (ws:List (V × V × V)) (i:Nat) (t:TyS) (w:V × V × V),tl[i]? = some t→ws[i]? = some w→((tyCs tl ws).drop (i*13)).take 13=t.c w
 | [],_,i,t,w,h,_=>by simp at h
 | _::_,[],i,t,w,_,h=>by simp at h
 | x::tl,y::ws,0,t,w,h,h'=>by simp at h h';subst h;subst h';rfl
 | x::tl,y::ws,i+1,t,w,h,h'=>by
  have h:tl[i]? = some t:=by simpa using h
  have h':ws[i]? = some w:=by simpa using h'
  show ((x.c y++tyCs tl ws).drop ((i+1)*13)).take 13=_
  rw[show (i+1)*13=13+i*13 by omega,←List.drop_drop,show (x.c y++tyCs tl ws).drop 13=tyCs tl ws from rfl]
  exact tyC_sub tl ws i t w h h'
theorem TbS.ty {n0:Nat} {σ:H} {az:List (List Nat)} {rs:List Nat} {tl:List TyS} {u rv lv:V} (h:TbS n0 σ az rs tl u rv lv) {i:Nat} {t:TyS} (hi:tl[i]? = some t) :
  ∃w:V × V × V,(∀(E:List (Nat × Blk)) (κ:List V→Ans),iaddrSK 13 lv (Int.ofNat i) (fun b o=>ldnK E σ b o 13 κ)=κ (t.c w))∧Src σ 2 t.tags.length w.1 (tgC t.tags)∧Src σ 3 t.items.length w.2.1 (itC t.items)∧Src σ 11 t.fields.length w.2.2 (fdC t.fields):=by
 obtain⟨ws,h1,h2,h3⟩:=h.t
 have hlt:i<tl.length:=(List.getElem?_eq_some_iff.1 hi).1
 obtain⟨w,hw⟩:∃w,ws[i]? = some w:=⟨ws[i],List.getElem?_eq_getElem (by omega)⟩
 obtain⟨a,b,c,_⟩:=h3 i t w hi hw
 exact⟨w,fun E κ=>src_at (E:=E) h1 hlt (tyC_sub _ _ _ _ _ hi hw) (by decide) κ,a,b,c⟩
theorem TbS.one4 {n0:Nat} {σ:H} {az:List (List Nat)} {rs:List Nat} {tl:List TyS} {u rv lv:V} (h:TbS n0 σ az rs tl u rv lv):u.one=true∧rv.one=true∧lv.one=true:=by
 obtain⟨ws,h1,_⟩:=h.t
 exact⟨h.n.one,h.r.one,h1.one⟩
theorem TbS.len {n0:Nat} {σ:H} {az:List (List Nat)} {rs:List Nat} {tl:List TyS} {u rv lv:V} (h:TbS n0 σ az rs tl u rv lv) (κ:Nat→Ans):slenK lv κ=κ tl.length:=by
 obtain⟨ws,h1,_⟩:=h.t
 exact h1.slen
theorem TbS.fr0 {n0:Nat} {σ σ':H} {az:List (List Nat)} {rs:List Nat} {tl:List TyS} {u rv lv:V} (h:TbS n0 σ az rs tl u rv lv) (f:Fr Nowhere σ σ') (ht:Tidy σ):TbS n0 σ' az rs tl u rv lv:=h.fr f ht (fun _ _ _ h=>h)
structure InB (lo hi v:Int) (d n:Nat):Prop where
 l:leF lo v=true
 h:leF v hi=true
 c:ltF hi lo=false
 s:subF .u64 (wrapF .u64 hi) (wrapF .u64 lo)=Int.ofNat n
 e:subF .u64 (wrapF .u64 v) (wrapF .u64 lo)=Int.ofNat d
 dn:d≤n
 nb:n<2 ^ 60
 w:0<widN 60 n
 w':widN 60 n≤60
section
variable {E:List (Nat × Blk)} {D:Den} {W:DrawFn} {N:Nat}
end
theorem widN_le:∀(k n:Nat),widN k n≤k
 | 0,_=>Nat.le_refl _
 | k+1,n=>by
  have:=widN_le k (n / 2)
  unfold widN
  split<;>omega
theorem widN_lt:∀(k n:Nat),n<2 ^ k→n<2 ^ widN k n
 | 0,n,h=>h
 | k+1,n,h=>by
  unfold widN
  cases hd:decide (0<n)with
  | false=>have:=of_decide_eq_false hd;show n<1;omega
  | true=>
   have:=widN_lt k (n / 2) (by rw[Nat.pow_succ]at h;omega)
   show n<2 ^ (widN k (n / 2)+1)
   rw[Nat.pow_succ];omega
theorem widN_small:∀(k j n:Nat),n<2 ^ j→widN k n≤j
 | 0,j,n,h=>Nat.zero_le _
 | k+1,j,n,h=>by
  unfold widN
  cases hd:decide (0<n)with
  | false=>exact Nat.zero_le _
  | true=>
   have h0:=of_decide_eq_true hd
   cases j with
   | zero=>simp at h;omega
   | succ j=>
    have:=widN_small k j (n / 2) (by rw[Nat.pow_succ]at h;omega)
    show widN k (n / 2)+1≤j+1
    omega
theorem bitsOf_add:∀(m n x:Nat),bitsOf (m+n) x=bitsOf m (x / 2 ^ n)++bitsOf n x
 | 0,n,x=>by rw[Nat.zero_add];rfl
 | m+1,n,x=>by
  have ih:=bitsOf_add m n x
  rw[show m+1+n=(m+n)+1 by omega]
  show (x / 2 ^ (m+n)) % 2::bitsOf (m+n) x=((x / 2 ^ n) / 2 ^ m) % 2::bitsOf m (x / 2 ^ n)++bitsOf n x
  rw[ih,Nat.div_div_eq_div_mul,←Nat.pow_add,Nat.add_comm n m];rfl
theorem bit_mod (x j k:Nat) (h:j<k):(x % 2 ^ k) / 2 ^ j % 2=x / 2 ^ j % 2:=by
 have e:2 ^ k=2 ^ j*2 ^ (k-j):=by rw[←Nat.pow_add];congr 1;omega
 rw[e,Nat.mod_mul_right_div_self]
 have e2:2 ^ (k-j)=2*2 ^ (k-j-1):=by
  rw[←Nat.pow_succ'];congr 1;omega
 rw[e2]
 exact Nat.mod_mul_right_mod _ _ _
theorem bitsOf_mod (k x:Nat):∀n:Nat,n≤k→bitsOf n (x % 2 ^ k)=bitsOf n x
 | 0,_=>rfl
 | n+1,h=>by
  show ((x % 2 ^ k) / 2 ^ n) % 2::bitsOf n (x % 2 ^ k)=(x / 2 ^ n) % 2::bitsOf n x
  rw[bit_mod x n k (by omega),bitsOf_mod k x n (by omega)]
def octN (x:Nat):Nat→List Nat
 | 0=>[]
 | n+1=>(x / 2 ^ (8*n)) % 256::octN x n
theorem octN_length (x:Nat):∀n,(octN x n).length=n
 | 0=>rfl
 | n+1=>by simp[octN,octN_length x n]
theorem octN_lt (x:Nat):∀n,∀c∈octN x n,c<256
 | 0,c,h=>by cases h
 | n+1,c,h=>by
  rcases List.mem_cons.1 h with rfl|h
  ·exact Nat.mod_lt _ (by decide)
  ·exact octN_lt x n c h
theorem octN_bits (x:Nat):∀n,bitsO (octN x n)=bitsOf (8*n) x
 | 0=>rfl
 | n+1=>by
  show bitsOf 8 ((x / 2 ^ (8*n)) % 256)++bitsO (octN x n)=_
  rw[octN_bits x n,show 8*(n+1)=8+8*n by omega,bitsOf_add,show (256:Nat)=2 ^ 8 from rfl,bitsOf_mod 8 _ 8 (Nat.le_refl _)]
def toU (v:Int):Nat:=(v % 18446744073709551616).toNat
theorem toU_eq (v:Int):(toU v:Int)=v % 18446744073709551616:=Int.toNat_of_nonneg (Int.emod_nonneg _ (by decide))
theorem toU_wrap (v:Int):wrapF .u64 v=Int.ofNat (toU v):=by rw[wrap_u64];exact(toU_eq v).symm
theorem toU_lt (v:Int):toU v<18446744073709551616:=by
 have:=toU_eq v
 have:=Int.emod_lt_of_pos v (show (0:Int)<18446744073709551616 by decide)
 omega
theorem octBE_N (v:Int):∀n:Nat,n≤8→octBE v n=nI (octN (toU v) n)
 | 0,_=>rfl
 | n+1,h=>by
  show byteAt v n::octBE v n=Int.ofNat ((toU v / 2 ^ (8*n)) % 256)::nI (octN (toU v) n)
  rw[octBE_N v n (by omega),←byte_u64 v (show n<8 by omega),toU_wrap]
  congr 1
  rw[shr_u64 _ (by omega),wrap_u8]
  show (Int.ofNat (toU v) / 2 ^ (8*n)) % 256=_
  have:((2 ^ (8*n):Nat):Int)=(2:Int) ^ (8*n):=by simp
  rw[←this];rfl
def lenU (x:Nat):Nat:=if x<2 ^ 8 then 1 else if x<2 ^ 16 then 2 else if x<2 ^ 24 then 3 else if x<2 ^ 32 then 4 else if x<2 ^ 40 then 5 else if x<2 ^ 48 then 6 else if x<2 ^ 56 then 7 else 8
theorem lenU_range (x:Nat):1≤lenU x∧lenU x≤8:=by
 unfold lenU
 repeat' split
 all_goals omega
theorem lenU_less (x:Nat) {n:Nat} (h1:1≤n) (h2:n<lenU x):2 ^ (8*n)≤x:=by
  unfold lenU at h2
  repeat' split at h2
  all_goals first
    | omega
    | (have:n=1∨n=2∨n=3∨n=4∨n=5∨n=6∨n=7:=by omega
       rcases this with rfl|rfl|rfl|rfl|rfl|rfl|rfl<;>omega)
theorem lenU_at (x:Nat) (h:lenU x<8):x<2 ^ (8*lenU x):=by
 unfold lenU at h ⊢
 repeat' split
 all_goals first | assumption | (exfalso;simp_all)
def putN (x n:Nat):List Nat:=bitsOf 8 n++bitsOf (8*n) x
def freeB (v:Int):List Nat:=putN (toU v) (lenS v)
def abovB (x:Nat):List Nat:=putN x (lenU x)
theorem putN_len (x n:Nat):(putN x n).length=8+8*n:=by
 unfold putN;rw[List.length_append,bitsOf_length,bitsOf_length]
def Makes (F:List V→H→Ans) (args:List V) (σ:H) (l:List Int):Prop:=∃u σ',F args σ=some (u,σ')∧Nb σ σ' u l∧Fr Nowhere σ σ'
def sOct (v:Int):List Int:=octBE v (lenS v)
def SpO8 (F:List V→H→Ans):Prop:=∀(σ:H) (v:Int) (n:Nat),Tidy σ→n≤8→Makes F [.int .u64 (wrapF .u64 v),.int .i64 (Int.ofNat n)] σ (octBE v n)
def SpSigned (F:List V→H→Ans):Prop:=∀{σ:H} {v:Int},In64i v→Tidy σ→Makes F [.int .i64 v] σ (nI (octN (toU v) (lenS v)))
def SpUnsigned (F:List V→H→Ans):Prop:=∀{σ:H} {x:Nat},x<18446744073709551616→Tidy σ→Makes F [.int .u64 (Int.ofNat x)] σ (nI (octN x (lenU x)))
section
variable {E:List (Nat × Blk)} {D:Den} {W:DrawFn} {N:Nat} {σ σ':H}
theorem eq_of (a b:Int):eqF a b=decide (a=b):=by rw[eqF_eq];rw[Bool.eq_iff_iff];simp
theorem octets_F {v:Int} {n:Nat} (hn:n≤8) (hN:8<N) (ht:Tidy σ) :
  ∃u σ',F238 E D W N [.int .u64 (wrapF .u64 v),.int .i64 (Int.ofNat n)] σ=some (u,σ')∧Nb σ σ' u (octBE v n)∧Fr Nowhere σ σ':=by
 obtain⟨σ1,e1,f1,a1,n1⟩:=mk_new ht (List.replicate n [V.int .u8 (Int.ofNat 0)]).flatten
 have hz:(List.replicate n [V.int .u8 (Int.ofNat 0)]).flatten=u8s (List.replicate n (Int.ofNat 0)):=by
  simp[u8s,List.flatten_replicate_singleton]
 have loop:∀(m n' i:Nat) (σ1:H),i+m=n→m<n'→Fr Nowhere σ σ1→σ.next<σ1.next→Atc σ1 σ.next (u8s ((octBE v n).take i++List.replicate m (Int.ofNat 0))) →
   ∃σ',L238_2 E D W N n' (wrapF .u64 v) (Int.ofNat n) (.sl σ.next 0 n (.ex n)) (Int.ofNat n) (Int.ofNat i) σ1=some (.sl σ.next 0 n (.ex n),σ')∧Atc σ' σ.next (u8s (octBE v n))∧Fr Nowhere σ σ':=by
  intro m
  induction m with
  | zero=>
   intro n' i σ1 hi hn' f1 hx ha
   obtain⟨n',rfl⟩:∃k,n'=k+1:=⟨n'-1,by omega⟩
   refine⟨σ1,?_,?_,f1⟩
   ·show T238_2 E D W _ _ (wrapF .u64 v) (Int.ofNat n) (.sl σ.next 0 n (.ex n)) (Int.ofNat n) (Int.ofNat i) σ1=_
    unfold T238_2
    rw[ltF_nat,decide_eq_false (by omega),condK_false];rfl
   ·rw[List.take_of_length_le (by rw[octBE_length];omega)]at ha
    simpa using ha
  | succ m ih=>
   intro n' i σ1 hi hn' f1 hx ha
   obtain⟨n',rfl⟩:∃k,n'=k+1:=⟨n'-1,by omega⟩
   have hlt:i<n:=by omega
   obtain⟨σ2,e2,f2,a2⟩:=mk_set f1.tidy ha (spl (u8s ((octBE v n).take i++List.replicate (m+1) (Int.ofNat 0))) i [.int .u8 (byteAt v (n-1-i))])
   have hsp:spl (u8s ((octBE v n).take i++List.replicate (m+1) (Int.ofNat 0))) i [.int .u8 (byteAt v (n-1-i))]=u8s ((octBE v n).take (i+1)++List.replicate m (Int.ofNat 0)):=by
    have hl:((octBE v n).take i).length=i:=by rw[List.length_take,octBE_length];omega
    have:=spl_at (u8s ((octBE v n).take i)) (.int .u8 (Int.ofNat 0)) (u8s (List.replicate m (Int.ofNat 0))) (.int .u8 (byteAt v (n-1-i)))
    rw[u8s_length,hl]at this
    rw[u8s_app,List.replicate_succ,show u8s (Int.ofNat 0::List.replicate m (Int.ofNat 0)) = .int .u8 (Int.ofNat 0)::u8s (List.replicate m (Int.ofNat 0))from rfl,this]
    rw[List.take_add_one,octBE_get v hlt]
    simp[u8s]
   rw[hsp]at e2 a2
   have f02:=f1.trans f2 (fun b hb h=>by have h:b=σ.next:=h;omega)
   obtain⟨σ3,g3,h3,f3⟩:=ih n' (i+1) σ2 (by omega) (by omega) f02 (by have:=f2.le;omega) a2
   refine⟨σ3,?_,h3,f3⟩
   have d1:decide (i<n)=true:=decide_eq_true hlt
   have en:mulF .i64 (Int.ofNat 8) (subF .i64 (subF .i64 (Int.ofNat n) (Int.ofNat 1)) (Int.ofNat i))=Int.ofNat (8*(n-1-i)):=by
    rw[subF_nat (by omega) (by omega),subF_nat (by omega) (by omega)]
    exact wrapF_nat (k := .i64) (m:=8*(n-1-i)) (show 8*(n-1-i)≤9223372036854775807 by omega)
   have st:∀κ:H→Ans,stK 1 σ.next i (.int .u8 (byteAt v (n-1-i))) σ1 κ=κ σ2:=fun κ=>by
    rw[stK_at ha (by
     simp only[cells_int,List.length_cons,List.length_nil,u8s_length,List.length_append,List.length_take,octBE_length,List.length_replicate,Bool.and_eq_true]
     refine⟨⟨rfl,?_⟩,rfl⟩
     rw[Nat.ble_eq]
     show i+1≤_
     omega)]
    rw[cells_int,hsp,e2]
   have ia:∀κ:Nat→Nat→Ans,iaddrSK 1 (.sl σ.next 0 n (.ex n)) (Int.ofNat i) κ=κ σ.next i:=fun κ=>by
    rw[iaddrSK_lt hlt]
    show κ σ.next (0+i*1)=_
    rw[Nat.zero_add,Nat.mul_one]
   have key:∀K1 K2,T238_2 E D W K1 K2 (wrapF .u64 v) (Int.ofNat n) (.sl σ.next 0 n (.ex n)) (Int.ofNat n) (Int.ofNat i) σ1=K2 (wrapF .u64 v) (Int.ofNat n) (.sl σ.next 0 n (.ex n)) (Int.ofNat n) (Int.ofNat (i+1)) σ2:=by
    intro K1 K2
    unfold T238_2
    rw[ltF_nat,d1,condK_true,en,nnK_nat,ia,byte_u64 v (by omega),st,addF_nat (by omega)]
   exact(key _ _).trans g3
 rw[hz]at a1
 obtain⟨σ',g,a,f⟩:=loop n N 0 σ1 (by omega) (by omega) f1 (by omega) (by rw[List.take_zero,List.nil_append];exact a1)
 refine⟨_,σ',?_,⟨.inr ⟨σ.next,by rw[octBE_length],a,by rw[u8s_length];simp⟩,fun b hb=>by cases hb;exact Nat.le_refl _⟩,f⟩
 show T238_0 E D W (L238_2 E D W N N) (wrapF .u64 v) (Int.ofNat n) σ=_
 unfold T238_0
 rw[nnK_nat,nnK_nat,chk_true (by simp only[Bool.and_eq_true,Nat.ble_eq];refine⟨⟨Nat.le_refl _,?_⟩,?_⟩<;>omega)]
 show L238_2 E D W N N _ _ _ _ _ (newB σ (.cells _))=_
 rw[e1]
 exact g
theorem signed_F {v:Int} (hv:In64i v) (hO:∀(σ:H) (n:Nat),Tidy σ→n≤8→Makes (D 238) [.int .u64 (wrapF .u64 v),.int .i64 (Int.ofNat n)] σ (octBE v n)) (hN:8<N) (ht:Tidy σ):Makes (F143 E D W N) [.int .i64 v] σ (sOct v):=by
 have hr:=lenS_range v
 have loop:∀(m n' n:Nat),n+m=lenS v→1≤n→m<n'→L143_2 E D W N n' v (Int.ofNat n) σ=J143_1 E D W N v (Int.ofNat (lenS v)) σ:=by
  intro m
  induction m with
  | zero=>
   intro n' n hn h1 hn'
   obtain⟨n',rfl⟩:∃k,n'=k+1:=⟨n'-1,by omega⟩
   have hn:n=lenS v:=by omega
   subst hn
   have en:subF .i64 (mulF .i64 (Int.ofNat 8) (Int.ofNat (lenS v))) (Int.ofNat 1)=Int.ofNat (8*lenS v-1):=by
    rw[show mulF .i64 (Int.ofNat 8) (Int.ofNat (lenS v))=Int.ofNat (8*lenS v)from wrapF_nat (k := .i64) (m:=8*lenS v) (show _≤9223372036854775807 by omega),subF_nat (by omega) (by omega)]
   have hw:=lenS_enough hv
   unfold enough at hw
   show T143_2 E D W _ _ v (Int.ofNat (lenS v)) σ=_
   unfold T143_2
   rw[en]
   simp -implicitDefEqProofs only [nnK_nat,join_and,shr_i64 v (show 8*lenS v-1≤64 by omega),ltF_nat,eq_of,show Int.ofNat 0=(0:Int)from rfl,show Int.negSucc 0=(-1:Int)from rfl]
   rw[condK_iff]
   rw[Bool.or_eq_true]at hw
   rcases hw with h|h
   ·rw[h];simp
   ·rw[h];simp
  | succ m ih=>
   intro n' n hn h1 hn'
   obtain⟨n',rfl⟩:∃k,n'=k+1:=⟨n'-1,by omega⟩
   have en:subF .i64 (mulF .i64 (Int.ofNat 8) (Int.ofNat n)) (Int.ofNat 1)=Int.ofNat (8*n-1):=by
    rw[show mulF .i64 (Int.ofNat 8) (Int.ofNat n)=Int.ofNat (8*n)from wrapF_nat (k := .i64) (m:=8*n) (show _≤9223372036854775807 by omega),subF_nat (by omega) (by omega)]
   have hw:=lenS_less v h1 (by omega)
   unfold enough at hw
   rw[Bool.or_eq_false_iff]at hw
   have key:∀K1 K2,T143_2 E D W K1 K2 v (Int.ofNat n) σ=K2 v (Int.ofNat (n+1)) σ:=by
    intro K1 K2
    unfold T143_2
    rw[en]
    simp -implicitDefEqProofs only [nnK_nat,join_and,shr_i64 v (show 8*n-1≤64 by omega),ltF_nat,eq_of,show Int.ofNat 0=(0:Int)from rfl,show Int.negSucc 0=(-1:Int)from rfl,hw.1,hw.2,show decide (n<8)=true from decide_eq_true (by omega),Bool.not_false,Bool.and_true,condK_true]
    simp -implicitDefEqProofs only [join_id,condK_true,show addF .i64 (Int.ofNat n) (Int.ofNat 1)=Int.ofNat (n+1)from addF_nat (by omega)]
   refine(key _ _).trans ?_
   exact ih n' (n+1) (by omega) (by omega) (by omega)
 obtain⟨u,σ',g,hu,f⟩:=hO σ (lenS v) ht hr.2
 refine⟨u,σ',?_,hu,f⟩
 refine(show F143 E D W N [.int .i64 v] σ=L143_2 E D W N N v (Int.ofNat 1) σ from rfl).trans ?_
 rw[loop (lenS v-1) N 1 (by omega) (Nat.le_refl _) (by omega)]
 show T143_1 E D W v (Int.ofNat (lenS v)) σ=_
 unfold T143_1
 simp -implicitDefEqProofs only [↓g,↓callK_some_,↓rtOne_of hu.1.one]
theorem o8_F (hN:8<N):SpO8 (F238 E D W N):=fun σ v n ht hn=>octets_F hn hN ht
theorem sgn_F (hO:SpO8 (D 238)) (hN:8<N):SpSigned (F143 E D W N):=by
 intro σ v hv ht
 have:=signed_F (E:=E) (W:=W) hv (fun σ n h1 h2=>hO σ v n h1 h2) hN ht
 unfold sOct at this
 rwa [octBE_N v _ (lenS_range v).2]at this
theorem uns_F (hO:SpO8 (D 238)) (hN:8<N):SpUnsigned (F142 E D W N):=by
 intro σ x hx ht
 have hr:=lenU_range x
 have tx:toU (x:Int)=x:=by
  unfold toU
  rw[Int.emod_eq_of_lt (by omega) (by omega)];rfl
 have ew:wrapF .u64 (x:Int)=Int.ofNat x:=by rw[toU_wrap,tx]
 have sh:∀n:Nat,n≤8→eqF (shrF .u64 (Int.ofNat x) (8*n)) (Int.ofNat 0)=decide (x / 2 ^ (8*n)=0):=fun n hn=>by
  rw[shr_u64 _ (by omega)]
  have:((2 ^ (8*n):Nat):Int)=(2:Int) ^ (8*n):=by simp
  rw[←this]
  exact eqF_nat (x / 2 ^ (8*n)) 0
 have ml:∀n:Nat,n≤8→mulF .i64 (Int.ofNat 8) (Int.ofNat n)=Int.ofNat (8*n):=fun n hn=>wrapF_nat (k := .i64) (m:=8*n) (show _≤9223372036854775807 by omega)
 have loop:∀(m n' n:Nat),n+m=lenU x→1≤n→m<n'→L142_2 E D W N n' (Int.ofNat x) (Int.ofNat n) σ=J142_1 E D W N (Int.ofNat x) (Int.ofNat (lenU x)) σ:=by
  intro m
  induction m with
  | zero=>
   intro n' n hn h1 hn'
   obtain⟨n',rfl⟩:∃k,n'=k+1:=⟨n'-1,by omega⟩
   have hn:n=lenU x:=by omega
   subst hn
   show T142_2 E D W _ _ (Int.ofNat x) (Int.ofNat (lenU x)) σ=_
   have key:∀K1 R2,T142_2 E D W K1 R2 (Int.ofNat x) (Int.ofNat (lenU x)) σ=K1 (Int.ofNat x) (Int.ofNat (lenU x)) σ:=by
    intro K1 R2
    unfold T142_2
    cases h8:decide (lenU x<8)with
    | true=>
     have h0:decide (x / 2 ^ (8*lenU x)=0)=true:=decide_eq_true (Nat.div_eq_of_lt (lenU_at x (of_decide_eq_true h8)))
     simp -implicitDefEqProofs only [↓rP,rA,Nat.reduceEqDiff,Nat.reduceLT,Nat.reduceLeDiff,h8,ml _ hr.2,↓nnK_nat,sh _ hr.2,h0]
    | false=>simp -implicitDefEqProofs only [↓rP,rA,Nat.reduceEqDiff,Nat.reduceLT,Nat.reduceLeDiff,h8]
   exact key _ _
  | succ m ih=>
   intro n' n hn h1 hn'
   obtain⟨n',rfl⟩:∃k,n'=k+1:=⟨n'-1,by omega⟩
   have h8:decide (n<8)=true:=decide_eq_true (by omega)
   have h0:decide (x / 2 ^ (8*n)=0)=false:=decide_eq_false fun e=>by
    have:=lenU_less x h1 (by omega)
    have:=(Nat.div_eq_zero_iff).1 e
    have hp:0<2 ^ (8*n):=Nat.pow_pos (by decide)
    omega
   have key:∀K1 R2,T142_2 E D W K1 R2 (Int.ofNat x) (Int.ofNat n) σ=R2 (Int.ofNat x) (Int.ofNat (n+1)) σ:=by
    intro K1 R2
    unfold T142_2
    simp -implicitDefEqProofs only [↓rP,rA,Nat.reduceEqDiff,Nat.reduceLT,Nat.reduceLeDiff,h8,ml n (by omega),↓nnK_nat,sh n (by omega),h0,addF_nat (show n+1≤9223372036854775807 by omega)]
   refine(key _ _).trans ?_
   exact ih n' (n+1) (by omega) (by omega) (by omega)
 obtain⟨u,σ',g,hu,f⟩:=hO σ x (lenU x) ht hr.2
 rw[ew]at g
 rw[octBE_N x _ hr.2,tx]at hu
 refine⟨u,σ',?_,hu,f⟩
 refine(show F142 E D W N [.int .u64 (Int.ofNat x)] σ=L142_2 E D W N N (Int.ofNat x) (Int.ofNat 1) σ from rfl).trans ?_
 rw[loop (lenU x-1) N 1 (by omega) (Nat.le_refl _) (by omega)]
 show T142_1 E D W (Int.ofNat x) (Int.ofNat (lenU x)) σ=_
 unfold T142_1
 simp -implicitDefEqProofs only [↓rP,rS,↓g,↓rtOne_of hu.1.one]
end
theorem shrU (n:Nat) {j:Nat} (h:j≤64):shrF .u64 (Int.ofNat n) j=Int.ofNat (n / 2 ^ j):=by
 rw[shr_u64 _ h]
 have:((2 ^ j:Nat):Int)=(2:Int) ^ j:=by simp
 rw[←this];rfl
theorem widN_uniq {n w:Nat} (h1:n<2 ^ w) (h2:w=0∨2 ^ (w-1)≤n) (hn:n<2 ^ 60):widN 60 n=w:=by
 have a:=widN_small 60 w n h1
 have b:=widN_lt 60 n hn
 rcases h2 with rfl|h2
 ·omega
 ·have:2 ^ (w-1)<2 ^ widN 60 n:=Nat.lt_of_le_of_lt h2 b
  have:=(Nat.pow_lt_pow_iff_right (show 1<2 by decide)).1 this
  omega
theorem widN_low {n:Nat} (h:0<n) (hn:n<2 ^ 60):0<widN 60 n∧2 ^ (widN 60 n-1)≤n:=by
 have hp:0<widN 60 n:=by
  have:=widN_lt 60 n hn
  rcases Nat.eq_zero_or_pos (widN 60 n)with e|e
  ·rw[e]at this;omega
  ·exact e
 refine⟨hp,?_⟩
 rcases Nat.lt_or_ge n (2 ^ (widN 60 n-1))with h1|h1
 ·have:=widN_small 60 _ n h1;omega
 ·exact h1
theorem widN_shift {n j:Nat} (hj:2 ^ j≤n) (hn:n<2 ^ 60):widN 60 n=j+widN 60 (n / 2 ^ j):=by
 have hp:0<2 ^ j:=Nat.pow_pos (by decide)
 have hm:0<n / 2 ^ j:=Nat.div_pos hj hp
 have hm60:n / 2 ^ j<2 ^ 60:=Nat.lt_of_le_of_lt (Nat.div_le_self _ _) hn
 obtain⟨a,b⟩:=widN_low hm hm60
 have c:=widN_lt 60 _ hm60
 refine widN_uniq ?_ (.inr ?_) hn
 ·rw[Nat.pow_add,Nat.mul_comm]
  exact(Nat.div_lt_iff_lt_mul hp).1 c
 ·rw[show j+widN 60 (n / 2 ^ j)-1=(widN 60 (n / 2 ^ j)-1)+j by omega,Nat.pow_add]
  exact(Nat.le_div_iff_mul_le hp).1 b
def l8tab:BS:=BS.mk 256 1013866857139168856493015739252390649739422828853819106890363778118420553376247557433637691341895324351018602695588957474325319502760499485336098898398377509666851054660423406800006203933793007272033180812049178612605246075062580585469430410618860250057463399279570354286669047577758927328864388992123306212451509403152394148136105363817402562688186708175358218852349079190158732807302672745370040257219644697201681238697346923541678507645485296520536209706771857694240900605172937619415410180424934769249448772944216470541052485265558808433676546390051204254346932932316488017972311616136051587427851453983453479168
theorem l8_tab:∀n:Fin 256,l8tab.get n.val=widN 60 n.val:=by decide +kernel
theorem idx_tab {m:Nat} (h:m<256) (κ:Int→Ans):idxStrX l8tab (Int.ofNat m) κ=κ (Int.ofNat (l8tab.get m)):=by
 show chk (Nat.blt m 256) _=_
 exact chk_true (by simpa[Nat.blt_eq]using h)
def SpLenG (F:List V→H→Ans):Prop:=∀(σ:H) (n:Nat),n<2 ^ 60→F [.int .u64 (Int.ofNat n)] σ=some (.int .i64 (Int.ofNat (widN 60 n)),σ)
def conG (h hl hh mo:Bool) (lo hi:Int):List V:=[.bool h,.bool hl,.bool hh,.bool mo,.int .i64 lo,.int .i64 hi]
def SpBthG (F:List V→H→Ans):Prop:=∀(σ:H) (h hl hh mo:Bool) (lo hi:Int),Tidy σ→∃σ',F [.agg (conG h hl hh mo lo hi)] σ=some (.bool (h&&(hl&&hh)),σ')∧Fr Nowhere σ σ'
def SpCrsG (F:List V→H→Ans):Prop:=∀(σ:H) (h hl hh mo:Bool) (lo hi:Int),Tidy σ→∃σ',F [.agg (conG h hl hh mo lo hi)] σ=some (.bool ((h&&(hl&&hh))&&ltF hi lo),σ')∧Fr Nowhere σ σ'
def SpSpnG (F:List V→H→Ans):Prop:=∀(σ:H) (h hl hh mo:Bool) (lo hi:Int),Tidy σ→((h&&(hl&&hh))&&ltF hi lo)=false→∃σ',F [.agg (conG h hl hh mo lo hi)] σ=some (.tup [.int .u64 (if(h&&(hl&&hh))=true then subF .u64 (wrapF .u64 hi) (wrapF .u64 lo)else Int.ofNat 0),.bool (h&&(hl&&hh))],σ')∧Fr Nowhere σ σ'
section
variable {E:List (Nat × Blk)} {D:Den} {W:DrawFn} {N:Nat}
theorem lenG_F:SpLenG (F290 E D W N):=by
 intro σ n hn
 show T290_0 E D W (T290_1 E D W (T290_2 E D W (T290_3 E D W))) (Int.ofNat n) σ=_
 obtain⟨n1,b1,k1,h1,hb1,w1⟩:∃n1 b1,(∀K,T290_0 E D W K (Int.ofNat n) σ=K (Int.ofNat n1) (Int.ofNat b1) σ)∧n1<2 ^ 32∧b1≤32∧widN 60 n=b1+widN 60 n1:=by
  cases d:decide (4294967296≤n)with
  | true=>
   have hd:=of_decide_eq_true d
   refine⟨n / 2 ^ 32,32,fun K=>?_,by rw[Nat.div_lt_iff_lt_mul (by decide)];omega,Nat.le_refl _,widN_shift (by omega) hn⟩
   show condK (leF (Int.ofNat 4294967296) (Int.ofNat n)) (K (shrF .u64 (Int.ofNat n) 32) (Int.ofNat 32) σ) (K (Int.ofNat n) (Int.ofNat 0) σ)=_
   rw[show leF (Int.ofNat 4294967296) (Int.ofNat n)=decide (4294967296≤n)from leF_nat _ _,d,condK_true,shrU n (by decide)]
  | false=>
   have hd:=of_decide_eq_false d
   refine⟨n,0,fun K=>?_,by omega,by decide,by rw[Nat.zero_add]⟩
   show condK (leF (Int.ofNat 4294967296) (Int.ofNat n)) (K (shrF .u64 (Int.ofNat n) 32) (Int.ofNat 32) σ) (K (Int.ofNat n) (Int.ofNat 0) σ)=_
   rw[show leF (Int.ofNat 4294967296) (Int.ofNat n)=decide (4294967296≤n)from leF_nat _ _,d,condK_false]
 obtain⟨n2,b2,k2,h2,hb2,w2⟩:∃n2 b2,(∀K,T290_1 E D W K (Int.ofNat n1) (Int.ofNat b1) σ=K (Int.ofNat n2) (Int.ofNat b2) σ)∧n2<2 ^ 16∧b2≤48∧widN 60 n=b2+widN 60 n2:=by
  cases d:decide (65536≤n1)with
  | true=>
   have hd:=of_decide_eq_true d
   refine⟨n1 / 2 ^ 16,b1+16,fun K=>?_,by rw[Nat.div_lt_iff_lt_mul (by decide)];omega,by omega,by rw[w1,widN_shift (n:=n1) (j:=16) (by omega) (by omega)];omega⟩
   show condK (leF (Int.ofNat 65536) (Int.ofNat n1)) (K (shrF .u64 (Int.ofNat n1) 16) (addF .i64 (Int.ofNat b1) (Int.ofNat 16)) σ) (K (Int.ofNat n1) (Int.ofNat b1) σ)=_
   rw[show leF (Int.ofNat 65536) (Int.ofNat n1)=decide (65536≤n1)from leF_nat _ _,d,condK_true,addF_nat (by omega),shrU n1 (by decide)]
  | false=>
   have hd:=of_decide_eq_false d
   refine⟨n1,b1,fun K=>?_,by omega,by omega,w1⟩
   show condK (leF (Int.ofNat 65536) (Int.ofNat n1)) (K (shrF .u64 (Int.ofNat n1) 16) (addF .i64 (Int.ofNat b1) (Int.ofNat 16)) σ) (K (Int.ofNat n1) (Int.ofNat b1) σ)=_
   rw[show leF (Int.ofNat 65536) (Int.ofNat n1)=decide (65536≤n1)from leF_nat _ _,d,condK_false]
 obtain⟨n3,b3,k3,h3,hb3,w3⟩:∃n3 b3,(∀K,T290_2 E D W K (Int.ofNat n2) (Int.ofNat b2) σ=K (Int.ofNat n3) (Int.ofNat b3) σ)∧n3<2 ^ 8∧b3≤56∧widN 60 n=b3+widN 60 n3:=by
  cases d:decide (256≤n2)with
  | true=>
   have hd:=of_decide_eq_true d
   refine⟨n2 / 2 ^ 8,b2+8,fun K=>?_,by rw[Nat.div_lt_iff_lt_mul (by decide)];omega,by omega,by rw[w2,widN_shift (n:=n2) (j:=8) (by omega) (by omega)];omega⟩
   show condK (leF (Int.ofNat 256) (Int.ofNat n2)) (K (shrF .u64 (Int.ofNat n2) 8) (addF .i64 (Int.ofNat b2) (Int.ofNat 8)) σ) (K (Int.ofNat n2) (Int.ofNat b2) σ)=_
   rw[show leF (Int.ofNat 256) (Int.ofNat n2)=decide (256≤n2)from leF_nat _ _,d,condK_true,addF_nat (by omega),shrU n2 (by decide)]
  | false=>
   have hd:=of_decide_eq_false d
   refine⟨n2,b2,fun K=>?_,by omega,by omega,w2⟩
   show condK (leF (Int.ofNat 256) (Int.ofNat n2)) (K (shrF .u64 (Int.ofNat n2) 8) (addF .i64 (Int.ofNat b2) (Int.ofNat 8)) σ) (K (Int.ofNat n2) (Int.ofNat b2) σ)=_
   rw[show leF (Int.ofNat 256) (Int.ofNat n2)=decide (256≤n2)from leF_nat _ _,d,condK_false]
 rw[k1,k2,k3]
 have hl:=l8_tab ⟨n3,h3⟩
 have hl:l8tab.get n3=widN 60 n3:=hl
 have hs:=widN_small 60 8 n3 h3
 show idxStrX l8tab (wrapF .u8 (Int.ofNat n3)) (fun x1=>some (.int .i64 (addF .i64 (Int.ofNat b3) (wrapF .i64 x1)),σ))=_
 rw[show wrapF .u8 (Int.ofNat n3)=Int.ofNat n3 from wrapF_nat (show n3≤255 by omega),idx_tab h3,hl,show wrapF .i64 (Int.ofNat (widN 60 n3))=Int.ofNat (widN 60 n3)from wrapF_nat (show widN 60 n3≤9223372036854775807 by omega),addF_nat (by omega),←w3]
theorem bwidG_F (hL:SpLenG (D 290)):SpLenG (F237 E D W N):=by
 intro σ n hn
 have g:=hL σ n hn
 show T237_0 E D W (Int.ofNat n) σ=_
 unfold T237_0
 simp -implicitDefEqProofs only [↓rP,rA,Nat.reduceEqDiff,Nat.reduceLT,Nat.reduceLeDiff,↓g]
theorem bothG_F:SpBthG (F235 E D W N):=by
 intro σ h hl hh mo lo hi ht
 obtain⟨σ1,e1,f1,a1,n1⟩:=mk_new ht (conG h hl hh mo lo hi)
 refine⟨σ1,?_,f1⟩
 unfold conG at e1 a1
 show T235_0 E D W h hl hh mo lo hi σ=_
 cases h<;>cases hl<;>cases hh<;>(unfold T235_0;simp -implicitDefEqProofs only [↓rP,rA,Nat.reduceEqDiff,Nat.reduceLT,Nat.reduceLeDiff,↓e1,↓ldK_is a1])
theorem crsG_F (hB:SpBthG (D 235)):SpCrsG (F236 E D W N):=by
 intro σ h hl hh mo lo hi ht
 obtain⟨σ1,e1,f1,a1,n1⟩:=mk_new ht (conG h hl hh mo lo hi)
 obtain⟨σ2,g2,f2⟩:=hB σ1 h hl hh mo lo hi f1.tidy
 have a2:=f2.at_ a1 f1.tidy (fun h=>h)
 refine⟨σ2,?_,f1.trans f2 (fun _ _ h=>h)⟩
 unfold conG at e1 a1 a2 g2
 have sub:∀κ:List V→Ans,subK [.bool h,.bool hl,.bool hh,.bool mo,.int .i64 lo,.int .i64 hi] 0 6 κ=κ [.bool h,.bool hl,.bool hh,.bool mo,.int .i64 lo,.int .i64 hi]:=fun κ=>by
  rw[subK_of (by simp)];rfl
 show T236_0 E D W h hl hh mo lo hi σ=_
 generalize (h&&(hl&&hh))=c at g2 ⊢
 cases c<;>(unfold T236_0;simp -implicitDefEqProofs only [↓rP,rA,Nat.reduceEqDiff,Nat.reduceLT,Nat.reduceLeDiff,↓e1,↓ldnK_is a1,↓sub,↓g2,↓ldK_is a2])
theorem spnG_F (hB:SpBthG (D 235)) (hC:SpCrsG (D 236)):SpSpnG (F140 E D W N):=by
 intro σ h hl hh mo lo hi ht hc
 obtain⟨σ1,e1,f1,a1,n1⟩:=mk_new ht (conG h hl hh mo lo hi)
 obtain⟨σ2,g2,f2⟩:=hB σ1 h hl hh mo lo hi f1.tidy
 obtain⟨σ3,g3,f3⟩:=hC σ2 h hl hh mo lo hi f2.tidy
 rw[hc]at g3
 have sub:∀κ:List V→Ans,subK [.bool h,.bool hl,.bool hh,.bool mo,.int .i64 lo,.int .i64 hi] 0 6 κ=κ [.bool h,.bool hl,.bool hh,.bool mo,.int .i64 lo,.int .i64 hi]:=fun κ=>by
  rw[subK_of (by simp)];rfl
 unfold conG at e1 a1 g2 g3
 show ∃σ',T140_0 E D W h hl hh mo lo hi σ=_∧_
 generalize (h&&(hl&&hh))=c at g2 ⊢
 cases c
 ·refine⟨σ2,?_,f1.trans f2 (fun _ _ h=>h)⟩
  unfold T140_0
  simp -implicitDefEqProofs only [↓rP,rA,Nat.reduceEqDiff,Nat.reduceLT,Nat.reduceLeDiff,↓e1,↓ldnK_is a1,↓sub,↓g2]
  rfl
 ·refine⟨σ3,?_,(f1.trans f2 (fun _ _ h=>h)).trans f3 (fun _ _ h=>h)⟩
  unfold T140_0
  simp -implicitDefEqProofs only [↓rP,rA,Nat.reduceEqDiff,Nat.reduceLT,Nat.reduceLeDiff,↓e1,↓ldnK_is a1,↓sub,↓g2,↓g3]
  rfl
end
theorem usub (a b:Int):wrapF .u64 (Int.ofNat (toU a)-Int.ofNat (toU b))=Int.ofNat (toU (a-b)):=by
 rw[wrap_u64]
 have h:=toU_eq (a-b)
 have ha:=toU_eq a
 have hb:=toU_eq b
 show (((toU a:Nat):Int)-((toU b:Nat):Int)) % 18446744073709551616=((toU (a-b):Nat):Int)
 rw[h,ha,hb,←Int.sub_emod]
theorem usubF (a b:Int):subF .u64 (wrapF .u64 a) (wrapF .u64 b)=Int.ofNat (toU (a-b)):=by
 rw[toU_wrap,toU_wrap];exact usub a b
def SpWW64 (F:List V→H→Ans):Prop:=∀(σ:H) (w:Nat) (u:V) (L:List Nat) (v n:Nat),Pw σ w u L→Tidy σ→L.length<7000000→v≤18446744073709551615→n≤64 →
 ∃u' σ',F [.ptr w 0,.int .u64 (Int.ofNat v),.int .i64 (Int.ofNat n)] σ=some (.tup [],σ')∧Pst σ w u σ' u' (L++bitsOf n v)
def SpBtw64 (F:List V→H→Ans):Prop:=∀(σ:H) (w:Nat) (u:V) (L:List Nat) (v n:Nat),Pw σ w u L→Tidy σ→L.length<7000000→v≤n→n<2 ^ 60 →
 ∃u' σ',F [.ptr w 0,.int .u64 (Int.ofNat v),.int .u64 (Int.ofNat n)] σ=some (.tup [],σ')∧Pst σ w u σ' u' (L++bitsOf (widN 60 n) v)
def encI (h hl hh mo:Bool) (lo hi v:Int):List Nat:=
 (if mo=true then [if(!withinB h hl hh lo hi v)=true then 1 else 0] else []) ++
  (if(withinB h hl hh lo hi v&&(h&&(hl&&hh)))=true then bitsOf (widN 60 (toU (hi-lo))) (toU (v-lo))else if(withinB h hl hh lo hi v&&(h&&hl))=true then abovB (toU (v-lo))else freeB v)
def SpEIntX (F:List V→H→Ans):Prop:=∀{σ0 σ:H} {eb w:Nat} {u:V} {cs:List V} {L:List Nat} {h hl hh mo:Bool} {lo hi v:Int},Wk σ0 σ eb w u cs L→L.length<100000→In64i v→In64i lo→In64i hi→((h&&(hl&&hh))&&ltF hi lo)=false→((h&&(hl&&hh))=true→toU (hi-lo)<2 ^ 60) →
 ∃u' σ',F [.ptr eb 0,.agg (conG h hl hh mo lo hi),.int .i64 v] σ=some (.tup [],σ')∧Pst σ w u σ' u' (L++encI h hl hh mo lo hi v)
section
variable {E:List (Nat × Blk)} {D:Den} {W:DrawFn} {N:Nat}
theorem ww64_F (hB:SpWBits (D 234)) (hM:SpBdd 64 (D 182)):SpWW64 (F139 E D W N):=by
 intro σ w u L v n h ht hl hv hn
 have gm:=hM σ (Int.ofNat n)
 rw[minF_le hn,maxF_0]at gm
 have hv32:v / 2 ^ 32<2 ^ 32:=by rw[Nat.div_lt_iff_lt_mul (by decide)];omega
 have eh:wrapF .u32 (shrF .u64 (Int.ofNat v) 32)=Int.ofNat (v / 2 ^ 32):=by
  rw[shrU v (by decide)];exact wrapF_nat (show v / 2 ^ 32≤4294967295 by omega)
 have el:wrapF .u32 (Int.ofNat v)=Int.ofNat (v % 2 ^ 32):=by rw[wrapF_eq];rfl
 have hm:v % 2 ^ 32≤4294967295:=by have:=Nat.mod_lt v (show 0<2 ^ 32 by decide);omega
 cases d:decide (n≤32)with
 | true=>
  have hn32:=of_decide_eq_true d
  obtain⟨u1,σ1,g1,s1⟩:=hB σ w u L (v / 2 ^ 32) 0 (subF .i64 (Int.ofNat n) (Int.ofNat 32)) h ht (by omega) (by omega) (by decide) (low32 n hn32)
  rw[show bitsOf 0 (v / 2 ^ 32)=[] from rfl,List.append_nil]at s1
  obtain⟨u2,σ2,g2,s2⟩:=hB σ1 w u1 L (v % 2 ^ 32) n (Int.ofNat n) s1.wr s1.f.tidy (by omega) hm hn32 (by rw[minF_le hn32,maxF_0])
  rw[bitsOf_mod 32 v n hn32]at s2
  refine⟨u2,σ2,?_,s1.trans s2⟩
  show T139_0 E D W (.ptr w 0) (Int.ofNat v) (Int.ofNat n) σ=_
  unfold T139_0
  simp -implicitDefEqProofs only [↓rP,rS,↓eqK_pn,↓gm,eh,el,↓g1,minF_le hn32,↓g2]
 | false=>
  have hn32:=of_decide_eq_false d
  have es:subF .i64 (Int.ofNat n) (Int.ofNat 32)=Int.ofNat (n-32):=subF_nat (by omega) (by omega)
  obtain⟨u1,σ1,g1,s1⟩:=hB σ w u L (v / 2 ^ 32) (n-32) (Int.ofNat (n-32)) h ht (by omega) (by omega) (by omega) (by rw[minF_le (show n-32≤32 by omega),maxF_0])
  have m32:minF (Int.ofNat n) (Int.ofNat 32)=Int.ofNat 32:=by rw[minF_min,Nat.min_eq_right (by omega)]
  obtain⟨u2,σ2,g2,s2⟩:=hB σ1 w u1 _ (v % 2 ^ 32) 32 (Int.ofNat 32) s1.wr s1.f.tidy (by rw[List.length_append,bitsOf_length];omega) hm (by decide) (by rw[minF_le (Nat.le_refl 32),maxF_0])
  rw[bitsOf_mod 32 v 32 (Nat.le_refl _),List.append_assoc,←bitsOf_add,show n-32+32=n by omega]at s2
  refine⟨u2,σ2,?_,s1.trans s2⟩
  show T139_0 E D W (.ptr w 0) (Int.ofNat v) (Int.ofNat n) σ=_
  unfold T139_0
  simp -implicitDefEqProofs only [↓rP,rS,↓eqK_pn,↓gm,eh,el,es,↓g1,m32,↓g2]
theorem btw64_F (hW:SpLenG (D 237)) (hB:SpWW64 (D 139)):SpBtw64 (F141 E D W N):=by
 intro σ w u L v n h ht hl hv hn
 have g1:=hW σ n hn
 obtain⟨u2,σ2,g2,s2⟩:=hB σ w u L v (widN 60 n) h ht hl (by omega) (Nat.le_trans (widN_le 60 n) (by decide))
 refine⟨u2,σ2,?_,s2⟩
 have m:minF (Int.ofNat v) (Int.ofNat n)=Int.ofNat v:=minF_le hv
 show T141_0 E D W (.ptr w 0) (Int.ofNat v) (Int.ofNat n) σ=_
 unfold T141_0
 simp -implicitDefEqProofs only [↓rP,rS,↓g1,m,↓g2]
end
section
variable {E:List (Nat × Blk)} {D:Den} {N:Nat} {σ0 σ:H} {eb w:Nat} {u:V} {cs:List V} {L:List Nat}
theorem reg_s (hS:SpSigned (D 143)) (hP:SpLPut (D 74)) {v:Int} (hv:In64i v) (wk:Wk σ0 σ eb w u cs L) (hl:L.length<1000000) :
    ∃e' u' σ',drawW E D G72_1 H72_1 [(0,.ptr eb 0),(2,.int .i64 v)] σ=some (e',σ')∧Pst σ w u σ' u' (L++freeB v):=by
  have ht:=wk.tidy
  have fw:Fr Nowhere σ ⟨σ.next+8,σ.bl⟩:=(go_start (E:=E) (n:=8) (S:=Nowhere) ht).fr
  have hr:=lenS_range v
  obtain⟨u1,σ1,g1,h1,f1⟩:=hS (σ:=⟨σ.next+8,σ.bl⟩) hv fw.tidy
  have le1:σ.next+8≤σ1.next:=f1.le
  have f01:Fr Nowhere σ σ1:=fw.trans f1 (fun _ _ h=>h)
  obtain⟨σb,hb⟩:∃σb,σb=(⟨σ1.next,(σ.next+6,.cells [u1])::σ1.bl⟩:H):=⟨_,rfl⟩
  have fb:Fr Nowhere σ σb:=by
    rw[hb]
    exact⟨fun c hc=>by
      have hc:σ1.next≤c:=hc
      show lookF ((σ.next+6,_)::σ1.bl) c=none
      rw[lookF_cons,if_neg (by simp only[];omega)];exact f1.tidy c hc,f01.le,fun c hc _=>by
      show lookF ((σ.next+6,_)::σ1.bl) c=_
      rw[lookF_cons,if_neg (by simp only[];omega)];exact f01.same c hc (fun h=>h)⟩
  have ab:Atc σb (σ.next+6) [u1]:=by
    rw[hb]
    show lookF ((σ.next+6,_)::σ1.bl) _=_
    rw[lookF_cons,if_pos rfl]
  have hu:By σb u1 (nI (octN (toU v) (lenS v))):=by
    rw[hb]
    have hs:=h1.by_
    rcases hs with h|⟨b,o,c,L,rfl,ha,hl,hm⟩
    · exact .inl h
    · have hb:σ.next+8≤b:=h1.2 b rfl
      refine .inr ⟨b,o,c,L,rfl,?_,hl,hm⟩
      show lookF ((σ.next+6,_)::σ1.bl) b=_
      rw[lookF_cons,if_neg (by simp only[];omega)];exact ha
  have wb:=wk.fr fb
  obtain⟨u5,σ5,g5,s5⟩:=hP σb w (σ.next+6) u u1 L (octN (toU v) (lenS v)) wb.pw wb.tidy (by rw[octN_length];omega) (by rw[octN_length];omega) (octN_lt _ _) ab hu
  rw[octN_length,octN_bits]at s5
  have lw:∀b,Own1 w u b→b<σ.next:=fun b hb=>by
    rcases hb with hb|hb
    · subst hb;exact wk.pw.at_.lt ht
    · exact wk.pw.d.lt ht hb
  have ae:=wk.e
  have go:Goes E D σ 8 0 (Own1 w u) G72_1 H72_1 ⟨[(0,.ptr eb 0),(2,.int .i64 v)],σ.next+8,[σ.bl],[],0,[]⟩ _ σ5:=
    go_p (.ptr eb 0) rfl rfl <|
    go_p (.ptr eb 0) rfl rfl <|
    go_p (.ptr eb 0) rfl rfl <|
    go_l (.ptr w 0) (go_start ht) rfl (old_ld1 (b:=eb) (off:=0) rfl ae rfl ht wk.eo.not (beq_self _ rfl)) fun _ r1=>
    go_p (.int .i64 v) rfl rfl <|
    go_k u1 r1 rfl (by decide) (S':=Nowhere) f1 (fun _ _ h=>h.elim) (fun _ h _ _=>h.elim) (call_of (vs:=[.int .i64 v]) rfl rfl g1) fun _ _ _ r2=>
    go_a (.sl (σ.next+6) 0 1 (.ex 1)) (.cells [u1]) 64 r2 rfl (by decide) (by decide) (build1 rfl h1.1.one) fun _ r3=>
    go_k (.tup []) (by rw[←hb]at r3;exact r3) rfl (by decide) (S':=Own1 w u) s5.f (fun _ _ h=>h) (fun b h h1 _=>by have:=lw b h;omega) (call_of (vs:=[.ptr w 0,.sl (σ.next+6) 0 1 (.ex 1)]) rfl rfl g5) fun _ _ _ r5=>
    go_nil r5
  obtain⟨d1,d2⟩:=go_draw (ops:=G72_1) go
  exact⟨_,u5,σ5,d1,Pst.behind fb s5⟩
theorem reg_u (hS:SpUnsigned (D 142)) (hP:SpLPut (D 74)) {v lo:Int} {q:Nat} {cl:List V} (wk:Wk σ0 σ eb w u cs L) (hl:L.length<1000000) (aq:Atc σ q cl) (hq:cl[4]? = some (.int .i64 lo)) (oq:Off σ w u q) :
    ∃e' u' σ',drawW E D G72_0 H72_0 [(0,.ptr eb 0),(2,.int .i64 v),(4,.ptr q 0)] σ=some (e',σ')∧Pst σ w u σ' u' (L++abovB (toU (v-lo))):=by
  have ht:=wk.tidy
  have fw:Fr Nowhere σ ⟨σ.next+13,σ.bl⟩:=(go_start (E:=E) (n:=13) (S:=Nowhere) ht).fr
  have hr:=lenU_range (toU (v-lo))
  have hx:=toU_lt (v-lo)
  obtain⟨x,hxe⟩:∃x,x=toU (v-lo):=⟨_,rfl⟩
  rw[←hxe]at hr hx ⊢
  obtain⟨u1,σ1,g1,h1,f1⟩:=hS (σ:=⟨σ.next+13,σ.bl⟩) hx fw.tidy
  have le1:σ.next+13≤σ1.next:=f1.le
  have f01:Fr Nowhere σ σ1:=fw.trans f1 (fun _ _ h=>h)
  obtain⟨σb,hb⟩:∃σb,σb=(⟨σ1.next,(σ.next+11,.cells [u1])::σ1.bl⟩:H):=⟨_,rfl⟩
  have fb:Fr Nowhere σ σb:=by
    rw[hb]
    exact⟨fun c hc=>by
      have hc:σ1.next≤c:=hc
      show lookF ((σ.next+11,_)::σ1.bl) c=none
      rw[lookF_cons,if_neg (by simp only[];omega)];exact f1.tidy c hc,f01.le,fun c hc _=>by
      show lookF ((σ.next+11,_)::σ1.bl) c=_
      rw[lookF_cons,if_neg (by simp only[];omega)];exact f01.same c hc (fun h=>h)⟩
  have ab:Atc σb (σ.next+11) [u1]:=by
    rw[hb]
    show lookF ((σ.next+11,_)::σ1.bl) _=_
    rw[lookF_cons,if_pos rfl]
  have hu:By σb u1 (nI (octN x (lenU x))):=by
    rw[hb]
    have hs:=h1.by_
    rcases hs with h|⟨b,o,c,L,rfl,ha,hl,hm⟩
    · exact .inl h
    · have hb:σ.next+13≤b:=h1.2 b rfl
      refine .inr ⟨b,o,c,L,rfl,?_,hl,hm⟩
      show lookF ((σ.next+11,_)::σ1.bl) b=_
      rw[lookF_cons,if_neg (by simp only[];omega)];exact ha
  have wb:=wk.fr fb
  obtain⟨u5,σ5,g5,s5⟩:=hP σb w (σ.next+11) u u1 L (octN x (lenU x)) wb.pw wb.tidy (by rw[octN_length];omega) (by rw[octN_length];omega) (octN_lt _ _) ab hu
  rw[octN_length,octN_bits]at s5
  have lw:∀b,Own1 w u b→b<σ.next:=fun b hb=>by
    rcases hb with hb|hb
    · subst hb;exact wk.pw.at_.lt ht
    · exact wk.pw.d.lt ht hb
  have ae:=wk.e
  have h63:aopP (.conv (.toInt .u64) (.tmp 62)) [(62,.int .i64 v)]=some (.int .u64 (Int.ofNat (toU v))):=by
    show some (V.int .u64 (IntKind.u64.wrap v))=_
    rw[←wrapF_eq,toU_wrap]
  have h66:aopP (.conv (.toInt .u64) (.tmp 65)) [(65,.int .i64 lo)]=some (.int .u64 (Int.ofNat (toU lo))):=by
    show some (V.int .u64 (IntKind.u64.wrap lo))=_
    rw[←wrapF_eq,toU_wrap]
  have h67:aopP (.bin .sub .none (.tmp 63) (.tmp 66)) [(63,.int .u64 (Int.ofNat (toU v))),(66,.int .u64 (Int.ofNat (toU lo)))]=some (.int .u64 (Int.ofNat x)):=by
    show some (V.int .u64 (IntKind.u64.wrap (Int.ofNat (toU v)-Int.ofNat (toU lo))))=_
    rw[←wrapF_eq,usub,hxe]
  have go:Goes E D σ 13 0 (Own1 w u) G72_0 H72_0 ⟨[(0,.ptr eb 0),(2,.int .i64 v),(4,.ptr q 0)],σ.next+13,[σ.bl],[],0,[]⟩ _ σ5:=
    go_p (.ptr eb 0) rfl rfl <|
    go_p (.ptr eb 0) rfl rfl <|
    go_p (.ptr eb 0) rfl rfl <|
    go_l (.ptr w 0) (go_start ht) rfl (old_ld1 (b:=eb) (off:=0) rfl ae rfl ht wk.eo.not (beq_self _ rfl)) fun _ r1=>
    go_p (.int .i64 v) rfl rfl <|
    go_p (.int .u64 (Int.ofNat (toU v))) rfl h63 <|
    go_p (.ptr q 4) rfl rfl <|
    go_l (.int .i64 lo) r1 rfl (old_ld1 (b:=q) (off:=4) rfl aq hq ht oq.not (beq_self _ rfl)) fun _ r2=>
    go_p (.int .u64 (Int.ofNat (toU lo))) rfl h66 <|
    go_p (.int .u64 (Int.ofNat x)) rfl h67 <|
    go_k u1 r2 rfl (by decide) (S':=Nowhere) f1 (fun _ _ h=>h.elim) (fun _ h _ _=>h.elim) (call_of (vs:=[.int .u64 (Int.ofNat x)]) rfl rfl g1) fun _ _ _ r3=>
    go_a (.sl (σ.next+11) 0 1 (.ex 1)) (.cells [u1]) 2048 r3 rfl (by decide) (by decide) (build1 rfl h1.1.one) fun _ r4=>
    go_k (.tup []) (by rw[←hb]at r4;exact r4) rfl (by decide) (S':=Own1 w u) s5.f (fun _ _ h=>h) (fun b h h1 _=>by have:=lw b h;omega) (call_of (vs:=[.ptr w 0,.sl (σ.next+11) 0 1 (.ex 1)]) rfl rfl g5) fun _ _ _ r5=>
    go_nil r5
  obtain⟨d1,d2⟩:=go_draw (ops:=G72_0) go
  exact⟨_,u5,σ5,d1,Pst.behind fb s5⟩
end
structure Kp (σ:H) (w:Nat) (u:V) (q:Nat) (l:List V):Prop where
 a:Atc σ q l
 o:Off σ w u q
section
variable {σ σ1:H} {w q:Nat} {u u1:V} {l:List V} {L L1:List Nat}
theorem Kp.step (h:Kp σ w u q l) (s:Pst σ w u σ1 u1 L1) (ht:Tidy σ):Kp σ1 w u1 q l:=⟨s.at_ ht h.o h.a,s.off h.o⟩
theorem Kp.fr (h:Kp σ w u q l) (f:Fr Nowhere σ σ1) (ht:Tidy σ):Kp σ1 w u q l:=⟨f.at_ h.a ht (fun h=>h),h.o.fr f⟩
theorem Kp.new (h:Pw σ w u L) (ht:Tidy σ) (hq:σ.next≤q) (ht1:Tidy σ1) (a:Atc σ1 q l):Kp σ1 w u q l:=⟨a,Off.pw h ht hq (a.lt ht1)⟩
end
theorem toU_nat {z:Int} (h0:0≤z) (h1:z<18446744073709551616):(toU z:Int)=z:=by
 rw[toU_eq];exact Int.emod_eq_of_lt h0 h1
section
variable {E:List (Nat × Blk)} {D:Den} {N:Nat}
theorem eintX_F (hI:SpWithin (D 132)) (hF:SpEFlag (D 71)) (hS:SpSpnG (D 140)) (hB:SpBtw64 (D 141)) (hSi:SpSigned (D 143)) (hUn:SpUnsigned (D 142)) (hP:SpLPut (D 74)):SpEIntX (F72 E D (drawW E D) N):=by
 intro σ0 σ eb w u cs L h hl hh mo lo hi v wk hL hv hlo hhi hc hn
 obtain⟨inb,hin⟩:∃inb,inb=withinB h hl hh lo hi v:=⟨_,rfl⟩
 obtain⟨P,hPd⟩:∃P,P=(if mo=true then [if(!inb)=true then 1 else 0] else []:List Nat):=⟨_,rfl⟩
 have hPl:P.length≤1:=by rw[hPd];split<;>simp
 show ∃u' σ',T72_0 E D (drawW E D) (T72_1 E D (drawW E D)) eb 0 h hl hh mo lo hi v σ=some (.tup [],σ')∧_
 obtain⟨u3,σ3,k0,s3,q3⟩:∃u3 σ3,(∀K,T72_0 E D (drawW E D) K eb 0 h hl hh mo lo hi v σ=K eb 0 v σ.next 0 inb σ3)∧Pst σ w u σ3 u3 (L++P)∧Kp σ3 w u3 σ.next (conG h hl hh mo lo hi):=by
  obtain⟨σ1,e1,f1,a1,n1⟩:=mk_new wk.tidy (conG h hl hh mo lo hi)
  obtain⟨σ2,g2,f2⟩:=hI σ1 h hl hh mo lo hi v f1.tidy
  rw[←hin]at g2
  have f12:=f1.trans f2 (fun _ _ h=>h)
  have a2:=f2.at_ a1 f1.tidy (fun h=>h)
  have wk2:=wk.fr f12
  have kp2:Kp σ2 w u σ.next (conG h hl hh mo lo hi):=Kp.new wk.pw wk.tidy (Nat.le_refl _) f2.tidy a2
  unfold conG at e1 a1 a2
  cases mo with
  | true=>
   obtain⟨u3,σ3,g3,s3⟩:=hF σ2 eb w u L (!inb) cs wk2.e wk2.pw wk2.tidy (by omega)
   refine⟨u3,σ3,fun K=>?_,?_,kp2.step s3 wk2.tidy⟩
   ·unfold T72_0
    simp -implicitDefEqProofs only [↓rP,rA,Nat.reduceEqDiff,Nat.reduceLT,Nat.reduceLeDiff,↓e1,↓ldnK_is a1,↓g2,↓ldK_is a2,↓g3]
   ·rw[hPd];exact Pst.behind f12 s3
  | false=>
   refine⟨u,σ2,fun K=>?_,?_,kp2⟩
   ·unfold T72_0
    simp -implicitDefEqProofs only [↓rP,rA,Nat.reduceEqDiff,Nat.reduceLT,Nat.reduceLeDiff,↓e1,↓ldnK_is a1,↓g2,↓ldK_is a2]
   ·rw[hPd,if_neg (by decide),List.append_nil];exact Pst.behind f12 (Pst.refl wk2.pw wk2.tidy)
 have wk3:=wk.step s3
 obtain⟨σ4,g4,f4⟩:=hS σ3 h hl hh mo lo hi wk3.tidy hc
 have wk4:=wk3.fr f4
 have q4:=q3.fr f4 wk3.tidy
 have a3:=q3.a
 have a4:=q4.a
 have ee:=wk4.enc (E:=E)
 have hlen:(L++P).length<1000000:=by rw[List.length_append];omega
 obtain⟨eC,uC,σC,gC,sC⟩:=reg_s (E:=E) (D:=D) hSi hP hv wk4 hlen
 obtain⟨eU,uU,σU,gU,sU⟩:=reg_u (E:=E) (D:=D) (v:=v) (lo:=lo) hUn hP wk4 hlen q4.a rfl q4.o
 have dC:∀κ:Env→H→Ans,gdrawK (drawW E D G72_1 H72_1 [(0,.ptr eb 0),(2,.int .i64 v)] σ4) κ=κ eC σC:=fun κ=>by rw[gC];rfl
 have dU:∀κ:Env→H→Ans,gdrawK (drawW E D G72_0 H72_0 [(0,.ptr eb 0),(2,.int .i64 v),(4,.ptr σ.next 0)] σ4) κ=κ eU σU:=fun κ=>by rw[gU];rfl
 have us:=usubF v lo
 have fin:∀{X:List Nat} {u5:V} {σ5:H},encI h hl hh mo lo hi v=P++X→Pst σ4 w u3 σ5 u5 ((L++P)++X)→Pst σ w u σ5 u5 (L++encI h hl hh mo lo hi v):=fun he s=>by
  rw[he,←List.append_assoc];exact s3.trans (Pst.behind f4 s)
 unfold conG at a3 a4 g4
 cases hi1:inb with
 | false=>
  refine⟨uC,σC,?_,fin ?_ sC⟩
  ·rw[k0,hi1]
   unfold T72_1
   simp -implicitDefEqProofs only [↓rP,rA,Nat.reduceEqDiff,Nat.reduceLT,Nat.reduceLeDiff,↓ldnK_is a3,↓g4,↓dC]
  ·unfold encI
   rw[←hin,hi1,hPd,hi1]
   simp
 | true=>
  cases hb:(h&&(hl&&hh))with
  | true=>
   have hb':=hb
   rw[Bool.and_eq_true,Bool.and_eq_true]at hb'
   obtain⟨rfl,rfl,rfl⟩:=hb'
   have hw:(leF lo v&&leF v hi)=true:=by
    have:=hin;rw[hi1]at this
    unfold withinB at this
    simpa using this.symm
   rw[Bool.and_eq_true,leF_eq,leF_eq,decide_eq_true_eq,decide_eq_true_eq]at hw
   obtain⟨v1,v2⟩:=hv
   obtain⟨l1,l2⟩:=hlo
   obtain⟨h1,h2⟩:=hhi
   have t1:=toU_nat (z:=v-lo) (by omega) (by omega)
   have t2:=toU_nat (z:=hi-lo) (by omega) (by omega)
   obtain⟨uA,σA,gA,sA⟩:=hB σ4 w u3 _ (toU (v-lo)) (toU (hi-lo)) wk4.pw wk4.tidy (by omega) (by omega) (hn rfl)
   rw[hb,if_pos rfl,usubF]at g4
   refine⟨uA,σA,?_,fin ?_ sA⟩
   ·rw[k0,hi1]
    unfold T72_1
    simp -implicitDefEqProofs only [↓rP,rA,Nat.reduceEqDiff,Nat.reduceLT,Nat.reduceLeDiff,↓ldnK_is a3,↓g4,↓ee,↓ldK_is a4,us,↓gA]
   ·unfold encI
    rw[←hin,hi1,hPd,hi1]
    simp
  | false=>
   rw[hb,if_neg (by decide)]at g4
   cases h with
   | false=>
    refine⟨uC,σC,?_,fin ?_ sC⟩
    ·rw[k0,hi1]
     unfold T72_1
     simp -implicitDefEqProofs only [↓rP,rA,Nat.reduceEqDiff,Nat.reduceLT,Nat.reduceLeDiff,↓ldnK_is a3,↓g4,↓ldK_is a4,↓dC]
    ·unfold encI
     rw[←hin,hi1,hPd,hi1]
     simp
   | true=>
    cases hl with
    | false=>
     refine⟨uC,σC,?_,fin ?_ sC⟩
     ·rw[k0,hi1]
      unfold T72_1
      simp -implicitDefEqProofs only [↓rP,rA,Nat.reduceEqDiff,Nat.reduceLT,Nat.reduceLeDiff,↓ldnK_is a3,↓g4,↓ldK_is a4,↓dC]
     ·unfold encI
      rw[←hin,hi1,hPd,hi1]
      simp
    | true=>
     cases hh with
     | true=>cases hb
     | false=>
      refine⟨uU,σU,?_,fin ?_ sU⟩
      ·rw[k0,hi1]
       unfold T72_1
       simp -implicitDefEqProofs only [↓rP,rA,Nat.reduceEqDiff,Nat.reduceLT,Nat.reduceLeDiff,↓ldnK_is a3,↓g4,↓ldK_is a4,↓dU]
      ·unfold encI
       rw[←hin,hi1,hPd,hi1]
       simp
theorem encI_len (h hl hh mo:Bool) (lo hi v:Int):(encI h hl hh mo lo hi v).length≤200:=by
 have a:=putN_len (toU (v-lo)) (lenU (toU (v-lo)))
 have b:=putN_len (toU v) (lenS v)
 have c:=lenU_range (toU (v-lo))
 have d:=lenS_range v
 have e:=widN_le 60 (toU (hi-lo))
 unfold encI abovB freeB
 rw[List.length_append]
 have p:(if mo=true then [if(!withinB h hl hh lo hi v)=true then 1 else 0] else []:List Nat).length≤1:=by split<;>simp
 refine Nat.le_trans (Nat.add_le_add p (?_:_≤100)) (by decide)
 split
 ·rw[bitsOf_length];omega
 ·split<;>omega
def Ty.conX (x:Ty) (h hl hh mo:Bool) (lo hi:Int):Prop:=x.has=h∧x.hasLow=hl∧x.hasHigh=hh∧x.conMore=mo∧x.low=lo∧x.high=hi
theorem vintX_F {W:DrawFn} (hE:SpEIntX (D 72)) {nT:Nat} {ty:Nat→Ty} {i:Nat} {h hl hh mo:Bool} {lo hi v:Int} (hi':i<nT) (hk:(ty i).kind=Int.ofNat 2) (hc:(ty i).conX h hl hh mo lo hi) (hv:In64i v) (hlo:In64i lo) (hhi:In64i hi) (hlh:((h&&(hl&&hh))&&ltF hi lo)=false) (hn:(h&&(hl&&hh))=true→toU (hi-lo)<2 ^ 60)
  {σ0 σ:H} {eb w:Nat} {u:V} {L:List Nat} {nm:BS} {nv rv tv:V} (ht0:Tidy σ0) (T:Tb σ0 nT ty nv rv tv) (k:Wk σ0 σ eb w u [.str nm,nv,rv,tv] L) (hl':L.length<100000) :
  ∃u' σ',F39 E D W N [.ptr eb 0,.int .i64 (Int.ofNat i),.agg (Vc.int v).c] σ=some (.tup [],σ')∧Pst σ w u σ' u' (L++encI h hl hh mo lo hi v):=by
 obtain⟨σ1,e1,f1,a1,n1⟩:=mk_new k.tidy [.ptr eb 0]
 obtain⟨σ2,e2,f2,a2,n2⟩:=mk_new f1.tidy (intC v)
 obtain⟨σ3,e3,f3,a3,n3⟩:=mk_new f2.tidy [.int .i64 (Int.ofNat 0),.nils,.bool false,.bool false,.bool false,.bool false,.int .i64 (Int.ofNat 0),.int .i64 (Int.ofNat 0),.nils,.nils,.int .i64 (Int.ofNat 0),.bool false,.int .i64 (Int.ofNat 0)]
 obtain⟨σ4,e4,f4,a4⟩:=mk_set f3.tidy a3 (ty i).c
 have f02:=f1.trans f2 (fun _ _ h=>h)
 have l2:=f02.le
 have f24:Fr Nowhere σ2 σ4:=f3.trans f4 (fun b hb e=>by omega)
 have f04:=f02.trans f24 (fun _ _ h=>h)
 have k2:=k.fr f02
 have k4:=k.fr f04
 obtain⟨u5,σ5,g5,s5⟩:=hE k4 hl' hv hlo hhi hlh hn
 refine⟨u5,σ5,?_,Pst.behind f04 s5⟩
 have a12:=f2.at_ a1 f1.tidy (fun h=>h)
 have a14:=f24.at_ a12 f2.tidy (fun h=>h)
 have a24:=f24.at_ a2 f2.tidy (fun h=>h)
 have rd:∀κ,iaddrSK 13 tv (Int.ofNat i) (fun b o=>ldnK E σ2 b o 13 κ)=κ (ty i).c:=fun κ=>(T.row.fr0 k2.f ht0).all hi' κ
 have st:∀κ:H→Ans,stK 13 σ2.next 0 (.agg (ty i).c) σ3 κ=κ σ4:=fun κ=>by
  rw[stK_at a3 (by unfold Ty.c;simp[cells_agg,allOne_cons,allOne_nil,one_int,one_bool,(ty i).oneT,(ty i).oneI,(ty i).oneF])]
  show κ (setF σ3 σ2.next (.cells (ty i).c))=_
  rw[e4]
 have ee:=k2.e
 obtain⟨c1,c2,c3,c4,c5,c6⟩:=hc
 unfold conG at g5
 unfold Ty.c at rd st a4
 unfold intC vc at e2 a2 a24
 show T39_0 E D W _ (.ptr eb 0) (Int.ofNat i) (Int.ofNat 2) v .nils .nils (Int.ofNat 0) .nils σ=_
 unfold T39_0
 simp -implicitDefEqProofs only [↓rP,rA,Nat.reduceEqDiff,Nat.reduceLT,Nat.reduceLeDiff,↓e1,↓e2,↓ldK_is a12,↓ldK_is ee,↓rd,↓e3,↓st,↓ldK_is a4,↓ldnK_is a4,hk,c1,c2,c3,c4,c5,c6,↓ldK_is a14,↓ldK_is a24,↓g5]
end
def padB (L:List Nat):List Nat:=if L.length=0 then [0] else pack L
theorem padB_len (L:List Nat):(padB L).length=max 1 ((L.length+7) / 8):=by
 unfold padB
 split
 ·rename_i h;rw[h];rfl
 ·rw[pack_length];unfold packN;omega
def SpWBytesP (F:List V→H→Ans):Prop:=∀(σ:H) (w:Nat) (u:V) (L:List Nat),Pw σ w u L→Tidy σ→L.length<8000000 →
 ∃v σ',F [.ptr w 0] σ=some (v,σ')∧Nb σ σ' v (nI (padB L))∧Fr Nowhere σ σ'
structure TyIs (σ:H) (x:Ty) (t:TyS):Prop where
 kind:x.kind=Int.ofNat t.kind
 has:x.has=t.con.has
 hasLow:x.hasLow=t.con.hasLow
 hasHigh:x.hasHigh=t.con.hasHigh
 conMore:x.conMore=t.con.more
 low:x.low=t.con.low
 high:x.high=t.con.high
 root:x.root=Int.ofNat t.root
 more:x.more=t.more
 of_:x.of_=Int.ofNat t.of_
 items:Src σ 3 t.items.length x.items (itC t.items)
 fields:Src σ 11 t.fields.length x.fields (fdC t.fields)
def tyZ:Ty:=⟨0,.nils,false,false,false,false,0,0,.nils,.nils,0,false,0,rfl,rfl,rfl⟩
theorem TbS.rows {n0:Nat} {σ:H} {az:List (List Nat)} {rs:List Nat} {tl:List TyS} {u rv lv:V} (h:TbS n0 σ az rs tl u rv lv) :
  ∃ty:Nat→Ty,Row σ 13 tl.length lv (fun i=>(ty i).c)∧∀(i:Nat) (t:TyS),tl[i]? = some t→TyIs σ (ty i) t:=by
 obtain⟨ws,h1,h2,h3⟩:=h.t
 have H:∀i:Nat,∃x:Ty,∀(t:TyS) (w:V × V × V),tl[i]? = some t→ws[i]? = some w→x.c=t.c w∧TyIs σ x t:=by
  intro i
  cases ht:tl[i]? with
  | none=>exact⟨tyZ,fun t w e=>by cases e⟩
  | some t=>
   have hlt:i<tl.length:=(List.getElem?_eq_some_iff.1 ht).1
   obtain⟨w,hw⟩:∃w,ws[i]? = some w:=⟨ws[i],List.getElem?_eq_getElem (by omega)⟩
   obtain⟨a,b,c,_⟩:=h3 i t w ht hw
   refine⟨⟨Int.ofNat t.kind,w.1,t.con.has,t.con.hasLow,t.con.hasHigh,t.con.more,t.con.low,t.con.high,w.2.1,w.2.2,Int.ofNat t.root,t.more,Int.ofNat t.of_,a.one,b.one,c.one⟩,fun t' w' e e'=>?_⟩
   cases e
   rw[hw]at e';cases e'
   exact⟨rfl,rfl,rfl,rfl,rfl,rfl,rfl,rfl,rfl,rfl,rfl,b,c⟩
 refine⟨fun i=>(H i).choose,?_,fun i t ht=>?_⟩
 ·have hz:=h.z
  rcases h1 with ⟨e0,e,_⟩|⟨b,o,c,L,e,ha,hle,hm⟩
  ·rw[e0,e];exact⟨.inl ⟨rfl,rfl⟩⟩
  ·rcases hz with hz|⟨b',n',c',hz⟩
   ·rw[e]at hz;cases hz
   ·rw[e]at hz;cases hz
    rw[e]
    rw[List.drop_zero]at hm
    refine⟨.inr ⟨b,c,L,rfl,ha,fun k hk=>⟨by omega,?_⟩⟩⟩
    obtain⟨t,ht⟩:∃t,tl[k]? = some t:=⟨tl[k],List.getElem?_eq_getElem hk⟩
    obtain⟨w,hw⟩:∃w,ws[k]? = some w:=⟨ws[k],List.getElem?_eq_getElem (by omega)⟩
    have:=tyC_sub tl ws k t w ht hw
    rw[hm,List.drop_take,List.take_take,Nat.min_eq_left (by omega)]at this
    rw[this]
    exact((H k).choose_spec t w ht hw).1.symm
 ·have hlt:i<tl.length:=(List.getElem?_eq_some_iff.1 ht).1
  obtain⟨w,hw⟩:∃w,ws[i]? = some w:=⟨ws[i],List.getElem?_eq_getElem (by omega)⟩
  exact((H i).choose_spec t w ht hw).2
section
variable {E:List (Nat × Blk)} {D:Den} {W:DrawFn} {N:Nat} {σ σ':H} {n p nT:Nat} {ty:Nat→Ty} {nm:BS} {nv rv tv:V} {rest:List V}
theorem wwbytesP_F (hL:SpWLen (D 85)) (hB:SpWBytes (D 86)):SpWBytesP (F40 E D W N):=by
 intro σ w u L h ht hl
 have gl:=hL σ w u L h
 cases hd:decide (L.length=0)with
 | true=>
  have h0:=of_decide_eq_true hd
  obtain⟨σ1,e1,f1,a1,n1⟩:=mk_new ht [.int .u8 (Int.ofNat 0)]
  refine⟨.sl σ.next 0 1 (.ex 1),σ1,?_,?_,f1⟩
  ·show T40_0 E D W (.ptr w 0) σ=_
   unfold T40_0
   simp -implicitDefEqProofs only [↓rP,rA,Nat.reduceEqDiff,Nat.reduceLT,Nat.reduceLeDiff,↓eqK_pn,↓gl,hd,↓e1]
  ·unfold padB
   rw[if_pos h0]
   exact⟨.inr ⟨σ.next,rfl,a1,rfl⟩,fun b hb=>by cases hb;exact Nat.le_refl _⟩
 | false=>
  have h0:=of_decide_eq_false hd
  obtain⟨v,σ1,g1,n1,f1⟩:=hB σ w u L h ht hl (by omega)
  refine⟨v,σ1,?_,?_,f1⟩
  ·show T40_0 E D W (.ptr w 0) σ=_
   unfold T40_0
   simp -implicitDefEqProofs only [↓rP,rA,Nat.reduceEqDiff,Nat.reduceLT,Nat.reduceLeDiff,↓eqK_pn,↓gl,hd,↓g1,↓rtOne_of n1.1.one]
  ·unfold padB
   rw[if_neg h0];exact n1
theorem fitsIntB_F (hP:SpPlain (D 131)) (hW:SpWithin (D 132)) (ht:Tidy σ) (hc:Ck σ p nT ty nm nv rv tv rest) {i dp:Nat} (hi:i<nT) (hd:dp≤17) (hk:(ty i).kind=Int.ofNat 2) (n:Int) :
  ∃σ',F65 E D W N [.ptr p 0,.int .i64 (Int.ofNat i),.agg (intC n),.int .i64 (Int.ofNat dp)] σ=some (.bool ((ty i).conMore || withinB (ty i).has (ty i).hasLow (ty i).hasHigh (ty i).low (ty i).high n),σ')∧Fr Nowhere σ σ':=by
 obtain⟨σ1,e1,f1,a1,n1⟩:=mk_new ht (intC n)
 have c1:=hc.fr f1 ht
 obtain⟨σ2,g2,f2⟩:=hP σ1 (Int.ofNat 1) (Int.ofNat 2) n (Int.ofNat 0) .nils .nils .nils 0 0 0 f1.tidy Len.nils Len.nils Len.nils
 have a2:=f2.at_ a1 f1.tidy (fun h=>h)
 obtain⟨σ3,g3,f3⟩:=hW σ2 (ty i).has (ty i).hasLow (ty i).hasHigh (ty i).conMore (ty i).low (ty i).high n f2.tidy
 have f12:=f1.trans f2 (fun _ _ h=>h)
 have rd:∀κ,iaddrSK 13 tv (Int.ofNat i) (fun b o=>ldnK E σ1 b o 13 κ)=κ (ty i).c:=fun κ=>c1.row.all hi κ
 have hp:plainB (Int.ofNat 1) (Int.ofNat 2) n 0 0 (Int.ofNat 0) 0=true:=rfl
 have hl:=c1.row.len
 rw[hp]at g2
 unfold intC at e1 a1 a2 ⊢
 unfold vc at e1 a1 a2 g2 ⊢
 have d1:decide (nT≤i)=false:=decide_eq_false (by omega)
 have d2:decide (17<dp)=false:=decide_eq_false (by omega)
 show ∃σ',T65_0 E D W _ p 0 (Int.ofNat i) (Int.ofNat 2) n .nils .nils (Int.ofNat 0) .nils (Int.ofNat dp) σ=_∧_
 unfold T65_0
 simp -implicitDefEqProofs only [↓rP,rA,Nat.reduceEqDiff,Nat.reduceLT,Nat.reduceLeDiff,Nat.not_lt_zero,↓e1,↓c1.types,↓hl.2,d1,d2,↓rd,Ty.c,hk,(ty i).oneT,(ty i).oneI,(ty i).oneF,↓ldK_is a1,↓ldnK_is a1,↓g2,↓ldK_is a2,↓g3]
 cases hm:(ty i).conMore with
 | true=>exact⟨σ2,rfl,f12⟩
 | false=>
  exact⟨σ3,rfl,f12.trans f3 (fun _ _ h=>h)⟩
theorem FitsN_F {i:Nat} {v:Vc} (ht:Tidy σ) (hr:Row σ 13 nT tv fun i=>(ty i).c) (h1:nv.one=true) (h2:rv.one=true) (h3:tv.one=true)
  (hF:∀(σ1:H) (p:Nat),Tidy σ1→Fr Nowhere σ σ1→Ck σ1 p nT ty nm nv rv tv [.bool false]→∃σ2,D 65 [.ptr p 0,.int .i64 (Int.ofNat i),.agg v.c,.int .i64 (Int.ofNat 1)] σ1=some (.bool false,σ2)∧Fr Nowhere σ1 σ2) :
  ∃σ',F36 E D W N [.agg [.str nm,nv,rv,tv],.int .i64 (Int.ofNat i),.agg v.c] σ=some (.bool false,σ')∧Fr Nowhere σ σ':=by
 obtain⟨σ1,e1,f1,a1,n1⟩:=mk_new ht [.str nm,nv,rv,tv]
 obtain⟨σ2,e2,f2,a2,n2⟩:=mk_new f1.tidy v.c
 obtain⟨σ3,e3,f3,a3,n3⟩:=mk_new f2.tidy [.str nm,nv,rv,tv,.bool false]
 have f02:=f1.trans f2 (fun _ _ h=>h)
 have f03:=f02.trans f3 (fun _ _ h=>h)
 have r3:=hr.fr0 f03 ht
 have c3:Ck σ3 σ2.next nT ty nm nv rv tv [.bool false]:=⟨a3,h1,h2,h3,r3,fun b hb e=>by
  subst e
  have lo:=f02.le
  rcases hr.is with ⟨_,rfl⟩|⟨b,c,L,rfl,ha,_⟩
  ·exact hb
  ·have:=ha.lt ht
   have hb:σ2.next=b:=hb
   omega⟩
 obtain⟨σ4,g4,f4⟩:=hF σ3 σ2.next f3.tidy f03 c3
 have f04:=f03.trans f4 (fun _ _ h=>h)
 have a12:=f2.at_ a1 f1.tidy (fun h=>h)
 have a23:=f3.at_ a2 f2.tidy (fun h=>h)
 have a24:=f4.at_ a23 f3.tidy (fun h=>h)
 refine⟨σ4,?_,f04⟩
 unfold Vc.c at e2 a2 a23 a24 g4
 show T36_0 E D W nm nv rv tv (Int.ofNat i) v.k v.n v.b v.l v.r v.m σ=_
 unfold T36_0
 simp -implicitDefEqProofs only [↓rP,rA,Nat.reduceEqDiff,Nat.reduceLT,Nat.reduceLeDiff,h1,h2,h3,v.oneB,v.oneL,v.oneM,↓e1,↓e2,↓e3,↓ldnK_is a12,↓ldnK_is a23,↓g4]
def SpRt1 (F:List V→H→Ans):Prop:=∀(σ:H) (x:Ty) (nf ni r:Nat),Tidy σ→Len x.fields nf→Len x.items ni→x.root=Int.ofNat r→r≤nf+ni→nf+ni≤10000→∃σ',F [.agg x.c] σ=some (.bool false,σ')∧Fr Nowhere σ σ'
theorem rt1_F:SpRt1 (F68 E D W N):=by
 intro σ x nf ni r ht hf hi hr hle hs
 obtain⟨σ1,e1,f1,a1,n1⟩:=mk_new ht x.c
 refine⟨σ1,?_,f1⟩
 have sf:=hf.2
 have si:=hi.2
 have d0:decide (r<0)=false:=decide_eq_false (by omega)
 have d1:decide (nf+ni<r)=false:=decide_eq_false (by omega)
 have ad:addF .i64 (Int.ofNat nf) (Int.ofNat ni)=Int.ofNat (nf+ni):=addF_nat (by omega)
 unfold Ty.c at e1 a1
 rw[hr]at e1 a1
 show T68_0 E D W x.kind x.tags x.has x.hasLow x.hasHigh x.conMore x.low x.high x.items x.fields x.root x.more x.of_ σ=_
 rw[hr]
 unfold T68_0
 simp -implicitDefEqProofs only [↓rP,rA,Nat.reduceEqDiff,Nat.reduceLT,Nat.reduceLeDiff,x.oneT,x.oneI,x.oneF,↓e1,↓ldK_is a1,↓sf,↓si,ad,d0,d1]
def SpIdxR (f:FuncId) (F:List V→H→Ans) (D:Den):Prop:=∀{σ:H} {tv:V} {n:Nat} {ty:Nat→Ty},Tidy σ→Row σ 13 n tv (fun i=>(ty i).c)→(∀(σ1:H) (k:Nat),k<n→Fr Nowhere σ σ1→∃σ2,D f [.agg (ty k).c] σ1=some (.bool false,σ2)∧Fr Nowhere σ1 σ2)→n≤1000 →
 ∃σ',F [tv,.fn f [] []] σ=some (.int .i64 (Int.negSucc 0),σ')∧Fr Nowhere σ σ'
theorem idxR_F {f:FuncId} (hN:1000<N):SpIdxR f (F137 E D W N) D:=by
 intro σ tv n ty ht hr hq hn
 have sl:=hr.len.2
 have loop:∀(m n' i:Nat) (σ1:H),i+m=n→m<n'→Fr Nowhere σ σ1→∃σ2,L137_2 E D W N n' tv (.fn f [] []) (Int.ofNat n) (Int.ofNat i) σ1=some (.int .i64 (Int.negSucc 0),σ2)∧Fr Nowhere σ σ2:=by
  intro m
  induction m with
  | zero=>
   intro n' i σ1 hi hn' f1
   obtain⟨n',rfl⟩:∃k,n'=k+1:=⟨n'-1,by omega⟩
   refine⟨σ1,?_,f1⟩
   have d1:decide (i<n)=false:=decide_eq_false (by omega)
   show T137_2 E D W _ _ tv (.fn f [] []) (Int.ofNat n) (Int.ofNat i) σ1=_
   unfold T137_2
   rw[ltF_nat,d1,condK_false]
   rfl
  | succ m ih=>
   intro n' i σ1 hi hn' f1
   obtain⟨n',rfl⟩:∃k,n'=k+1:=⟨n'-1,by omega⟩
   have hlt:i<n:=by omega
   have d1:decide (i<n)=true:=decide_eq_true hlt
   have rd:∀κ,iaddrSK 13 tv (Int.ofNat i) (fun b o=>ldnK E σ1 b o 13 κ)=κ (ty i).c:=fun κ=>(hr.fr0 f1 ht).all hlt κ
   obtain⟨σ2,g2,f2⟩:=hq σ1 i hlt f1
   obtain⟨σ3,g3,f3⟩:=ih n' (i+1) σ2 (by omega) (by omega) (f1.trans f2 (fun _ _ h=>h))
   refine⟨σ3,?_,f3⟩
   have cv:∀κ:V→H→Ans,callvK D (.fn f [] []) [.agg (ty i).c] σ1 κ=κ (.bool false) σ2:=fun κ=>by
    show callK (D f [.agg (ty i).c] σ1) κ=_
    rw[g2];rfl
   unfold Ty.c at rd cv
   have key:∀K R,T137_2 E D W K R tv (.fn f [] []) (Int.ofNat n) (Int.ofNat i) σ1=R tv (.fn f [] []) (Int.ofNat n) (Int.ofNat (i+1)) σ2:=by
    intro K R
    unfold T137_2
    simp -implicitDefEqProofs only [↓rP,rA,Nat.reduceEqDiff,Nat.reduceLT,Nat.reduceLeDiff,d1,↓rd,(ty i).oneT,(ty i).oneI,(ty i).oneF,↓cv,addF_nat (show i+1≤9223372036854775807 by omega)]
   exact(key _ _).trans g3
 obtain⟨σ2,g2,f2⟩:=loop n N 0 σ (by omega) (by omega) (Fr.refl ht)
 refine⟨σ2,?_,f2⟩
 show T137_0 E D W (L137_2 E D W N N) tv (.fn f [] []) σ=_
 have key:∀K,T137_0 E D W K tv (.fn f [] []) σ=K tv (.fn f [] []) (Int.ofNat n) (Int.ofNat 0) σ:=by
  intro K
  unfold T137_0
  simp -implicitDefEqProofs only [↓rP,rA,Nat.reduceEqDiff,Nat.reduceLT,Nat.reduceLeDiff,↓sl]
 exact(key _).trans g2
theorem conR_F {f:FuncId} {D':Den} (hI:SpIdxR f (D 137) D') {tv:V} {ty:Nat→Ty} {σ:H} (ht:Tidy σ) (hr:Row σ 13 n tv (fun i=>(ty i).c)) (hq:∀(σ1:H) (k:Nat),k<n→Fr Nowhere σ σ1→∃σ2,D' f [.agg (ty k).c] σ1=some (.bool false,σ2)∧Fr Nowhere σ1 σ2) (hn:n≤1000) :
  ∃σ',F67 E D W N [tv,.fn f [] []] σ=some (.bool false,σ')∧Fr Nowhere σ σ':=by
 obtain⟨σ1,g1,f1⟩:=hI ht hr hq hn
 refine⟨σ1,?_,f1⟩
 show T67_0 E D W tv (.fn f [] []) σ=_
 unfold T67_0
 simp -implicitDefEqProofs only [↓rP,rA,Nat.reduceEqDiff,Nat.reduceLT,Nat.reduceLeDiff,↓g1]
 rfl
theorem rootedG_F {tv:V} {σ:H} (ht:Tidy σ) (h1:nv.one=true) (h2:rv.one=true) (h3:tv.one=true) (hC:∀σ1,Fr Nowhere σ σ1→∃σ2,D 67 [tv,.fn 68 [] []] σ1=some (.bool false,σ2)∧Fr Nowhere σ1 σ2) :
  ∃σ',F37 E D W N [.agg [.str nm,nv,rv,tv]] σ=some (.bool true,σ')∧Fr Nowhere σ σ':=by
 obtain⟨σ1,e1,f1,a1,n1⟩:=mk_new ht [.str nm,nv,rv,tv]
 obtain⟨σ2,g2,f2⟩:=hC σ1 f1
 refine⟨σ2,?_,f1.trans f2 (fun _ _ h=>h)⟩
 show T37_0 E D W nm nv rv tv σ=_
 unfold T37_0
 simp -implicitDefEqProofs only [↓rP,rA,Nat.reduceEqDiff,Nat.reduceLT,Nat.reduceLeDiff,h1,h2,h3,↓e1,↓ldK_is a1,↓g2]
theorem encL_F {i:Nat} {v:Vc} {σ:H} {Z:List Nat} (ht:Tidy σ) (h1:nv.one=true) (h2:rv.one=true) (h3:tv.one=true)
  (hFi:∀σ1,Tidy σ1→Fr Nowhere σ σ1→∃σ',D 36 [.agg [.str nm,nv,rv,tv],.int .i64 (Int.ofNat i),.agg v.c] σ1=some (.bool true,σ')∧Fr Nowhere σ1 σ')
  (hRo:∀σ1,Tidy σ1→Fr Nowhere σ σ1→∃σ',D 37 [.agg [.str nm,nv,rv,tv]] σ1=some (.bool true,σ')∧Fr Nowhere σ1 σ')
  (hRu:∀σ1,Tidy σ1→Fr Nowhere σ σ1→∃σ',D 38 [.agg v.c,.int .i64 (Int.ofNat 2)] σ1=some (.bool true,σ')∧Fr Nowhere σ1 σ')
  (hV:∀(σ0 σ1:H) (eb w:Nat),Tidy σ0→Fr Nowhere σ σ0→Wk σ0 σ1 eb w .nils [.str nm,nv,rv,tv] []→∃u' σ',D 39 [.ptr eb 0,.int .i64 (Int.ofNat i),.agg v.c] σ1=some (.tup [],σ')∧Pst σ1 w .nils σ' u' Z)
  (hB:SpWBytesP (D 40)) (hZ':Z.length≤500000) :
  ∃b σ',F15 E D W N [.agg [.str nm,nv,rv,tv],.int .i64 (Int.ofNat i),.agg v.c] σ=some (.tup [b,.int .i64 (Int.ofNat 0)],σ')∧Nb σ σ' b (nI (padB Z))∧Fr Nowhere σ σ':=by
 obtain⟨σ1,e1,f1,a1,n1⟩:=mk_new ht [.str nm,nv,rv,tv]
 obtain⟨σ2,e2,f2,a2,n2⟩:=mk_new f1.tidy v.c
 have f02:=f1.trans f2 (fun _ _ h=>h)
 obtain⟨σ3,g3,f3⟩:=hFi σ2 f02.tidy f02
 have f03:=f02.trans f3 (fun _ _ h=>h)
 obtain⟨σ4,g4,f4⟩:=hRo σ3 f03.tidy f03
 have f04:=f03.trans f4 (fun _ _ h=>h)
 obtain⟨σ5,g5,f5⟩:=hRu σ4 f04.tidy f04
 have f05:=f04.trans f5 (fun _ _ h=>h)
 obtain⟨σ6,e6,f6,a6,n6⟩:=mk_new f05.tidy [.nils,.int .i64 (Int.ofNat 0)]
 obtain⟨σ7,e7,f7,a7,n7⟩:=mk_new f6.tidy [.ptr σ5.next 0,.str nm,nv,rv,tv]
 have f57:=f6.trans f7 (fun _ _ h=>h)
 have l6:=f6.le
 have a67:=f7.at_ a6 f6.tidy (fun h=>h)
 have p7:Pw σ7 σ5.next .nils []:=⟨a67,Dst.nil σ7 1,fun h=>h.elim,fun b hb=>by cases hb⟩
 have k7:Wk σ5 σ7 σ6.next σ5.next .nils [.str nm,nv,rv,tv] []:=⟨p7,f57,fun b hb=>by
  rcases hb with hb|hb
  ·exact Nat.le_of_eq hb.symm
  ·exact hb.elim,a7,⟨a7.lt f7.tidy,by omega,fun h=>h.elim⟩⟩
 obtain⟨u8,σ8,g8,s8⟩:=hV σ5 σ7 σ6.next σ5.next f05.tidy f05 k7
 have k8:=k7.step s8
 obtain⟨b,σ9,g9,n9,f9⟩:=hB σ8 σ5.next u8 Z k8.pw k8.tidy (by omega)
 have l5:=f05.le
 have l58:=k8.f.le
 refine⟨b,σ9,?_,⟨n9.1,fun q hq=>by have:=n9.2 q hq;omega⟩,(f05.trans k8.f (fun _ _ h=>h)).trans f9 (fun _ _ h=>h)⟩
 have a12:=f2.at_ a1 f1.tidy (fun h=>h)
 have a13:=f3.at_ a12 f02.tidy (fun h=>h)
 have a23:=f3.at_ a2 f02.tidy (fun h=>h)
 have a24:=f4.at_ a23 f03.tidy (fun h=>h)
 have a14:=f4.at_ a13 f03.tidy (fun h=>h)
 have a15:=f5.at_ a14 f04.tidy (fun h=>h)
 have a16:=f6.at_ a15 f05.tidy (fun h=>h)
 have a25:=f5.at_ a24 f04.tidy (fun h=>h)
 have a27:=f57.at_ a25 f05.tidy (fun h=>h)
 have ee:∀κ:V→Ans,ldK E σ8 σ6.next 0 κ=κ (.ptr σ5.next 0):=k8.enc
 have lb:∀κ:Nat→Ans,slenK b κ=κ (max 1 ((Z.length+7) / 8)):=fun κ=>by rw[n9.by_.slen,nI_length,padB_len]
 have d7:decide (70000<max 1 ((Z.length+7) / 8))=false:=decide_eq_false (by omega)
 unfold Vc.c at e2 a12 a2 a23 a24 a25 a27 g3 g5 g8
 show T15_0 E D W nm nv rv tv (Int.ofNat i) v.k v.n v.b v.l v.r v.m σ=_
 unfold T15_0
 simp -implicitDefEqProofs only [↓rP,rA,Nat.reduceEqDiff,Nat.reduceLT,Nat.reduceLeDiff,h1,h2,h3,v.oneB,v.oneL,v.oneM,↓e1,↓ldnK_is a12,↓e2,↓ldnK_is a2,↓g3,↓ldnK_is a13,↓g4,↓ldnK_is a24,↓g5,↓e6,↓ldnK_is a16,↓e7,↓ldnK_is a27,↓g8,↓ee,↓g9,↓rtOne_of n9.1.one,↓lb,d7]
theorem encN_F {i:Nat} {v:Vc} (ht:Tidy σ) (h1:nv.one=true) (h2:rv.one=true) (h3:tv.one=true)
  (hFi:∀σ1,Tidy σ1→Fr Nowhere σ σ1→∃σ',D 36 [.agg [.str nm,nv,rv,tv],.int .i64 (Int.ofNat i),.agg v.c] σ1=some (.bool false,σ')∧Fr Nowhere σ1 σ') :
  ∃σ',F15 E D W N [.agg [.str nm,nv,rv,tv],.int .i64 (Int.ofNat i),.agg v.c] σ=some (.tup [.nils,.int .i64 (Int.ofNat 13)],σ')∧Fr Nowhere σ σ':=by
 obtain⟨σ1,e1,f1,a1,n1⟩:=mk_new ht [.str nm,nv,rv,tv]
 obtain⟨σ2,e2,f2,a2,n2⟩:=mk_new f1.tidy v.c
 have f02:=f1.trans f2 (fun _ _ h=>h)
 obtain⟨σ3,g3,f3⟩:=hFi σ2 f02.tidy f02
 have a12:=f2.at_ a1 f1.tidy (fun h=>h)
 refine⟨σ3,?_,f02.trans f3 (fun _ _ h=>h)⟩
 unfold Vc.c at e2 a2 g3
 show T15_0 E D W nm nv rv tv (Int.ofNat i) v.k v.n v.b v.l v.r v.m σ=_
 unfold T15_0
 simp -implicitDefEqProofs only [↓rP,rA,Nat.reduceEqDiff,Nat.reduceLT,Nat.reduceLeDiff,h1,h2,h3,v.oneB,v.oneL,v.oneM,↓e1,↓ldnK_is a12,↓e2,↓ldnK_is a2,↓g3]
end
def SpFree (F:List V→H→Ans):Prop:=∀{σ:H} {w:Nat} {u:V} {L:List Nat} {v:Int},In64i v→Wr σ w u L→Tidy σ→L.length<7000000→∃u' σ',F [.ptr w 0,.int .i64 v] σ=some (.tup [],σ')∧Wst σ w u σ' u' (L++freeB v)
def SpAbov (F:List V→H→Ans):Prop:=∀{σ:H} {w:Nat} {u:V} {L:List Nat} {x:Nat},x<18446744073709551616→Wr σ w u L→Tidy σ→L.length<7000000→∃u' σ',F [.ptr w 0,.int .u64 (Int.ofNat x)] σ=some (.tup [],σ')∧Wst σ w u σ' u' (L++abovB x)
def SpFlg (F:List V→H→Ans):Prop:=∀(σ:H) (c:Bool),F [.bool c] σ=some (.int .u64 (Int.ofNat (if c=true then 1 else 0)),σ)
def SpRBy (F:List V→H→Ans):Prop:=∀(σ:H) (w:Nat) (u:V) (L:List Nat),Wr σ w u L→Tidy σ→Bin L→L.length≤5000→∃v σ',F [.ptr w 0] σ=some (v,σ')∧Nb σ σ' v (nI (padB L))∧Fr Nowhere σ σ'
def SpSmB (F:List V→H→Ans):Prop:=∀{σ:H} {x y:V} {l:List Int},By σ x l→By σ y l→F [x,y] σ=some (.bool true,σ)
section
variable {E:List (Nat × Blk)} {D:Den} {W:DrawFn} {N:Nat} {σ:H}
theorem hbytes_F:SpSmB (F22 E D W N):=by
 intro σ x y l hx hy
 show T22_0 E D W x y σ=_
 unfold T22_0
 rw[hx.str,hy.str,BS.beq_nats,decide_eq_true rfl]
theorem flg_F:SpFlg (F25 E D W N):=by
 intro σ c
 show T25_0 E D W c σ=_
 unfold T25_0
 cases c<;>rfl
theorem two_bits (hB:SpBits (D 20)) {w:Nat} {u:V} {L:List Nat} {x n:Nat} (hx:x≤18446744073709551615) (hn:n≤8) (h:Wr σ w u L) (ht:Tidy σ) (hl:L.length<7000000) :
  ∃u1 σ1 u2 σ2,D 20 [.ptr w 0,.int .u64 (Int.ofNat n),.int .i64 (Int.ofNat 8)] σ=some (.tup [],σ1)∧D 20 [.ptr w 0,.int .u64 (Int.ofNat x),.int .i64 (Int.ofNat (8*n))] σ1=some (.tup [],σ2)∧Wst σ w u σ1 u1 (L++bitsOf 8 n)∧Wst σ w u σ2 u2 (L++putN x n):=by
 obtain⟨u1,σ1,g1,s1⟩:=hB σ w u L n 8 h ht (by omega) (by omega) (by decide)
 obtain⟨u2,σ2,g2,s2⟩:=hB σ1 w u1 _ x (8*n) s1.wr s1.f.tidy (by rw[List.length_append,bitsOf_length];omega) hx (by omega)
 exact⟨u1,σ1,u2,σ2,g1,g2,s1,by have:=s1.trans s2;rwa [List.append_assoc]at this⟩
theorem free_F (hB:SpBits (D 20)) (hN:8<N):SpFree (F24 E D W N):=by
 intro σ w u L v hv h ht hl
 have hr:=lenS_range v
 have tst:∀n:Nat,1≤n→(ltF (v / 2 ^ (8*(n-1))) (Int.negSucc 127) || ltF (Int.ofNat 127) (v / 2 ^ (8*(n-1))))=!enough v n:=fun n h1=>by
  have e:v / 2 ^ (8*n-1)=(v / 2 ^ (8*(n-1))) / 128:=by
   rw[show 8*n-1=8*(n-1)+7 by omega,Int.pow_add,Int.ediv_ediv_of_nonneg (Int.le_of_lt (Int.pow_pos (by decide)))];rfl
  unfold enough
  rw[e,ltF_eq,ltF_eq]
  generalize v / 2 ^ (8*(n-1))=k
  rw[Bool.eq_iff_iff]
  simp only[Bool.or_eq_true,Bool.not_eq_true',Bool.or_eq_false_iff,decide_eq_true_eq,decide_eq_false_iff_not,Int.ofNat_eq_natCast]
  omega
 have loop:∀(m n' n:Nat),n+m=lenS v→1≤n→m<n'→L24_2 E D W N n' (.ptr w 0) v (Int.ofNat n) (v / 2 ^ (8*(n-1))) σ=J24_1 E D W N (.ptr w 0) v (Int.ofNat (lenS v)) σ:=by
  intro m
  induction m with
  | zero=>
   intro n' n hn h1 hn'
   obtain⟨n',rfl⟩:∃k,n'=k+1:=⟨n'-1,by omega⟩
   have hn:n=lenS v:=by omega
   subst hn
   have t:=tst (lenS v) h1
   rw[lenS_enough hv,Bool.not_true,Bool.or_eq_false_iff]at t
   have key:∀K R,T24_2 E D W K R (.ptr w 0) v (Int.ofNat (lenS v)) (v / 2 ^ (8*(lenS v-1))) σ=K (.ptr w 0) v (Int.ofNat (lenS v)) σ:=by
    intro K R
    unfold T24_2
    simp -implicitDefEqProofs only [↓rP,rS,t.1,t.2]
   exact key _ _
  | succ m ih=>
   intro n' n hn h1 hn'
   obtain⟨n',rfl⟩:∃k,n'=k+1:=⟨n'-1,by omega⟩
   have t:=tst n h1
   rw[lenS_less v h1 (by omega),Bool.not_false]at t
   have sh:shrF .i64 (v / 2 ^ (8*(n-1))) 8=v / 2 ^ (8*((n+1)-1)):=by
    rw[shr_i64 _ (by decide),show 8*((n+1)-1)=8*(n-1)+8 by omega,Int.pow_add,Int.ediv_ediv_of_nonneg (Int.le_of_lt (Int.pow_pos (by decide)))]
   have key:∀K R,T24_2 E D W K R (.ptr w 0) v (Int.ofNat n) (v / 2 ^ (8*(n-1))) σ=R (.ptr w 0) v (Int.ofNat (n+1)) (v / 2 ^ (8*((n+1)-1))) σ:=by
    intro K R
    unfold T24_2
    rw[sh,addF_nat (by omega)]
    cases t1:ltF (v / 2 ^ (8*(n-1))) (Int.negSucc 127)with
    | true=>simp -implicitDefEqProofs only [↓rP,rS]
    | false=>
     rw[t1,Bool.false_or]at t
     simp -implicitDefEqProofs only [↓rP,rS,t]
   exact(key _ _).trans (ih n' (n+1) (by omega) (by omega) (by omega))
 obtain⟨u1,σ1,u2,σ2,g1,g2,s1,s2⟩:=two_bits hB (x:=toU v) (n:=lenS v) (by have:=toU_lt v;omega) hr.2 h ht hl
 refine⟨u2,σ2,?_,s2⟩
 have l0:=loop (lenS v-1) N 1 (by omega) (Nat.le_refl _) (by omega)
 rw[show v / 2 ^ (8*(1-1))=v from Int.ediv_one v]at l0
 refine(show F24 E D W N [.ptr w 0,.int .i64 v] σ=L24_2 E D W N N (.ptr w 0) v (Int.ofNat 1) v σ from rfl).trans (l0.trans ?_)
 show T24_1 E D W (.ptr w 0) v (Int.ofNat (lenS v)) σ=_
 have e1:wrapF .u64 (Int.ofNat (lenS v))=Int.ofNat (lenS v):=wrapF_nat (show lenS v≤18446744073709551615 by omega)
 have e2:mulF .i64 (Int.ofNat 8) (Int.ofNat (lenS v))=Int.ofNat (8*lenS v):=wrapF_nat (k := .i64) (m:=8*lenS v) (show _≤9223372036854775807 by omega)
 have e3:=toU_wrap v
 unfold T24_1
 simp -implicitDefEqProofs only [↓rP,rS,e1,e2,e3,↓g1,↓g2]
theorem abov_F (hB:SpBits (D 20)) (hN:8<N):SpAbov (F26 E D W N):=by
 intro σ w u L x hx h ht hl
 have hr:=lenU_range x
 have loop:∀(m n' n:Nat),n+m=lenU x→1≤n→m<n'→L26_2 E D W N n' (.ptr w 0) (Int.ofNat x) (Int.ofNat n) (Int.ofNat (x / 2 ^ (8*n))) σ=J26_1 E D W N (.ptr w 0) (Int.ofNat x) (Int.ofNat (lenU x)) σ:=by
  intro m
  induction m with
  | zero=>
   intro n' n hn h1 hn'
   obtain⟨n',rfl⟩:∃k,n'=k+1:=⟨n'-1,by omega⟩
   have hn:n=lenU x:=by omega
   subst hn
   have h0:x / 2 ^ (8*lenU x)=0:=by
    refine Nat.div_eq_of_lt ?_
    rcases Nat.lt_or_ge (lenU x) 8 with h|h
    ·exact lenU_at x h
    ·rw[show lenU x=8 by omega];exact hx
   have d:decide (0<x / 2 ^ (8*lenU x))=false:=decide_eq_false (by omega)
   have key:∀K R,T26_2 E D W K R (.ptr w 0) (Int.ofNat x) (Int.ofNat (lenU x)) (Int.ofNat (x / 2 ^ (8*lenU x))) σ=K (.ptr w 0) (Int.ofNat x) (Int.ofNat (lenU x)) σ:=by
    intro K R
    unfold T26_2
    rw[ltF_nat,d,condK_false]
   exact key _ _
  | succ m ih=>
   intro n' n hn h1 hn'
   obtain⟨n',rfl⟩:∃k,n'=k+1:=⟨n'-1,by omega⟩
   have hp:0<x / 2 ^ (8*n):=Nat.div_pos (lenU_less x h1 (by omega)) (Nat.pow_pos (by decide))
   have d:decide (0<x / 2 ^ (8*n))=true:=decide_eq_true hp
   have key:∀K R,T26_2 E D W K R (.ptr w 0) (Int.ofNat x) (Int.ofNat n) (Int.ofNat (x / 2 ^ (8*n))) σ=R (.ptr w 0) (Int.ofNat x) (Int.ofNat (n+1)) (Int.ofNat (x / 2 ^ (8*(n+1)))) σ:=by
    intro K R
    unfold T26_2
    rw[ltF_nat,d,condK_true,addF_nat (by omega),shrU _ (by decide),Nat.div_div_eq_div_mul,←Nat.pow_add,show 8*n+8=8*(n+1)by omega]
   exact(key _ _).trans (ih n' (n+1) (by omega) (by omega) (by omega))
 obtain⟨u1,σ1,u2,σ2,g1,g2,s1,s2⟩:=two_bits hB (x:=x) (n:=lenU x) (by omega) hr.2 h ht hl
 refine⟨u2,σ2,?_,s2⟩
 have l0:=loop (lenU x-1) N 1 (by omega) (Nat.le_refl _) (by omega)
 rw[←shrU x (show 8*1≤64 by decide)]at l0
 refine(show F26 E D W N [.ptr w 0,.int .u64 (Int.ofNat x)] σ=L26_2 E D W N N (.ptr w 0) (Int.ofNat x) (Int.ofNat 1) (shrF .u64 (Int.ofNat x) 8) σ from rfl).trans (l0.trans ?_)
 show T26_1 E D W (.ptr w 0) (Int.ofNat x) (Int.ofNat (lenU x)) σ=_
 have e1:wrapF .u64 (Int.ofNat (lenU x))=Int.ofNat (lenU x):=wrapF_nat (show lenU x≤18446744073709551615 by omega)
 have e2:mulF .i64 (Int.ofNat 8) (Int.ofNat (lenU x))=Int.ofNat (8*lenU x):=wrapF_nat (k := .i64) (m:=8*lenU x) (show _≤9223372036854775807 by omega)
 unfold T26_1
 simp -implicitDefEqProofs only [↓rP,rS,e1,e2,↓g1,↓g2]
theorem rby_F (hB:SpBytes 5000 (D 45)):SpRBy (F23 E D W N):=by
 intro σ w u L h ht hb hl
 obtain⟨v,σ1,g,n,f⟩:=hB σ w u L h ht hb hl
 have hln:(nI (pack L)).length=packN L.length:=by rw[nI_length,pack_length]
 have sl:∀κ:Nat→Ans,slenK v κ=κ (packN L.length):=fun κ=>by rw[n.1.slen,hln]
 show ∃v σ',T23_0 E D W w 0 σ=some (v,σ')∧_
 cases hd:decide (L.length=0)with
 | true=>
  have h0:=of_decide_eq_true hd
  obtain⟨σ2,e2,f2,a2,n2⟩:=mk_new f.tidy [.int .u8 (Int.ofNat 0)]
  have le:=f.le
  refine⟨.sl σ1.next 0 1 (.ex 1),σ2,?_,?_,f.trans f2 (fun _ _ h=>h)⟩
  ·have d1:decide (packN L.length=0)=true:=decide_eq_true (by rw[h0];rfl)
   unfold T23_0
   simp -implicitDefEqProofs only [↓rP,rA,Nat.reduceEqDiff,Nat.reduceLT,Nat.reduceLeDiff,↓g,↓rtOne_of n.1.one,↓sl,d1,↓e2]
  ·unfold padB
   rw[if_pos h0]
   exact⟨.inr ⟨σ1.next,rfl,a2,rfl⟩,fun b hb=>by cases hb;exact le⟩
 | false=>
  have h0:=of_decide_eq_false hd
  refine⟨v,σ1,?_,?_,f⟩
  ·have d1:decide (packN L.length=0)=false:=decide_eq_false (by unfold packN;omega)
   unfold T23_0
   simp -implicitDefEqProofs only [↓rP,rA,Nat.reduceEqDiff,Nat.reduceLT,Nat.reduceLeDiff,↓g,↓rtOne_of n.1.one,↓sl,d1]
  ·unfold padB
   rw[if_neg h0];exact n
theorem good_y (hB:SpRBy (D 23)) (hY:SpSmB (D 22)) {q w:Nat} {u b:V} {L:List Nat} {inn mo:Bool} (aq:Atc σ q [.bool mo]) (hi:(inn || mo)=true) (h:Wr σ w u L) (ht:Tidy σ) (hb:Bin L) (hl:L.length≤5000) (hy:By σ b (nI (padB L))) :
  ∃σ',F28 E D W N [.int .i64 (Int.ofNat 0),b,.bool inn,.ptr w 0,.ptr q 0] σ=some (.bool true,σ')∧Fr Nowhere σ σ':=by
 obtain⟨v,σ1,g1,n1,f1⟩:=hB σ w u L h ht hb hl
 have g2:=hY (hy.fr f1 ht) n1.by_
 refine⟨σ1,?_,f1⟩
 show T28_0 E D W (Int.ofNat 0) b inn (.ptr w 0) (.ptr q 0) σ=_
 unfold T28_0
 cases inn with
 | true=>simp -implicitDefEqProofs only [↓rP,rA,Nat.reduceEqDiff,Nat.reduceLT,Nat.reduceLeDiff,↓g1,↓rtOne_of n1.1.one,↓g2]
 | false=>
  rw[Bool.false_or]at hi
  subst hi
  simp -implicitDefEqProofs only [↓rP,rA,Nat.reduceEqDiff,Nat.reduceLT,Nat.reduceLeDiff,↓ldK_is aq,↓g1,↓rtOne_of n1.1.one,↓g2]
theorem good_n {q:Nat} {d:V} (aq:Atc σ q [.bool false]):F28 E D W N [.int .i64 (Int.ofNat 13),.nils,.bool false,d,.ptr q 0] σ=some (.bool true,σ):=by
 show T28_0 E D W (Int.ofNat 13) .nils false d (.ptr q 0) σ=_
 unfold T28_0
 simp -implicitDefEqProofs only [↓rP,rA,Nat.reduceEqDiff,Nat.reduceLT,Nat.reduceLeDiff,↓ldK_is aq]
end
end
end Go.Proofs.YtgjjnbddbbhloaaGreatDoor
