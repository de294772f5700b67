/- What the last text leans on, part 6 of 7: merged out of smaller texts. No condition. -/
import Derived.Test.YtgblfbajgpboiaaGreatDoorQ4
open Int renaming ofNat -> AA,negSucc -> Az,ofNat_eq_natCast -> Db,natCast_nonneg -> QL,toNat_of_nonneg -> ot
open Nat renaming reduceEqDiff -> AB,reduceLeDiff -> AD,reduceLT -> AE,le_refl -> AK,add -> AP,beq_eq -> AU,ble_eq -> Ac,ble -> Ag,beq -> Ak,lt_or_ge -> Av,zero_add -> BA,le_trans -> Bc,blt_eq -> Bu,blt -> B2,mul_one -> B8,mod_eq_of_lt -> CY,lt_irrefl -> C7,zero_le -> DZ,add_assoc -> D3,mul_le_mul_right -> EL,le_succ -> EM,min_eq_left -> Em,lt_of_lt_of_le -> E3,beq_refl -> F9,le_add_right -> GF,sub_self -> JG,div_lt_iff_lt_mul -> KG,mod_lt -> QI,eq_zero_or_pos -> QJ,pow_le_pow_right -> fM,add_mul -> fN
open Bool renaming and_eq_true -> AG,and_true -> A8,or_eq_false_iff -> Bd,or_eq_true -> Bk,true_and -> Co,eq_false_iff -> Dw,not_false -> FJ,eq_iff_iff -> Fg,or_true -> tO,and_false -> ABf
open List renaming getElem?_eq_getElem -> AM,length_cons -> AN,length_append -> AS,getElem?_eq_some_iff -> AY,mem_cons_self -> Ab,replicate -> As,getElem?_map -> Aw,mem_cons -> Ax,length_set -> A9,getElem?_eq_none -> BF,length_nil -> BQ,getElem?_append_right -> BR,eq_nil_of_length_eq_zero -> BW,length_take -> BY,getElem?_drop -> Bm,length_map -> CD,getElem?_take_of_lt -> CG,drop_drop -> CJ,getElem?_append_left -> CR,mem_singleton -> Cn,mem_of_getElem? -> DA,drop_eq_getElem_cons -> DB,getElem?_set_self -> DD,append_assoc -> DN,range -> Da,take_of_length_le -> Dj,all_eq_true -> Dk,mem_append -> EA,append_nil -> EC,take_length -> EN,not_mem_nil -> E5,drop_zero -> FI,take_add_one -> FW,nil_append -> Ff,take_zero -> IM,all_cons -> Jf,set_append_right -> KH,getElem?_set_ne -> Lm,drop_take -> Ln,replicate_succ -> NJ,drop_eq_nil_of_le -> Tx,take_take -> ABZ
open Option renaming bind_eq_some_iff -> AV,map_eq_some_iff -> Aa,bind_some -> C0
set_option linter.all false
set_option maxRecDepth 100000
namespace Go.Proofs.YtgblfbajgpboiaaGreatDoor
open Go Go.Og
noncomputable section
def Ot (l:List CK):Option ((Bool × Int × Nat) × List CK):=match EJ (BS.mk 1 91) l with
 | (false,l1)=>some ((false,0,0),l1)
 | (true,l1)=>(qP l1).bind fun v=>match Ci v.1 (AA 0) || Ci (AA 268435456) v.1 with
  | true=>none
  | false=>(D8 (BS.mk 1 93) v.2).bind fun l2=>match EJ (BS.mk 8 6073459554577832005) l2 with
   | (true,l3)=>some ((true,v.1,1),l3)
   | (false,l3)=>match EJ (BS.mk 8 6073459554577829193) l3 with
    | (true,l4)=>some ((true,v.1,2),l4)
    | (false,l4)=>some ((true,v.1,0),l4)
def Hz (m:Bool × Int × Nat):Am:={ Gm with mHas:=m.1,mNum:=m.2.1,mMode:=m.2.2 }
def Lt (T:Er):Er:=fun d l ns=>match l with
 | []=>none
 | t::l0=>match eR t&&(decide (d<=16)&&decide (ns.length<300))with
  | true=>(Ot (t::l0)).bind fun m=>(JM T d (Hz m.1) m.2 (ns++[Gm])).map fun s=>(ns.length,s.2.1,s.2.2.set ns.length s.1)
  | false=>none
def IS:Nat->Er
 | 0=>fun _ _ _=>none
 | q+1=>Lt (IS q)
def TN (T:Er):Prop:=∀{d:Nat} {l:List CK} {ns:List Am} {i:Nat} {l':List CK} {ns':List Am},T d l ns=some (i,l',ns')->ns.length<=ns'.length
section
variable {T:Er} {d:Nat} {nd nd':Am} {l l':List CK} {ns ns':List Am}
theorem Wu (hT:TN T) (hs:I7 T d nd l ns=some (nd',l',ns')):ns.length<=ns'.length:=by
 obtain⟨⟨w,l1⟩,hk,hs⟩:=AV.1 hs
 obtain⟨⟨i,l2,ns2⟩,ht,hs⟩:=AV.1 hs
 have:=hT ht
 dsimp only at hs
 split at hs
 ·cases hs;exact this
 ·split at hs
  ·cases hs;exact this
  ·split at hs
   ·cases hs
   ·cases hs;exact this
theorem cu (hT:TN T) (hs:Lx T d nd l ns=some (nd',l',ns')):ns.length<=ns'.length:=by
 unfold Lx at hs
 split at hs
 ·cases hs;exact AK _
 ·split at hs
  ·cases hs
  ·exact Wu hT hs
theorem dc (hT:TN T):∀(n:Nat) {nd:Am} {l:List CK} {ns:List Am},NQ T d n nd l ns=some (nd',l',ns')->ns.length<=ns'.length:=by
 intro n
 induction n with
 | zero=>intro nd l ns hs;cases hs
 | succ n ih=>
  intro nd l ns hs
  obtain⟨⟨nd1,l1,ns1⟩,h1,hs⟩:=AV.1 hs
  have h2:=cu hT h1
  dsimp only at hs
  split at hs
  ·exact Bc h2 (ih hs)
  ·obtain⟨l3,_,he⟩:=Aa.1 hs
   cases he;exact h2
theorem Uy (hT:TN T) (hs:H3 T d nd l ns=some (nd',l',ns')):ns.length<=ns'.length:=by
 unfold H3 at hs
 split at hs
 ·cases hs;exact AK _
 ·exact dc hT _ hs
theorem Q6 (hT:TN T) (hs:JM T d nd l ns=some (nd',l',ns')):ns.length<=ns'.length:=by
 unfold JM at hs
 split at hs
 ·cases hs
 split at hs
 ·cases hs
 split at hs
 ·cases hs
 split at hs
 ·split at hs
  ·cases hs
  ·cases hs;exact AK _
 split at hs
 ·cases hs
 split at hs
 ·cases hs
 split at hs
 ·obtain⟨_,_,hs⟩:=AV.1 hs
  exact Uy hT hs
 cases hs
theorem fy (hT:TN T):TN (Lt T):=by
 intro d l ns i l' ns' hs
 cases l with
 | nil=>cases hs
 | cons t l0=>
  unfold Lt at hs
  dsimp only at hs
  split at hs
  ·obtain⟨_,_,hs⟩:=AV.1 hs
   obtain⟨⟨nd,lb,nsb⟩,hb,he⟩:=Aa.1 hs
   cases he
   have:=Q6 hT hb
   rw[AS,AN,BQ]at this
   show ns.length<=(nsb.set ns.length nd).length
   rw[A9];omega
  ·cases hs
theorem OV:∀q,TN (IS q)
 | 0=>fun hs=>by cases hs
 | q+1=>fy (OV q)
end
def zC:List V:=[.int .i64 (AA 0),.str (BS.mk 0 0),.bool false,.int .i64 (AA 0),.int .i64 (AA 0),.bool false,.bool false,.bool false,.bool false,.int .i64 (AA 0),.int .i64 (AA 0),.nils,.nils,.int .i64 (AA 0),.bool false,.int .i64 (AA 0)]
section
variable {E:EB} {U U':H} {nb:Nat} {nd:Am} {iv fv:V} {xb:Nat} {lv dv dv':V} {ts l l':List CK} {R:Rs} {ns:List Am} {Q Q':Nat->Prop}
theorem Pn.push (h:Pn U xb lv ts l R ns Q) (hQ:∀b,Q b->b<U.next) (hl:ns.length<300):∃u U1 U2 U3,Br U (.cells zC)=U1/\(∀J:V->H->AF,DV E 16 144 R.dv (.sl U.next 0 1 (.ex 1)) U1 J=J u U2)/\u.one=true/\(∀J:H->AF,DX 1 xb 6 u U2 J=J U3) /\
  Pn U3 xb lv ts l (R.wd u) (ns++[Gm]) Q/\Fr (PB xb R.dv) U U3/\(∀b,AJ u b->AJ R.dv b\/U.next<=b):=by
 obtain⟨ws,k1,k2,k3⟩:=h.w
 obtain⟨a,ha,hl'⟩:=h.p.ex
 obtain⟨U1,e1,f1,a1,n1⟩:=JI h.p.ht zC
 have xs:DL U1 16 1 (V.sl U.next 0 1 (.ex 1)) zC := .inr ⟨_,_,_,_,rfl,a1,AK _,rfl⟩
 obtain⟨u,U2,g2,d2,m2,f2⟩:=Du (E:=E) (bytes:=144) (k1.fr f1 h.p.ht (fun _ _ h=>h)) f1.tidy xs rfl (by unfold Bw;simp only[AG,Ac];omega)
 have le1:=f1.le
 have le2:=f2.le
 have hx:=h.p.lt
 have ha2:=f2.at_ (f1.at_ ha h.p.ht (fun h=>h)) f1.tidy (fun e=>(h.dx xb e).1 rfl)
 obtain⟨U3,g3,f3,a3⟩:=Wd (off:=6) f2.tidy ha2 d2.one (show 6<9 by decide)
 have a3:CQ U3 xb (pc lv a (R.wd u)):=a3
 have mu:∀b,AJ u b->AJ R.dv b\/U.next<=b:=fun b hb=>(m2 b hb).imp id fun h=>by omega
 have ux:∀b,AJ u b->b≠xb:=fun b hb=>(mu b hb).elim (fun e=>(h.dx b e).1) (fun e=>by omega)
 have f13:Fr (PB xb R.dv) U U3:=((f1.mono (fun _ _ h=>h.elim):Fr (PB xb R.dv) U U1).trans f2 (fun _ _ e => .inr e)).trans f3 (fun _ _ e => .inl e)
 refine⟨u,U1,U2,U3,e1,g2,d2.one,g3,⟨⟨⟨a,a3,hl'⟩,h.p.src.fr f13 h.p.ht (fun b hb e=>e.elim (h.p.nx b hb) (fun e=>(h.dx b e).2 hb)),h.p.ne,h.p.nx,h.p.ok,f13.tidy⟩,⟨ws++[(.nils,.nils)],?_,by simp[k2],fun k nd w hn hw=>?_⟩,fun b hb=>⟨ux b hb,fun hn=>(mu b hb).elim (fun e=>(h.dx b e).2 hn) (fun e=>by have:=h.llt hn;omega)⟩⟩,f13,mu⟩
 ·rw[AS,AN,BQ,UX _ _ _ _ k2]
  exact d2.fr f3 f2.tidy (fun b hb e=>ux b hb e)
 ·rcases Av k ns.length with hk|hk
  ·rw[CR hk]at hn
   rw[CR (by omega)]at hw
   have hN:=k3 k nd w hn hw
   exact⟨hN.1.fr f13 h.p.ht fun b hb e=>e.elim (hN.2.2 b (.inl hb)).1 (hN.2.2 b (.inl hb)).2.1,hN.2.1.fr f13 h.p.ht fun b hb e=>e.elim (hN.2.2 b (.inr hb)).1 (hN.2.2 b (.inr hb)).2.1,fun b hb=>⟨(hN.2.2 b hb).1,fun hu=>(mu b hu).elim (hN.2.2 b hb).2.1 (fun e=>by have:=hN.lt h.p.ht hb;omega),(hN.2.2 b hb).2.2⟩⟩
  ·rw[BR hk]at hn
   rw[BR (by omega),k2]at hw
   obtain⟨j,hj⟩:∃j,k-ns.length=j:=⟨_,rfl⟩
   rw[hj]at hn hw
   cases j with
   | succ j=>simp at hn
   | zero=>
    cases hn
    cases hw
    exact⟨.inl ⟨rfl,rfl,rfl⟩,.inl ⟨rfl,rfl,rfl⟩,fun b hb=>hb.elim (fun h=>h.elim) (fun h=>h.elim)⟩
theorem Pn.put (h:Pn U xb lv ts l R ns (fun b=>Q b\/LB nb iv fv b)) (q:Nq U nb nd iv fv) (ap:Aq xb lv R.dv nb iv fv) (hq:∀b,AJ iv b\/AJ fv b->¬Q b) {i:Nat} (hi:i<ns.length) :
    ∃b U',(∀J:Nat->Nat->AF,AW 16 R.dv (AA i) J=J b (i*16))/\(∀J:H->AF,DX 16 b (i*16) (.agg (nd.c iv fv)) U J=J U')/\Pn U' xb lv ts l R (ns.set i nd) Q/\Fr (AJ R.dv) U U':=by
  obtain⟨ws,k1,k2,k3⟩:=h.w
  have hlen:=L7 ns ws k2
  obtain⟨b,cp,hdv,hb⟩:∃b cp,R.dv = .sl b 0 ns.length cp/\CQ U b (Hf ns ws):=by
    rcases k1 with (⟨h0,_⟩|⟨b,hv,ha,_⟩)|⟨b,hv,ha,_⟩
    · omega
    · exact⟨b,_,hv,ha⟩
    · exact⟨b,_,hv,ha⟩
  obtain⟨U',e,f,a⟩:=Yk h.p.ht hb (Hf (ns.set i nd) (ws.set i (iv,fv)))
  have nmb:∀x,AJ R.dv x↔x=b:=fun x=>by rw[hdv];exact Iff.rfl
  have f':Fr (AJ R.dv) U U':=f.mono fun x _ e=>(nmb x).2 e
  have ho:An (nd.c iv fv)=true:=by
    unfold Am.c
    simp only[BC,BP,Ed,Dg,ET,q.i.one,q.f.one,A8]
  have hl16:i*16+16<=(Hf ns ws).length:=by rw[hlen];omega
  refine⟨b,U',fun J=>?_,fun J=>?_,⟨h.p.fr f' (fun e=>(h.dx xb e).1 rfl) (fun x hx e=>(h.dx x e).2 hx),⟨ws.set i (iv,fv),?_,by rw[A9,A9,k2],fun k nd1 w hn hw=>?_⟩,h.dx⟩,f'⟩
  · rw[hdv,Cb hi]
    show J b (0+i*16)=_
    rw[BA]
  · rw[ER hb (by
      rw[Cl,ho,OB]
      simp only[F9,Co,A8,Ac];exact hl16),Cl,UW ns ws i nd (iv,fv) k2 hi,e]
  · rw[A9]
    rcases k1 with (⟨h0,_⟩|⟨b',hv,ha,h0,hl⟩)|⟨b',hv,ha,hl⟩
    · omega
    · have:b'=b:=by rw[hdv]at hv;cases hv;rfl
      subst this
      exact .inl (.inr ⟨b',hv,a,h0,by rw[L7 _ _ (by rw[A9,A9,k2]),A9]⟩)
    · have:b'=b:=by rw[hdv]at hv;cases hv;rfl
      subst this
      exact .inr ⟨b',hv,a,by rw[L7 _ _ (by rw[A9,A9,k2]),A9]⟩
  · by_cases hk:i=k
    · subst hk
      rw[DD hi]at hn
      rw[DD (by omega)]at hw
      cases hn
      cases hw
      exact⟨q.i.src.fr f' h.p.ht (fun x hx e=>ap.i x hx e),q.f.src.fr f' h.p.ht (fun x hx e=>ap.f x hx e),fun x hx=>⟨hx.elim (fun e=>(ap.a.i x e).1) (fun e=>(ap.a.f x e).1),hx.elim (ap.i x) (ap.f x),hq x hx⟩⟩
    · rw[Lm hk]at hn hw
      have hN:=k3 k nd1 w hn hw
      exact⟨hN.1.fr f' h.p.ht fun x hb e=>(hN.2.2 x (.inl hb)).2.1 e,hN.2.1.fr f' h.p.ht fun x hb e=>(hN.2.2 x (.inr hb)).2.1 e,fun x hx=>⟨(hN.2.2 x hx).1,(hN.2.2 x hx).2.1,fun e=>(hN.2.2 x hx).2.2 (.inl e)⟩⟩
theorem Nq.setm (h:Nq U nb nd iv fv) (ht:Ar U) (v:Int):∃U',(∀J:H->AF,DX 3 nb 2 (.agg [.bool true,.int .i64 v,.int .i64 (AA 0)]) U J=J U')/\Fr (fun k=>k=nb) U U'/\Nq U' nb { nd with mHas:=true,mNum:=v,mMode:=0 } iv fv:=by
 obtain⟨U',e,f,a⟩:=Yk ht h.a (({ nd with mHas:=true,mNum:=v,mMode:=0 }:Am).c iv fv)
 refine⟨U',fun J=>?_,f,a,h.i.fr f ht (fun b hb e=>h.ni (e ▸ hb)),h.f.fr f ht (fun b hb e=>h.nf (e ▸ hb)),h.ni,h.nf,h.d⟩
 rw[ER h.a rfl]
 show J (GP U nb (.cells (({ nd with mHas:=true,mNum:=v,mMode:=0 }:Am).c iv fv)))=_
 rw[e]
end
section
variable {E:EB} {D:Ai} {W:AH} {N:Nat}
theorem pS {a b c d e f g h i j k l m n o p:V} {J:List V->AF}:EI [a,b,c,d,e,f,g,h,i,j,k,l,m,n,o,p] 0 16 J=J [a,b,c,d,e,f,g,h,i,j,k,l,m,n,o,p]:=rfl
theorem tR {T:Er} (hMon:TN T) (hNow:Ks (D 23)) (hBe:lO (D 40)) (hI:N4 (D 22)) (hM:JF (D 21)) (hN:XZ (D 41)) (hB:OO T (D 42)):Lh (Lt T) (F25 E D W N):=by
 intro U xb lv ts l l' R ns ns' Q d i h hQ hd hs
 cases l with
 | nil=>cases hs
 | cons t l0=>
 replace hs:(match eR t&&(decide (d<=16)&&decide (ns.length<300))with
  | true=>(Ot (t::l0)).bind fun m=>(JM T d (Hz m.1) m.2 (ns++[Gm])).map fun s=>(ns.length,s.2.1,s.2.2.set ns.length s.1)
  | false=>none:Option (Nat × List CK × List Am))=some (i,l',ns'):=hs
 cases hb:eR t&&(decide (d<=16)&&decide (ns.length<300))with
 | false=>rw[hb]at hs;cases hs
 | true=>
 rw[hb]at hs
 simp only[AG,decide_eq_true_eq]at hb
 obtain⟨hb,hd16,hl⟩:=hb
 obtain⟨⟨m,lm⟩,hm,hs⟩:=AV.1 hs
 obtain⟨⟨nd,lb,nsb⟩,hbase,he⟩:=Aa.1 hs
 cases he
 have gn:=hNow h.p
 obtain⟨U1,g1,f1⟩:=hBe U t h.p.ht
 rw[hb]at g1
 have le1:=f1.le
 have h1:=h.fr f1 (fun h=>h) (fun _ _ h=>h) (fun _ _ h=>h) (fun _ _ h=>h.elim)
 obtain⟨a,ha,_⟩:=h.p.ex
 obtain⟨a1,ha1,_⟩:=h1.p.ex
 unfold pc at ha ha1
 have hQ1:∀b,Q b->b<U1.next:=fun b hb=>by have:=hQ b hb;omega
 obtain⟨u,U2,U3,U4,e2,g3,uo,g4,h4,f14,mu⟩:=h1.push (E:=E) hQ1 hl
 obtain⟨U5,e5,f5,a5,n5⟩:=JI h4.p.ht zC
 obtain⟨U6,e6,f6,a6⟩:=Yk f5.tidy a5 zC
 have s6:∀J:H->AF,DX 16 U4.next 0 (.agg zC) U5 J=J U6:=fun J=>by
  rw[ER a5 rfl]
  show J (GP U5 U4.next (.cells zC))=_
  rw[e6]
 have f46:Fr AL U4 U6:=f5.trans f6 (fun b hb e=>by omega)
 have le14:=f14.le
 have le46:=f46.le
 have q6:Nq U6 U4.next Gm .nils .nils:=⟨a6,DM.nil _ _,DM.nil _ _,fun h=>h,fun h=>h,fun _ h=>h.elim⟩
 have lx4:=h4.p.lt
 have ap6:Aq xb lv u U4.next .nils .nils:=⟨⟨by omega,fun hn=>by have:=h4.llt hn;omega,fun _ h=>h.elim,fun _ h=>h.elim⟩,fun hn=>by have:=h4.dlt (R:=R.wd u) hn;omega,fun _ h=>h.elim,fun _ h=>h.elim⟩
 have h6:Pn U6 xb lv ts (t::l0) (R.wd u) (ns++[Gm]) (fun b=>Q b\/LB U4.next .nils .nils b):=(h4.ext (Q':=fun b=>Q b\/LB U4.next .nils .nils b) fun b hb=>by
  rcases hb with hb|hb|hb|hb
  ·exact .inl hb
  ·exact .inr (by omega)
  ·exact hb.elim
  ·exact hb.elim).fr f46 (fun h=>h) (fun _ _ h=>h) (fun _ _ h=>h) (fun _ _ h=>h.elim)
 have s0:Cq U6 U6 xb lv ts (t::l0) (R.wd u) (ns++[Gm]) Q U4.next Gm .nils .nils .nils u:=⟨h6,q6,ap6,fun _ h => .inl h,fun _ h => .inl h,Fr.refl h6.p.ht⟩
 obtain⟨U7,s7,k7⟩:∃U7,Cq U6 U7 xb lv ts lm (R.wd u) (ns++[Gm]) Q U4.next (Hz m) .nils .nils .nils u /\
   ∀K1:Nat->Nat->Int->Int->Nat->Nat->H->AF,RG E D W K1 (Nh E D W K1) xb 0 (AA d) U=K1 xb 0 (AA d) (AA ns.length) U4.next 0 U7:=by
  obtain⟨U7,g7,p7,f7⟩:=hI (BS.mk 1 91) s0.p.p
  have s7:=s0.trans (Cq.go s0.p s0.q s0.ap p7 f7)
  obtain⟨ws,k1,k2,k3⟩:=h1.w
  have sd:∀J:Nat->AF,A0 R.dv J=J ns.length:=fun J=>k1.slen
  have d16:decide (16<d)=false:=decide_eq_false (by omega)
  have d300:decide (300<=ns.length)=false:=decide_eq_false (by omega)
  unfold Hw at gn g1
  unfold zC at e2 e5 s6
  have pre:∀K1 K2,RG E D W K1 K2 xb 0 (AA d) U=AI (EJ (BS.mk 1 91) (t::l0)).1
    (CM (D 23 [.ptr xb 0] U7) fun u63 s64=>CW u63 fun l65=>Dy .i64 l65 fun x68 l67=>T0 l67 fun x71 l70=>Dy .i64 l70 fun x74 l73=>BJ l73 (
     CM (D 41 [.ptr xb 0] s64) fun u75 s76=>Ch .i64 u75 fun x77=>EG E s76 xb 7 fun u78=>Ch .i64 u78 fun x79=>
     Af (fun c80 s81=>AI c80 (CM (D 24 [.ptr xb 0,.int .i64 (AA 12),.agg [.int .i64 x68,.str x71,.int .i64 x74]] s81) fun u83 s84=>L0 u83 fun l85=>BJ l85 (K2 xb 0 (AA d) (AA ns.length) U4.next 0 x77 s84)) (K2 xb 0 (AA d) (AA ns.length) U4.next 0 x77 s81)) fun k82=>
     AI (Bt x79 (AA 0)) (Af (fun c86 s87=>k82 c86 s87) fun k88=>AI (Ci x77 (AA 0)) (k88 true s76) (k88 (Ci (AA 268435456) x77) s76)) (k82 false s76)))
    (K1 xb 0 (AA d) (AA ns.length) U4.next 0 U7):=by
   intro K1 K2
   unfold RG
   simp -implicitDefEqProofs only [↓rP,rA,AB,AE,AD,↓AZ ha,↓gn,↓g1,d16,↓AZ ha1,↓sd,d300,↓e2,↓g3,↓Bl uo,↓g4,↓e5,↓s6,↓g7]
  unfold Ot at hm
  cases hq:EJ (BS.mk 1 91) (t::l0)with
  | mk b l1=>
   rw[hq]at hm g7 s7 pre p7
   cases b with
   | false=>
    cases hm
    refine⟨U7,s7,fun K1=>?_⟩
    rw[pre];rfl
   | true=>
    obtain⟨⟨v,l2⟩,hv,hm⟩:=AV.1 hm
    cases hlt:Ci v (AA 0) || Ci (AA 268435456) v with
    | true=>
     have hm:(match Ci v (AA 0) || Ci (AA 268435456) v with | true=>none | false=>_:Option ((Bool × Int × Nat) × List CK))=some (m,lm):=hm
     rw[hlt]at hm;cases hm
    | false=>
     have hm:(match Ci v (AA 0) || Ci (AA 268435456) v with
      | true=>none
      | false=>(D8 (BS.mk 1 93) l2).bind fun l2=>match EJ (BS.mk 8 6073459554577832005) l2 with
       | (true,l3)=>some ((true,v,1),l3)
       | (false,l3)=>match EJ (BS.mk 8 6073459554577829193) l3 with
        | (true,l4)=>some ((true,v,2),l4)
        | (false,l4)=>some ((true,v,0),l4):Option ((Bool × Int × Nat) × List CK))=some (m,lm):=hm
     rw[hlt]at hm
     rw[Bd]at hlt
     obtain⟨l3,h3,hm3⟩:=AV.1 hm
     obtain⟨t1,l1',rfl⟩:∃t1 l1',l1=t1::l1':=by
      cases l1 with
      | nil=>exact absurd rfl p7.ne
      | cons t1 l1'=>exact⟨t1,l1',rfl⟩
     have gn7:=hNow p7
     obtain⟨U8,g8,p8,f8⟩:=hN p7 hv
     have s8:=s7.trans (Cq.go s7.p s7.q s7.ap p8 f8)
     obtain⟨a8,ha8,_⟩:=p8.ex
     unfold pc at ha8
     obtain⟨U9,g9,p9,f9⟩:=hM p8 h3
     have s9:=s8.trans (Cq.go s8.p s8.q s8.ap p9 f9)
     obtain⟨U10,g10,f10,q10⟩:=s9.q.setm p9.ht v
     have s10:=s9.trans (Cq.own s9.p s9.ap q10 f10)
     obtain⟨U11,g11,p11,f11⟩:=hI (BS.mk 8 6073459554577832005) s10.p.p
     have s11:=s10.trans (Cq.go s10.p s10.q s10.ap p11 f11)
     unfold Hw at gn7
     have mid:∀K1:Nat->Nat->Int->Int->Nat->Nat->H->AF,RG E D W K1 (Nh E D W K1) xb 0 (AA d) U=Nh E D W K1 xb 0 (AA d) (AA ns.length) U4.next 0 v U8:=by
      intro K1
      rw[pre]
      simp -implicitDefEqProofs only [↓rP,rA,AB,AE,AD,↓gn7,↓g8,↓AZ ha8,hlt.1,hlt.2]
     cases hq11:EJ (BS.mk 8 6073459554577832005) l3 with
     | mk b l4=>
      rw[hq11]at hm3 g11 p11 s11
      cases b with
      | true=>
       cases hm3
       obtain⟨U12,g12,f12,q12⟩:=s11.q.set (off:=4) (y := .int .i64 (AA 1)) p11.ht (Hz (true,v,1)) rfl (by decide) rfl rfl rfl
       refine⟨U12,s11.trans (Cq.own s11.p s11.ap q12 f12),fun K1=>?_⟩
       rw[mid]
       unfold Nh
       simp -implicitDefEqProofs only [↓rP,rS,↓g9,↓g10,↓g11,↓g12]
      | false=>
       have hm3:(match EJ (BS.mk 8 6073459554577829193) l4 with
        | (true,l4)=>some ((true,v,2),l4)
        | (false,l4)=>some ((true,v,0),l4):Option ((Bool × Int × Nat) × List CK))=some (m,lm):=hm3
       obtain⟨U12,g12,p12,f12⟩:=hI (BS.mk 8 6073459554577829193) s11.p.p
       have s12:=s11.trans (Cq.go s11.p s11.q s11.ap p12 f12)
       cases hq12:EJ (BS.mk 8 6073459554577829193) l4 with
       | mk b l5=>
        rw[hq12]at hm3 g12 p12 s12
        cases b with
        | true=>
         cases hm3
         obtain⟨U13,g13,f13,q13⟩:=s12.q.set (off:=4) (y := .int .i64 (AA 2)) p12.ht (Hz (true,v,2)) rfl (by decide) rfl rfl rfl
         refine⟨U13,s12.trans (Cq.own s12.p s12.ap q13 f13),fun K1=>?_⟩
         rw[mid]
         unfold Nh
         simp -implicitDefEqProofs only [↓rP,rS,↓g9,↓g10,↓g11,↓g12,↓g13]
        | false=>
         cases hm3
         refine⟨U12,s12,fun K1=>?_⟩
         rw[mid]
         unfold Nh
         simp -implicitDefEqProofs only [↓rP,rS,↓g9,↓g10,↓g11,↓g12]
 have le7:=s7.f.le
 obtain⟨dv',iv',fv',U8,g8,b8⟩:=hB s7.p (fun b hb=>by have:=hQ1 b hb;omega) s7.q s7.ap rfl rfl (by omega) hbase
 have hlen:ns.length<nsb.length:=by
  have:=Q6 hMon hbase
  rw[AS,AN,BQ]at this;omega
 have fr7:∀b,b<U.next->(PB xb u b\/LB U4.next .nils .nils b)->PB xb R.dv b:=fun b hb e=>by
  rcases e with (e|e)|e|e|e
  ·exact .inl e
  ·exact(mu b e).elim .inr (fun h=>by omega)
  ·omega
  ·exact e.elim
  ·exact e.elim
 have mdv:∀b,AJ dv' b->AJ R.dv b\/U.next<=b:=fun b hb=>by
  rcases b8.md b hb with h|h
  ·exact(mu b h).imp id (fun h=>by omega)
  ·exact .inr (by omega)
 obtain⟨bb,U9,ia,s9,p9,f9⟩:=b8.p.put b8.q b8.ap (fun b hb hq=>by
  have:=hQ b hq
  rcases hb with hb|hb
  ·exact(b8.mi b hb).elim (fun h=>h.elim) (fun h=>by omega)
  ·exact(b8.mf b hb).elim (fun h=>h.elim) (fun h=>by omega)) hlen
 refine⟨dv',U9,?_,p9,(((((f1.mono (fun _ _ h=>h.elim):Fr (PB xb R.dv) U U1).trans f14 (fun _ _ e=>e)).trans f46 (fun _ _ e=>e.elim)).trans s7.f (fun b hb e=>fr7 b hb (e.imp id (fun e=>e.elim .inl fun e=>e.elim)))).trans b8.f (fun b hb e=>fr7 b hb e)).trans f9 (fun b hb e=>(mdv b e).elim .inr (fun h=>by omega)),mdv⟩
 obtain⟨a8,ha8,_⟩:=b8.p.p.ex
 unfold pc at ha8
 have qa:=b8.q.a
 unfold Am.c at qa s9
 have g8':D 42 [.ptr xb 0,.ptr U4.next 0,.int .i64 (AA d)] U7=some (.tup [],U8):=g8
 show RG E D W (ZY E D W) (Nh E D W (ZY E D W)) xb 0 (AA d) U=_
 rw[k7]
 have ia':∀J:Nat->Nat->AF,AW 16 (((R.wd u).wd u).wd dv').dv (AA ns.length) J=J bb (ns.length*16):=ia
 unfold ZY
 simp -implicitDefEqProofs only [↓rP,rA,AB,AE,AD,↓g8',↓AZ ha8,↓BX qa,pS,↓ia',↓s9]
end
structure Cg where
 nm:List Nat
 tg:Nat
 az:List (List Nat)
 ks:List Nat
 ns:List Am
def YQ (az:List (List Nat)):List V:=az.map fun w => .str (BB w)
def HX (ks:List Nat):List V:=ks.map fun k => .int .i64 (AA k)
def ACy (l:List CK):Option (Nat × List CK):=match EJ (BS.mk 8 6073459554577832005) l with
 | (true,l1)=>(D8 (BS.mk 4 1397178708) l1).map fun l2=>(0,l2)
 | (false,l1)=>match EJ (BS.mk 8 6073459554577829193) l1 with
  | (true,l2)=>(D8 (BS.mk 4 1397178708) l2).map fun l3=>(1,l3)
  | (false,l2)=>match EJ (BS.mk 9 1241215773001651606849) l2 with
   | (true,l3)=>(D8 (BS.mk 4 1397178708) l3).map fun l4=>(2,l4)
   | (false,l3)=>some (0,l3)
def N1 (T:Er):Nat->List (List Nat)->List Nat->List Am->List CK->Option (List (List Nat) × List Nat × List Am × List CK)
 | 0,_,_,_,_=>none
 | n+1,az,ks,ns,l=>match EJ (BS.mk 3 4476485) l with
  | (true,l1)=>some (az,ks,ns,l1)
  | (false,l1)=>(JK 1 l1).bind fun a=>match decide (40<=az.length)with
   | true=>none
   | false=>(D8 (BS.mk 3 4012602) a.2).bind fun l2=>(T 0 l2 ns).bind fun t=>N1 T n (az++[a.1]) (ks++[t.1]) t.2.2 t.2.1
def qb (T:Er) (ts:List CK):Option Cg:=
 (JK 1 ts).bind fun a=>(D8 (BS.mk 11 100710650190388740279911748) a.2).bind fun l1=>(ACy l1).bind fun t=>
  (D8 (BS.mk 3 4012602) t.2).bind fun l2=>(D8 (BS.mk 5 336236856642) l2).bind fun l3=>(N1 T 50 [] [] [] l3).bind fun r=>
   match r.2.2.2 with
   | []=>none
   | e::_=>match decide (e.1=0)with
    | true=>some ⟨a.1,t.1,r.1,r.2.1,r.2.2.1⟩
    | false=>none
structure N5 (U:H) (m:Cg) (nv tv dv:V):Prop where
 n:DM U 1 m.az.length nv (YQ m.az)
 t:DL U 1 m.ks.length tv (HX m.ks)
 d:∃ws:List (V × V),DL U 16 m.ns.length dv (Hf m.ns ws)/\ws.length=m.ns.length/\∀(k:Nat) (nd:Am) (u:V × V),m.ns[k]? = some nd->ws[k]? = some u->DL U 3 nd.items.length u.1 (iT nd.items)/\DL U 11 nd.fields.length u.2 (Ir nd.fields)
def IQ (m:Cg) (nv tv dv:V):List V:=[.str (BB m.nm),.int .i64 (AA m.tg),nv,tv,dv]
def TB (N:Nat) (T:Er) (F:List V->H->AF):Prop:=∀(U:H) (s:BS) (ts:List CK) (m:Cg),Ar U->s.len<=8000->JZ N s.len s.nats ts->qb T ts=some m ->
 ∃nv tv dv U',F [.str s] U=some (.tup [.agg (IQ m nv tv dv),.int .i64 (AA 0),.int .i64 (AA 0)],U')/\N5 U' m nv tv dv/\Fr AL U U'
theorem JZ.fin_ {N len:Nat} {r:List Nat} {ts:List CK} (h:JZ N len r ts):∃p e,ts=p++[e]/\e.1=0:=by
 induction h with
 | fin _=>exact⟨[],_,rfl,rfl⟩
 | one _ _ _ ih=>
  obtain⟨p,e,rfl,h⟩:=ih
  exact⟨_::p,e,rfl,h⟩
theorem Tk.num_ {r w r':List Nat} {k:Nat} (h:Tk r k w r') (hk:k=3):∃m ds r,w=GB m ds/\IB m ds r:=by
 cases h with
 | name _ _ he=>
  exfalso
  split at he
  ·omega
  ·split at he<;>omega
 | num h=>exact⟨_,_,_,rfl,h⟩
 | sign=>cases hk
theorem JZ.num_ {N len:Nat} {r:List Nat} {ts:List CK} (h:JZ N len r ts):∀t∈ts,t.1=3->∃m ds r,t.2.1=GB m ds/\IB m ds r:=by
 induction h with
 | fin _=>
  intro t ht hk
  rw[Cn]at ht
  subst ht;cases hk
 | one _ htk _ ih=>
  intro t ht hk
  rcases Ax.1 ht with rfl|ht
  ·exact htk.num_ hk
  ·exact ih t ht hk
theorem JZ.ok {N:Nat} {s:BS} {ts:List CK} (h:JZ N s.len s.nats ts) (hs:s.len<=8000):AEf ts:=by
 have:=h.len
 rw[BS.length_nats]at this
 exact⟨by omega,h.fin_,h.num_⟩
section
variable {U U':H} {xb:Nat} {lv:V} {ts l l':List CK} {R:Rs} {ns:List Am} {Q:Nat->Prop}
theorem Pz.set (h:Pz U xb lv ts l R) {off:Nat} {y:V} (R':Rs) (hy:y.one=true) (ho:off<9) (hc:∀a,FC (pc lv a R) off [y]=pc lv a R') :
  ∃U',(∀J:H->AF,DX 1 xb off y U J=J U')/\Pz U' xb lv ts l R'/\Fr (fun k=>k=xb) U U':=by
 obtain⟨a,ha,hl⟩:=h.ex
 obtain⟨U',g,f,a'⟩:=Wd h.ht ha hy ho
 rw[hc]at a'
 exact⟨U',g,⟨⟨a,a',hl⟩,h.src.fr f h.ht (fun b hb e=>h.nx b hb e),h.ne,h.nx,h.ok,f.tidy⟩,f⟩
theorem Pn.set (h:Pn U xb lv ts l R ns Q) {off:Nat} {y:V} (R':Rs) (hd:R'.dv=R.dv) (hy:y.one=true) (ho:off<9) (hc:∀a,FC (pc lv a R) off [y]=pc lv a R') :
  ∃U',(∀J:H->AF,DX 1 xb off y U J=J U')/\Pn U' xb lv ts l R' ns Q/\Fr (fun k=>k=xb) U U':=by
 obtain⟨U',g,p,f⟩:=h.p.set R' hy ho hc
 obtain⟨ws,k1,k2,k3⟩:=h.w
 refine⟨U',g,⟨p,⟨ws,by rw[hd];exact k1.fr f h.p.ht fun b hb e=>(h.dx b hb).1 e,k2,fun k nd u hn hu=>?_⟩,by rw[hd];exact h.dx⟩,f⟩
 rw[hd]
 obtain⟨a,b,c⟩:=k3 k nd u hn hu
 exact⟨a.fr f h.p.ht fun b hb e=>(c b (.inl hb)).1 e,b.fr f h.p.ht fun b hb e=>(c b (.inr hb)).1 e,c⟩
end
def rzC:List V:=[.str (BS.mk 0 0),.int .i64 (AA 0),.nils,.nils,.nils]
structure Pm (U:H) (xb rb:Nat) (lv:V) (ts l:List CK) (R:Rs) (ns:List Am) (az:List (List Nat)) (ks:List Nat):Prop where
 p:Pn U xb lv ts l R ns (fun b=>AJ R.nv b\/AJ R.tv b\/b=rb)
 r:CQ U rb rzC
 n:DM U 1 az.length R.nv (YQ az)
 t:DM U 1 ks.length R.tv (HX ks)
 nx:∀b,AJ R.nv b->b≠xb/\¬AJ lv b/\¬AJ R.dv b/\¬AJ R.tv b/\b≠rb
 tx:∀b,AJ R.tv b->b≠xb/\¬AJ lv b/\¬AJ R.dv b/\b≠rb
 rx:rb≠xb/\¬AJ lv rb/\¬AJ R.dv rb
section
variable {E:EB} {D:Ai} {W:AH} {N:Nat} {U U':H} {xb rb:Nat} {lv:V} {ts l l':List CK} {R:Rs} {ns ns':List Am} {az:List (List Nat)} {ks:List Nat}
theorem Pm.go (h:Pm U xb rb lv ts l R ns az ks) (p:Pz U' xb lv ts l' R) (f:Fr (fun k=>k=xb) U U'):Pm U' xb rb lv ts l' R ns az ks:=
 ⟨h.p.go p f,f.at_ h.r h.p.p.ht h.rx.1,h.n.fr f h.p.p.ht (fun b hb e=>(h.nx b hb).1 e),h.t.fr f h.p.p.ht (fun b hb e=>(h.tx b hb).1 e),h.nx,h.tx,h.rx⟩
theorem Pm.q (h:Pm U xb rb lv ts l R ns az ks):∀b,(AJ R.nv b\/AJ R.tv b\/b=rb)->b<U.next:=fun b hb=>by
 rcases hb with hb|hb|rfl
 ·exact h.n.lt h.p.p.ht hb
 ·exact h.t.lt h.p.p.ht hb
 ·exact h.r.lt h.p.p.ht
theorem Pm.typ (h:Pm U xb rb lv ts l R ns az ks) {dv':V} (p:Pn U' xb lv ts l' (R.wd dv') ns' (fun b=>AJ R.nv b\/AJ R.tv b\/b=rb)) (f:Fr (PB xb R.dv) U U') (m:∀b,AJ dv' b->AJ R.dv b\/U.next<=b):Pm U' xb rb lv ts l' (R.wd dv') ns' az ks:=by
 have ht:=h.p.p.ht
 have lt:=h.q
 refine⟨p,f.at_ h.r ht (fun e=>e.elim h.rx.1 h.rx.2.2),h.n.fr f ht (fun b hb e=>e.elim (h.nx b hb).1 (h.nx b hb).2.2.1),h.t.fr f ht (fun b hb e=>e.elim (h.tx b hb).1 (h.tx b hb).2.2.1),fun b hb=>?_,fun b hb=>?_,?_⟩
 ·obtain⟨h1,h2,h3,h4,h5⟩:=h.nx b hb
  exact⟨h1,h2,fun e=>(m b e).elim h3 (fun e=>by have:=lt b (.inl hb);omega),h4,h5⟩
 ·obtain⟨h1,h2,h3,h4⟩:=h.tx b hb
  exact⟨h1,h2,fun e=>(m b e).elim h3 (fun e=>by have:=lt b (.inr (.inl hb));omega),h4⟩
 ·exact⟨h.rx.1,h.rx.2.1,fun e=>(m _ e).elim h.rx.2.2 (fun e=>by have:=lt rb (.inr (.inr rfl));omega)⟩
theorem Pm.name (h:Pm U xb rb lv ts l R ns az ks) (w:List Nat) (hl:az.length<=4000):∃u U1 U2 U3,Br U (.cells [.str (BB w)])=U1/\(∀J:V->H->AF,DV E 1 16 R.nv (.sl U.next 0 1 (.ex 1)) U1 J=J u U2)/\u.one=true/\(∀J:H->AF,DX 1 xb 4 u U2 J=J U3) /\
  Pm U3 xb rb lv ts l { R with nv:=u } ns (az++[w]) ks/\Fr (fun b=>b=xb\/AJ R.nv b) U U3/\(∀b,AJ u b->AJ R.nv b\/U.next<=b):=by
 have ht:=h.p.p.ht
 have lt:=h.q
 obtain⟨U1,e1,f1,a1,n1⟩:=JI ht [.str (BB w)]
 have xs:DL U1 1 1 (V.sl U.next 0 1 (.ex 1)) [.str (BB w)] := .inr ⟨_,_,_,_,rfl,a1,AK _,rfl⟩
 obtain⟨u,U2,g2,d2,m2,f2⟩:=Du (E:=E) (bytes:=16) (h.n.fr f1 ht (fun _ _ h=>h)) f1.tidy xs rfl (by unfold Bw;simp only[AG,Ac];omega)
 have le1:=f1.le
 have mu:∀b,AJ u b->AJ R.nv b\/U.next<=b:=fun b hb=>(m2 b hb).imp id fun h=>by omega
 have f12:Fr (AJ R.nv) U U2:=(f1.mono (fun _ _ h=>h.elim):Fr (AJ R.nv) U U1).trans f2 (fun _ _ e=>e)
 have p2:Pn U2 xb lv ts l R ns (fun b=>(AJ R.nv b\/AJ R.tv b\/b=rb)\/U.next<=b):=(h.p.ext (Q':=fun b=>(AJ R.nv b\/AJ R.tv b\/b=rb)\/U.next<=b) fun _ h=>h).fr f12 (fun e=>(h.nx _ e).1 rfl) (fun b hb e=>(h.nx b e).2.1 hb) (fun b hb e=>(h.nx b e).2.2.1 hb) (fun b _ e => .inl (.inl e))
 obtain⟨U3,g3,p3,f3⟩:=p2.set (off:=4) (y:=u) { R with nv:=u } rfl d2.one (by decide) (fun _=>rfl)
 have lx:=h.p.p.lt
 have f13:Fr (fun b=>b=xb\/AJ R.nv b) U U3:=(f12.mono (fun _ _ e => .inr e):Fr (fun b=>b=xb\/AJ R.nv b) U U2).trans f3 (fun _ _ e => .inl e)
 refine⟨u,U1,U2,U3,e1,g2,d2.one,g3,⟨p3.ext (fun b hb=>?_),f13.at_ h.r ht (fun e=>e.elim h.rx.1 fun e=>(h.nx _ e).2.2.2.2 rfl),?_,h.t.fr f13 ht (fun b hb e=>e.elim (h.tx b hb).1 fun e=>(h.nx b e).2.2.2.1 hb),fun b hb=>?_,h.tx,h.rx⟩,f13,mu⟩
 ·rcases hb with hb|hb
  ·exact(mu b hb).elim (fun e => .inl (.inl (.inl e))) (fun e => .inl (.inr e))
  ·exact .inl (.inl (.inr hb))
 ·have d3:=d2.fr f3 f2.tidy (fun b hb e=>(mu b hb).elim (fun h'=>(h.nx b h').1 e) (fun h=>by omega))
  rw[AS]
  show DM U3 1 (az.length+1) u (YQ (az++[w]))
  rw[show YQ (az++[w])=YQ az++[.str (BB w)] by unfold YQ;simp]
  exact d3
 ·rcases mu b hb with e|e
  ·exact h.nx b e
  ·exact⟨by omega,fun hn=>by have:=h.p.llt hn;omega,fun hn=>by have:=h.p.dlt hn;omega,fun hn=>by have:=lt b (.inr (.inl hn));omega,fun hn=>by have:=lt b (.inr (.inr hn));omega⟩
theorem Pm.more (h:Pm U xb rb lv ts l R ns az ks) (k:Nat) (hl:ks.length<=4000):∃u U1 U2 U3,Br U (.cells [.int .i64 (AA k)])=U1/\(∀J:V->H->AF,DV E 1 8 R.tv (.sl U.next 0 1 (.ex 1)) U1 J=J u U2)/\u.one=true/\(∀J:H->AF,DX 1 xb 5 u U2 J=J U3) /\
  Pm U3 xb rb lv ts l { R with tv:=u } ns az (ks++[k])/\Fr (fun b=>b=xb\/AJ R.tv b) U U3/\(∀b,AJ u b->AJ R.tv b\/U.next<=b):=by
 have ht:=h.p.p.ht
 have lt:=h.q
 obtain⟨U1,e1,f1,a1,n1⟩:=JI ht [.int .i64 (AA k)]
 have xs:DL U1 1 1 (V.sl U.next 0 1 (.ex 1)) [.int .i64 (AA k)] := .inr ⟨_,_,_,_,rfl,a1,AK _,rfl⟩
 obtain⟨u,U2,g2,d2,m2,f2⟩:=Du (E:=E) (bytes:=8) (h.t.fr f1 ht (fun _ _ h=>h)) f1.tidy xs rfl (by unfold Bw;simp only[AG,Ac];omega)
 have le1:=f1.le
 have mu:∀b,AJ u b->AJ R.tv b\/U.next<=b:=fun b hb=>(m2 b hb).imp id fun h=>by omega
 have f12:Fr (AJ R.tv) U U2:=(f1.mono (fun _ _ h=>h.elim):Fr (AJ R.tv) U U1).trans f2 (fun _ _ e=>e)
 have p2:Pn U2 xb lv ts l R ns (fun b=>(AJ R.nv b\/AJ R.tv b\/b=rb)\/U.next<=b):=(h.p.ext (Q':=fun b=>(AJ R.nv b\/AJ R.tv b\/b=rb)\/U.next<=b) fun _ h=>h).fr f12 (fun e=>(h.tx _ e).1 rfl) (fun b hb e=>(h.tx b e).2.1 hb) (fun b hb e=>(h.tx b e).2.2.1 hb) (fun b _ e => .inl (.inr (.inl e)))
 obtain⟨U3,g3,p3,f3⟩:=p2.set (off:=5) (y:=u) { R with tv:=u } rfl d2.one (by decide) (fun _=>rfl)
 have lx:=h.p.p.lt
 have f13:Fr (fun b=>b=xb\/AJ R.tv b) U U3:=(f12.mono (fun _ _ e => .inr e):Fr (fun b=>b=xb\/AJ R.tv b) U U2).trans f3 (fun _ _ e => .inl e)
 refine⟨u,U1,U2,U3,e1,g2,d2.one,g3,⟨p3.ext (fun b hb=>?_),f13.at_ h.r ht (fun e=>e.elim h.rx.1 fun e=>(h.tx _ e).2.2.2 rfl),h.n.fr f13 ht (fun b hb e=>e.elim (h.nx b hb).1 (h.nx b hb).2.2.2.1),?_,fun b hb=>?_,fun b hb=>?_,h.rx⟩,f13,mu⟩
 ·rcases hb with hb|hb|hb
  ·exact .inl (.inl (.inl hb))
  ·exact(mu b hb).elim (fun e => .inl (.inl (.inr (.inl e)))) (fun e => .inl (.inr e))
  ·exact .inl (.inl (.inr (.inr hb)))
 ·have d3:=d2.fr f3 f2.tidy (fun b hb e=>(mu b hb).elim (fun h'=>(h.tx b h').1 e) (fun h=>by omega))
  rw[AS]
  show DM U3 1 (ks.length+1) u (HX (ks++[k]))
  rw[show HX (ks++[k])=HX ks++[.int .i64 (AA k)] by unfold HX;simp]
  exact d3
 ·obtain⟨h1,h2,h3,h4,h5⟩:=h.nx b hb
  exact⟨h1,h2,h3,fun e=>(mu b e).elim h4 (fun e=>by have:=lt b (.inl hb);omega),h5⟩
 ·rcases mu b hb with e|e
  ·exact h.tx b e
  ·exact⟨by omega,fun hn=>by have:=h.p.llt hn;omega,fun hn=>by have:=h.p.dlt hn;omega,fun hn=>by have:=lt b (.inr (.inr hn));omega⟩
end
section
variable {E:EB} {D:Ai} {N:Nat}
theorem qL {U:H} {xb rb:Nat} {lv:V} {ts l:List CK} {nm:List Nat} {tg:Nat} {nv tv dv:V} {ns:List Am} {az:List (List Nat)} {ks:List Nat} {e:CK} (hN:Ks (D 23)) (h:Pm U xb rb lv ts (e::l) ⟨BB nm,AA tg,nv,tv,dv⟩ ns az ks) (he:decide (e.1=0)=true) :
    ∃U',RL E D (AT E D) (RJ E D (AT E D)) rb 0 xb 0 U=some (.tup [.agg (IQ ⟨nm,tg,az,ks,ns⟩ nv tv dv),.int .i64 (AA 0),.int .i64 (AA 0)],U')/\N5 U' ⟨nm,tg,az,ks,ns⟩ nv tv dv/\Fr (fun k=>k=rb) U U':=by
  have ht:=h.p.p.ht
  obtain⟨a,ha,_⟩:=h.p.p.ex
  unfold pc at ha
  obtain⟨ws,k1,k2,k3⟩:=h.p.w
  have gn:=hN h.p.p
  unfold Hw at gn
  have ho:An (IQ ⟨nm,tg,az,ks,ns⟩ nv tv dv)=true:=by
    unfold IQ
    simp only[BC,BP,Ed,Dg,h.n.one,h.t.one,k1.one,A8]
  obtain⟨U',e1,f1,a1⟩:=Yk ht h.r (IQ ⟨nm,tg,az,ks,ns⟩ nv tv dv)
  have hr:=h.r
  have g1:∀J:H->AF,DX 5 rb 0 (.agg [.str (BB nm),.int .i64 (AA tg),nv,tv,dv]) U J=J U':=fun J=>by
    rw[ER hr (show _=true by
      rw[Cl]
      show (true&&true&&An (IQ ⟨nm,tg,az,ks,ns⟩ nv tv dv))=true
      rw[ho];rfl)]
    show J (GP U rb (.cells (IQ ⟨nm,tg,az,ks,ns⟩ nv tv dv)))=_
    rw[e1]
  refine⟨U',?_,⟨h.n.fr f1 ht (fun b hb e=>(h.nx b hb).2.2.2.2 e),(h.t.fr f1 ht (fun b hb e=>(h.tx b hb).2.2.2 e)).src,ws,(k1.fr f1 ht (fun b hb e=>h.rx.2.2 (e ▸ hb))).src,k2,fun k nd u hn hu=>?_⟩,f1⟩
  · have sub:∀J:List V->AF,EI [lv,.int .i64 (AA a),.str (BB nm),.int .i64 (AA tg),nv,tv,dv,.int .i64 (AA 0),.int .i64 (AA 0)] 2 5 J=J [.str (BB nm),.int .i64 (AA tg),nv,tv,dv]:=fun J=>by
      rw[D6 (by simp)];rfl
    have sub5:∀J:List V->AF,EI [.str (BB nm),.int .i64 (AA tg),nv,tv,dv] 0 5 J=J [.str (BB nm),.int .i64 (AA tg),nv,tv,dv]:=fun J=>by
      rw[D6 (by simp)];rfl
    unfold IQ at a1
    unfold RL RJ
    simp -implicitDefEqProofs only [↓rP,rA,AB,AE,AD,↓AZ ha,↓BX ha,↓gn,he,↓sub,↓g1,↓BX a1,↓sub5]
    rfl
  · obtain⟨x1,x2,x3⟩:=k3 k nd u hn hu
    exact⟨x1.fr f1 ht (fun b hb e=>(x3 b (.inl hb)).2.2 (.inr (.inr e))),x2.fr f1 ht (fun b hb e=>(x3 b (.inr hb)).2.2 (.inr (.inr e)))⟩
theorem AEd {T:Er} (hN:Ks (D 23)) (hI:N4 (D 22)) (hM:JF (D 21)) (hK:Li (D 20)) (hT:Lh T (D 25)) {xb rb:Nat} {lv:V} {ts:List CK} {nm:List Nat} {tg:Nat}:∀(n k:Nat) {U:H} {l:List CK} {nv tv dv:V} {ns:List Am} {az:List (List Nat)} {ks:List Nat} {r:List (List Nat) × List Nat × List Am × List CK} {e:CK} {l':List CK},
  Pm U xb rb lv ts l ⟨BB nm,AA tg,nv,tv,dv⟩ ns az ks->n<k->ks.length=az.length->N1 T n az ks ns l=some r->r.2.2.2=e::l'->decide (e.1=0)=true ->
  ∃nv' tv' dv' U',V3 E D (AT E D) N k rb 0 xb 0 U=some (.tup [.agg (IQ ⟨nm,tg,r.1,r.2.1,r.2.2.1⟩ nv' tv' dv'),.int .i64 (AA 0),.int .i64 (AA 0)],U')/\N5 U' ⟨nm,tg,r.1,r.2.1,r.2.2.1⟩ nv' tv' dv'/\Fr (fun b=>b=rb\/b=xb\/AJ nv b\/AJ tv b\/AJ dv b) U U':=by
 intro n
 induction n with
 | zero=>intro k U l nv tv dv ns az ks r e l' h hk hs0 hs;cases hs
 | succ n ih=>
  intro k U l nv tv dv ns az ks r e l' h hk hs0 hs hr he
  obtain⟨k,rfl⟩:∃j,k=j+1:=⟨k-1,by omega⟩
  obtain⟨a,ha,_⟩:=h.p.p.ex
  unfold pc at ha
  obtain⟨U1,g1,p1,f1⟩:=hI (BS.mk 3 4476485) h.p.p
  show ∃nv' tv' dv' U',RK E D (AT E D) (RL E D (AT E D) (RJ E D (AT E D))) (Zc E D (AT E D) (V3 E D (AT E D) N k)) rb 0 xb 0 U=_/\_
  have hs:(match EJ (BS.mk 3 4476485) l with
   | (true,l1)=>some (az,ks,ns,l1)
   | (false,l1)=>(JK 1 l1).bind fun a=>match decide (40<=az.length)with
    | true=>none
    | false=>(D8 (BS.mk 3 4012602) a.2).bind fun l2=>(T 0 l2 ns).bind fun t=>N1 T n (az++[a.1]) (ks++[t.1]) t.2.2 t.2.1:Option (List (List Nat) × List Nat × List Am × List CK))=some r:=hs
  cases hp:EJ (BS.mk 3 4476485) l with
  | mk c l1=>
   rw[hp]at hs g1 p1
   have h1:=h.go p1 f1
   cases c with
   | true=>
    cases hs
    have hr:l1=e::l':=hr
    subst hr
    obtain⟨U2,g2,m2,f2⟩:=qL (E:=E) hN h1 he
    refine⟨nv,tv,dv,U2,?_,m2,(f1.mono (fun _ _ e => .inr (.inl e)):Fr (fun b=>b=rb\/b=xb\/AJ nv b\/AJ tv b\/AJ dv b) U U1).trans f2 (fun _ _ e => .inl e)⟩
    have key:∀K4,RK E D (AT E D) (RL E D (AT E D) (RJ E D (AT E D))) K4 rb 0 xb 0 U=RL E D (AT E D) (RJ E D (AT E D)) rb 0 xb 0 U1:=by
     intro K4
     unfold RK
     simp -implicitDefEqProofs only [↓rP,rA,AB,AE,AD,↓AZ ha,↓g1]
    rw[key];exact g2
   | false=>
    have hs:((JK 1 l1).bind fun a=>match decide (40<=az.length)with
     | true=>none
     | false=>(D8 (BS.mk 3 4012602) a.2).bind fun l2=>(T 0 l2 ns).bind fun t=>N1 T n (az++[a.1]) (ks++[t.1]) t.2.2 t.2.1:Option (List (List Nat) × List Nat × List Am × List CK))=some r:=hs
    obtain⟨⟨w,l2⟩,hw,hs⟩:=AV.1 hs
    have hs:(match decide (40<=az.length)with
     | true=>none
     | false=>(D8 (BS.mk 3 4012602) l2).bind fun l2=>(T 0 l2 ns).bind fun t=>N1 T n (az++[w]) (ks++[t.1]) t.2.2 t.2.1:Option (List (List Nat) × List Nat × List Am × List CK))=some r:=hs
    cases hd:decide (40<=az.length)with
    | true=>rw[hd]at hs;cases hs
    | false=>
     rw[hd]at hs
     obtain⟨l3,hm,hs⟩:=AV.1 hs
     obtain⟨⟨i,l4,ns4⟩,ht,hs⟩:=AV.1 hs
     have hs9:N1 T n (az++[w]) (ks++[i]) ns4 l4=some r:=hs
     have hlen:az.length<40:=by have:=of_decide_eq_false hd;omega
     obtain⟨t1,l1',rfl⟩:∃t1 l1',l1=t1::l1':=by
      cases l1 with
      | nil=>cases hw
      | cons t l1=>exact⟨t,l1,rfl⟩
     have gn:=hN p1
     unfold Hw at gn
     obtain⟨U2,g2,p2,f2⟩:=hK p1 hw
     have h2:=h1.go p2 f2
     obtain⟨a2,ha2,_⟩:=p2.ex
     unfold pc at ha2
     obtain⟨U3,g3,p3,f3⟩:=hM p2 hm
     have h3:=h2.go p3 f3
     obtain⟨dv4,U4,g4,p4,f4,m4⟩:=hT (d:=0) h3.p h3.q (by omega) ht
     have h4:Pm U4 xb rb lv ts l4 ⟨BB nm,AA tg,nv,tv,dv4⟩ ns4 az ks:=h3.typ p4 f4 m4
     obtain⟨a4,ha4,_⟩:=h4.p.p.ex
     unfold pc at ha4
     obtain⟨u5,U5,U6,U7,e5,g5,o5,s5,h7,f7,m7⟩:=h4.name (E:=E) w (by omega)
     have h7:Pm U7 xb rb lv ts l4 ⟨BB nm,AA tg,u5,tv,dv4⟩ ns4 (az++[w]) ks:=h7
     obtain⟨a7,ha7,_⟩:=h7.p.p.ex
     unfold pc at ha7
     obtain⟨u8,U8,U9,U10,e8,g8,o8,s8,h10,f10,m10⟩:=h7.more (E:=E) i (by omega)
     have h10:Pm U10 xb rb lv ts l4 ⟨BB nm,AA tg,u5,u8,dv4⟩ ns4 (az++[w]) (ks++[i]):=h10
     obtain⟨nv',tv',dv',U',g',m',f'⟩:=ih k h10 (by omega) (by simp[hs0]) hs9 hr he
     refine⟨nv',tv',dv',U',?_,m',?_⟩
     ·have key:∀K2 R3,RK E D (AT E D) K2 (Zc E D (AT E D) R3) rb 0 xb 0 U=R3 rb 0 xb 0 U10:=by
       intro K2 R3
       unfold RK Zc
       simp -implicitDefEqProofs only [↓rP,rA,AB,AE,AD,↓AZ ha,↓g1,↓gn,↓g2,↓AZ ha2,h2.n.slen,hd,↓g3,↓g4,↓AZ ha4,↓e5,↓g5,↓Bl o5,↓s5,↓AZ ha7,↓e8,↓g8,↓Bl o8,↓s8]
      rw[key];exact g'
     ·have le1:=f1.le
      have le2:=f2.le
      have le3:=f3.le
      have le4:=f4.le
      have le7:=f7.le
      have m7:∀b,AJ u5 b->AJ nv b\/U4.next<=b:=m7
      have m10:∀b,AJ u8 b->AJ tv b\/U7.next<=b:=m10
      have m4:∀b,AJ dv4 b->AJ dv b\/U3.next<=b:=m4
      refine((((((f1.mono (fun _ _ e => .inr (.inl e)):Fr (fun b=>b=rb\/b=xb\/AJ nv b\/AJ tv b\/AJ dv b) U U1).trans f2 (fun _ _ e => .inr (.inl e))).trans f3 (fun _ _ e => .inr (.inl e))).trans f4 (fun b _ e=>e.elim (fun e => .inr (.inl e)) fun e => .inr (.inr (.inr (.inr e))))).trans f7 (fun b _ e=>e.elim (fun e => .inr (.inl e)) fun e => .inr (.inr (.inl e)))).trans f10 (fun b _ e=>e.elim (fun e => .inr (.inl e)) fun e => .inr (.inr (.inr (.inl e))))).trans f' (fun b hb e=>?_)
      rcases e with e|e|e|e|e
      ·exact .inl e
      ·exact .inr (.inl e)
      ·exact(m7 b e).elim (fun e => .inr (.inr (.inl e))) (fun e=>by omega)
      ·exact(m10 b e).elim (fun e => .inr (.inr (.inr (.inl e)))) (fun e=>by omega)
      ·exact(m4 b e).elim (fun e => .inr (.inr (.inr (.inr e)))) (fun e=>by omega)
theorem fill1 {u a b c d e f g i:V} (h:u.one=true) (J:List V->AF):D9 [(0,1,u)] [.nils,a,b,c,d,e,f,g,i] J=J [u,a,b,c,d,e,f,g,i]:=by
 obtain⟨h1,h2⟩:=D7 h
 unfold D9 Ez
 rw[h1,h2]
 rfl
theorem iA (hN:Ks (D 23)) (hI:N4 (D 22)) (hM:JF (D 21)) (hK:Li (D 20)) (hR:Zi N (D 19)) {U:H} {s:BS} {ts l l1:List CK} {w:List Nat} {t:Nat × List CK} (ht:Ar U) (hs:s.len<=8000) (hts:JZ N s.len s.nats ts) (h1:JK 1 ts=some (w,l)) (h2:D8 (BS.mk 11 100710650190388740279911748) l=some l1) (h3:ACy l1=some t) :
  ∃xb lv U',(∀K1,Ze E D (AT E D) K1 s U=K1 U.next 0 xb 0 U')/\Pm U' xb U.next lv ts t.2 ⟨BB w,AA t.1,.nils,.nils,.nils⟩ [] [] []/\U.next<=xb/\Fr AL U U':=by
 obtain⟨U1,e1,f1,a1,n1⟩:=JI ht rzC
 obtain⟨lv,U2,g2,d2,m2,f2⟩:=hR U1 s ts f1.tidy hs hts
 have le1:=f1.le
 have le2:=f2.le
 have a2:=f2.at_ a1 f1.tidy (fun h=>h)
 obtain⟨U3,e3,f3,a3,n3⟩:=JI f2.tidy (pc lv 0 ⟨BS.mk 0 0,AA 0,.nils,.nils,.nils⟩)
 have ll:∀b,AJ lv b->b<U2.next:=fun b hb=>d2.lt f2.tidy hb
 have p3:Pz U3 U2.next lv ts ts ⟨BS.mk 0 0,AA 0,.nils,.nils,.nils⟩:=⟨⟨0,a3,rfl⟩,(d2.fr f3 f2.tidy (fun _ _ h=>h)).src,(fun e=>by subst e;cases h1),fun b hb=>by have:=ll b hb;omega,hts.ok hs,f3.tidy⟩
 obtain⟨U4,g4,p4,f4⟩:=hK p3 h1
 obtain⟨U5,g5,p5,f5⟩:=p4.set (off:=2) (y := .str (BB w)) ⟨BB w,AA 0,.nils,.nils,.nils⟩ rfl (by decide) (fun _=>rfl)
 obtain⟨U6,g6,p6,f6⟩:=hM p5 h2
 have f36:=(f4.trans f5 (fun _ _ e=>e)).trans f6 (fun _ _ e=>e)
 obtain⟨U7,g7,p7,f7⟩:=hI (BS.mk 8 6073459554577832005) p6
 have f37:=f36.trans f7 (fun _ _ e=>e)
 have fin:∀{U':H} {t:Nat × List CK},Pz U' U2.next lv ts t.2 ⟨BB w,AA t.1,.nils,.nils,.nils⟩->Fr (fun k=>k=U2.next) U3 U'->Pm U' U2.next U.next lv ts t.2 ⟨BB w,AA t.1,.nils,.nils,.nils⟩ [] [] []/\U.next<=U2.next/\Fr AL U U':=by
  intro U' t p f
  refine⟨⟨⟨p,⟨[],DM.nil _ _,rfl,fun k nd u h=>by simp at h⟩,fun b hb=>hb.elim⟩,f.at_ (f3.at_ a2 f2.tidy (fun h=>h)) f3.tidy (fun e=>by omega),DM.nil _ _,DM.nil _ _,fun b hb=>hb.elim,fun b hb=>hb.elim,by omega,fun hn=>?_,fun h=>h⟩,by omega,((f1.trans f2 (fun _ _ h=>h)).trans f3 (fun _ _ h=>h)).trans f (fun b hb e=>by omega)⟩
  have:=m2 _ hn;omega
 unfold pc at e3
 have e3':Br U2 (.cells [lv,.int .i64 (AA 0),.str ⟨0,0⟩,.int .i64 (AA 0),.nils,.nils,.nils,.int .i64 (AA 0),.int .i64 (AA 0)])=U3:=e3
 have e1':Br U (.cells [.str ⟨0,0⟩,.int .i64 (AA 0),.nils,.nils,.nils])=U1:=e1
 unfold Ze
 cases hp:EJ (BS.mk 8 6073459554577832005) l1 with
 | mk c l2=>
  rw[hp]at g7 p7
  have h3:(match EJ (BS.mk 8 6073459554577832005) l1 with
   | (true,l1)=>(D8 (BS.mk 4 1397178708) l1).map fun l2=>(0,l2)
   | (false,l1)=>match EJ (BS.mk 8 6073459554577829193) l1 with
    | (true,l2)=>(D8 (BS.mk 4 1397178708) l2).map fun l3=>(1,l3)
    | (false,l2)=>match EJ (BS.mk 9 1241215773001651606849) l2 with
     | (true,l3)=>(D8 (BS.mk 4 1397178708) l3).map fun l4=>(2,l4)
     | (false,l3)=>some (0,l3):Option (Nat × List CK))=some t:=h3
  rw[hp]at h3
  cases c with
  | true=>
   obtain⟨l3,hm,he⟩:=Aa.1 h3
   cases he
   obtain⟨U8,g8,p8,f8⟩:=hM p7 hm
   obtain⟨q1,q2,q3⟩:=fin (t:=(0,l3)) p8 (f37.trans f8 (fun _ _ e=>e))
   refine⟨_,lv,U8,fun K1=>?_,q1,q2,q3⟩
   simp -implicitDefEqProofs only [↓rP,rA,AB,AE,AD,↓e1',↓g2,↓fill1 d2.one,d2.one,↓e3',↓g4,↓g5,↓g6,↓g7,↓g8]
  | false=>
   obtain⟨U8,g8,p8,f8⟩:=hI (BS.mk 8 6073459554577829193) p7
   have f38:=f37.trans f8 (fun _ _ e=>e)
   cases hp8:EJ (BS.mk 8 6073459554577829193) l2 with
   | mk c l3=>
    rw[hp8]at g8 p8
    have h3:(match EJ (BS.mk 8 6073459554577829193) l2 with
     | (true,l2)=>(D8 (BS.mk 4 1397178708) l2).map fun l3=>(1,l3)
     | (false,l2)=>match EJ (BS.mk 9 1241215773001651606849) l2 with
      | (true,l3)=>(D8 (BS.mk 4 1397178708) l3).map fun l4=>(2,l4)
      | (false,l3)=>some (0,l3):Option (Nat × List CK))=some t:=h3
    rw[hp8]at h3
    cases c with
    | true=>
     obtain⟨l4,hm,he⟩:=Aa.1 h3
     cases he
     obtain⟨U9,g9,p9,f9⟩:=p8.set (off:=3) (y := .int .i64 (AA 1)) ⟨BB w,AA 1,.nils,.nils,.nils⟩ rfl (by decide) (fun _=>rfl)
     obtain⟨U10,g10,p10,f10⟩:=hM p9 hm
     obtain⟨q1,q2,q3⟩:=fin (t:=(1,l4)) p10 ((f38.trans f9 (fun _ _ e=>e)).trans f10 (fun _ _ e=>e))
     refine⟨_,lv,U10,fun K1=>?_,q1,q2,q3⟩
     simp -implicitDefEqProofs only [↓rP,rA,AB,AE,AD,↓e1',↓g2,↓fill1 d2.one,d2.one,↓e3',↓g4,↓g5,↓g6,↓g7,↓g8,↓g9,↓g10]
    | false=>
     obtain⟨U9,g9,p9,f9⟩:=hI (BS.mk 9 1241215773001651606849) p8
     have f39:=f38.trans f9 (fun _ _ e=>e)
     cases hp9:EJ (BS.mk 9 1241215773001651606849) l3 with
     | mk c l4=>
      rw[hp9]at g9 p9
      have h3:(match EJ (BS.mk 9 1241215773001651606849) l3 with
       | (true,l3)=>(D8 (BS.mk 4 1397178708) l3).map fun l4=>(2,l4)
       | (false,l3)=>some (0,l3):Option (Nat × List CK))=some t:=h3
      rw[hp9]at h3
      cases c with
      | true=>
       obtain⟨l5,hm,he⟩:=Aa.1 h3
       cases he
       obtain⟨U10,g10,p10,f10⟩:=p9.set (off:=3) (y := .int .i64 (AA 2)) ⟨BB w,AA 2,.nils,.nils,.nils⟩ rfl (by decide) (fun _=>rfl)
       obtain⟨U11,g11,p11,f11⟩:=hM p10 hm
       obtain⟨q1,q2,q3⟩:=fin (t:=(2,l5)) p11 ((f39.trans f10 (fun _ _ e=>e)).trans f11 (fun _ _ e=>e))
       refine⟨_,lv,U11,fun K1=>?_,q1,q2,q3⟩
       simp -implicitDefEqProofs only [↓rP,rA,AB,AE,AD,↓e1',↓g2,↓fill1 d2.one,d2.one,↓e3',↓g4,↓g5,↓g6,↓g7,↓g8,↓g9,↓g10,↓g11]
      | false=>
       cases h3
       obtain⟨q1,q2,q3⟩:=fin (t:=(0,l4)) p9 f39
       refine⟨_,lv,U9,fun K1=>?_,q1,q2,q3⟩
       simp -implicitDefEqProofs only [↓rP,rA,AB,AE,AD,↓e1',↓g2,↓fill1 d2.one,d2.one,↓e3',↓g4,↓g5,↓g6,↓g7,↓g8,↓g9]
theorem qK {T:Er} (hN:Ks (D 23)) (hI:N4 (D 22)) (hM:JF (D 21)) (hK:Li (D 20)) (hR:Zi N (D 19)) (hT:Lh T (D 25)) (hF:1000<N):TB N T (F13 E D (AT E D) N):=by
 intro U s ts m ht hs hts hm
 obtain⟨⟨w,l⟩,h1,hm⟩:=AV.1 hm
 obtain⟨l1,h2,hm⟩:=AV.1 hm
 obtain⟨⟨tg,l2⟩,h3,hm⟩:=AV.1 hm
 obtain⟨l3,h4,hm⟩:=AV.1 hm
 obtain⟨l4,h5,hm⟩:=AV.1 hm
 obtain⟨r,h6,hm⟩:=AV.1 hm
 obtain⟨xb,lv,U1,g1,p1,lx,f1⟩:=iA (E:=E) hN hI hM hK hR ht hs hts h1 h2 h3
 obtain⟨U2,g2,p2,f2⟩:=hM p1.p.p h4
 obtain⟨U3,g3,p3,f3⟩:=hM p2 h5
 have q3:=(p1.go p2 f2).go p3 f3
 cases he:r.2.2.2 with
 | nil=>rw[he]at hm;cases hm
 | cons e l'=>
  rw[he]at hm
  have hm:(match decide (e.1=0)with
   | true=>some (⟨w,tg,r.1,r.2.1,r.2.2.1⟩:Cg)
   | false=>none)=some m:=hm
  cases h0:decide (e.1=0)with
  | false=>rw[h0]at hm;cases hm
  | true=>
   rw[h0]at hm
   cases hm
   obtain⟨nv,tv,dv,U4,g4,m4,f4⟩:=AEd (E:=E) (N:=N) hN hI hM hK hT 50 N q3 (by omega) rfl h6 he h0
   refine⟨nv,tv,dv,U4,?_,m4,((f1.trans f2 (fun b hb e=>by omega)).trans f3 (fun b hb e=>by omega)).trans f4 (fun b hb e=>?_)⟩
   ·show Ze E D (AT E D) (Zd E D (AT E D) (V3 E D (AT E D) N N)) s U=_
    rw[g1]
    have key:∀K3,Zd E D (AT E D) K3 U.next 0 xb 0 U1=K3 U.next 0 xb 0 U3:=by
     intro K3
     unfold Zd
     simp -implicitDefEqProofs only [↓rP,rA,AB,AE,AD,↓g2,↓g3]
    rw[key];exact g4
   ·rcases e with e|e|e|e|e
    ·omega
    ·omega
    ·exact e.elim
    ·exact e.elim
    ·exact e.elim
end
section
variable {E:EB} {D:Ai} {N:Nat}
theorem fx {U:H} {nb ib:Nat} {l:List V} {v:V} {k:Nat} {m:List V} {kd z1 z2 ro dd ii:Int} {tb eb:Nat} {y1 y2 y3 y4 mo:Bool}  (ht:Ar U) (ha:CQ U nb l) (hv:l[5]? = some v) (hi:CQ U ib [.int .i64 kd,.sl tb 0 1 (.ex 1),.bool y1,.bool y2,.bool y3,.bool y4,.int .i64 z1,.int .i64 z2,.nils,.nils,.int .i64 ro,.bool mo,.int .i64 (AA 0)]) (hd:DM U 13 k v m) (hk:k<=9000) (hne:nb≠ib) (nv:¬AJ v nb) (ni:¬AJ v ib) :
    ∃e' u U',AT E D Nk Kv [(0,.ptr nb 0),(2,.int .i64 dd),(4,.ptr eb 0),(7,.int .i64 ii),(8,.ptr ib 0)] U=some (e',U')/\Go.Og.look e' 0=some (.ptr nb 0)/\Go.Og.look e' 2=some (.int .i64 dd)/\Go.Og.look e' 4=some (.ptr eb 0)/\Go.Og.look e' 7=some (.int .i64 ii)/\CQ U' nb (FC l 5 [u])/\DM U' 13 (k+1) u (m++[.int .i64 kd,.sl tb 0 1 (.ex 1),.bool y1,.bool y2,.bool y3,.bool y4,.int .i64 z1,.int .i64 z2,.nils,.nils,.int .i64 ro,.bool mo,.int .i64 (AA 0)])/\(∀b,AJ u b->AJ v b\/U.next<=b)/\¬AJ u nb/\Fr (fun b=>b=nb\/AJ v b) U U':=by
  have fw:Fr AL U ⟨U.next+11,U.bl⟩:=(CO (E:=E) (n:=11) (S:=AL) ht).fr
  have lb:=ha.lt ht
  have li:=hi.lt ht
  obtain⟨Ua,ha'⟩:∃Ua,Ua=(⟨U.next+11,(U.next+6,.cells [.int .i64 kd,.sl tb 0 1 (.ex 1),.bool y1,.bool y2,.bool y3,.bool y4,.int .i64 z1,.int .i64 z2,.nils,.nils,.int .i64 ro,.bool mo,.int .i64 (AA 0)])::U.bl⟩:H):=⟨_,rfl⟩
  have fa:Fr AL U Ua:=by
    rw[ha']
    refine⟨fun b hb=>?_,GF _ _,fun b hb hn=>?_⟩
    · have hb:U.next+11<=b:=hb
      show BU ((U.next+6,_)::U.bl) b=none
      rw[Au,if_neg (by simp only[];omega)]
      exact ht b (by omega)
    · show BU ((U.next+6,_)::U.bl) b=_
      rw[Au,if_neg (by simp only[];omega)]
  have aa:CQ Ua (U.next+6) [.int .i64 kd,.sl tb 0 1 (.ex 1),.bool y1,.bool y2,.bool y3,.bool y4,.int .i64 z1,.int .i64 z2,.nils,.nils,.int .i64 ro,.bool mo,.int .i64 (AA 0)]:=by
    rw[ha']
    show BU ((U.next+6,_)::U.bl) _=_
    rw[Au,if_pos rfl]
  have xs:DL Ua 13 1 (V.sl (U.next+6) 0 1 (.ex 1)) [.int .i64 kd,.sl tb 0 1 (.ex 1),.bool y1,.bool y2,.bool y3,.bool y4,.int .i64 z1,.int .i64 z2,.nils,.nils,.int .i64 ro,.bool mo,.int .i64 (AA 0)] := .inr ⟨_,_,_,_,rfl,aa,AK _,rfl⟩
  have ho:An [.int .i64 kd,.sl tb 0 1 (.ex 1),.bool y1,.bool y2,.bool y3,.bool y4,.int .i64 z1,.int .i64 z2,.nils,.nils,.int .i64 ro,.bool mo,.int .i64 (AA 0)]=true:=by simp only[BC,BP,Dg,Ed,ET,Fu,A8];rfl
  obtain⟨u,U2,g2,d2,m2,f2⟩:=Du (E:=E) (bytes:=128) (hd.fr fa ht (fun _ _ h=>h)) fa.tidy xs ho (by unfold Bw;simp only[AG,Ac];omega)
  have na:Ua.next=U.next+11:=by rw[ha']
  have vl:∀b,AJ v b->b<U.next:=fun b hb=>hd.lt ht hb
  have a2:CQ U2 nb l:=f2.at_ (fa.at_ ha ht (fun h=>h)) fa.tidy nv
  obtain⟨o1,o2⟩:=D7 d2.one
  have st:∃U3,Dx E D (.store 1 (.tmp 54) (.tmp 52)) [(54,.ptr nb 5),(52,u)] U2=some (.dead,U3)/\Fr (fun k=>k=nb) U2 U3/\CQ U3 nb (FC l 5 [u]):=by
    obtain⟨U3,q1,q2,q3⟩:=Jl (E:=E) (D:=D) (n:=1) (x := .tmp 54) (y := .tmp 52) (e:=[(54,.ptr nb 5),(52,u)]) f2.tidy a2 rfl (show (CP [(54,.ptr nb 5),(52,u)] (.tmp 52)).cells=[u] from o2) (by
      have:5<l.length:=by
        rcases Av 5 l.length with h|h
        · exact h
        · rw[BF h]at hv;cases hv
      simp only[BC,BP,d2.one,A8,AN,BQ,BA,F9,Co,Ac];omega)
    exact⟨U3,q1,q2,q3⟩
  obtain⟨U3,g3,f3,c3⟩:=st
  have un:¬AJ u nb:=fun h=>(m2 nb h).elim nv fun h=>by omega
  have vb:V.beq v v=true:=by
    rcases hd with h|⟨b,rfl,_⟩
    · rcases h with ⟨_,rfl,_⟩ | ⟨_,rfl,_⟩<;>exact B0 _ rfl
    · exact B0 _ rfl
  have go:Ew (JQ E U 11 Kv _ U3) E D U 11 0 Nk Kv ⟨[(0,.ptr nb 0),(2,.int .i64 dd),(4,.ptr eb 0),(7,.int .i64 ii),(8,.ptr ib 0)],U.next+11,[U.bl],[],0,[]⟩:=
    B5 (.ptr nb 0) rfl rfl <|
    B5 (.ptr nb 0) rfl rfl <|
    B5 (.ptr nb 0) rfl rfl <|
    B5 (.ptr nb 5) rfl rfl <|
    G8 v (CO (S:=AJ v) ht) rfl (DC (b:=nb) (off:=5) rfl ha hv ht nv vb) fun r1=>
    G8 (.agg [.int .i64 kd,.sl tb 0 1 (.ex 1),.bool y1,.bool y2,.bool y3,.bool y4,.int .i64 z1,.int .i64 z2,.nils,.nils,.int .i64 ro,.bool mo,.int .i64 (AA 0)]) r1 rfl (KM (b:=ib) (off:=0) rfl hi rfl rfl ht ni (B0 _ rfl)) fun r2=>
    Qv (.sl (U.next+6) 0 1 (.ex 1)) (.cells [.int .i64 kd,.sl tb 0 1 (.ex 1),.bool y1,.bool y2,.bool y3,.bool y4,.int .i64 z1,.int .i64 z2,.nils,.nils,.int .i64 ro,.bool mo,.int .i64 (AA 0)]) 64 r2 rfl (by decide) (by decide) rfl fun _ r3=>
    MC u (by rw[<-ha']at r3;exact r3) rfl (by decide) (S':=AJ v) f2 (fun _ _ h=>h) (fun b h h1 _=>by have:=vl b h;omega) (H7 rfl rfl g2) fun _ _ r4=>
    B5 (.ptr nb 0) rfl rfl <|
    B5 (.ptr nb 5) rfl rfl <|
    MD .dead r4 rfl (by decide) f3 (fun b h h1 _=>by omega) g3 (fun x hx=>by
      simp only[Ax,E5,or_false]at hx
      rcases hx with rfl|rfl
      · show FA Kv 5 [10,7] []=false
        decide
      · show FA Kv 4 [10,7] []=false
        decide)
  have d:=Gt (ops:=Nk) go
  refine⟨_,u,U3,d,rfl,rfl,rfl,rfl,c3,d2.fr f3 f2.tidy (fun b hb e=>un (e ▸ hb)),fun b hb=>(m2 b hb).elim .inl (fun h => .inr (by omega)),un,?_⟩
  exact((fa.mono (fun _ _ h=>h.elim):Fr (fun b=>b=nb\/AJ v b) U Ua).trans f2 (fun _ _ h => .inr h)).trans f3 (fun _ _ h => .inl h)
def PI (c:X7) (sz:Bool):Bool:=!c.has || !(((c.hasLow&&c.hasHigh)&&Ci c.high c.low) || (sz&&(((!c.hasLow || Ci c.low (AA 0)) || Ci (AA 70000) c.low) || (c.hasHigh&&(Ci c.high (AA 0) || Ci (AA 70000) c.high)))))
def AEB (c:X7):List V:=[.bool c.has,.bool c.hasLow,.bool c.hasHigh,.bool c.more,.int .i64 c.low,.int .i64 c.high]
def OM (F:List V->H->AF):Prop:=∀(U:H) (c:X7) (sz:Bool),Ar U->PI c sz=true->∃U',F [.agg (AEB c),.bool sz] U=some (.int .i64 (AA 0),U')/\Fr AL U U'
theorem re {W:AH}:OM (F80 E D W N):=by
 intro U c sz ht hc
 obtain⟨ha,hl,hh,mo,lo,hi⟩:=c
 obtain⟨U1,e1,f1,a1,n1⟩:=JI ht [.bool ha,.bool hl,.bool hh,.bool mo,.int .i64 lo,.int .i64 hi]
 refine⟨U1,?_,f1⟩
 unfold PI at hc
 dsimp only at hc
 show j7 E D W ha hl hh mo lo hi sz U=_
 unfold j7
 generalize h1:Ci hi lo=b1 at hc ⊢
 generalize h2:Ci lo (AA 0)=b2 at hc ⊢
 generalize h3:Ci (AA 70000) lo=b3 at hc ⊢
 generalize h4:Ci hi (AA 0)=b4 at hc ⊢
 generalize h5:Ci (AA 70000) hi=b5 at hc ⊢
 cases ha
 ·simp -implicitDefEqProofs only [↓rP,rA,AB,AE,AD,↓e1,↓AZ a1]
 ·cases hl<;>cases hh<;>cases sz<;>(try cases b1)<;>(try cases b2)<;>(try cases b3)<;>(try cases b4)<;>(try cases b5)<;>first
   | exact absurd hc (by decide)
   | (simp -implicitDefEqProofs only [↓rP,rA,AB,AE,AD,↓e1,↓AZ a1,h1,h2,h3,h4,h5];done)
def fp (k:Nat):Nat:=match k with
 | 1=>1 | 2=>2 | 3=>10 | 4=>5 | 5=>4 | 6=>12 | 7=>16 | 8=>17 | 10=>16 | _=>0
def Zh (F:List V->H->AF):Prop:=∀(U:H) (k:Nat),k<=10->F [.int .i64 (AA k)] U=some (.agg [.int .i64 (AA 0),.int .i64 (AA (fp k))],U)
theorem ACw {W:AH}:Zh (F79 E D W N):=by
 intro U k hk
 match k,hk with
 | 0,_=>rfl
 | 1,_=>rfl
 | 2,_=>rfl
 | 3,_=>rfl
 | 4,_=>rfl
 | 5,_=>rfl
 | 6,_=>rfl
 | 7,_=>rfl
 | 8,_=>rfl
 | 9,_=>rfl
 | 10,_=>rfl
theorem SY:∀(ns:List Am) (ws:List (V × V)) (i:Nat) (nd:Am) (u:V × V),ns[i]? = some nd->ws[i]? = some u->((Hf ns ws).drop (i*16)).take 16=nd.c u.1 u.2
 | [],_,i,nd,u,h,_=>by simp at h
 | _::_,[],i,nd,u,_,h=>by simp at h
 | x::ns,y::ws,0,nd,u,h,h'=>by simp at h h';subst h;subst h';rfl
 | x::ns,y::ws,i+1,nd,u,h,h'=>by
  have h:ns[i]? = some nd:=by simpa using h
  have h':ws[i]? = some u:=by simpa using h'
  show ((x.c y.1 y.2++Hf ns ws).drop ((i+1)*16)).take 16=_
  rw[show (i+1)*16=16+i*16 by omega,<-CJ,show (x.c y.1 y.2++Hf ns ws).drop 16=Hf ns ws from rfl]
  exact SY ns ws i nd u h h'
theorem Iv {U:H} {esz n i:Nat} {v:V} {m c:List V} (h:DL U esz n v m) (hi:i<n) (hc:(m.drop (i*esz)).take esz=c) (hz:0<esz) (J:List V->AF):AW esz v (AA i) (fun b o=>Bv E U b o esz J)=J c:=by
 rcases h with ⟨h0,_,_⟩|⟨b,o,cp,L,rfl,ha,hle,hm⟩
 ·omega
 ·rw[Cb hi]
  show Bv E U b (o+i*esz) esz J=_
  have hmul:i*esz+esz<=n*esz:=by rw[<-Nat.succ_mul];exact EL _ hi
  rw[BX ha,D6 (by omega)]
  rw[hm,Ln,ABZ,Em (by omega),CJ]at hc
  rw[hc]
theorem Ob {U:H} {n i:Nat} {v w:V} {m:List V} (h:DL U 1 n v m) (hi:i<n) (hc:m[i]? = some w) (J:V->AF):AW 1 v (AA i) (fun b o=>EG E U b o J)=J w:=by
 rcases h with ⟨h0,_,_⟩|⟨b,o,cp,L,rfl,ha,hle,hm⟩
 ·omega
 ·rw[Cb hi]
  show EG E U b (o+i*1) J=_
  have:L[o+i*1]? = some w:=by
   rw[hm,CG (by omega),Bm]at hc
   rw[B8];exact hc
  rw[AZ ha,OA (by rw[L6];exact this)]
end
def Pt (F:List V->H->AF):Prop:=∀(U:H) (v:V) (l:List Nat) (x:Nat),DL U 1 l.length v (HX l)->l.length<=9000->F [v,.int .i64 (AA x)] U=some (.bool (l.any fun y=>decide (y=x)),U)
structure Ki (m:Cg):Prop where
 kinds:∀nd∈m.ns,nd.kind≠11/\nd.kind<=10/\nd.fields.length<=5000
 few:m.ns.length<=300/\m.az.length<=40
 as_many:m.ks.length=m.az.length
 apart:∀i,i<m.az.length->((m.az.take i).map BB).any (fun x=>x.beq (BB (m.az[i]?.getD [])))=false
def Ld (m:Cg) (q:Nat) (F:List V->H->AF):Prop:=∀(U:H) (nv tv dv:V) (k d:Nat),Ar U->N5 U m nv tv dv->17<=d+q->d<=1000 ->
 ∃U',F [.agg (IQ m nv tv dv),.int .i64 (AA k),.int .i64 (AA d),.nils] U=some (.tup [.nils,.bool false],U')/\Fr AL U U'
theorem N5.fr {U U':H} {m:Cg} {nv tv dv:V} (h:N5 U m nv tv dv) (f:Fr AL U U') (ht:Ar U):N5 U' m nv tv dv:=by
 obtain⟨ws,h1,h2,h3⟩:=h.d
 refine⟨h.n.fr f ht (fun _ _ h=>h),h.t.fr f ht (fun _ _ h=>h),ws,h1.fr f ht (fun _ _ h=>h),h2,fun k nd u hn hu=>?_⟩
 obtain⟨a,b⟩:=h3 k nd u hn hu
 exact⟨a.fr f ht (fun _ _ h=>h),b.fr f ht (fun _ _ h=>h)⟩
theorem N5.nd {U:H} {m:Cg} {nv tv dv:V} (h:N5 U m nv tv dv) {k:Nat} {nd:Am} (hk:m.ns[k]? = some nd) :
  ∃iv fv,(∀(E:EB) (J:List V->AF),AW 16 dv (AA k) (fun b o=>Bv E U b o 16 J)=J (nd.c iv fv))/\DL U 3 nd.items.length iv (iT nd.items)/\DL U 11 nd.fields.length fv (Ir nd.fields):=by
 obtain⟨ws,h1,h2,h3⟩:=h.d
 have hlt:k<m.ns.length:=(AY.1 hk).1
 obtain⟨u,hu⟩:∃u,ws[k]? = some u:=⟨ws[k],AM (by omega)⟩
 obtain⟨a,b⟩:=h3 k nd u hk hu
 exact⟨u.1,u.2,fun E J=>Iv (E:=E) h1 hlt (SY _ _ _ _ _ hk hu) (by decide) J,a,b⟩
theorem Y0:∀(l:List Bj) (i:Nat) (f:Bj),l[i]? = some f->(Ir l)[i*11+1]? = some (.int .i64 (AA f.type))
 | [],i,f,h=>by simp at h
 | x::l,0,f,h=>by simp at h;subst h;rfl
 | x::l,i+1,f,h=>by
  have h:l[i]? = some f:=by simpa using h
  show (x.c++Ir l)[(i+1)*11+1]? = _
  rw[BR (by show 11<=_;omega),show (i+1)*11+1-x.c.length=i*11+1 by show (i+1)*11+1-11=_;omega]
  exact Y0 l i f h
section
variable {E:EB} {D:Ai} {W:AH} {N:Nat}
theorem Gi {U:H} {esz n i off:Nat} {v w:V} {m:List V} (h:DL U esz n v m) (hi:i<n) (ho:off<esz) (hc:m[i*esz+off]? = some w) (J:V->AF):AW esz v (AA i) (fun b o=>EG E U b (AP o off) J)=J w:=by
 rcases h with ⟨h0,_,_⟩|⟨b,o,cp,L,rfl,ha,hle,hm⟩
 ·omega
 ·rw[Cb hi]
  show EG E U b (o+i*esz+off) J=_
  have hmul:i*esz+esz<=n*esz:=by rw[<-Nat.succ_mul];exact EL _ hi
  have:L[o+i*esz+off]? = some w:=by
   rw[hm,CG (by omega),Bm]at hc
   rw[D3];exact hc
  exact I4 ha this
theorem AD4 (hN:10000<N):Pt (F12 E D W N):=by
 intro U v l x hv hl
 have key:∀(m i n:Nat),i+m=l.length->m<n->Z2 E D W N n v (AA x) (AA i) U=some (.bool ((l.drop i).any fun y=>decide (y=x)),U):=by
  intro m
  induction m with
  | zero=>
   intro i n hi hn
   obtain⟨n,rfl⟩:∃k,n=k+1:=⟨n-1,by omega⟩
   rw[Tx (by omega)]
   show Pj E D W (RM E D W) _ v (AA x) (AA i) U=_
   have d1:decide (i<l.length)=false:=decide_eq_false (by omega)
   have sl:∀J:Nat->AF,A0 v J=J l.length:=fun J=>hv.slen
   have k:∀R,Pj E D W (RM E D W) R v (AA x) (AA i) U=some (.bool false,U):=by
    intro R
    unfold Pj RM
    simp -implicitDefEqProofs only [↓rP,rA,AB,AE,AD,↓sl,d1]
   exact k _
  | succ m ih=>
   intro i n hi hn
   obtain⟨n,rfl⟩:∃k,n=k+1:=⟨n-1,by omega⟩
   have hlt:i<l.length:=by omega
   rw[DB hlt,List.any_cons]
   show Pj E D W (RM E D W) (Z2 E D W N n) v (AA x) (AA i) U=_
   have d1:decide (i<l.length)=true:=decide_eq_true hlt
   have a1:Ba .i64 (AA i) (AA 1)=AA (i+1):=A3 (by omega)
   have sl:∀J:Nat->AF,A0 v J=J l.length:=fun J=>hv.slen
   have rd:∀J,AW 1 v (AA i) (fun b o=>EG E U b o J)=J (.int .i64 (AA l[i])):=fun J=>Ob hv hlt (by unfold HX;rw[Aw,AM hlt];rfl) J
   have k:∀R,Pj E D W (RM E D W) R v (AA x) (AA i) U=AI (decide (l[i]=x)) (some (.bool true,U)) (R v (AA x) (AA (i+1)) U):=by
    intro R
    unfold Pj
    simp -implicitDefEqProofs only [↓rP,rA,AB,AE,AD,↓sl,d1,↓rd,a1]
   rw[k,ih (i+1) n (by omega) (by omega)]
   cases decide (l[i]=x)<;>rfl
 exact key l.length 0 N (by omega) (by omega)
theorem wk {m:Cg} {q:Nat} (hU:Ld m q (D 44)) (hN:6000<N) {nd:Am} {iv fv nv tv dv:V} {mb d:Nat} (hk11:nd.kind≠11) (hq:17<=d+1+q) (hd:d<=16) (hfl:nd.fields.length<=5000):∀(n i k:Nat) {U:H},i+n=nd.fields.length->n<k->Ar U->CQ U mb (IQ m nv tv dv)->N5 U m nv tv dv->DL U 11 nd.fields.length fv (Ir nd.fields) ->
  ∃U',Vy E D W N k (AA d) .nils mb 0 false (AA i) (AA nd.kind) (BB nd.name) nd.mHas nd.mNum (AA nd.mMode) nd.con.has nd.con.hasLow nd.con.hasHigh nd.con.more nd.con.low nd.con.high iv fv (AA nd.root) nd.more (AA nd.of_) U=some (.tup [.nils,.bool false],U')/\Fr AL U U':=by
 have ad:Ba .i64 (AA d) (AA 1)=AA (d+1):=A3 (by omega)
 intro n
 induction n with
 | zero=>
  intro i k U hi hk ht ha hm hf
  obtain⟨k,rfl⟩:∃j,k=j+1:=⟨k-1,by omega⟩
  have d1:decide (i<nd.fields.length)=false:=decide_eq_false (by omega)
  have sl:∀J:Nat->AF,A0 fv J=J nd.fields.length:=fun J=>hf.slen
  unfold IQ at ha
  have sub:∀J:List V->AF,EI [.str (BB m.nm),.int .i64 (AA m.tg),nv,tv,dv] 0 5 J=J [.str (BB m.nm),.int .i64 (AA m.tg),nv,tv,dv]:=fun J=>by
   rw[D6 (by simp)];rfl
  obtain⟨U',g,f⟩:=hU U nv tv dv nd.of_ (d+1) ht hm (by omega) (by omega)
  unfold IQ at g
  cases h10:decide (nd.kind=10)with
  | false=>
   refine⟨U,?_,Fr.refl ht⟩
   show Kr E D W (NY E D W (NX E D W)) _ _ _ _ _ _ _ _ _ _ _ _ _ _ _ _ _ _ _ _ _ _ _ _=_
   have key:∀R,Kr E D W (NY E D W (NX E D W)) R (AA d) .nils mb 0 false (AA i) (AA nd.kind) (BB nd.name) nd.mHas nd.mNum (AA nd.mMode) nd.con.has nd.con.hasLow nd.con.hasHigh nd.con.more nd.con.low nd.con.high iv fv (AA nd.root) nd.more (AA nd.of_) U=some (.tup [.nils,.bool false],U):=by
    intro R
    unfold Kr NY NX
    simp -implicitDefEqProofs only [↓rP,rA,AB,AE,AD,↓sl,d1,h10]
   exact key _
  | true=>
   refine⟨U',?_,f⟩
   show Kr E D W (NY E D W (NX E D W)) _ _ _ _ _ _ _ _ _ _ _ _ _ _ _ _ _ _ _ _ _ _ _ _=_
   have key:∀R,Kr E D W (NY E D W (NX E D W)) R (AA d) .nils mb 0 false (AA i) (AA nd.kind) (BB nd.name) nd.mHas nd.mNum (AA nd.mMode) nd.con.has nd.con.hasLow nd.con.hasHigh nd.con.more nd.con.low nd.con.high iv fv (AA nd.root) nd.more (AA nd.of_) U=some (.tup [.nils,.bool false],U'):=by
    intro R
    unfold Kr NY NX
    simp -implicitDefEqProofs only [↓rP,rA,AB,AE,AD,↓sl,d1,h10,↓BX ha,↓sub,ad,↓g]
   exact key _
 | succ n ih=>
  intro i k U hi hk ht ha hm hf
  obtain⟨k,rfl⟩:∃j,k=j+1:=⟨k-1,by omega⟩
  have hlt:i<nd.fields.length:=by omega
  have d1:decide (i<nd.fields.length)=true:=decide_eq_true hlt
  have a1:Ba .i64 (AA i) (AA 1)=AA (i+1):=A3 (by omega)
  have sl:∀J:Nat->AF,A0 fv J=J nd.fields.length:=fun J=>hf.slen
  have rd:∀J,AW 11 fv (AA i) (fun b o=>EG E U b (AP o 1) J)=J (.int .i64 (AA nd.fields[i].type)):=fun J=>Gi hf hlt (by decide) (Y0 _ _ _ (AM hlt)) J
  obtain⟨U1,g,f1⟩:=hU U nv tv dv nd.fields[i].type (d+1) ht hm (by omega) (by omega)
  obtain⟨U',g',f'⟩:=ih (i+1) k (U:=U1) (by omega) (by omega) f1.tidy (f1.at_ ha ht (fun h=>h)) (hm.fr f1 ht) (hf.fr f1 ht (fun _ _ h=>h))
  refine⟨U',?_,f1.trans f' (fun _ _ h=>h)⟩
  unfold IQ at ha g
  have sub:∀J:List V->AF,EI [.str (BB m.nm),.int .i64 (AA m.tg),nv,tv,dv] 0 5 J=J [.str (BB m.nm),.int .i64 (AA m.tg),nv,tv,dv]:=fun J=>by
   rw[D6 (by simp)];rfl
  show Kr E D W (NY E D W (NX E D W)) (Vy E D W N k) _ _ _ _ _ _ _ _ _ _ _ _ _ _ _ _ _ _ _ _ _ _ _=_
  have key:∀K R,Kr E D W K R (AA d) .nils mb 0 false (AA i) (AA nd.kind) (BB nd.name) nd.mHas nd.mNum (AA nd.mMode) nd.con.has nd.con.hasLow nd.con.hasHigh nd.con.more nd.con.low nd.con.high iv fv (AA nd.root) nd.more (AA nd.of_) U=R (AA d) .nils mb 0 false (AA (i+1)) (AA nd.kind) (BB nd.name) nd.mHas nd.mNum (AA nd.mMode) nd.con.has nd.con.hasLow nd.con.hasHigh nd.con.more nd.con.low nd.con.high iv fv (AA nd.root) nd.more (AA nd.of_) U1:=by
   intro K R
   unfold Kr
   simp -implicitDefEqProofs only [↓rP,rA,AB,AE,AD,↓sl,d1,↓BX ha,↓sub,↓rd,ad,a1,↓g]
  rw[key];exact g'
theorem fm {m:Cg} {q:Nat} (hm:Ki m) (hN:6000<N) (hU:∀p,q=p+1->Ld m p (D 44)):Ld m q (F44 E D W N):=by
 intro U nv tv dv k d ht hs hq hd
 obtain⟨U1,e1,f1,a1,n1⟩:=JI ht (IQ m nv tv dv)
 have sl:∀J:Nat->AF,A0 dv J=J m.ns.length:=fun J=>by
  obtain⟨ws,h1,_⟩:=hs.d
  exact h1.slen
 have od:dv.one=true:=by
  obtain⟨ws,h1,_⟩:=hs.d
  exact h1.one
 have d0:decide (k<0)=false:=decide_eq_false (by omega)
 unfold IQ at e1 a1
 have s1:=hs.fr f1 ht
 show ∃U',RE E D W (uk E D W (Vy E D W N N)) (uj E D W) (BB m.nm) (AA m.tg) nv tv dv (AA k) (AA d) .nils U=_/\_
 cases h1:decide (m.ns.length<=k)with
 | true=>
  refine⟨U1,?_,f1⟩
  unfold RE
  simp -implicitDefEqProofs only [↓rP,rA,AB,AE,AD,hs.n.one,hs.t.one,od,d0,↓e1,↓AZ a1,↓sl,h1]
 | false=>
  cases h2:decide (16<d)with
  | true=>
   refine⟨U1,?_,f1⟩
   unfold RE
   simp -implicitDefEqProofs only [↓rP,rA,AB,AE,AD,hs.n.one,hs.t.one,od,d0,↓e1,↓AZ a1,↓sl,h1,h2]
  | false=>
   have hk:k<m.ns.length:=by have:=of_decide_eq_false h1;omega
   have hd16:d<=16:=by have:=of_decide_eq_false h2;omega
   obtain⟨p,rfl⟩:∃p,q=p+1:=⟨q-1,by omega⟩
   obtain⟨iv,fv,rd,hi,hf⟩:=s1.nd (AM hk)
   have hkd:=hm.kinds _ (List.getElem_mem hk)
   have a1':=a1
   obtain⟨nd,hnd⟩:∃nd,nd=m.ns[k]:=⟨_,rfl⟩
   rw[<-hnd]at rd hi hf hkd
   obtain⟨U2,g2,f2⟩:=wk (E:=E) (W:=W) (N:=N) (hU p rfl) hN (mb:=U.next) (iv:=iv) hkd.1 (by omega) hd16 hkd.2.2 nd.fields.length 0 N (by omega) (by omega) f1.tidy a1 s1 hf
   refine⟨U2,?_,f1.trans f2 (fun _ _ h=>h)⟩
   have h11:decide (nd.kind=11)=false:=decide_eq_false hkd.1
   have rd':=rd E
   unfold Am.c at rd'
   have key:∀K1 K2,RE E D W K1 K2 (BB m.nm) (AA m.tg) nv tv dv (AA k) (AA d) .nils U=K1 (AA d) .nils U.next 0 (AA nd.kind) (BB nd.name) nd.mHas nd.mNum (AA nd.mMode) nd.con.has nd.con.hasLow nd.con.hasHigh nd.con.more nd.con.low nd.con.high iv fv (AA nd.root) nd.more (AA nd.of_) U1:=by
    intro K1 K2
    unfold RE
    simp -implicitDefEqProofs only [↓rP,rA,AB,AE,AD,hs.n.one,hs.t.one,od,d0,↓e1,↓AZ a1,↓sl,h1,h2,↓rd',h11,BC,BP,Ed,Dg,ET,hi.one,hf.one]
   rw[key];exact g2
end
def OL (F:List V->H->AF):Prop:=∀(U:H) (g:V) (n i j:Nat),Ar U->DL U 1 n g (As n .nils)->i<n->∃U',F [g,.int .i64 (AA i),.int .i64 (AA j)] U=some (.bool false,U')/\Fr AL U U'
def TC (m:Cg) (F:List V->H->AF):Prop:=∀(U:H) (nv tv dv:V),Ar U->N5 U m nv tv dv->∃v U',F [.agg (IQ m nv tv dv)] U=some (.tup [v,.int .i64 (AA 0),.int .i64 (AA 0)],U')/\v.one=true/\Fr AL U U'
theorem ov (k d:Nat):G0 (some (.int .i64 (AA k))) d=some k:=by
 show (if(0:Int)<=AA k then some (AA k).toNat else none)=_
 exact if_pos (QL k)
theorem AJe {b n k:Nat} {c:Ri} (hc:c = .op 1\/c = .ex n) (hk:k<=n) (h0:0<n):Cs 1 (.sl b 0 n c) none (some (.int .i64 (AA k))) none=some (.sl b 0 k c):=by
 rcases hc with rfl|rfl
 ·unfold Cs
  simp only[ov,show G0 none 0=some 0 from rfl]
  rw[if_pos (by simp;omega),if_neg (by simp;omega)]
  simp
 ·unfold Cs
  simp only[ov,show G0 none 0=some 0 from rfl,show G0 none n=some n from rfl]
  rw[if_pos (by simp;omega)]
  simp
theorem qv {U:H} {n k:Nat} {v:V} {l:List V} (h:DM U 1 n v l) (hk:k<=n):∃u,Cs 1 v none (some (.int .i64 (AA k))) none=some u/\DL U 1 k u (l.take k):=by
 have go:∀{b:Nat} {c:Ri},(c = .op 1\/c = .ex n)->0<n->CQ U b l->v = .sl b 0 n c->∃u,Cs 1 v none (some (.int .i64 (AA k))) none=some u/\DL U 1 k u (l.take k):=by
  intro b c hc h0 ha hv
  subst hv
  refine⟨_,AJe hc hk h0,.inr ⟨b,0,c,l,rfl,ha,?_,?_⟩⟩
  ·have:=h.length;omega
  ·rw[FI,B8]
 rcases h with (⟨h0,hv,hl⟩|⟨b,hv,ha,h0,hl⟩)|⟨b,hv,ha,hl⟩
 ·subst h0;subst hv
  have:k=0:=by omega
  subst this
  exact⟨.nils,rfl,.inl ⟨rfl,rfl,by simp⟩⟩
 ·exact go (.inl rfl) h0 ha hv
 ·rcases QJ n with h0|h0
  ·subst h0
   have:k=0:=by omega
   subst this
   subst hv
   exact⟨.sl b 0 0 (.ex 0),rfl,.inr ⟨b,0,_,l,rfl,ha,DZ _,by simp⟩⟩
  ·exact go (.inr rfl) h0 ha hv
section
variable {E:EB} {D:Ai} {W:AH} {N:Nat}
theorem pn (hN:10<N):OL (F45 E D W N):=by
 intro U g n i j ht hg hi
 obtain⟨N,rfl⟩:∃k,N=k+1:=⟨N-1,by omega⟩
 obtain⟨U1,e1,f1,a1,n1⟩:=JI ht []
 refine⟨U1,?_,f1⟩
 have rd:∀J:V->AF,AW 1 g (AA i) (fun b o=>EG E U1 b o J)=J .nils:=fun J=>Ob (hg.fr f1 ht (fun _ _ h=>h)) hi (by rw[List.getElem?_replicate,if_pos hi]) J
 have ap:∀J:V->H->AF,DV E 1 8 .nils .nils U1 J=J .nils U1:=fun J=>rfl
 show ZR E D W (ZP E D W (ZQ E D W) _) g (AA i) (AA j) U=_
 have key:∀R,ZR E D W (ZP E D W (ZQ E D W) R) g (AA i) (AA j) U=some (.bool false,U1):=by
  intro R
  unfold ZR ZP ZQ
  simp -implicitDefEqProofs only [↓rP,rA,AB,AE,AD,↓e1,↓rd,↓ap]
 exact key _
theorem ADl {m:Cg} (hm:Ki m) (hS:Vn (D 43)) {U:H} {nv tv dv:V} {mb:Nat} (ha:CQ U mb (IQ m nv tv dv)) (hs:N5 U m nv tv dv):∀(n i k:Nat),i+n=m.az.length->n<k->∀K1,(Nat.rec (fun _ _ _ _ _ _=>none) (fun _ ih=>Ng E D W K1 ih) k:Nat->Nat->V->Int->Int->H->AF) mb 0 .nils (Az 0) (AA i) U=K1 mb 0 .nils (Az 0) U:=by
 have hfew:=hm.few.2
 have sl:∀J:Nat->AF,A0 nv J=J m.az.length:=fun J=>hs.n.slen
 unfold IQ at ha
 intro n
 induction n with
 | zero=>
  intro i k hi hk K1
  obtain⟨k,rfl⟩:∃j,k=j+1:=⟨k-1,by omega⟩
  have d1:decide (i<m.az.length)=false:=decide_eq_false (by omega)
  show Ng E D W K1 _ mb 0 .nils (Az 0) (AA i) U=_
  have key:∀R,Ng E D W K1 R mb 0 .nils (Az 0) (AA i) U=K1 mb 0 .nils (Az 0) U:=by
   intro R
   unfold Ng
   simp -implicitDefEqProofs only [↓rP,rA,AB,AE,AD,↓AZ ha,↓sl,d1]
  exact key _
 | succ n ih=>
  intro i k hi hk K1
  obtain⟨k,rfl⟩:∃j,k=j+1:=⟨k-1,by omega⟩
  have hlt:i<m.az.length:=by omega
  have d1:decide (i<m.az.length)=true:=decide_eq_true hlt
  have a1:Ba .i64 (AA i) (AA 1)=AA (i+1):=A3 (by omega)
  obtain⟨u,hu,su⟩:=qv hs.n (k:=i) (by omega)
  have gu:∀J:V->AF,gK (Cs 1 nv none (some (.int .i64 (AA i))) none) J=J u:=fun J=>by rw[hu];rfl
  have rd:∀J:V->AF,AW 1 nv (AA i) (fun b o=>EG E U b o J)=J (.str (BB m.az[i])):=fun J=>Ob hs.n.src hlt (by unfold YQ;rw[Aw,AM hlt];rfl) J
  have gi:=hS U u ((m.az.take i).map BB) (BB m.az[i]) (by
   rw[CD,BY,Em (by omega),List.map_map]
   have:YQ m.az=m.az.map (V.str ∘ BB):=rfl
   rw[this,<-List.map_take]at su
   exact su) (by rw[CD,BY];omega)
  have:=hm.apart i hlt
  rw[AM hlt]at this
  have this:((m.az.take i).map BB).any (fun x=>x.beq (BB m.az[i]))=false:=this
  rw[this]at gi
  show Ng E D W K1 _ mb 0 .nils (Az 0) (AA i) U=_
  have key:∀R,Ng E D W K1 R mb 0 .nils (Az 0) (AA i) U=R mb 0 .nils (Az 0) (AA (i+1)) U:=by
   intro R
   unfold Ng
   simp -implicitDefEqProofs only [↓rP,rA,AB,AE,AD,↓AZ ha,↓sl,d1,↓gu,↓rd,↓gi,a1]
  rw[key]
  exact ih (i+1) k (by omega) (by omega) K1
theorem dC {α:Type} (n:Nat) (x:α):As n x++[x]=As (n+1) x:=by
 rw[List.replicate_succ']
theorem ADk {m:Cg} (hm:Ki m) (hU:Ld m 17 (D 44)) {nv tv dv:V} {mb:Nat} {Ub:H} (htb:Ar Ub) (hab:CQ Ub mb (IQ m nv tv dv)) (hsb:N5 Ub m nv tv dv):∀(n i k:Nat) {U:H} {u:V},i+n=m.az.length->n<k->Fr AL Ub U->DM U 1 i u (As i .nils)->(∀b,AJ u b->Ub.next<=b) ->
  ∃u' U',(∀K3,(Nat.rec (fun _ _ _ _ _ _=>none) (fun _ ih=>Nf E D W K3 (Vm E D W ih)) k:Nat->Nat->V->Int->Int->H->AF) mb 0 u (Az 0) (AA i) U=K3 mb 0 u' (Az 0) U')/\DM U' 1 m.az.length u' (As m.az.length .nils)/\(∀b,AJ u' b->Ub.next<=b)/\Fr AL Ub U':=by
 have hfew:=hm.few.2
 intro n
 induction n with
 | zero=>
  intro i k U u hi hk f hu hmb
  obtain⟨k,rfl⟩:∃j,k=j+1:=⟨k-1,by omega⟩
  have hi:i=m.az.length:=by omega
  subst hi
  have ha:=f.at_ hab htb (fun h=>h)
  have sl:∀J:Nat->AF,A0 nv J=J m.az.length:=fun J=>hsb.n.slen
  have d1:decide (m.az.length<m.az.length)=false:=decide_eq_false (by omega)
  unfold IQ at ha
  refine⟨u,U,fun K3=>?_,hu,hmb,f⟩
  show Nf E D W K3 _ mb 0 u (Az 0) (AA m.az.length) U=_
  have key:∀R,Nf E D W K3 R mb 0 u (Az 0) (AA m.az.length) U=K3 mb 0 u (Az 0) U:=by
   intro R
   unfold Nf
   simp -implicitDefEqProofs only [↓rP,rA,AB,AE,AD,↓AZ ha,↓sl,d1]
  exact key _
 | succ n ih=>
  intro i k U u hi hk f hu hmb
  obtain⟨k,rfl⟩:∃j,k=j+1:=⟨k-1,by omega⟩
  have hlt:i<m.az.length:=by omega
  have ha:=f.at_ hab htb (fun h=>h)
  have hs:=hsb.fr f htb
  have d1:decide (i<m.az.length)=true:=decide_eq_true hlt
  have a1:Ba .i64 (AA i) (AA 1)=AA (i+1):=A3 (by omega)
  have hks:i<m.ks.length:=by have:=hm.as_many;omega
  have rd:∀J:V->AF,AW 1 tv (AA i) (fun b o=>EG E U b o J)=J (.int .i64 (AA m.ks[i])):=fun J=>Ob hs.t hks (by unfold HX;rw[Aw,AM hks];rfl) J
  have sl:∀J:Nat->AF,A0 nv J=J m.az.length:=fun J=>hsb.n.slen
  obtain⟨U1,g1,f1⟩:=hU U nv tv dv m.ks[i] 0 f.tidy hs (by omega) (by omega)
  obtain⟨U2,e2,f2,a2,n2⟩:=JI f1.tidy [.nils]
  have xs:DL U2 1 1 (V.sl U1.next 0 1 (.ex 1)) [.nils] := .inr ⟨_,_,_,_,rfl,a2,AK _,rfl⟩
  have f12:=f1.trans f2 (fun _ _ h=>h)
  obtain⟨u3,U3,g3,d3,m3,f3⟩:=Du (E:=E) (bytes:=24) (hu.fr f12 f.tidy (fun _ _ h=>h)) f2.tidy xs rfl (by unfold Bw;simp only[AG,Ac];omega)
  have le:=f.le
  have le1:=f1.le
  have le2:=f2.le
  have f3':Fr AL Ub U3:=((f.trans f12 (fun _ _ h=>h))).trans f3 (fun b hb h=>by have:=hmb b h;omega)
  rw[dC]at d3
  obtain⟨u',U',g',d',m',f'⟩:=ih (i+1) k (by omega) (by omega) f3' d3 (fun b hb=>(m3 b hb).elim (hmb b) (fun h=>by omega))
  refine⟨u',U',fun K3=>?_,d',m',f'⟩
  rw[<-g' K3]
  unfold IQ at ha g1
  have sub:∀J:List V->AF,EI [.str (BB m.nm),.int .i64 (AA m.tg),nv,tv,dv] 0 5 J=J [.str (BB m.nm),.int .i64 (AA m.tg),nv,tv,dv]:=fun J=>by
   rw[D6 (by simp)];rfl
  have fl:∀J:List V->AF,D9 [(0,1,.nils)] [V.nils] J=J [.nils]:=fun J=>rfl
  show Nf E D W K3 (Vm E D W _) mb 0 u (Az 0) (AA i) U=_
  have key:∀R,Nf E D W K3 (Vm E D W R) mb 0 u (Az 0) (AA i) U=R mb 0 u3 (Az 0) (AA (i+1)) U3:=by
   intro R
   unfold Nf Vm
   simp -implicitDefEqProofs only [↓rP,rA,AB,AE,AD,↓AZ ha,↓BX ha,↓sub,↓sl,d1,↓rd,↓g1,↓fl,↓e2,↓g3,↓Bl d3.one,a1]
  exact key _
theorem ADj {m:Cg} (hm:Ki m) (hR:OL (D 45)) {nv tv dv u:V} {mb:Nat} {Ub:H} (htb:Ar Ub) (hab:CQ Ub mb (IQ m nv tv dv)) (hsb:N5 Ub m nv tv dv) (hub:DL Ub 1 m.az.length u (As m.az.length .nils)):∀(n i k:Nat) {U:H},i+n=m.az.length->n<k->Fr AL Ub U ->
  ∃U',(∀K6,(Nat.rec (fun _ _ _ _ _=>none) (fun _ ih=>Nd E D W K6 ih) k:Nat->Nat->V->Int->H->AF) mb 0 u (AA i) U=K6 mb 0 u U')/\Fr AL Ub U':=by
 have hfew:=hm.few.2
 have sl:∀J:Nat->AF,A0 nv J=J m.az.length:=fun J=>hsb.n.slen
 intro n
 induction n with
 | zero=>
  intro i k U hi hk f
  obtain⟨k,rfl⟩:∃j,k=j+1:=⟨k-1,by omega⟩
  have ha:=f.at_ hab htb (fun h=>h)
  have d1:decide (i<m.az.length)=false:=decide_eq_false (by omega)
  unfold IQ at ha
  refine⟨U,fun K6=>?_,f⟩
  show Nd E D W K6 _ mb 0 u (AA i) U=_
  have key:∀R,Nd E D W K6 R mb 0 u (AA i) U=K6 mb 0 u U:=by
   intro R
   unfold Nd
   simp -implicitDefEqProofs only [↓rP,rA,AB,AE,AD,↓AZ ha,↓sl,d1]
  exact key _
 | succ n ih=>
  intro i k U hi hk f
  obtain⟨k,rfl⟩:∃j,k=j+1:=⟨k-1,by omega⟩
  have ha:=f.at_ hab htb (fun h=>h)
  have d1:decide (i<m.az.length)=true:=decide_eq_true (by omega)
  have a1:Ba .i64 (AA i) (AA 1)=AA (i+1):=A3 (by omega)
  unfold IQ at ha
  obtain⟨U1,g1,f1⟩:=hR U u m.az.length i i f.tidy (hub.fr f htb (fun _ _ h=>h)) (by omega)
  obtain⟨U',g',f'⟩:=ih (i+1) k (by omega) (by omega) (f.trans f1 (fun _ _ h=>h))
  refine⟨U',fun K6=>?_,f'⟩
  rw[<-g' K6]
  show Nd E D W K6 _ mb 0 u (AA i) U=_
  have key:∀R,Nd E D W K6 R mb 0 u (AA i) U=R mb 0 u (AA (i+1)) U1:=by
   intro R
   unfold Nd
   simp -implicitDefEqProofs only [↓rP,rA,AB,AE,AD,↓AZ ha,↓sl,d1,↓g1,a1]
  exact key _
theorem eX (j x:Nat):(Da j).any (fun y=>decide (y=x))=decide (x<j):=by
 rw[Fg]
 simp
theorem xI {m:Cg} (hm:Ki m) (hI:Pt (D 12)) (hN:10<N) {nv tv dv u:V} {mb:Nat} {Ub:H} (htb:Ar Ub) (hab:CQ Ub mb (IQ m nv tv dv)) (hsb:N5 Ub m nv tv dv) (hub:DL Ub 1 m.az.length u (As m.az.length .nils)) {U:H} {v:V} {j:Nat} (f:Fr AL Ub U) (hv:DM U 1 j v (HX (Da j))) (hn:∀b,AJ v b->Ub.next<=b) (hj:j<m.az.length) :
  ∃v' U',(∀(n i k:Nat) R9,i+n=j->n<k->J9 E D W N R9 k mb 0 u v (AA i) U=R9 mb 0 u v' U')/\Fr AL Ub U'/\DM U' 1 (j+1) v' (HX (Da (j+1)))/\(∀b,AJ v' b->Ub.next<=b):=by
 have hfew:=hm.few.2
 have sl:∀J:Nat->AF,A0 nv J=J m.az.length:=fun J=>hsb.n.slen
 have ha:=f.at_ hab htb (fun h=>h)
 have hu:=hub.fr f htb (fun _ _ h=>h)
 unfold IQ at ha
 have rd:∀i,i<m.az.length->∀J:V->AF,AW 1 u (AA i) (fun b o=>EG E U b o J)=J .nils:=fun i hi J=>Ob hu hi (by rw[List.getElem?_replicate,if_pos hi]) J
 have gi:∀i,D 12 [v,.int .i64 (AA i)] U=some (.bool (decide (i<j)),U):=fun i=>by
  rw[hI U v (Da j) i (by rw[List.length_range];exact hv.src) (by rw[List.length_range];omega),eX]
 obtain⟨U2,e2,f2,a2,n2⟩:=JI f.tidy [.int .i64 (AA j)]
 have xs:DL U2 1 1 (V.sl U.next 0 1 (.ex 1)) [.int .i64 (AA j)] := .inr ⟨_,_,_,_,rfl,a2,AK _,rfl⟩
 obtain⟨v3,U3,g3,d3,m3,f3⟩:=Du (E:=E) (bytes:=8) (hv.fr f2 f.tidy (fun _ _ h=>h)) f2.tidy xs rfl (by unfold Bw;simp only[AG,Ac];omega)
 have le:=f.le
 refine⟨v3,U3,?_,(f.trans f2 (fun _ _ h=>h)).trans f3 (fun b hb h=>by have:=hn b h;omega),by
  rw[show HX (Da (j+1))=HX (Da j)++[.int .i64 (AA j)] by unfold HX;rw[List.range_succ];simp]
  exact d3,fun b hb=>(m3 b hb).elim (hn b) (fun h=>by omega)⟩
 intro n
 induction n with
 | zero=>
  intro i k R9 hi hk
  obtain⟨k,rfl⟩:∃j,k=j+1:=⟨k-1,by omega⟩
  have hi:i=j:=by omega
  subst hi
  have d1:decide (i<m.az.length)=true:=decide_eq_true hj
  have d2:decide (i<i)=false:=decide_eq_false (by omega)
  have g:=gi i
  have r:=rd i hj
  obtain⟨N,rfl⟩:∃k,N=k+1:=⟨N-1,by omega⟩
  show Lc E D W (La E D W (Lb E D W (M5 E D W _) R9) _) R9 mb 0 u v (AA i) U=_
  have key:∀R R',Lc E D W (La E D W (Lb E D W (M5 E D W R) R9) R') R9 mb 0 u v (AA i) U=R9 mb 0 u v3 U3:=by
   intro R R'
   unfold Lc La Lb
   simp -implicitDefEqProofs only [↓rP,rA,AB,AE,AD,↓AZ ha,↓sl,d1,↓g,↓r,d2,↓e2,↓g3,↓Bl d3.one]
  exact key _ _
 | succ n ih=>
  intro i k R9 hi hk
  obtain⟨k,rfl⟩:∃j,k=j+1:=⟨k-1,by omega⟩
  have d1:decide (i<m.az.length)=true:=decide_eq_true (by omega)
  have d2:decide (i<j)=true:=decide_eq_true (by omega)
  have a1:Ba .i64 (AA i) (AA 1)=AA (i+1):=A3 (by omega)
  have g:=gi i
  have r:=rd i (by omega)
  rw[<-ih (i+1) k R9 (by omega) (by omega)]
  obtain⟨N',hN'⟩:∃k,N=k+1:=⟨N-1,by omega⟩
  have key:∀R R',Lc E D W (La E D W (Lb E D W (M5 E D W R) R9) R') R9 mb 0 u v (AA i) U=R mb 0 u v (AA (i+1)) U:=by
   intro R R'
   unfold Lc La Lb M5
   simp -implicitDefEqProofs only [↓rP,rA,AB,AE,AD,↓AZ ha,↓sl,d1,↓g,↓r,d2,a1]
  show Lc E D W (P6 E D W N R9 (J9 E D W N R9 k) N) R9 mb 0 u v (AA i) U=_
  have hL:P6 E D W N R9 (J9 E D W N R9 k) N=La E D W (Lb E D W (M5 E D W (J9 E D W N R9 k)) R9) (P6 E D W N R9 (J9 E D W N R9 k) N'):=by
   conv=>lhs;arg 7;rw[hN']
   rfl
  rw[hL]
  exact key _ _
theorem ADi {m:Cg} (hm:Ki m) (hI:Pt (D 12)) (hN:1000<N) {nv tv dv u:V} {mb:Nat} {Ub:H} (htb:Ar Ub) (hab:CQ Ub mb (IQ m nv tv dv)) (hsb:N5 Ub m nv tv dv) (hub:DL Ub 1 m.az.length u (As m.az.length .nils)):∀(n j k:Nat) {U:H} {v:V},j+n=m.az.length->n<k->Fr AL Ub U->DM U 1 j v (HX (Da j))->(∀b,AJ v b->Ub.next<=b) ->
  ∃v' U',V0 E D W N k mb 0 u v U=some (.tup [v',.int .i64 (AA 0),.int .i64 (AA 0)],U')/\v'.one=true/\Fr AL Ub U':=by
 have hfew:=hm.few.2
 have sl:∀J:Nat->AF,A0 nv J=J m.az.length:=fun J=>hsb.n.slen
 intro n
 induction n with
 | zero=>
  intro j k U v hj hk f hv hn
  obtain⟨k,rfl⟩:∃i,k=i+1:=⟨k-1,by omega⟩
  have ha:=f.at_ hab htb (fun h=>h)
  unfold IQ at ha
  have sv:∀J:Nat->AF,A0 v J=J j:=fun J=>hv.slen
  have d1:decide (j<m.az.length)=false:=decide_eq_false (by omega)
  refine⟨v,U,?_,hv.one,f⟩
  show Pb E D W (ZW E D W) _ mb 0 u v U=_
  have key:∀R,Pb E D W (ZW E D W) R mb 0 u v U=some (.tup [v,.int .i64 (AA 0),.int .i64 (AA 0)],U):=by
   intro R
   unfold Pb ZW
   simp -implicitDefEqProofs only [↓rP,rA,AB,AE,AD,↓AZ ha,↓sl,↓sv,d1]
  exact key _
 | succ n ih=>
  intro j k U v hj hk f hv hn
  obtain⟨k,rfl⟩:∃i,k=i+1:=⟨k-1,by omega⟩
  have ha:=f.at_ hab htb (fun h=>h)
  unfold IQ at ha
  have sv:∀J:Nat->AF,A0 v J=J j:=fun J=>hv.slen
  have d1:decide (j<m.az.length)=true:=decide_eq_true (by omega)
  obtain⟨v1,U1,g1,f1,d1',n1⟩:=xI (E:=E) (W:=W) (N:=N) hm hI (by omega) htb hab hsb hub f hv hn (by omega)
  obtain⟨v',U',g',o',f'⟩:=ih (j+1) k (by omega) (by omega) f1 d1' n1
  refine⟨v',U',?_,o',f'⟩
  rw[<-g',<-g1 j 0 N (V0 E D W N k) (by omega) (by omega)]
  show Pb E D W _ (J9 E D W N (V0 E D W N k) N) mb 0 u v U=_
  have key:∀K8 R,Pb E D W K8 R mb 0 u v U=R mb 0 u v (AA 0) U:=by
   intro K8 R
   unfold Pb
   simp -implicitDefEqProofs only [↓rP,rA,AB,AE,AD,↓AZ ha,↓sl,↓sv,d1]
  exact key _ _
theorem qM {m:Cg} (hm:Ki m) (hS:Vn (D 43)) (hI:Pt (D 12)) (hU:Ld m 17 (D 44)) (hR:OL (D 45)) (hN:1000<N):TC m (F26 E D W N):=by
 intro U nv tv dv ht hs
 have hfew:=hm.few.2
 obtain⟨U1,e1,f1,a1,n1⟩:=JI ht (IQ m nv tv dv)
 have od:dv.one=true:=by
  obtain⟨ws,h1,_⟩:=hs.d
  exact h1.one
 have s1:=hs.fr f1 ht
 obtain⟨u4,U4,g4,d4,m4,f4⟩:=ADk (E:=E) (W:=W) hm hU f1.tidy a1 s1 m.az.length 0 N (by omega) (by omega) (Fr.refl f1.tidy) (DM.nil _ _) (fun b hb=>hb.elim)
 have a4:=f4.at_ a1 f1.tidy (fun h=>h)
 have s4:=s1.fr f4 f1.tidy
 obtain⟨U7,g7,f7⟩:=ADj (E:=E) (W:=W) hm hR f4.tidy a4 s4 d4.src m.az.length 0 N (by omega) (by omega) (Fr.refl f4.tidy)
 obtain⟨v9,U9,g9,o9,f9⟩:=ADi (E:=E) (W:=W) (N:=N) hm hI hN f7.tidy (f7.at_ a4 f4.tidy (fun h=>h)) (s4.fr f7 f4.tidy) (d4.src.fr f7 f4.tidy (fun _ _ h=>h)) m.az.length 0 N (by omega) (by omega) (Fr.refl f7.tidy) (DM.nil _ _) (fun b hb=>hb.elim)
 refine⟨v9,U9,?_,o9,((f1.trans f4 (fun _ _ h=>h)).trans f7 (fun _ _ h=>h)).trans f9 (fun _ _ h=>h)⟩
 have g2:=ADl (E:=E) (W:=W) hm hS a1 s1 m.az.length 0 N (by omega) (by omega)
 unfold IQ at e1
 have key0:∀K2,ZX E D W K2 (BB m.nm) (AA m.tg) nv tv dv U=K2 U.next 0 .nils (Az 0) (AA 0) U1:=by
  intro K2
  unfold ZX
  simp -implicitDefEqProofs only [↓rP,rA,AB,AE,AD,hs.n.one,hs.t.one,od,↓e1]
 show ZX E D W (mD E D W N N) (BB m.nm) (AA m.tg) nv tv dv U=_
 rw[key0]
 refine(g2 (au E D W N)).trans ?_
 show mC E D W N N U.next 0 .nils (Az 0) (AA 0) U1=_
 refine(g4 (Z9 E D W N)).trans ?_
 show ku E D W (mB E D W N N) U.next 0 u4 (Az 0) U4=_
 have key3:∀K7,ku E D W K7 U.next 0 u4 (Az 0) U4=K7 U.next 0 u4 (AA 0) U4:=fun K7=>rfl
 rw[key3]
 exact(g7 (Z8 E D W N)).trans g9
end
structure Dr where
 kind:Nat
 tags:List (Nat × Nat)
 con:X7
 items:List RW
 fields:List Bj
 root:Nat
 more:Bool
 of_:Nat
def T2 (l:List (Nat × Nat)):List V:=l.flatMap fun t=>[.int .i64 (AA t.1),.int .i64 (AA t.2)]
structure QM (U:H) (l:List (Nat × Nat)) (v:V):Prop where
 s:DL U 2 l.length v (T2 l)
 e:l.length=1->∃b,v = .sl b 0 1 (.ex 1)
section
variable {U U':H} {l:List (Nat × Nat)} {v:V}
theorem QM.fr {S:Nat->Prop} (h:QM U l v) (f:Fr S U U') (ht:Ar U) (hn:∀b,AJ v b->¬S b):QM U' l v:=⟨h.s.fr f ht hn,h.e⟩
theorem QM.lt (h:QM U l v) (ht:Ar U) {b:Nat} (hb:AJ v b):b<U.next:=h.s.lt ht hb
theorem QM.one (h:QM U l v):v.one=true:=h.s.one
end
def Dr.c (t:Dr) (u:V × V × V):List V:=[.int .i64 (AA t.kind),u.1,.bool t.con.has,.bool t.con.hasLow,.bool t.con.hasHigh,.bool t.con.more,.int .i64 t.con.low,.int .i64 t.con.high,u.2.1,u.2.2,.int .i64 (AA t.root),.bool t.more,.int .i64 (AA t.of_)]
def Dd:List Dr->List (V × V × V)->List V
 | t::tl,u::ws=>t.c u++Dd tl ws
 | _,_=>[]
theorem UC:∀(tl:List Dr) (ws:List (V × V × V)) (t:Dr) (u:V × V × V),ws.length=tl.length->Dd (tl++[t]) (ws++[u])=Dd tl ws++t.c u
 | [],[],t,u,_=>by simp[Dd]
 | x::tl,y::ws,t,u,h=>by
  have ih:=UC tl ws t u (by simpa using h)
  show x.c y++Dd (tl++[t]) (ws++[u])=(x.c y++Dd tl ws)++_
  rw[ih,DN]
 | [],_::_,_,_,h=>by simp at h
 | _::_,[],_,_,h=>by simp at h
theorem Ha:∀(tl:List Dr) (ws:List (V × V × V)),ws.length=tl.length->(Dd tl ws).length=tl.length*13
 | [],[],_=>rfl
 | x::tl,y::ws,h=>by
  have ih:=Ha tl ws (by simpa using h)
  show (x.c y++Dd tl ws).length=_
  rw[AS,ih,AN]
  show 13+_=_
  omega
 | [],_::_,h=>by simp at h
 | _::_,[],h=>by simp at h
theorem YL (r:Nat):∀(tl:List Dr) (ws:List (V × V × V)) (i:Nat) (t:Dr),ws.length=tl.length->tl[i]? = some t->FC (Dd tl ws) (i*13+12) [.int .i64 (AA r)]=Dd (tl.set i { t with of_:=r }) ws
 | x::tl,y::ws,0,t,_,h=>by
  simp at h;subst h
  show FC (x.c y++Dd tl ws) 12 _=({ x with of_:=r }:Dr).c y++Dd tl ws
  generalize Dd tl ws=z
  cases z<;>rfl
 | x::tl,y::ws,i+1,t,h,hi=>by
  have ih:=YL r tl ws i t (by simpa using h) (by simpa using hi)
  show FC (x.c y++Dd tl ws) ((i+1)*13+12) _=x.c y++Dd (tl.set i { t with of_:=r }) ws
  rw[<-ih,show (i+1)*13+12=(x.c y).length+(i*13+12)by show _=13+_;omega,IU]
 | [],_,_,_,_,h=>by simp at h
 | _::_,[],_,_,h,_=>by simp at h
def UZ (m:Cg) (nv tv dv lv:V):List V:=[.str (BB m.nm),.int .i64 (AA m.tg),nv,tv,dv,lv,.int .i64 (AA 0)]
structure Mk (U0 U:H) (xb:Nat) (m:Cg) (nv tv dv:V) (tl:List Dr) (lv:V) (Q:Nat->Prop):Prop where
 a:CQ U xb (UZ m nv tv dv lv)
 w:∃ws:List (V × V × V),DM U 13 tl.length lv (Dd tl ws)/\ws.length=tl.length/\∀(k:Nat) (t:Dr) (u:V × V × V),tl[k]? = some t->ws[k]? = some u->QM U t.tags u.1/\DL U 3 t.items.length u.2.1 (iT t.items)/\DL U 11 t.fields.length u.2.2 (Ir t.fields)/\∀b,(AJ u.1 b\/AJ u.2.1 b\/AJ u.2.2 b)->b≠xb/\¬AJ lv b/\¬Q b
 lx:∀b,AJ lv b->b≠xb/\U0.next<=b/\¬Q b
 qx:¬Q xb
 x0:U0.next<=xb
 f:Fr AL U0 U
abbrev Ja:=Nat->Nat->List Dr->Option (Nat × List Dr)
def HD (nd:Am):Dr:=⟨nd.kind,[(0,fp nd.kind)],nd.con,[],[],nd.root,nd.more,0⟩
def Ys (k:Nat):Bool:=k==1 || k==2 || k==4 || k==5 || k==6 || k==10
def ra (k:Nat):Bool:=k==2 || k==5 || k==6 || k==10
def Yo (T:Ja) (d:Nat) (nd:Am) (tl:List Dr):Option (Nat × List Dr):=
 match Ys nd.kind&&(decide (d<=16)&&(decide (tl.length<300)&&(!ra nd.kind || PI nd.con (!decide (nd.kind=2)))))with
 | false=>none
 | true=>match decide (nd.kind=10)with
  | false=>some (tl.length,tl++[HD nd])
  | true=>(T (d+1) nd.of_ (tl++[HD nd])).bind fun r=>match r.2[tl.length]? with
   | none=>none
   | some t=>some (tl.length,r.2.set tl.length { t with of_:=r.1 })
def Gk (m:Cg) (T:Ja) (F:List V->H->AF):Prop:=∀{U0 U:H} {xb:Nat} {nv tv dv lv:V} {tl tl':List Dr} {d k i:Nat} {Q:Nat->Prop},Ar U0->N5 U0 m nv tv dv->Mk U0 U xb m nv tv dv tl lv Q->(∀b,Q b->b<U.next)->d<=900->T d k tl=some (i,tl') ->
 ∃lv' U',F [.ptr xb 0,.int .i64 (AA k),.int .i64 (AA d)] U=some (.int .i64 (AA i),U')/\Mk U0 U' xb m nv tv dv tl' lv' Q/\(∀b,AJ lv' b->AJ lv b\/U.next<=b)/\Fr (fun b=>b=xb\/AJ lv b) U U'
def sD (m:Cg) (T:Ja) (F:List V->H->AF):Prop:=∀{U0 U:H} {xb:Nat} {nv tv dv lv iv fv:V} {tl tl':List Dr} {d i:Nat} {nd:Am} {Q:Nat->Prop},Ar U0->N5 U0 m nv tv dv->Mk U0 U xb m nv tv dv tl lv Q->(∀b,Q b->b<U.next)->d<=900->iv.one=true->fv.one=true->Yo T d nd tl=some (i,tl') ->
 ∃lv' U',F [.ptr xb 0,.agg (nd.c iv fv),.int .i64 (AA d)] U=some (.int .i64 (AA i),U')/\Mk U0 U' xb m nv tv dv tl' lv' Q/\(∀b,AJ lv' b->AJ lv b\/U.next<=b)/\Fr (fun b=>b=xb\/AJ lv b) U U'
section
variable {E:EB} {D:Ai} {N:Nat} {U0 U U':H} {xb:Nat} {m:Cg} {nv tv dv lv:V} {tl:List Dr} {Q Q':Nat->Prop}
theorem Mk.ht (h:Mk U0 U xb m nv tv dv tl lv Q):Ar U:=h.f.tidy
theorem Mk.len (h:Mk U0 U xb m nv tv dv tl lv Q) {J:Nat->AF}:A0 lv J=J tl.length:=by
 obtain⟨ws,h1,_⟩:=h.w
 exact h1.slen
theorem Mk.llt (h:Mk U0 U xb m nv tv dv tl lv Q) {b:Nat} (hb:AJ lv b):b<U.next:=by
 obtain⟨ws,h1,_⟩:=h.w
 exact h1.lt h.ht hb
theorem Mk.fr {S:Nat->Prop} (h:Mk U0 U xb m nv tv dv tl lv Q) (f:Fr S U U') (hS:∀b,S b->U.next<=b\/Q b) (hS0:∀b,S b->U0.next<=b):Mk U0 U' xb m nv tv dv tl lv Q:=by
 have ht:=h.ht
 have le:=h.f.le
 obtain⟨ws,h1,h2,h3⟩:=h.w
 refine⟨f.at_ h.a ht (fun e=>(hS _ e).elim (fun e=>by have:=h.a.lt ht;omega) h.qx),⟨ws,h1.fr f ht (fun b hb e=>(hS _ e).elim (fun e=>by have:=h1.lt ht hb;omega) (h.lx b hb).2.2),h2,fun k t u hk hu=>?_⟩,h.lx,h.qx,h.x0,h.f.trans f (fun b hb e=>by have:=hS0 b e;omega)⟩
 obtain⟨a,b,c,d⟩:=h3 k t u hk hu
 exact⟨a.fr f ht (fun x hx e=>(hS _ e).elim (fun e=>by have:=a.lt ht hx;omega) (d x (.inl hx)).2.2),b.fr f ht (fun x hx e=>(hS _ e).elim (fun e=>by have:=b.lt ht hx;omega) (d x (.inr (.inl hx))).2.2),c.fr f ht (fun x hx e=>(hS _ e).elim (fun e=>by have:=c.lt ht hx;omega) (d x (.inr (.inr hx))).2.2),d⟩
theorem Mk.ext (h:Mk U0 U xb m nv tv dv tl lv Q) (hQ:∀b,Q' b->Q b\/U.next<=b):Mk U0 U xb m nv tv dv tl lv Q':=by
 have ht:=h.ht
 obtain⟨ws,h1,h2,h3⟩:=h.w
 refine⟨h.a,⟨ws,h1,h2,fun k t u hk hu=>?_⟩,fun b hb=>⟨(h.lx b hb).1,(h.lx b hb).2.1,fun q=>(hQ b q).elim (h.lx b hb).2.2 (fun e=>by have:=h1.lt ht hb;omega)⟩,fun q=>(hQ _ q).elim h.qx (fun e=>by have:=h.a.lt ht;omega),h.x0,h.f⟩
 obtain⟨a,b,c,d⟩:=h3 k t u hk hu
 have nn:∀x,(AJ u.1 x\/AJ u.2.1 x\/AJ u.2.2 x)->x<U.next:=fun x hx=>by
  rcases hx with hx|hx|hx
  ·exact a.lt ht hx
  ·exact b.lt ht hx
  ·exact c.lt ht hx
 exact⟨a,b,c,fun x hx=>⟨(d x hx).1,(d x hx).2.1,fun q=>(hQ x q).elim (d x hx).2.2 (fun e=>by have:=nn x hx;omega)⟩⟩
theorem Mk.push (h:Mk U0 U xb m nv tv dv tl lv Q) {nd:Am} {gb tb eb:Nat} {dd ii:Int} (hl:tl.length<300) (hg:CQ U gb ((HD nd).c (.sl tb 0 1 (.ex 1),.nils,.nils))) (ht:CQ U tb [.int .i64 (AA 0),.int .i64 (AA (fp nd.kind))]) (hgx:gb≠xb) (hgl:¬AJ lv gb) (htx:tb≠xb) (htl:¬AJ lv tb) (htq:¬Q tb) (hQ:∀b,Q b->b<U.next) :
  ∃e' u U',AT E D Nk Kv [(0,.ptr xb 0),(2,.int .i64 dd),(4,.ptr eb 0),(7,.int .i64 ii),(8,.ptr gb 0)] U=some (e',U')/\Go.Og.look e' 0=some (.ptr xb 0)/\Go.Og.look e' 2=some (.int .i64 dd)/\Go.Og.look e' 4=some (.ptr eb 0)/\Go.Og.look e' 7=some (.int .i64 ii) /\
   Mk U0 U' xb m nv tv dv (tl++[HD nd]) u Q/\(∀b,AJ u b->AJ lv b\/U.next<=b)/\Fr (fun b=>b=xb\/AJ lv b) U U':=by
 obtain⟨ws,h1,h2,h3⟩:=h.w
 have hx:=h.a
 unfold UZ at hx
 obtain⟨e',u,U',g,t0,t2,t4,t7,a',d',m',n',f'⟩:=fx (E:=E) (D:=D) (v:=lv) (dd:=dd) (ii:=ii) (eb:=eb) h.ht hx rfl hg h1 (by omega) (fun e=>hgx e.symm) (fun e=>(h.lx _ e).1 rfl) hgl
 have le:=h.f.le
 have lx:=h.a.lt h.ht
 refine⟨e',u,U',g,t0,t2,t4,t7,⟨a',⟨ws++[(.sl tb 0 1 (.ex 1),.nils,.nils)],?_,by simp[h2],fun k t w hk hw=>?_⟩,fun b hb=>⟨fun e=>n' (e ▸ hb),(m' b hb).elim (fun e=>(h.lx b e).2.1) (fun e=>by omega),fun q=>(m' b hb).elim (fun e=>(h.lx b e).2.2 q) (fun e=>by have:=hQ b q;omega)⟩,h.qx,h.x0,h.f.trans f' (fun b hb e=>e.elim (fun e=>by have:=h.x0;omega) (fun e=>by have:=(h.lx b e).2.1;omega))⟩,m',f'⟩
 ·rw[AS,AN,BQ,UC _ _ _ _ h2]
  exact d'
 ·rcases Av k tl.length with hlt|hge
  ·rw[CR hlt]at hk
   rw[CR (by omega)]at hw
   obtain⟨a,b,c,d⟩:=h3 k t w hk hw
   have nn:∀x,(AJ w.1 x\/AJ w.2.1 x\/AJ w.2.2 x)->x<U.next:=fun x hx=>by
    rcases hx with hx|hx|hx
    ·exact a.lt h.ht hx
    ·exact b.lt h.ht hx
    ·exact c.lt h.ht hx
   exact⟨a.fr f' h.ht (fun x hx e=>e.elim (d x (.inl hx)).1 (d x (.inl hx)).2.1),b.fr f' h.ht (fun x hx e=>e.elim (d x (.inr (.inl hx))).1 (d x (.inr (.inl hx))).2.1),c.fr f' h.ht (fun x hx e=>e.elim (d x (.inr (.inr hx))).1 (d x (.inr (.inr hx))).2.1),fun x hx=>⟨(d x hx).1,fun hu=>(m' x hu).elim (d x hx).2.1 (fun e=>by have:=nn x hx;omega),(d x hx).2.2⟩⟩
  ·rw[BR hge]at hk
   rw[BR (by omega),h2]at hw
   obtain⟨j,hj⟩:∃j,k-tl.length=j:=⟨_,rfl⟩
   rw[hj]at hk hw
   cases j with
   | succ j=>simp at hk
   | zero=>
    cases hk
    cases hw
    have ltb:=ht.lt h.ht
    have a2:=f'.at_ ht h.ht (fun e=>e.elim htx htl)
    refine⟨⟨.inr ⟨tb,0,_,_,rfl,a2,AK _,rfl⟩,fun _=>⟨tb,rfl⟩⟩,.inl ⟨rfl,rfl,rfl⟩,.inl ⟨rfl,rfl,rfl⟩,fun x hx=>?_⟩
    have:x=tb:=by
     rcases hx with hx|hx|hx
     ·exact hx
     ·exact hx.elim
     ·exact hx.elim
    subst this
    exact⟨htx,fun hu=>(m' _ hu).elim htl (fun e=>by omega),htq⟩
theorem Mk.of (h:Mk U0 U xb m nv tv dv tl lv Q) {i r:Nat} {t:Dr} (hi:tl[i]? = some t) :
  ∃b U',(∀J:Nat->Nat->AF,AW 13 lv (AA i) J=J b (i*13))/\(∀J:H->AF,DX 1 b (AP (i*13) 12) (.int .i64 (AA r)) U J=J U')/\Mk U0 U' xb m nv tv dv (tl.set i { t with of_:=r }) lv Q/\Fr (AJ lv) U U':=by
 obtain⟨ws,h1,h2,h3⟩:=h.w
 have hlt:i<tl.length:=(AY.1 hi).1
 have hlen:=Ha tl ws h2
 obtain⟨b,cp,hv,hb⟩:∃b cp,lv = .sl b 0 tl.length cp/\CQ U b (Dd tl ws):=by
  rcases h1 with (⟨h0,_⟩|⟨b,hv,ha,_⟩)|⟨b,hv,ha,_⟩
  ·omega
  ·exact⟨b,_,hv,ha⟩
  ·exact⟨b,_,hv,ha⟩
 obtain⟨U',g,f,a⟩:=Wd (off:=i*13+12) (y := .int .i64 (AA r)) h.ht hb rfl (by omega)
 rw[YL r tl ws i t h2 hi]at a
 have nmb:∀x,AJ lv x↔x=b:=fun x=>by rw[hv];exact Iff.rfl
 have f':Fr (AJ lv) U U':=f.mono fun x _ e=>(nmb x).2 e
 refine⟨b,U',fun J=>?_,g,⟨f'.at_ h.a h.ht (fun e=>(h.lx _ e).1 rfl),⟨ws,?_,by rw[A9,h2],fun k t1 w hk hw=>?_⟩,h.lx,h.qx,h.x0,h.f.trans f' (fun x _ e=>by have:=(h.lx x e).2.1;omega)⟩,f'⟩
 ·rw[hv,Cb hlt]
  show J b (0+i*13)=_
  rw[BA]
 ·rw[A9]
  have e13:(Dd (tl.set i { t with of_:=r }) ws).length=tl.length*13:=by rw[Ha _ _ (by rw[A9,h2]),A9]
  rcases h1 with (⟨h0,_⟩|⟨b',hv',ha,h0,hl⟩)|⟨b',hv',ha,hl⟩
  ·omega
  ·have:b'=b:=by rw[hv]at hv';cases hv';rfl
   subst this
   exact .inl (.inr ⟨b',hv',a,h0,e13⟩)
  ·have:b'=b:=by rw[hv]at hv';cases hv';rfl
   subst this
   exact .inr ⟨b',hv',a,e13⟩
 ·by_cases hk':i=k
  ·subst hk'
   rw[DD hlt]at hk
   cases hk
   obtain⟨x1,x2,x3,x4⟩:=h3 i t w hi hw
   exact⟨x1.fr f' h.ht (fun x hx e=>(x4 x (.inl hx)).2.1 e),x2.fr f' h.ht (fun x hx e=>(x4 x (.inr (.inl hx))).2.1 e),x3.fr f' h.ht (fun x hx e=>(x4 x (.inr (.inr hx))).2.1 e),x4⟩
  ·rw[Lm hk']at hk
   obtain⟨x1,x2,x3,x4⟩:=h3 k t1 w hk hw
   exact⟨x1.fr f' h.ht (fun x hx e=>(x4 x (.inl hx)).2.1 e),x2.fr f' h.ht (fun x hx e=>(x4 x (.inr (.inl hx))).2.1 e),x3.fr f' h.ht (fun x hx e=>(x4 x (.inr (.inr hx))).2.1 e),x4⟩
end
section
variable {E:EB} {D:Ai} {N:Nat}
theorem xU {m:Cg} {T:Ja} (hU:Zh (D 79)) (hC:OM (D 80)) (hT:Gk m T (D 27)):sD m T (F47 E D (AT E D) N):=by
  intro U0 U xb nv tv dv lv iv fv tl tl' d i nd Q ht0 hs0 h hQ hd io fo hs
  unfold Yo at hs
  cases hgd:(Ys nd.kind&&(decide (d<=16)&&(decide (tl.length<300)&&(!ra nd.kind || PI nd.con (!decide (nd.kind=2))))))with
  | false=>rw[hgd]at hs;cases hs
  | true=>
    rw[hgd]at hs
    simp only[AG,decide_eq_true_eq]at hgd
    obtain⟨hleaf,hd16,hl,hcon⟩:=hgd
    have hkind:nd.kind=1\/nd.kind=2\/nd.kind=4\/nd.kind=5\/nd.kind=6\/nd.kind=10:=by
      unfold Ys at hleaf
      simp only[Bk,beq_iff_eq]at hleaf
      omega
    have ht:=h.ht
    obtain⟨U1,e1,f1,a1,n1⟩:=JI ht (nd.c iv fv)
    obtain⟨U2,e2,f2,a2,n2⟩:=JI f1.tidy [.int .i64 (AA 0),.nils,.bool false,.bool false,.bool false,.bool false,.int .i64 (AA 0),.int .i64 (AA 0),.nils,.nils,.int .i64 (AA 0),.bool false,.int .i64 (AA 0)]
    obtain⟨U3,e3,f3,a3⟩:=Yk f2.tidy a2 ((HD nd).c (.nils,.nils,.nils))
    have s3:∀J:H->AF,DX 13 U1.next 0 (.agg [.int .i64 (AA nd.kind),.nils,.bool nd.con.has,.bool nd.con.hasLow,.bool nd.con.hasHigh,.bool nd.con.more,.int .i64 nd.con.low,.int .i64 nd.con.high,.nils,.nils,.int .i64 (AA nd.root),.bool nd.more,.int .i64 (AA 0)]) U2 J=J U3:=fun J=>by
      rw[ER a2 rfl]
      show J (GP U2 U1.next (.cells ((HD nd).c (.nils,.nils,.nils))))=_
      rw[e3]
    have gU:=hU U3 nd.kind (by omega)
    obtain⟨U4,e4,f4,a4,n4⟩:=JI f3.tidy [.int .i64 (AA 0),.int .i64 (AA (fp nd.kind))]
    have a34:=f4.at_ a3 f3.tidy (fun h=>h)
    obtain⟨U5,g5,f5,a5⟩:=Wd (off:=1) (y := .sl U3.next 0 1 (.ex 1)) f4.tidy a34 rfl (show 1<13 by decide)
    have a5:CQ U5 U1.next ((HD nd).c (.sl U3.next 0 1 (.ex 1),.nils,.nils)):=a5
    have le1:=f1.le
    have le2:=f2.le
    have le3:=f3.le
    have le4:=f4.le
    have lg:U1.next<U2.next:=a2.lt f2.tidy
    have lt4:U3.next<U4.next:=a4.lt f4.tidy
    have a45:=f5.at_ a4 f4.tidy (by omega)
    have f05:Fr (fun b=>U.next<=b) U U5:=((((f1.mono (fun _ _ h=>h.elim):Fr (fun b=>U.next<=b) U U1).trans f2 (fun _ _ h=>h.elim)).trans f3 (fun b _ e=>by omega)).trans f4 (fun _ _ h=>h.elim)).trans f5 (fun b _ e=>by omega)
    have h5:=h.fr f05 (fun _ h => .inl h) (fun b e=>by have:=h.f.le;omega)
    have lx:=h.a.lt ht
    obtain⟨e',u,U6,g6,t0,t2,t4,t7,h6,m6,f6⟩:=h5.push (E:=E) (D:=D) (nd:=nd) (gb:=U1.next) (tb:=U3.next) (eb:=U.next) (dd:=AA d) (ii:=AA tl.length) hl a5 a45 (by omega) (fun e=>by have:=h.llt e;omega) (by omega) (fun e=>by have:=h.llt e;omega) (fun q=>by have:=hQ _ q;omega) (fun b q=>by have:=hQ b q;have:=f05.le;omega)
    have le05:=f05.le
    have a15:CQ U5 U.next (nd.c iv fv):=f5.at_ (f4.at_ (f3.at_ (f2.at_ a1 f1.tidy (fun h=>h)) f2.tidy (by omega)) f3.tidy (fun h=>h)) f4.tidy (by omega)
    have a16:=f6.at_ a15 f5.tidy (fun e=>e.elim (by omega) (fun e=>by have:=h.llt e;omega))
    have f06:Fr (fun b=>b=xb\/AJ lv b) U U6:=by
      refine Fr.trans (f05.mono fun b hb e=>?_) f6 (fun b _ e=>e)
      omega
    have hx:=h.a
    have hx1:=f1.at_ hx ht (fun h=>h)
    unfold UZ at hx1
    unfold Am.c at a1 a16 e1
    unfold HD Dr.c at a3
    have sl1:∀J:Nat->AF,A0 lv J=J tl.length:=fun J=>h.len
    have d1:decide (16<d)=false:=decide_eq_false (by omega)
    have d2:decide (300<=tl.length)=false:=decide_eq_false (by omega)
    have h9:decide (nd.kind=9)=false:=decide_eq_false (by omega)
    have sub1:∀J:List V->AF,EI [.int .i64 (AA nd.kind),.str (BB nd.name),.bool nd.mHas,.int .i64 nd.mNum,.int .i64 (AA nd.mMode),.bool nd.con.has,.bool nd.con.hasLow,.bool nd.con.hasHigh,.bool nd.con.more,.int .i64 nd.con.low,.int .i64 nd.con.high,iv,fv,.int .i64 (AA nd.root),.bool nd.more,.int .i64 (AA nd.of_)] 5 6 J=J [.bool nd.con.has,.bool nd.con.hasLow,.bool nd.con.hasHigh,.bool nd.con.more,.int .i64 nd.con.low,.int .i64 nd.con.high]:=fun J=>by
      rw[D6 (by simp)];rfl
    have a13:=f3.at_ (f2.at_ a1 f1.tidy (fun h=>h)) f2.tidy (by omega)
    have key0:∀K1,PW E D (AT E D) K1 xb 0 (AA nd.kind) (BB nd.name) nd.mHas nd.mNum (AA nd.mMode) nd.con.has nd.con.hasLow nd.con.hasHigh nd.con.more nd.con.low nd.con.high iv fv (AA nd.root) nd.more (AA nd.of_) (AA d) U=K1 xb 0 (AA d) U.next 0 (AA tl.length) U1.next 0 U5:=by
      intro K1
      unfold PW
      simp -implicitDefEqProofs only [↓rP,rA,AB,AE,AD,io,fo,↓e1,d1,↓AZ hx1,↓sl1,d2,↓AZ a1,↓BX a1,↓sub1,↓e2,↓s3,↓AZ a13,h9,↓gU,↓e4,↓g5]
    have gd:∀J:B6->H->AF,Cc (AT E D Nk Kv [(0,.ptr xb 0),(2,.int .i64 (AA d)),(4,.ptr U.next 0),(7,.int .i64 (AA tl.length)),(8,.ptr U1.next 0)] U5) J=J e' U6:=fun J=>by rw[g6];rfl
    have m0:∀J:V->AF,BL e' 0 J=J (.ptr xb 0):=fun J=>BH t0 rfl
    have m2:∀J:V->AF,BL e' 2 J=J (.int .i64 (AA d)):=fun J=>BH t2 rfl
    have m4:∀J:V->AF,BL e' 4 J=J (.ptr U.next 0):=fun J=>BH t4 rfl
    have m7:∀J:V->AF,BL e' 7 J=J (.int .i64 (AA tl.length)):=fun J=>BH t7 rfl
    show ∃lv' U',PW E D (AT E D) (Kq E D (AT E D) (Kp E D (AT E D) (FR E D (AT E D)) (MR E D (AT E D) (FR E D (AT E D))) (NW E D (AT E D) (FR E D (AT E D))))) xb 0 (AA nd.kind) (BB nd.name) nd.mHas nd.mNum (AA nd.mMode) nd.con.has nd.con.hasLow nd.con.hasHigh nd.con.more nd.con.low nd.con.high iv fv (AA nd.root) nd.more (AA nd.of_) (AA d) U=_/\_
    rw[key0]
    have mu:∀b,AJ u b->AJ lv b\/U.next<=b:=fun b hb=>(m6 b hb).imp id (fun h=>by omega)
    have Ol:nd.kind=1\/nd.kind=4->∃lv' U',Kq E D (AT E D) (Kp E D (AT E D) (FR E D (AT E D)) (MR E D (AT E D) (FR E D (AT E D))) (NW E D (AT E D) (FR E D (AT E D)))) xb 0 (AA d) U.next 0 (AA tl.length) U1.next 0 U5=some (.int .i64 (AA i),U')/\Mk U0 U' xb m nv tv dv tl' lv' Q/\(∀b,AJ lv' b->AJ lv b\/U.next<=b)/\Fr (fun b=>b=xb\/AJ lv b) U U':=by
      intro hk
      have h10:decide (nd.kind=10)=false:=decide_eq_false (by omega)
      rw[h10]at hs
      cases hs
      refine⟨u,U6,?_,h6,mu,f06⟩
      rcases hk with hk|hk <;>
      (unfold Kq Kp NW FR
       simp -implicitDefEqProofs only [↓rP,rA,AB,AE,AD,↓gd,↓m0,↓m2,↓m4,↓m7,↓AZ a16,hk])
    have boundd:nd.kind=2\/nd.kind=5\/nd.kind=6\/nd.kind=10->∃lv' U',Kq E D (AT E D) (Kp E D (AT E D) (FR E D (AT E D)) (MR E D (AT E D) (FR E D (AT E D))) (NW E D (AT E D) (FR E D (AT E D)))) xb 0 (AA d) U.next 0 (AA tl.length) U1.next 0 U5=some (.int .i64 (AA i),U')/\Mk U0 U' xb m nv tv dv tl' lv' Q/\(∀b,AJ lv' b->AJ lv b\/U.next<=b)/\Fr (fun b=>b=xb\/AJ lv b) U U':=by
      intro hk
      have hc:PI nd.con (!decide (nd.kind=2))=true:=by
        rcases hk with hk|hk|hk|hk<;>(rw[hk]at hcon ⊢;simpa[ra]using hcon)
      obtain⟨U7,g7,f7⟩:=hC U6 nd.con (!decide (nd.kind=2)) h6.ht hc
      unfold AEB at g7
      have h7:=h6.fr f7 (fun _ h=>h.elim) (fun _ h=>h.elim)
      have a17:=f7.at_ a16 f6.tidy (fun h=>h)
      have f07:Fr (fun b=>b=xb\/AJ lv b) U U7:=f06.trans f7 (fun _ _ h=>h.elim)
      have key1:Kq E D (AT E D) (Kp E D (AT E D) (FR E D (AT E D)) (MR E D (AT E D) (FR E D (AT E D))) (NW E D (AT E D) (FR E D (AT E D)))) xb 0 (AA d) U.next 0 (AA tl.length) U1.next 0 U5=MR E D (AT E D) (FR E D (AT E D)) xb 0 (AA d) U.next 0 (AA tl.length) U7:=by
        have g7f:nd.kind=2->D 80 [.agg [.bool nd.con.has,.bool nd.con.hasLow,.bool nd.con.hasHigh,.bool nd.con.more,.int .i64 nd.con.low,.int .i64 nd.con.high],.bool false] U6=some (.int .i64 (AA 0),U7):=fun e=>by
          rw[show (!decide (nd.kind=2))=false by rw[e];rfl]at g7
          exact g7
        have g7t:nd.kind≠2->D 80 [.agg [.bool nd.con.has,.bool nd.con.hasLow,.bool nd.con.hasHigh,.bool nd.con.more,.int .i64 nd.con.low,.int .i64 nd.con.high],.bool true] U6=some (.int .i64 (AA 0),U7):=fun e=>by
          rw[show (!decide (nd.kind=2))=true by rw[decide_eq_false e];rfl]at g7
          exact g7
        rcases hk with hk|hk|hk|hk
        · have g7:=g7f hk
          unfold Kq Kp
          simp -implicitDefEqProofs only [↓rP,rA,AB,AE,AD,↓gd,↓m0,↓m2,↓m4,↓m7,↓AZ a16,↓BX a16,↓sub1,hk,↓g7]
        all_goals
        (have g7:=g7t (by omega)
         unfold Kq Kp
         simp -implicitDefEqProofs only [↓rP,rA,AB,AE,AD,↓gd,↓m0,↓m2,↓m4,↓m7,↓AZ a16,↓BX a16,↓sub1,hk,↓g7])
      rw[key1]
      cases h10:decide (nd.kind=10)with
      | false=>
        rw[h10]at hs
        cases hs
        refine⟨u,U7,?_,h7,mu,f07⟩
        unfold MR FR
        simp -implicitDefEqProofs only [↓rP,rA,AB,AE,AD,↓AZ a17,h10]
      | true=>
        rw[h10]at hs
        obtain⟨⟨r,tl8⟩,h8,hs⟩:=AV.1 hs
        obtain⟨lv8,U8,g8,k8,m8,f8⟩:=hT ht0 hs0 h7 (fun b q=>by have:=hQ b q;have:=f07.le;omega) (by omega) h8
        have ad:Ba .i64 (AA d) (AA 1)=AA (d+1):=A3 (by omega)
        dsimp only at hs
        cases ht8:tl8[tl.length]? with
        | none=>rw[ht8]at hs;cases hs
        | some t=>
          rw[ht8]at hs
          cases hs
          obtain⟨b,U9,g9,s9,k9,f9⟩:=k8.of (r:=r) ht8
          have hx8:=k8.a
          unfold UZ at hx8
          have le07:=f07.le
          refine⟨lv8,U9,?_,k9,fun b hb=>(m8 b hb).elim (mu b) (fun h => .inr (by omega)),(f07.trans f8 (fun b hb e=>e.elim .inl (fun e=>(mu b e).elim .inr (fun h=>by omega)))).trans f9 (fun b hb e=>(m8 b e).elim (fun e=>(mu b e).elim .inr (fun h=>by omega)) (fun h=>by omega))⟩
          unfold MR FR
          simp -implicitDefEqProofs only [↓rP,rA,AB,AE,AD,↓AZ a17,h10,ad,↓g8,↓AZ hx8,↓g9,↓s9]
    rcases hkind with hk|hk|hk|hk|hk|hk
    · exact Ol (.inl hk)
    · exact boundd (.inl hk)
    · exact Ol (.inr hk)
    · exact boundd (.inr (.inl hk))
    · exact boundd (.inr (.inr (.inl hk)))
    · exact boundd (.inr (.inr (.inr hk)))
end
end
end Go.Proofs.YtgblfbajgpboiaaGreatDoor
namespace Go.Og
noncomputable section
section
variable {Q:DS->Prop} {E:EB} {D:Ai} {U Uc U':H} {n i:Nat} {S:Nat->Prop} {d:Option Nat} {o:Eb} {l:List BO} {anc:Nat} {lk:List Nat} {pl:List DP} {e env:B6} {nx am:Nat} {ss:List (EB)} {ks:List Nat} {ls:List (Nat × Eb × B6 × V)}
theorem ig {pl0:List DP} {S2:Nat->Prop} {U2:H} (v:V) (hr:Ev E U n S nx ss am ls Uc) (hc:o.cls = .k) (hva:∀j,j<n->am.testBit j=true->anc.testBit j=true) (hf:Fr S2 Uc U2) (hg:∀j,j<n->S2 (U.next+j)->am.testBit j=true)
  (hv:Dx E D o (restr lk e) Uc=some (v,U2)) (hl:∀x∈ls,FA pl0 x.1 (i::ks) []=false):Ew (JQ E U n pl0 (Cu e d v) U2) E D U n i [⟨d,o,none⟩] [⟨anc,lk⟩] ⟨e,nx,ss,ks,am,ls⟩:=by
 obtain⟨⟨hn,r,rfl⟩,h2,h3,h4,h5,h6⟩:=hr
 subst hn
 refine⟨_,(dk v U2.next U2.bl hc (GZ fun j hj hp=>?_) hv).trans Hi,rfl,rfl,⟨_,rfl⟩,?_,fun j hj hb=>?_⟩
 ·refine h5 _ Ab j hj ?_
  cases ha:am.testBit j with
  | false=>rfl
  | true=>
   exfalso
   unfold DQ at hp
   rw[ha,hva j hj ha]at hp
   cases hp
 ·refine Dk.2 fun x hx=>?_
  show FE E U.next n pl0 am x.1 x.2.1 x.2.2.1 x.2.2.2 (U2.bl::Uc.bl::r) (i::ks) []=true
  rw[PH (hl x hx)]
  exact Ih (h6 x hx) _ _ _ h4
 ·have hb:am.testBit j=false:=hb
  have:=hf.same (U.next+j) (by omega) (fun hs=>by have:=hg j hj hs;rw[hb]at this;cases this)
  rw[<-A5,this,A5]
  exact h5 _ Ab j hj hb
end
theorem AKY {x y:AO} {em:B6} {s:BS} {u:V} (hx:CP em x = .str s) (hy:CP em y=u) (h:u.one=true):BV (.build [.str ⟨0,0⟩,.nils,.nils,.nils] [(0,1,x),(1,1,y)]) em=some (.agg [.str s,u,.nils,.nils]):=by
 obtain⟨h1,h2⟩:=D7 h
 show (match Ez [(0,1,CP em x),(1,1,CP em y)] [.str ⟨0,0⟩,.nils,.nils,.nils]with
  | some l=>some (V.agg l)
  | none=>none)=_
 rw[hx,hy]
 show (match Ez [(1,1,u)] [.str s,.nils,.nils,.nils]with
  | some l=>some (V.agg l)
  | none=>none)=_
 unfold Ez
 rw[h1,h2]
 rfl
theorem Fx {esz:Nat} {x y:AO} {em:B6} {b o n i:Nat} {c:Ri} (hx:CP em x = .sl b o n c) (hy:CP em y = .int .i64 (AA i)) (hi:i<n):BV (.iaddrS esz x y) em=some (.ptr b (o+i*esz)):=by
 show (match CP em x,CP em y with
  | .sl b off len _,.int _ n=>if 0<=n/\n<len then some (V.ptr b (off+n.toNat*esz))else none
  | _,_=>none)=_
 rw[hx,hy]
 show (if 0<=AA i/\AA i<(n:Int)then some (V.ptr b (o+i*esz))else none)=_
 rw[if_pos ⟨QL i,Int.ofNat_lt.2 hi⟩]
end
end Go.Og
namespace Go.Proofs.YtgblfbajgpboiaaGreatDoor
open Go Go.Og
noncomputable section
section
variable {E:EB} {D:Ai} {N:Nat}
theorem QZ {U:H} {esz k:Nat} {v:V} {m:List V} (hd:DM U esz k v m):V.beq v v=true:=by
 rcases hd with h|⟨b,rfl,_⟩
 ·rcases h with ⟨_,rfl,_⟩|⟨_,rfl,_⟩<;>exact B0 _ rfl
 ·exact B0 _ rfl
theorem dM {U:H} {cb:Nat} {m:Cg} {nv tv dv p2 p8:V} (ht:Ar U) (ha:CQ U cb (IQ m nv tv dv)) (hn:DM U 1 m.az.length nv (YQ m.az)) (hl:m.az.length<=40) :
    ∃e' u U',AT E D Rb Nj [(1,.ptr cb 0),(2,p2),(8,p8)] U=some (e',U')/\Go.Og.look e' 1=some (.ptr cb 0)/\Go.Og.look e' 2=some p2/\Go.Og.look e' 8=some p8/\Go.Og.look e' 9=some (.ptr (U.next+6) 0)/\CQ U' (U.next+6) [.str (BB m.nm),u,.nils,.nils]/\DM U' 1 m.az.length u (YQ m.az)/\(∀b,AJ u b->U.next+8<=b)/\U.next+8<=U'.next/\Fr AL U U':=by
  have fw:Fr AL U ⟨U.next+8,U.bl⟩:=(CO (E:=E) (n:=8) (S:=AL) ht).fr
  have xs:=(hn.fr fw ht (fun _ _ h=>h)).src
  have ho:An (YQ m.az)=true:=by
    unfold YQ
    generalize m.az=l
    induction l with
    | nil=>rfl
    | cons x l ih=>show (true&&An (l.map _))=true;rw[Co];exact ih
  obtain⟨u,U2,g2,d2,m2,f2⟩:=Du (E:=E) (bytes:=16) (DM.nil ⟨U.next+8,U.bl⟩ 1) fw.tidy xs ho (by unfold Bw;simp only[AG,Ac];omega)
  rw[BA,Ff]at d2
  have le2:U.next+8<=U2.next:=f2.le
  have ul:∀b,AJ u b->U.next+8<=b:=fun b hb=>(m2 b hb).elim (fun h=>h.elim) (fun h=>h)
  obtain⟨U3,h3⟩:∃U3,U3=(⟨U2.next,(U.next+6,.cells [.str ⟨0,0⟩,.nils,.nils,.nils])::U2.bl⟩:H):=⟨_,rfl⟩
  have f3:Fr (fun k=>k=U.next+6) U2 U3:=by
    rw[h3]
    refine⟨fun b hb=>?_,AK _,fun b hb hn=>?_⟩
    · have hb:U2.next<=b:=hb
      show BU ((U.next+6,_)::U2.bl) b=none
      rw[Au,if_neg (by simp only[];omega)]
      exact f2.tidy b hb
    · show BU ((U.next+6,_)::U2.bl) b=_
      rw[Au,if_neg (by simp only[];omega)]
  have a3:CQ U3 (U.next+6) [.str ⟨0,0⟩,.nils,.nils,.nils]:=by
    rw[h3]
    show BU ((U.next+6,_)::U2.bl) _=_
    rw[Au,if_pos rfl]
  have hoc:An [.str (BB m.nm),u,.nils,.nils]=true:=by simp only[BC,BP,Dg,Fu,d2.one,A8]
  have st:∃U4,Dx E D (.store 4 (.tmp 9) (.tmp 30)) [(9,.ptr (U.next+6) 0),(30,.agg [.str (BB m.nm),u,.nils,.nils])] U3=some (.dead,U4)/\Fr (fun k=>k=U.next+6) U3 U4/\CQ U4 (U.next+6) [.str (BB m.nm),u,.nils,.nils]:=by
    obtain⟨U4,q1,q2,q3⟩:=Jl (E:=E) (D:=D) (n:=4) (x := .tmp 9) (y := .tmp 30) (e:=[(9,.ptr (U.next+6) 0),(30,.agg [.str (BB m.nm),u,.nils,.nils])]) f3.tidy a3 rfl (show (CP [(9,.ptr (U.next+6) 0),(30,.agg [.str (BB m.nm),u,.nils,.nils])] (.tmp 30)).cells=[.str (BB m.nm),u,.nils,.nils] from rfl) (by
      rw[hoc];rfl)
    exact⟨U4,q1,q2,q3⟩
  obtain⟨U4,g4,f4,a4⟩:=st
  have uo:=d2.one
  have go:Ew (JQ E U 8 Nj _ U4) E D U 8 0 Rb Nj ⟨[(1,.ptr cb 0),(2,p2),(8,p8)],U.next+8,[U.bl],[],0,[]⟩:=
    B5 (.ptr cb 0) rfl rfl <|
    G8 (.str (BB m.nm)) (CO (S:=AL) ht) rfl (DC (b:=cb) (off:=0) rfl ha rfl ht (fun h=>h) (B0 _ rfl)) fun r1=>
    B5 (.ptr cb 2) rfl rfl <|
    G8 nv r1 rfl (DC (b:=cb) (off:=2) rfl ha rfl ht (fun h=>h) (QZ hn)) fun r2=>
    MC u r2 rfl (by decide) (S':=AL) (f2.mono fun _ _ h=>h.elim) (fun _ _ h=>h.elim) (fun _ h _ _=>h) (H7 rfl rfl g2) fun _ _ r4=>
    B5 (.agg [.str (BB m.nm),u,.nils,.nils]) rfl (AKY rfl rfl uo) <|
    Qv (.ptr (U.next+6) 0) (.cells [.str ⟨0,0⟩,.nils,.nils,.nils]) 64 r4 rfl (by decide) (by decide) rfl fun _ r5=>
    ig .dead (by rw[<-h3]at r5;exact r5) rfl (by decide) f4 (fun j hj e=>by
      have:j=6:=by omega
      subst this;decide) g4 (fun x hx=>by
      simp only[Ax,E5,or_false]at hx
      rcases hx with rfl|rfl
      · show FA Nj 3 [7,4] []=false
        decide
      · show FA Nj 1 [7,4] []=false
        decide)
  have d:=Gt (ops:=Rb) go
  refine⟨_,u,U4,d,rfl,rfl,rfl,rfl,a4,?_,ul,?_,?_⟩
  · exact(d2.fr f3 f2.tidy (fun b hb e=>by have:=ul b hb;omega)).fr f4 f3.tidy (fun b hb e=>by have:=ul b hb;omega)
  · have:=f3.le
    have:=f4.le
    omega
  · exact((fw.trans (f2.mono fun _ _ h=>h.elim:Fr AL _ U2) (fun _ _ h=>h)).trans f3 (fun b hb e=>by omega)).trans f4 (fun b hb e=>by omega)
theorem dL {m:Cg} {T:Ja} (hT:Gk m T (D 27)) {U0 U:H} {cb xb tb:Nat} {nv tv dv lv u rv p2:V} {tl tl':List Dr} {rs:List Nat} {i k r:Nat} {nm:BS} {P:Nat->Prop} (hP:∀b,P b->b<U.next) (ht0:Ar U0) (hs0:N5 U0 m nv tv dv) (h:Mk U0 U xb m nv tv dv tl lv (fun b=>b=tb\/AJ rv b\/P b)) (hc:CQ U cb (IQ m nv tv dv)) (ht:CQ U tb [.str nm,u,rv,.nils]) (hr:DM U 1 rs.length rv (HX rs)) (hrl:rs.length<=40) (hk:m.ks[i]? = some k)
    (cx:cb≠xb) (cl:¬AJ lv cb) (cr:¬AJ rv cb) (ct:cb≠tb) (tr:¬AJ rv tb) (rx:∀b,AJ rv b->U0.next<=b) (t0:U0.next<=tb) (hd:T 0 k tl=some (r,tl')) :
    ∃e' lv' rv' U',AT E D Ra MY [(1,.ptr cb 0),(2,p2),(8,.ptr xb 0),(9,.ptr tb 0),(10,.int .i64 (AA i))] U=some (e',U')/\Go.Og.look e' 1=some (.ptr cb 0)/\Go.Og.look e' 2=some p2/\Go.Og.look e' 8=some (.ptr xb 0)/\Go.Og.look e' 9=some (.ptr tb 0)/\Go.Og.look e' 10=some (.int .i64 (AA i)) /\
      Mk U0 U' xb m nv tv dv tl' lv' (fun b=>b=tb\/AJ rv' b\/P b)/\CQ U' tb [.str nm,u,rv',.nils]/\DM U' 1 (rs.length+1) rv' (HX (rs++[r]))/\(∀b,AJ lv' b->AJ lv b\/U.next<=b)/\(∀b,AJ rv' b->AJ rv b\/U.next<=b)/\Fr (fun b=>b=xb\/b=tb\/AJ lv b\/AJ rv b) U U':=by
  have hti:=h.ht
  have le0:=h.f.le
  have fw:Fr AL U ⟨U.next+13,U.bl⟩:=(CO (E:=E) (n:=13) (S:=AL) hti).fr
  have rl:∀b,AJ rv b->b<U.next:=fun b hb=>hr.lt hti hb
  have tl_lt:=ht.lt hti
  have cl_lt:=hc.lt hti
  have xl:=h.a.lt hti
  have hw:=(h.ext (Q':=fun b=>(b=tb\/AJ rv b\/P b)\/(U.next<=b/\b<U.next+13)) (fun b q=>q.imp id (fun q=>q.1))).fr fw (fun _ h=>h.elim) (fun _ h=>h.elim)
  obtain⟨lv',U1,g1,h1,m1,f1⟩:=hT ht0 hs0 hw (fun b q=>by
    show b<U.next+13
    rcases q with (q|q|q)|q
    · omega
    · have:=rl b q;omega
    · have:=hP b q;omega
    · omega) (by omega) hd
  have le1:U.next+13<=U1.next:=f1.le
  have lxq:∀b,AJ lv b->b≠tb/\¬AJ rv b:=fun b hb=>⟨fun e=>(h.lx b hb).2.2 (.inl e),fun e=>(h.lx b hb).2.2 (.inr (.inl e))⟩
  obtain⟨U2,h2⟩:∃U2,U2=(⟨U1.next,(U.next+9,.cells [.int .i64 (AA r)])::U1.bl⟩:H):=⟨_,rfl⟩
  have f2:Fr (fun k=>k=U.next+9) U1 U2:=by
    rw[h2]
    refine⟨fun b hb=>?_,AK _,fun b hb hn=>?_⟩
    · have hb:U1.next<=b:=hb
      show BU ((U.next+9,_)::U1.bl) b=none
      rw[Au,if_neg (by simp only[];omega)]
      exact f1.tidy b hb
    · show BU ((U.next+9,_)::U1.bl) b=_
      rw[Au,if_neg (by simp only[];omega)]
  have a2:CQ U2 (U.next+9) [.int .i64 (AA r)]:=by
    rw[h2]
    show BU ((U.next+9,_)::U1.bl) _=_
    rw[Au,if_pos rfl]
  have xs:DL U2 1 1 (V.sl (U.next+9) 0 1 (.ex 1)) [.int .i64 (AA r)] := .inr ⟨_,_,_,_,rfl,a2,AK _,rfl⟩
  have hr1:DM U1 1 rs.length rv (HX rs):=(hr.fr fw hti (fun _ _ h=>h)).fr f1 fw.tidy (fun b hb e=>e.elim (fun e=>h.qx (.inr (.inl (e ▸ hb)))) (fun e=>(lxq b e).2 hb))
  obtain⟨rv',U3,g3,d3,m3,f3⟩:=Du (E:=E) (bytes:=8) (hr1.fr f2 f1.tidy (fun b hb e=>by have:=rl b hb;omega)) f2.tidy xs rfl (by unfold Bw;simp only[AG,Ac];omega)
  have n2:U2.next=U1.next:=by rw[h2]
  have t1:CQ U1 tb [.str nm,u,rv,.nils]:=f1.at_ (fw.at_ ht hti (fun h=>h)) fw.tidy (fun e=>e.elim (fun e=>h.qx (.inl e.symm)) (fun e=>(lxq tb e).1 rfl))
  have t3:=f3.at_ (f2.at_ t1 f1.tidy (by omega)) f2.tidy tr
  obtain⟨o1,o2⟩:=D7 d3.one
  have st:∃U4,Dx E D (.store 1 (.tmp 49) (.tmp 48)) [(49,.ptr tb 2),(48,rv')] U3=some (.dead,U4)/\Fr (fun k=>k=tb) U3 U4/\CQ U4 tb [.str nm,u,rv',.nils]:=by
    obtain⟨U4,q1,q2,q3⟩:=Jl (E:=E) (D:=D) (n:=1) (x := .tmp 49) (y := .tmp 48) (e:=[(49,.ptr tb 2),(48,rv')]) f3.tidy t3 rfl (show (CP [(49,.ptr tb 2),(48,rv')] (.tmp 48)).cells=[rv'] from o2) (by
      simp only[BC,BP,d3.one,A8];rfl)
    exact⟨U4,q1,q2,q3⟩
  obtain⟨U4,g4,f4,a4⟩:=st
  have le3:=f3.le
  have le2:=f2.le
  have hs:=hs0.fr h.f ht0
  have hkl:i<m.ks.length:=(AY.1 hk).1
  have mr:∀b,AJ rv' b->AJ rv b\/U1.next<=b:=fun b hb=>(m3 b hb).imp id (fun h=>by omega)
  have ml:∀b,AJ lv' b->AJ lv b\/U.next<=b:=fun b hb=>(m1 b hb).imp id (fun h=>by have h:U.next+13<=b:=h;omega)
  have h4:Mk U0 U4 xb m nv tv dv tl' lv' (fun b=>((b=tb\/AJ rv b\/P b)\/(U.next<=b/\b<U.next+13))\/U1.next<=b):=(((h1.ext (Q':=fun b=>((b=tb\/AJ rv b\/P b)\/(U.next<=b/\b<U.next+13))\/U1.next<=b) (fun b q=>q)).fr f2 (fun b e => .inr (.inl (.inr (by omega)))) (fun b e=>by omega)).fr f3 (fun b e => .inr (.inl (.inl (.inr (.inl e))))) (fun b e=>rx b e)).fr f4 (fun b e => .inr (.inl (.inl (.inl e)))) (fun b e=>by omega)
  obtain⟨vb,vo,vc,L,htv,hva,hvle,hvm⟩:∃vb vo vc L,tv = .sl vb vo m.ks.length vc/\CQ U vb L/\vo+m.ks.length*1<=L.length/\HX m.ks=(L.drop vo).take (m.ks.length*1):=by
    rcases hs.t with ⟨h0,_,_⟩|⟨b,o,c,L,e1,e2,e3,e4⟩
    · omega
    · exact⟨b,o,c,L,e1,e2,e3,e4⟩
  have hvb:vb<U0.next:=hs0.t.lt ht0 (by rw[htv];rfl)
  have hLk:L[vo+i*1]? = some (.int .i64 (AA k)):=by
    have:(HX m.ks)[i]? = some (.int .i64 (AA k)):=by unfold HX;rw[Aw,hk];rfl
    rw[hvm,CG (by omega),Bm]at this
    rw[B8];exact this
  have hct:=hc
  unfold IQ at hct
  rw[htv]at hct
  have go:Ew (JQ E U 13 MY _ U4) E D U 13 0 Ra MY ⟨[(1,.ptr cb 0),(2,p2),(8,.ptr xb 0),(9,.ptr tb 0),(10,.int .i64 (AA i))],U.next+13,[U.bl],[],0,[]⟩:=
    B5 (.ptr tb 2) rfl rfl <|
    G8 rv (CO (S:=fun b=>b=xb\/AJ lv b\/AJ rv b) hti) rfl (DC (b:=tb) (off:=2) rfl ht rfl hti (fun e=>by
      rcases e with e|e|e
      · exact h.qx (.inl e.symm)
      · exact(lxq _ e).1 rfl
      · exact tr e) (QZ hr)) fun r1=>
    B5 (.ptr xb 0) rfl rfl <|
    B5 (.ptr cb 3) rfl rfl <|
    G8 (.sl vb vo m.ks.length vc) r1 rfl (DC (b:=cb) (off:=3) rfl hct rfl hti (fun e=>by
      rcases e with e|e|e
      · exact cx e
      · exact cl e
      · exact cr e) (B0 _ rfl)) fun r2=>
    B5 (.int .i64 (AA i)) rfl rfl <|
    B5 (.ptr vb (vo+i*1)) rfl (Fx rfl rfl hkl) <|
    G8 (.int .i64 (AA k)) r2 rfl (DC (b:=vb) (off:=vo+i*1) rfl hva hLk hti (fun e=>by
      rcases e with e|e|e
      · have:=h.x0;omega
      · have:=(h.lx _ e).2.1;omega
      · have:=rx _ e;omega) (B0 _ rfl)) fun r3=>
    MC (.int .i64 (AA r)) r3 rfl (by decide) (S':=fun b=>b=xb\/AJ lv b) f1 (fun b _ e=>e.imp id .inl) (fun b e e1 e2=>by
      rcases e with e|e
      · omega
      · have:=h.llt e;omega) (H6 (vs:=[.ptr xb 0,.int .i64 (AA k),.int .i64 (AA 0)]) rfl rfl g1) fun _ _ r4=>
    Qv (.sl (U.next+9) 0 1 (.ex 1)) (.cells [.int .i64 (AA r)]) 512 r4 rfl (by decide) (by decide) rfl fun _ r5=>
    MC (S:=fun b=>b=xb\/AJ lv b\/AJ rv b) rv' (by rw[<-h2]at r5;exact r5) rfl (by decide) (S':=AJ rv) f3 (fun _ _ e=>Or.inr (Or.inr e)) (fun b e e1 e2=>by have:=rl b e;omega) (H7 rfl rfl g3) fun _ _ r6=>
    B5 (.ptr tb 2) rfl rfl <|
    MD .dead r6 rfl (by decide) f4 (fun b e e1 _=>by omega) g4 (fun x hx=>by
      simp only[Ax,E5,or_false]at hx
      rcases hx with rfl|rfl|rfl
      · show FA MY 7 [12,10,8] []=false
        decide
      · show FA MY 4 [12,10,8] []=false
        decide
      · show FA MY 1 [12,10,8] []=false
        decide)
  have d:=Gt (ops:=Ra) go
  refine⟨_,lv',rv',U4,d,rfl,rfl,rfl,rfl,rfl,h4.ext (fun b q=>?_),a4,?_,ml,fun b hb=>(mr b hb).imp id (fun h=>by omega),?_⟩
  · rcases q with q | q | q
    · exact .inl (.inl (.inl (.inl q)))
    · exact(mr b q).elim (fun e=>Or.inl (Or.inl (Or.inl (Or.inr (Or.inl e))))) (fun e=>Or.inl (Or.inr e))
    · exact .inl (.inl (.inl (.inr (.inr q))))
  · have d4:=d3.fr f4 f3.tidy (fun b hb e=>(mr b hb).elim (fun h=>tr (e ▸ h)) (fun h=>by omega))
    rw[show HX (rs++[r])=HX rs++[.int .i64 (AA r)] by unfold HX;simp]
    exact d4
  · have F1:Fr (fun b=>b=xb\/b=tb\/AJ lv b\/AJ rv b) U ⟨U.next+13,U.bl⟩:=fw.mono (fun _ _ h=>h.elim)
    have F2:Fr (fun b=>b=xb\/b=tb\/AJ lv b\/AJ rv b) U U1:=F1.trans f1 (fun b _ e=>e.elim Or.inl (fun e=>Or.inr (Or.inr (Or.inl e))))
    have F3:Fr (fun b=>b=xb\/b=tb\/AJ lv b\/AJ rv b) U U2:=F2.trans f2 (fun b hb e=>by omega)
    have F4:Fr (fun b=>b=xb\/b=tb\/AJ lv b\/AJ rv b) U U3:=F3.trans f3 (fun b _ e=>Or.inr (Or.inr (Or.inr e)))
    exact F4.trans f4 (fun b _ e=>Or.inr (Or.inl e))
end
def Zo (v:V):Prop:=v = .nils\/∃b n c,v = .sl b 0 n c
theorem DM.zo {U:H} {esz k:Nat} {v:V} {l:List V} (h:DM U esz k v l):Zo v:=by
 rcases h with (⟨_,e,_⟩|⟨b,e,_⟩)|⟨b,e,_⟩
 ·exact .inl e
 ·exact .inr ⟨_,_,_,e⟩
 ·exact .inr ⟨_,_,_,e⟩
structure QN (n0:Nat) (U:H) (az:List (List Nat)) (rs:List Nat) (tl:List Dr) (u rv lv:V):Prop where
 n:DL U 1 az.length u (YQ az)
 r:DL U 1 rs.length rv (HX rs)
 t:∃ws:List (V × V × V),DL U 13 tl.length lv (Dd tl ws)/\ws.length=tl.length/\∀(k:Nat) (t:Dr) (w:V × V × V),tl[k]? = some t->ws[k]? = some w->QM U t.tags w.1/\DL U 3 t.items.length w.2.1 (iT t.items)/\DL U 11 t.fields.length w.2.2 (Ir t.fields)/\∀b,(AJ w.1 b\/AJ w.2.1 b\/AJ w.2.2 b)->n0<=b
 f:∀b,(AJ u b\/AJ rv b\/AJ lv b)->n0<=b
 z:Zo lv
def Mo (T:Ja):List Nat->List Dr->List Nat->Option (List Nat × List Dr)
 | [],tl,rs=>some (rs,tl)
 | k::ks,tl,rs=>(T 0 k tl).bind fun r=>Mo T ks r.2 (rs++[r.1])
def Lu (nm:List Nat) (u rv lv:V):List V:=[.str (BB nm),u,rv,lv]
def Xa (m:Cg) (T:Ja) (F:List V->H->AF):Prop:=∀(U:H) (nv tv dv:V) (rs:List Nat) (tl:List Dr),Ar U->N5 U m nv tv dv->Mo T m.ks [] []=some (rs,tl) ->
 ∃u rv lv U',F [.agg (IQ m nv tv dv)] U=some (.tup [.agg (Lu m.nm u rv lv),.int .i64 (AA 0),.int .i64 (AA 0)],U')/\QN U.next U' m.az rs tl u rv lv/\Fr AL U U'
section
variable {E:EB} {D:Ai} {N:Nat}
theorem xS {m:Cg} {T:Ja} (hm:Ki m) (hT:Gk m T (D 27)) {U0 U5:H} {cb rb xb tb:Nat} {nv tv dv u:V} (ht0:Ar U0) (hs0:N5 U0 m nv tv dv) (ht5:Ar U5) (hc5:CQ U5 cb (IQ m nv tv dv)) (hr5:CQ U5 rb [.str (BS.mk 0 0),.nils,.nils,.nils]) (hu5:DM U5 1 m.az.length u (YQ m.az)) (l05:U0.next<=U5.next)
  (cx:cb≠xb) (ct:cb≠tb) (rx:rb≠xb) (rt:rb≠tb) (ux:∀b,AJ u b->b≠xb/\b≠tb/\b≠rb/\U0.next<=b) (x5:xb<U5.next) (t5:tb<U5.next) (t0:U0.next<=tb) (r0:U0.next<=rb):∀(ks:List Nat) (i k:Nat) {U:H} {lv rv:V} {tl tl':List Dr} {rs rs':List Nat},m.ks.drop i=ks->i+ks.length=m.az.length->ks.length<k->rs.length=i ->
  Mk U0 U xb m nv tv dv tl lv (fun b=>b=tb\/AJ rv b\/(b=rb\/b<U0.next))->CQ U tb [.str (BB m.nm),u,rv,.nils]->DM U 1 rs.length rv (HX rs)->(∀b,AJ lv b->U5.next<=b)->(∀b,AJ rv b->U5.next<=b)->Fr (fun b=>b=xb\/b=tb) U5 U->Mo T ks tl rs=some (rs',tl') ->
  ∃rv' lv' U',V2 E D (AT E D) N k cb 0 rb 0 xb 0 tb 0 (AA i) U=some (.tup [.agg (Lu m.nm u rv' lv'),.int .i64 (AA 0),.int .i64 (AA 0)],U')/\QN U0.next U' m.az rs' tl' u rv' lv'/\Fr (fun b=>b=xb\/b=tb\/b=rb) U5 U':=by
 have hfew:=hm.few.2
 have hc_lt:=hc5.lt ht5
 have hr_lt:=hr5.lt ht5
 intro ks
 induction ks with
 | nil=>
  intro i k U lv rv tl tl' rs rs' hk hi hn hrs h ht hr ll rl f hp
  obtain⟨k,rfl⟩:∃j,k=j+1:=⟨k-1,by omega⟩
  cases hp
  have hti:=h.ht
  have hc:=f.at_ hc5 ht5 (fun e=>e.elim cx ct)
  have hrb:=f.at_ hr5 ht5 (fun e=>e.elim rx rt)
  have hu:=hu5.fr f ht5 (fun b hb e=>e.elim (ux b hb).1 (ux b hb).2.1)
  have sl:∀J:Nat->AF,A0 nv J=J m.az.length:=fun J=>hs0.n.slen
  have d1:decide (i<m.az.length)=false:=decide_eq_false (by simp only[BQ]at hi;omega)
  obtain⟨ws,h1,h2,h3⟩:=h.w
  obtain⟨Ua,ga,fa,aa⟩:=Wd (off:=3) (y:=lv) hti ht h1.one (show 3<4 by decide)
  have aa:CQ Ua tb (Lu m.nm u rv lv):=aa
  have hra:=fa.at_ hrb hti (by omega)
  obtain⟨Ub,eb,fb,ab⟩:=Yk fa.tidy hra (Lu m.nm u rv lv)
  have ho:An (Lu m.nm u rv lv)=true:=by
   unfold Lu
   simp only[BC,BP,Dg,hu.one,hr.one,h1.one,A8]
  have gb:∀J:H->AF,DX 4 rb 0 (.agg (Lu m.nm u rv lv)) Ua J=J Ub:=fun J=>by
   rw[ER hra (by
    rw[Cl,ho]
    rfl),Cl]
   show J (GP Ua rb (.cells (Lu m.nm u rv lv)))=_
   rw[eb]
  have hx:=h.a
  have fab:Fr (fun b=>b=tb\/b=rb) U Ub:=(fa.mono (fun _ _ e => .inl e):Fr (fun b=>b=tb\/b=rb) U Ua).trans fb (fun _ _ e => .inr e)
  refine⟨rv,lv,Ub,?_,⟨(hu.fr fab hti (fun b hb e=>e.elim (ux b hb).2.1 (ux b hb).2.2.1)).src,(hr.fr fab hti (fun b hb e=>by have:=rl b hb;omega)).src,⟨ws,(h1.fr fab hti (fun b hb e=>by have:=ll b hb;omega)).src,h2,fun j t w hj hw=>?_⟩,fun b hb=>?_,DM.zo h1⟩,(f.mono (fun _ _ e=>e.imp id .inl):Fr (fun b=>b=xb\/b=tb\/b=rb) U5 U).trans fab (fun b _ e => .inr e)⟩
  ·unfold IQ at hc
   unfold UZ at hx
   unfold Lu at aa ab gb ⊢
   have sub:∀J:List V->AF,EI [.str (BB m.nm),u,rv,lv] 0 4 J=J [.str (BB m.nm),u,rv,lv]:=fun J=>by
    rw[D6 (by simp)];rfl
   have o1:=hu.one
   have o2:=hr.one
   have o3:=h1.one
   show Pe E D (AT E D) (RI E D (AT E D)) _ cb 0 rb 0 xb 0 tb 0 (AA i) U=_
   have key:∀R,Pe E D (AT E D) (RI E D (AT E D)) R cb 0 rb 0 xb 0 tb 0 (AA i) U=some (.tup [.agg [.str (BB m.nm),u,rv,lv],.int .i64 (AA 0),.int .i64 (AA 0)],Ub):=by
    intro R
    unfold Pe RI
    simp -implicitDefEqProofs only [↓rP,rA,AB,AE,AD,↓AZ hc,↓sl,d1,↓AZ hx,↓ga,↓BX aa,↓sub,↓gb,↓BX ab]
   exact key _
  ·obtain⟨a,b,c,d⟩:=h3 j t w hj hw
   have nn:∀x,(AJ w.1 x\/AJ w.2.1 x\/AJ w.2.2 x)->¬(x=tb\/x=rb):=fun x hx e=>(d x hx).2.2 (e.elim .inl (fun e => .inr (.inr (.inl e))))
   exact⟨a.fr fab hti (fun x hx e=>nn x (.inl hx) e),b.fr fab hti (fun x hx e=>nn x (.inr (.inl hx)) e),c.fr fab hti (fun x hx e=>nn x (.inr (.inr hx)) e),fun x hx=>Nat.le_of_not_lt fun e=>(d x hx).2.2 (.inr (.inr (.inr e)))⟩
  ·rcases hb with hb|hb|hb
   ·exact(ux b hb).2.2.2
   ·have:=rl b hb;omega
   ·have:=ll b hb;omega
 | cons k0 ks ih=>
  intro i k U lv rv tl tl' rs rs' hk hi hn hrs h ht hr ll rl f hp
  obtain⟨k,rfl⟩:∃j,k=j+1:=⟨k-1,by omega⟩
  obtain⟨⟨r,tl1⟩,h1,hp⟩:=AV.1 hp
  simp only[AN]at hi hn
  have hti:=h.ht
  have hc:=f.at_ hc5 ht5 (fun e=>e.elim cx ct)
  have le:=f.le
  have hki:m.ks[i]? = some k0:=by
   have:=congrArg (fun l:List Nat=>l[0]?) hk
   simpa using this
  obtain⟨e',lv1,rv1,U1,g,t1,t2,t8,t9,t10,hm1,ha1,hr1,m1,m2,f1⟩:=dL (E:=E) (D:=D) (p2 := .ptr rb 0) (P:=fun b=>b=rb\/b<U0.next) hT (fun b e=>by omega) ht0 hs0 h hc ht hr (by omega) hki cx (fun e=>by have:=ll _ e;omega) (fun e=>by have:=rl _ e;omega) ct (fun e=>by have:=rl _ e;omega) (fun b hb=>by have:=rl b hb;omega) t0 h1
  have F1:Fr (fun b=>b=xb\/b=tb) U5 U1:=f.trans f1 (fun b hb e=>by
   rcases e with e|e|e|e
   ·exact .inl e
   ·exact .inr e
   ·have:=ll b e;omega
   ·have:=rl b e;omega)
  have a1:Ba .i64 (AA i) (AA 1)=AA (i+1):=A3 (by omega)
  obtain⟨rv',lv',U',g',tb',f'⟩:=ih (i+1) k (by rw[<-CJ,hk];rfl) (by omega) (by omega) (by simp[hrs]) hm1 ha1 (by rw[AS];exact hr1) (fun b hb=>(m1 b hb).elim (ll b) (fun e=>by omega)) (fun b hb=>(m2 b hb).elim (rl b) (fun e=>by omega)) F1 hp
  refine⟨rv',lv',U',?_,tb',f'⟩
  have sl:∀J:Nat->AF,A0 nv J=J m.az.length:=fun J=>hs0.n.slen
  have d1:decide (i<m.az.length)=true:=decide_eq_true (by omega)
  have gd:∀J:B6->H->AF,Cc (AT E D Ra MY [(1,.ptr cb 0),(2,.ptr rb 0),(8,.ptr xb 0),(9,.ptr tb 0),(10,.int .i64 (AA i))] U) J=J e' U1:=fun J=>by rw[g];rfl
  have m1':∀J:V->AF,BL e' 1 J=J (.ptr cb 0):=fun J=>BH t1 rfl
  have m2':∀J:V->AF,BL e' 2 J=J (.ptr rb 0):=fun J=>BH t2 rfl
  have m8':∀J:V->AF,BL e' 8 J=J (.ptr xb 0):=fun J=>BH t8 rfl
  have m9':∀J:V->AF,BL e' 9 J=J (.ptr tb 0):=fun J=>BH t9 rfl
  have m10':∀J:V->AF,BL e' 10 J=J (.int .i64 (AA i)):=fun J=>BH t10 rfl
  have hx1:=hm1.a
  unfold IQ at hc
  unfold UZ at hx1
  show Pe E D (AT E D) (RI E D (AT E D)) (V2 E D (AT E D) N k) cb 0 rb 0 xb 0 tb 0 (AA i) U=_
  have key:∀R,Pe E D (AT E D) (RI E D (AT E D)) R cb 0 rb 0 xb 0 tb 0 (AA i) U=R cb 0 rb 0 xb 0 tb 0 (AA (i+1)) U1:=by
   intro R
   unfold Pe
   simp -implicitDefEqProofs only [↓rP,rA,AB,AE,AD,↓AZ hc,↓sl,d1,↓gd,↓m1',↓m2',↓m8',↓m9',↓m10',↓AZ hx1,a1]
  rw[key];exact g'
theorem xT {m:Cg} {T:Ja} (hm:Ki m) (hO:TC m (D 26)) (hT:Gk m T (D 27)) (hN:100<N):Xa m T (F14 E D (AT E D) N):=by
 intro U nv tv dv rs tl ht hs hp
 have hfew:=hm.few.2
 obtain⟨U1,e1,f1,a1,n1⟩:=JI ht (IQ m nv tv dv)
 obtain⟨U2,e2,f2,a2,n2⟩:=JI f1.tidy [.str (BS.mk 0 0),.nils,.nils,.nils]
 have od:dv.one=true:=by
  obtain⟨ws,h1,_⟩:=hs.d
  exact h1.one
 have f02:=f1.trans f2 (fun _ _ h=>h)
 obtain⟨v3,U3,g3,o3,f3⟩:=hO U2 nv tv dv f2.tidy (hs.fr f02 ht)
 have f03:=f02.trans f3 (fun _ _ h=>h)
 obtain⟨U4,e4,f4,a4,n4⟩:=JI f3.tidy (UZ m nv tv dv .nils)
 have f04:=f03.trans f4 (fun _ _ h=>h)
 have c2:=f2.at_ a1 f1.tidy (fun h=>h)
 have c3:=f3.at_ c2 f2.tidy (fun h=>h)
 have c4:=f4.at_ c3 f3.tidy (fun h=>h)
 have r4:=f4.at_ (f3.at_ a2 f2.tidy (fun h=>h)) f3.tidy (fun h=>h)
 obtain⟨e',u,U5,g5,t1,t2,t8,t9,a5,d5,m5,l5,f5⟩:=dM (E:=E) (D:=D) (p2 := .ptr U1.next 0) (p8 := .ptr U3.next 0) f4.tidy c4 (hs.n.fr f04 ht (fun _ _ h=>h)) (by omega)
 have le1:=f1.le
 have le2:=f2.le
 have le3:=f3.le
 have le4:=f4.le
 have x4:=a4.lt f4.tidy
 have r2:=a2.lt f2.tidy
 have f05:=f04.trans f5 (fun _ _ h=>h)
 have mk:Mk U U5 U3.next m nv tv dv [] .nils (fun b=>b=U4.next+6\/AJ .nils b\/(b=U1.next\/b<U.next)):=⟨f5.at_ a4 f4.tidy (fun h=>h),⟨[],DM.nil _ _,rfl,fun k t w h=>by simp at h⟩,fun b hb=>hb.elim,fun q=>by
  rcases q with q|q|q
  ·omega
  ·exact q.elim
  ·omega,by omega,f05⟩
 obtain⟨rv',lv',U',g',tbs,f'⟩:=xS (E:=E) (N:=N) (k:=N) (cb:=U.next) (rb:=U1.next) hm hT ht hs f5.tidy (f5.at_ c4 f4.tidy (fun h=>h)) (f5.at_ r4 f4.tidy (fun h=>h)) d5 (by omega) (by omega) (by omega) (by omega) (by omega) (fun b hb=>by have:=m5 b hb;omega) (by omega) (by omega) (by omega) (by omega) m.ks 0 (by simp) (by rw[hm.as_many];omega) (by rw[hm.as_many];omega) rfl mk a5 (DM.nil _ _) (fun b hb=>hb.elim) (fun b hb=>hb.elim) (Fr.refl f5.tidy) hp
 refine⟨u,rv',lv',U',?_,tbs,f05.trans f' (fun b hb e=>by omega)⟩
 unfold IQ at e1 a1 g3 c2 c3
 unfold UZ at e4
 have sub:∀J:List V->AF,EI [.str (BB m.nm),.int .i64 (AA m.tg),nv,tv,dv] 0 5 J=J [.str (BB m.nm),.int .i64 (AA m.tg),nv,tv,dv]:=fun J=>by
  rw[D6 (by simp)];rfl
 have gd:∀J:B6->H->AF,Cc (AT E D Rb Nj [(1,.ptr U.next 0),(2,.ptr U1.next 0),(8,.ptr U3.next 0)] U4) J=J e' U5:=fun J=>by rw[g5];rfl
 have m1':∀J:V->AF,BL e' 1 J=J (.ptr U.next 0):=fun J=>BH t1 rfl
 have m2':∀J:V->AF,BL e' 2 J=J (.ptr U1.next 0):=fun J=>BH t2 rfl
 have m8':∀J:V->AF,BL e' 8 J=J (.ptr U3.next 0):=fun J=>BH t8 rfl
 have m9':∀J:V->AF,BL e' 9 J=J (.ptr (U4.next+6) 0):=fun J=>BH t9 rfl
 have o1:=hs.n.one
 have o2:=hs.t.one
 show Zb E D (AT E D) (V2 E D (AT E D) N N) (BB m.nm) (AA m.tg) nv tv dv U=_
 have key:∀K2,Zb E D (AT E D) K2 (BB m.nm) (AA m.tg) nv tv dv U=K2 U.next 0 U1.next 0 U3.next 0 (U4.next+6) 0 (AA 0) U5:=by
  intro K2
  unfold Zb
  simp -implicitDefEqProofs only [↓rP,rA,AB,AE,AD,o1,o2,od,↓e1,↓e2,↓BX c2,↓sub,↓g3,↓Ae,o3,↓BX c3,↓e4,↓gd,↓m1',↓m2',↓m8',↓m9']
 rw[key];exact g'
end
end
end Go.Proofs.YtgblfbajgpboiaaGreatDoor
namespace Go.Og
noncomputable section
section
variable {Q:DS->Prop} {E:EB} {D:Ai} {U Uc U':H} {n i:Nat} {S:Nat->Prop} {d:Option Nat} {o:Eb} {l:List BO} {anc:Nat} {lk:List Nat} {pl:List DP} {e env:B6} {nx am:Nat} {ss:List (EB)} {ks:List Nat} {ls:List (Nat × Eb × B6 × V)} {g:Option (Nat × Bool)}
theorem Ws (v:V) (hg:Bq (restr lk e) g=some true) (hc:o.cls = .p) (hv:BV o (restr lk e)=some v) (k:Ew Q E D U n (i+1) l pl ⟨Cu e d v,nx,ss,ks,am,ls⟩):Ew Q E D U n i (⟨d,o,g⟩::l) (⟨anc,lk⟩::pl) ⟨e,nx,ss,ks,am,ls⟩:=by
 obtain⟨s',h1,h2⟩:=k
 have h:FO E D U.next n i ⟨d,o,g⟩ ⟨anc,lk⟩ ⟨e,nx,ss,ks,am,ls⟩=some ⟨Cu e d v,nx,ss,ks,am,ls⟩:=by
  unfold FO;simp only[hg,hc,hv]
 refine⟨s',?_,h2⟩
 show (match FO E D U.next n i ⟨d,o,g⟩ ⟨anc,lk⟩ ⟨e,nx,ss,ks,am,ls⟩with | none=>none | some s'=>CX E D U.next n (i+1) l pl s')=_
 rw[h];exact h1
theorem xj (v:V) (hr:Ev E U n S nx ss am ls Uc) (hg:Bq (restr lk e) g=some true) (hc:o.cls = .l) (hv:P4 E U n S o (restr lk e) v) (k:Ev E U n S nx ss am ((i,o,restr lk e,v)::ls) Uc->Ew Q E D U n (i+1) l pl ⟨Cu e d v,nx,ss,ks,am,(i,o,restr lk e,v)::ls⟩) :
  Ew Q E D U n i (⟨d,o,g⟩::l) (⟨anc,lk⟩::pl) ⟨e,nx,ss,ks,am,ls⟩:=by
 obtain⟨⟨hn,r,rfl⟩,h2,h3,h4,h5,h6⟩:=hr
 obtain⟨s',k1,k2⟩:=k ⟨⟨hn,r,rfl⟩,h2,h3,h4,h5,fun x hx=>by
  rcases Ax.1 hx with rfl|hx
  ·exact hv
  ·exact h6 x hx⟩
 have h:FO E D U.next n i ⟨d,o,g⟩ ⟨anc,lk⟩ ⟨e,nx,Uc.bl::r,ks,am,ls⟩=some ⟨Cu e d v,nx,Uc.bl::r,ks,am,(i,o,restr lk e,v)::ls⟩:=by
  unfold FO;simp only[hg,hc,hv.2 nx Uc.bl _ (h4 _ Ab)]
 refine⟨s',?_,k2⟩
 show (match FO E D U.next n i ⟨d,o,g⟩ ⟨anc,lk⟩ ⟨e,nx,Uc.bl::r,ks,am,ls⟩with | none=>none | some s'=>CX E D U.next n (i+1) l pl s')=_
 rw[h];exact k1
theorem Yw {pl0:List DP} (hr:Ev E U n S nx ss am ls Uc):Ew (JQ E U n pl0 e Uc) E D U n i [] pl ⟨e,nx,ss,ks,am,ls⟩:=by
 obtain⟨⟨hn,r,rfl⟩,h2,h3,h4,h5,h6⟩:=hr
 refine⟨_,Hi,rfl,hn,⟨r,rfl⟩,?_,fun j hj hb=>h5 _ Ab j hj hb⟩
 exact Dk.2 fun x hx=>Ih (h6 x hx) _ _ _ h4
end
end
end Go.Og
namespace Go.Proofs.YtgblfbajgpboiaaGreatDoor
open Go Go.Og
noncomputable section
def J8 (T:Cg->Ja) (N:Nat) (F:List V->H->AF):Prop:=∀(U:H) (s:BS) (ts:List CK) (m:Cg) (rs:List Nat) (tl:List Dr),Ar U->s.len<=3000->JZ N s.len s.nats ts->qb (IS 2) ts=some m->Ki m->Mo (T m) m.ks [] []=some (rs,tl) ->
 ∃u rv lv U',F [.str s] U=some (.tup [.agg (Lu m.nm u rv lv),.bool (decide (tl.length<=120))],U')/\QN U.next U' m.az rs tl u rv lv/\Fr AL U U'
section
variable {E:EB} {D:Ai} {N:Nat}
theorem cm {U:H} {rb tb:Nat} {nm:List Nat} {u rv lv:V} {az:List (List Nat)} {rs:List Nat} {tl:List Dr} (ht:Ar U) (hr:CQ U rb [.str (BS.mk 0 0),.nils,.nils,.nils]) (ha:CQ U tb (Lu nm u rv lv)) {n0:Nat} (hs:QN n0 U az rs tl u rv lv) (hne:tb≠rb) (bu:V.beq u u=true) (br:V.beq rv rv=true) (bl:V.beq lv lv=true) :
    ∃e' U',AT E D ej ei [(2,.ptr rb 0),(7,.ptr tb 0),(9,.int .i64 (AA 0))] U=some (e',U')/\Go.Og.look e' 2=some (.ptr rb 0)/\Go.Og.look e' 3=some (.bool (decide (tl.length<=120)))/\CQ U' rb (Lu nm u rv lv)/\Fr (fun k=>k=rb) U U':=by
  obtain⟨ws,h1,h2,h3⟩:=hs.t
  have fw:Fr AL U ⟨U.next+11,U.bl⟩:=(CO (E:=E) (n:=11) (S:=AL) ht).fr
  have lr:=hr.lt ht
  have ho:An (Lu nm u rv lv)=true:=by
    unfold Lu
    simp only[BC,BP,Dg,hs.n.one,hs.r.one,h1.one,A8]
  have st:∃U4,Dx E D (.store 4 (.tmp 2) (.tmp 29)) [(2,.ptr rb 0),(29,.agg (Lu nm u rv lv))] ⟨U.next+11,U.bl⟩=some (.dead,U4)/\Fr (fun k=>k=rb) ⟨U.next+11,U.bl⟩ U4/\CQ U4 rb (Lu nm u rv lv):=by
    obtain⟨U4,q1,q2,q3⟩:=Jl (E:=E) (D:=D) (n:=4) (x := .tmp 2) (y := .tmp 29) (e:=[(2,.ptr rb 0),(29,.agg (Lu nm u rv lv))]) fw.tidy (fw.at_ hr ht (fun h=>h)) rfl (show (CP [(2,.ptr rb 0),(29,.agg (Lu nm u rv lv))] (.tmp 29)).cells=Lu nm u rv lv from rfl) (by
      rw[ho];rfl)
    exact⟨U4,q1,q2,q3⟩
  obtain⟨U4,g4,f4,a4⟩:=st
  have ha':=ha
  unfold Lu at ha'
  have bagg:V.beq (.agg (Lu nm u rv lv)) (.agg (Lu nm u rv lv))=true:=by
    show (V.beq (.str (BB nm)) (.str (BB nm))&&(V.beq u u&&(V.beq rv rv&&(V.beq lv lv&&true))))=true
    rw[bu,br,bl]
    show (decide _&&_)=true
    rw[decide_eq_true rfl];rfl
  have hlen:BV (.len false (.tmp 34)) [(34,lv),(32,.bool true)]=some (.int .i64 (AA tl.length)):=by
    rcases h1 with ⟨h0,e,_⟩|⟨b,o,c,L,e,_⟩
    · rw[h0,e];rfl
    · rw[e];rfl
  have hle:BV (.bin .leq .none (.tmp 35) (.con (.int .i64 (AA 120)))) [(35,.int .i64 (AA tl.length)),(32,.bool true)]=some (.bool (decide (tl.length<=120))):=by
    show some (V.bool (decide (AA tl.length<=AA 120)))=_
    rw[show decide (AA tl.length<=AA 120)=decide (tl.length<=120)from decide_eq_decide.2 Int.ofNat_le]
  have go:Ew (JQ E U 11 ei _ U4) E D U 11 0 ej ei ⟨[(2,.ptr rb 0),(7,.ptr tb 0),(9,.int .i64 (AA 0))],U.next+11,[U.bl],[],0,[]⟩:=
    G8 (.agg (Lu nm u rv lv)) (CO (S:=fun k=>k=rb) ht) rfl (KM (b:=tb) (off:=0) rfl ha rfl rfl ht hne bagg) fun r1=>
    B5 (.int .i64 (AA 0)) rfl rfl <|
    B5 (.bool true) rfl rfl <|
    B5 (.bool true) rfl rfl <|
    Ws (.ptr tb 3) rfl rfl rfl <|
    xj lv r1 rfl rfl (DC (b:=tb) (off:=3) rfl ha' rfl ht hne bl) fun r2=>
    Ws (.int .i64 (AA tl.length)) rfl rfl hlen <|
    Ws (.bool (decide (tl.length<=120))) rfl rfl hle <|
    B5 (.bool (decide (tl.length<=120))) rfl rfl <|
    MC .dead r2 rfl (by decide) (S':=fun k=>k=rb) f4 (fun _ _ h=>h) (fun b h h1 _=>by omega) g4 fun _ _ r3=>
    B5 (.bool (decide (tl.length<=120))) rfl rfl <|
    Yw r3
  have d:=Gt (ops:=ej) go
  exact⟨_,U4,d,rfl,rfl,a4,(fw.mono (fun _ _ h=>h.elim):Fr (fun k=>k=rb) U _).trans f4 (fun _ _ h=>h)⟩
theorem Ly {U:H} {esz n:Nat} {v:V} {m:List V} (h:DL U esz n v m):V.beq v v=true:=by
 rcases h with ⟨_,rfl,_⟩|⟨b,o,c,L,rfl,_⟩<;>exact B0 _ rfl
theorem QN.fr {n0:Nat} {U U':H} {S:Nat->Prop} {az:List (List Nat)} {rs:List Nat} {tl:List Dr} {u rv lv:V} (h:QN n0 U az rs tl u rv lv) (f:Fr S U U') (ht:Ar U) (hS:∀b,n0<=b->b<U.next->¬S b):QN n0 U' az rs tl u rv lv:=by
 obtain⟨ws,h1,h2,h3⟩:=h.t
 refine⟨h.n.fr f ht (fun b hb=>hS b (h.f b (.inl hb)) (h.n.lt ht hb)),h.r.fr f ht (fun b hb=>hS b (h.f b (.inr (.inl hb))) (h.r.lt ht hb)),⟨ws,h1.fr f ht (fun b hb=>hS b (h.f b (.inr (.inr hb))) (h1.lt ht hb)),h2,fun k t w hk hw=>?_⟩,h.f,h.z⟩
 obtain⟨a,b,c,d⟩:=h3 k t w hk hw
 exact⟨a.fr f ht (fun x hx=>hS x (d x (.inl hx)) (a.lt ht hx)),b.fr f ht (fun x hx=>hS x (d x (.inr (.inl hx))) (b.lt ht hx)),c.fr f ht (fun x hx=>hS x (d x (.inr (.inr hx))) (c.lt ht hx)),d⟩
theorem QN.low {n0 n1:Nat} {U:H} {az:List (List Nat)} {rs:List Nat} {tl:List Dr} {u rv lv:V} (h:QN n0 U az rs tl u rv lv) (hn:n1<=n0):QN n1 U az rs tl u rv lv:=by
 obtain⟨ws,h1,h2,h3⟩:=h.t
 exact⟨h.n,h.r,⟨ws,h1,h2,fun k t w hk hw=>⟨(h3 k t w hk hw).1,(h3 k t w hk hw).2.1,(h3 k t w hk hw).2.2.1,fun b hb=>Bc hn ((h3 k t w hk hw).2.2.2 b hb)⟩⟩,fun b hb=>Bc hn (h.f b hb),h.z⟩
theorem gD {T:Cg->Ja} (hP:TB N (IS 2) (D 13)) (hM:∀m,Ki m->Xa m (T m) (D 14)):J8 T N (F7 E D (AT E D) N):=by
 intro U s ts m rs tl ht hs hts hm hok hr
 obtain⟨U1,e1,f1,a1,n1⟩:=JI ht [.str (BS.mk 0 0),.nils,.nils,.nils]
 obtain⟨nv,tv,dv,U2,g2,s2,f2⟩:=hP U1 s ts m f1.tidy (by omega) hts hm
 obtain⟨u,rv,lv,U3,g3,s3,f3⟩:=hM m hok U2 nv tv dv rs tl f2.tidy s2 hr
 obtain⟨U4,e4,f4,a4,n4⟩:=JI f3.tidy [.str (BS.mk 0 0),.nils,.nils,.nils]
 obtain⟨U5,e5,f5,a5⟩:=Yk f4.tidy a4 (Lu m.nm u rv lv)
 have l3:=s3.t
 obtain⟨ws,h1,h2,h3⟩:=l3
 have ho:An (Lu m.nm u rv lv)=true:=by
  unfold Lu
  simp only[BC,BP,Dg,s3.n.one,s3.r.one,h1.one,A8]
 have g5:∀J:H->AF,DX 4 U3.next 0 (.agg (Lu m.nm u rv lv)) U4 J=J U5:=fun J=>by
  rw[ER a4 (by
   rw[Cl,ho]
   rfl),Cl]
  show J (GP U4 U3.next (.cells (Lu m.nm u rv lv)))=_
  rw[e5]
 have le1:=f1.le
 have le2:=f2.le
 have le3:=f3.le
 have le4:=f4.le
 have lr:=a1.lt f1.tidy
 have f25:Fr (fun b=>U3.next<=b) U3 U5:=(f4.mono (fun _ _ h=>h.elim):Fr (fun b=>U3.next<=b) U3 U4).trans f5 (fun b _ e=>by omega)
 have s5:=s3.fr f25 f3.tidy (fun b _ h1 h2=>by omega)
 have r5:=f25.at_ (f3.at_ (f2.at_ a1 f1.tidy (fun h=>h)) f2.tidy (fun h=>h)) f3.tidy (by omega)
 obtain⟨e',U6,g6,t2,t3,a6,f6⟩:=cm (E:=E) (D:=D) f5.tidy r5 a5 s5 (by omega) (Ly s5.n) (Ly s5.r) (Ly h1)
 refine⟨u,rv,lv,U6,?_,(s5.fr f6 f5.tidy (fun b h1 _ e=>by omega)).low (by omega),((((f1.trans f2 (fun _ _ h=>h)).trans f3 (fun _ _ h=>h)).trans f25 (fun b hb e=>by omega))).trans f6 (fun b hb e=>by omega)⟩
 have d1:decide (3000<s.len)=false:=decide_eq_false (by omega)
 have gd:∀J:B6->H->AF,Cc (AT E D ej ei [(2,.ptr U.next 0),(7,.ptr U3.next 0),(9,.int .i64 (AA 0))] U5) J=J e' U6:=fun J=>by rw[g6];rfl
 have m2':∀J:V->AF,BL e' 2 J=J (.ptr U.next 0):=fun J=>BH t2 rfl
 have m3':∀J:V->AF,BL e' 3 J=J (.bool (decide (tl.length<=120))):=fun J=>BH t3 rfl
 have o1:=s2.n.one
 have o2:=s2.t.one
 have o3:dv.one=true:=by
  obtain⟨ws,h1,_⟩:=s2.d
  exact h1.one
 unfold IQ at g2 g3
 unfold Lu at g3 g5 a6 ⊢
 have sub:∀J:List V->AF,EI [.str (BB m.nm),u,rv,lv] 0 4 J=J [.str (BB m.nm),u,rv,lv]:=fun J=>by
  rw[D6 (by simp)];rfl
 show yT E D (AT E D) s U=_
 unfold yT
 simp -implicitDefEqProofs only [↓rP,rA,AB,AE,AD,↓e1,d1,↓g2,o1,o2,o3,BC,BP,Dg,Ed,↓g3,↓e4,↓g5,↓gd,↓m2',↓m3',↓BX a6]
end
def T8 (n:Nat):Bool->List (Nat × Nat)->List (Nat × Nat)
 | true,l=>(2,n)::l.drop 1
 | false,l=>(2,n)::l
def imN (im:Bool):Nat:=match im with | true=>1 | false=>0
def XQ (F:List V->H->AF):Prop:=∀{U:H} {tv:V} {l:List (Nat × Nat)} {n:Nat} (im:Bool),Ar U->QM U l tv->l.length=1->n<=268435456 ->
 ∃v U',F [tv,.int .i64 (AA n),.int .i64 (AA (imN im))] U=some (.tup [v,.int .i64 (AA 0)],U')/\QM U' (T8 n im l) v/\(∀b,AJ v b->U.next<=b)/\Fr AL U U'
section
variable {E:EB} {D:Ai} {W:AH} {N:Nat}
theorem w3 (b:Nat):Cs 2 (.sl b 0 1 (.ex 1)) (some (.int .i64 (AA 1))) none none=some (.sl b 0 0 (.ex 0)):=rfl
theorem wg:XQ (F83 E D W N):=by
 intro U tv l n im ht htg h1 hn
 obtain⟨tb,rfl⟩:=htg.e h1
 obtain⟨t0,rfl⟩:∃t,l=[t]:=List.length_eq_one_iff.1 h1
 obtain⟨U1,e1,f1,a1,n1⟩:=JI ht [.int .i64 (AA 2),.int .i64 (AA n)]
 have d1:decide (n<0)=false:=decide_eq_false (by omega)
 have d2:decide (268435456<n)=false:=decide_eq_false (by omega)
 have x1:DM U1 2 1 (.sl U.next 0 1 (.ex 1)) [.int .i64 (AA 2),.int .i64 (AA n)] := .inr ⟨_,rfl,a1,rfl⟩
 have ltb:tb<U.next:=htg.lt ht rfl
 show ∃v U',RA E D W (.sl tb 0 1 (.ex 1)) (AA n) (AA (imN im)) U=_/\_
 cases im with
 | true=>
  have sl:∀J:V->AF,gK (Cs 2 (.sl tb 0 1 (.ex 1)) (some (.int .i64 (AA 1))) none none) J=J (.sl tb 0 0 (.ex 0)):=fun J=>by rw[w3];rfl
  obtain⟨z,az⟩:∃z,CQ U1 tb z:=by
   rcases htg.s with ⟨h,_⟩|⟨b,o,c,L,e,ha,_⟩
   ·simp at h
   ·cases e;exact⟨L,f1.at_ ha ht (fun h=>h)⟩
  have x0:DL U1 2 0 (.sl tb 0 0 (.ex 0)) [] := .inr ⟨tb,0,.ex 0,z,rfl,az,by omega,by simp⟩
  have ap:∀J:V->H->AF,DV E 2 16 (.sl U.next 0 1 (.ex 1)) (.sl tb 0 0 (.ex 0)) U1 J=J (.sl U.next 0 1 (.ex 1)) U1:=fun J=>VP x1 x0
  refine⟨.sl U.next 0 1 (.ex 1),U1,?_,⟨.inr ⟨_,0,_,_,rfl,a1,AK _,rfl⟩,fun _=>⟨_,rfl⟩⟩,fun b hb=>by cases hb;exact AK _,f1⟩
  show RA E D W (.sl tb 0 1 (.ex 1)) (AA n) (AA 1) U=_
  unfold RA
  simp -implicitDefEqProofs only [↓rP,rA,AB,AE,AD,d1,d2,↓e1,↓sl,↓ap]
 | false=>
  have x0:DL U1 2 1 (.sl tb 0 1 (.ex 1)) (T2 [t0]):=htg.s.fr f1 ht (fun _ _ h=>h)
  obtain⟨u,U2,g2,d2',m2,f2⟩:=Du (E:=E) (bytes:=16) x1 f1.tidy x0 rfl (by decide)
  have nm:∀b,AJ u b->U.next<=b:=fun b hb=>(m2 b hb).elim (fun e=>by cases e;exact AK _) (fun e=>by omega)
  refine⟨u,U2,?_,⟨d2'.src,fun h=>by simp[T8]at h⟩,nm,?_⟩
  ·have uo:=d2'.one
   show RA E D W (.sl tb 0 1 (.ex 1)) (AA n) (AA 0) U=_
   unfold RA
   simp -implicitDefEqProofs only [↓rP,rA,AB,AE,AD,d1,d2,↓e1,↓g2,↓Bl uo]
  ·exact f1.trans f2 (fun b hb e=>by cases e;omega)
theorem UA (v:V) (l:List (Nat × Nat)):∀(tl:List Dr) (ws:List (V × V × V)) (i:Nat) (t:Dr) (u:V × V × V),ws.length=tl.length->tl[i]? = some t->ws[i]? = some u->FC (Dd tl ws) (i*13+1) [v]=Dd (tl.set i { t with tags:=l }) (ws.set i (v,u.2))
 | x::tl,y::ws,0,t,u,_,h,h'=>by
  simp at h;subst h
  simp at h';subst h'
  show FC (x.c y++Dd tl ws) 1 _=({ x with tags:=l }:Dr).c (v,y.2)++Dd tl ws
  generalize Dd tl ws=z
  cases z<;>rfl
 | x::tl,y::ws,i+1,t,u,h,hi,hu=>by
  have ih:=UA v l tl ws i t u (by simpa using h) (by simpa using hi) (by simpa using hu)
  show FC (x.c y++Dd tl ws) ((i+1)*13+1) _=x.c y++Dd (tl.set i { t with tags:=l }) (ws.set i (v,u.2))
  rw[<-ih,show (i+1)*13+1=(x.c y).length+(i*13+1)by show _=13+_;omega,IU]
 | [],_,_,_,_,_,h,_=>by simp at h
 | _::_,[],_,_,_,h,_,_=>by simp at h
theorem Qb:∀(tl:List Dr) (ws:List (V × V × V)) (i:Nat) (t:Dr) (u:V × V × V),tl[i]? = some t->ws[i]? = some u->(Dd tl ws)[i*13+1]? = some u.1
 | x::tl,y::ws,0,t,u,h,h'=>by
  simp at h';subst h'
  rfl
 | x::tl,y::ws,i+1,t,u,hi,hu=>by
  have ih:=Qb tl ws i t u (by simpa using hi) (by simpa using hu)
  show (x.c y++Dd tl ws)[(i+1)*13+1]? = _
  rw[BR (by show 13<=_;omega),show (i+1)*13+1-(x.c y).length=i*13+1 by show (i+1)*13+1-13=_;omega]
  exact ih
 | [],_,_,_,_,h,_=>by simp at h
 | _::_,[],_,_,_,_,h=>by simp at h
section
variable {U0 U U':H} {xb:Nat} {m:Cg} {nv tv dv lv:V} {tl:List Dr} {Q:Nat->Prop}
theorem Mk.rdT (h:Mk U0 U xb m nv tv dv tl lv Q) {i:Nat} {t:Dr} (hi:tl[i]? = some t):∃u:V,QM U t.tags u/\∃b,(∀J:Nat->Nat->AF,AW 13 lv (AA i) J=J b (i*13))/\∀(E:EB) (J:V->AF),EG E U b (AP (i*13) 1) J=J u:=by
 obtain⟨ws,h1,h2,h3⟩:=h.w
 have hlt:i<tl.length:=(AY.1 hi).1
 obtain⟨w,hw⟩:∃w,ws[i]? = some w:=⟨ws[i],AM (by omega)⟩
 obtain⟨b,cp,hv,hb⟩:∃b cp,lv = .sl b 0 tl.length cp/\CQ U b (Dd tl ws):=by
  rcases h1 with (⟨h0,_⟩|⟨b,hv,ha,_⟩)|⟨b,hv,ha,_⟩
  ·omega
  ·exact⟨b,_,hv,ha⟩
  ·exact⟨b,_,hv,ha⟩
 refine⟨w.1,(h3 i t w hi hw).1,b,fun J=>?_,fun E J=>I4 hb (Qb tl ws i t w hi hw)⟩
 rw[hv,Cb hlt]
 show J b (0+i*13)=_
 rw[BA]
theorem Mk.tag (h:Mk U0 U xb m nv tv dv tl lv Q) {i:Nat} {t:Dr} {v:V} {l:List (Nat × Nat)} (hi:tl[i]? = some t) (hv:QM U l v) (hn:∀b,AJ v b->b≠xb/\¬AJ lv b/\¬Q b) :
  ∃b U',(∀J:Nat->Nat->AF,AW 13 lv (AA i) J=J b (i*13))/\(∀J:H->AF,DX 1 b (AP (i*13) 1) v U J=J U')/\Mk U0 U' xb m nv tv dv (tl.set i { t with tags:=l }) lv Q/\Fr (AJ lv) U U':=by
 obtain⟨ws,h1,h2,h3⟩:=h.w
 have hlt:i<tl.length:=(AY.1 hi).1
 obtain⟨w0,hw0⟩:∃w,ws[i]? = some w:=⟨ws[i],AM (by omega)⟩
 have hlen:=Ha tl ws h2
 obtain⟨b,cp,he,hb⟩:∃b cp,lv = .sl b 0 tl.length cp/\CQ U b (Dd tl ws):=by
  rcases h1 with (⟨h0,_⟩|⟨b,hv,ha,_⟩)|⟨b,hv,ha,_⟩
  ·omega
  ·exact⟨b,_,hv,ha⟩
  ·exact⟨b,_,hv,ha⟩
 obtain⟨U',g,f,a⟩:=Wd (off:=i*13+1) (y:=v) h.ht hb hv.one (by omega)
 rw[UA v l tl ws i t w0 h2 hi hw0]at a
 have nmb:∀x,AJ lv x↔x=b:=fun x=>by rw[he];exact Iff.rfl
 have f':Fr (AJ lv) U U':=f.mono fun x _ e=>(nmb x).2 e
 refine⟨b,U',fun J=>?_,g,⟨f'.at_ h.a h.ht (fun e=>(h.lx _ e).1 rfl),⟨ws.set i (v,w0.2),?_,by rw[A9,A9,h2],fun k t1 w hk hw=>?_⟩,h.lx,h.qx,h.x0,h.f.trans f' (fun x _ e=>by have:=(h.lx x e).2.1;omega)⟩,f'⟩
 ·rw[he,Cb hlt]
  show J b (0+i*13)=_
  rw[BA]
 ·rw[A9]
  have e13:(Dd (tl.set i { t with tags:=l }) (ws.set i (v,w0.2))).length=tl.length*13:=by rw[Ha _ _ (by rw[A9,A9,h2]),A9]
  rcases h1 with (⟨h0,_⟩|⟨b',hv',ha,h0,hl⟩)|⟨b',hv',ha,hl⟩
  ·omega
  ·have:b'=b:=by rw[he]at hv';cases hv';rfl
   subst this
   exact .inl (.inr ⟨b',hv',a,h0,e13⟩)
  ·have:b'=b:=by rw[he]at hv';cases hv';rfl
   subst this
   exact .inr ⟨b',hv',a,e13⟩
 ·by_cases hk':i=k
  ·subst hk'
   rw[DD hlt]at hk
   rw[DD (by omega)]at hw
   cases hk
   cases hw
   obtain⟨x1,x2,x3,x4⟩:=h3 i t w0 hi hw0
   refine⟨hv.fr f' h.ht (fun x hx e=>(hn x hx).2.1 e),x2.fr f' h.ht (fun x hx e=>(x4 x (.inr (.inl hx))).2.1 e),x3.fr f' h.ht (fun x hx e=>(x4 x (.inr (.inr hx))).2.1 e),fun x hx=>?_⟩
   rcases hx with hx|hx
   ·exact hn x hx
   ·exact x4 x (.inr hx)
  ·rw[Lm hk']at hk hw
   obtain⟨x1,x2,x3,x4⟩:=h3 k t1 w hk hw
   exact⟨x1.fr f' h.ht (fun x hx e=>(x4 x (.inl hx)).2.1 e),x2.fr f' h.ht (fun x hx e=>(x4 x (.inr (.inl hx))).2.1 e),x3.fr f' h.ht (fun x hx e=>(x4 x (.inr (.inr hx))).2.1 e),x4⟩
end
def TG (m:Cg) (F:List V->H->AF):Prop:=∀{U0 U:H} {xb:Nat} {nv tv dv lv:V} {tl:List Dr} {Q:Nat->Prop} {i:Nat} {t:Dr},Mk U0 U xb m nv tv dv tl lv Q->tl[i]? = some t->t.tags.length=1->F [.ptr xb 0,.int .i64 (AA i)] U=some (.int .i64 (AA 1),U)
def TF (m:Cg) (F:List V->H->AF):Prop:=∀{U0 U:H} {xb:Nat} {nv tv dv lv:V} {tl:List Dr} {Q:Nat->Prop} {i n:Nat} {t:Dr} (im:Bool),Mk U0 U xb m nv tv dv tl lv Q->(∀b,Q b->b<U.next)->tl[i]? = some t->t.tags.length=1->n<=268435456 ->
 ∃U',F [.ptr xb 0,.int .i64 (AA i),.int .i64 (AA n),.int .i64 (AA (imN im))] U=some (.tup [],U')/\Mk U0 U' xb m nv tv dv (tl.set i { t with tags:=T8 n im t.tags }) lv Q/\Fr (AJ lv) U U'
theorem qY (m:Cg):TG m (F48 E D W N):=by
 intro U0 U xb nv tv dv lv tl Q i t h hi h1
 obtain⟨u,hu,b,g1,g2⟩:=h.rdT hi
 have hx:=h.a
 unfold UZ at hx
 have sl:∀J:Nat->AF,A0 u J=J 1:=fun J=>by rw[hu.s.slen,h1]
 have g2:=g2 E
 show kU E D W xb 0 (AA i) U=_
 unfold kU
 simp -implicitDefEqProofs only [↓rP,rA,AB,AE,AD,↓AZ hx,↓g1,↓g2,↓sl]
theorem qW (m:Cg) (hW:XQ (D 83)):TF m (F49 E D W N):=by
 intro U0 U xb nv tv dv lv tl Q i n t im h hQ hi h1 hn
 obtain⟨u,hu,b,g1,g2⟩:=h.rdT hi
 have g2:=g2 E
 obtain⟨v,U1,g3,hv,nv1,f1⟩:=hW im h.ht hu h1 hn
 have h':=h.fr f1 (fun _ e=>e.elim) (fun _ e=>e.elim)
 have lx:=h.a.lt h.ht
 obtain⟨b',U2,g4,g5,h2,f2⟩:=h'.tag hi hv (fun b hb=>by
  have:=nv1 b hb
  exact⟨by omega,fun e=>by have:=h.llt e;omega,fun q=>by have:=hQ b q;omega⟩)
 refine⟨U2,?_,h2,(f1.mono (fun _ _ e=>e.elim):Fr (AJ lv) U U1).trans f2 (fun _ _ e=>e)⟩
 have hx:=h.a
 have hx1:=h'.a
 unfold UZ at hx hx1
 have vo:=hv.one
 have eb:b'=b:=by
  have:=(g4 fun b _=>some (V.ptr b 0,U)).symm.trans (g1 _)
  simpa using this
 subst eb
 have g5':∀J:H->AF,DX 1 b' (i*13+1) v U1 J=J U2:=g5
 show kT E D W xb 0 (AA i) (AA n) (AA (imN im)) U=_
 unfold kT
 simp -implicitDefEqProofs only [↓rP,rA,AB,AE,AD,↓AZ hx,↓g1,↓g2,↓g3,↓AZ hx1,↓g4,↓g5,↓g5']
end
theorem eO {a b:BS} (hb:b.canon):(a.cat b).canon:=by
 show a.low ||| b.val <<< (8*a.len)<2 ^ (8*(a.len+b.len))
 have h0:a.low<2 ^ (8*a.len):=QI _ (Nat.pow_pos (by decide))
 have h1:a.low<2 ^ (8*(a.len+b.len)):=E3 h0 (fM (by decide) (by omega))
 have h2:b.val <<< (8*a.len)<2 ^ (8*(a.len+b.len)):=by
  rw[Nat.shiftLeft_eq,Nat.mul_add,Nat.add_comm,Nat.pow_add]
  exact Nat.mul_lt_mul_of_pos_right hb (Nat.pow_pos (by decide))
 exact Nat.or_lt_two_pow h1 h2
theorem SV {a b:List Nat} (ha:∀c∈a,c<256) (hb:∀c∈b,c<256):(BB a).cat (BB b)=BB (a++b):=by
 have hab:∀c∈a++b,c<256:=fun c hc=>by
  rcases EA.1 hc with h|h
  ·exact ha c h
  ·exact hb c h
 exact BS.canon_ext (eO (KN hb)) (KN hab) (by rw[BS.nats_cat,Gl ha,Gl hb,Gl hab])
theorem E1 {a b:List Nat} (ha:∀c∈a,c<256) (hb:∀c∈b,c<256) (hl:a.length+b.length<=1000000) (J:BS->AF):GC (BB a) (BB b) J=J (BB (a++b)):=by
 unfold GC
 rw[show Ag (AP (BB a).len (BB b).len) 1000000000000=true from II (by rw[FT,FT];show a.length+b.length<=_;omega),SV ha hb]
def Cj:Nat->Nat->List Nat
 | 0,v=>[48+v]
 | k+1,v=>match B2 v 10 with
  | true=>[48+v]
  | false=>Cj k (v / 10)++[48+v % 10]
def ABR (l:List Nat):Prop:=∀c∈l,48<=c/\c<=57
theorem ABR.bd {l:List Nat} (h:ABR l):∀c∈l,c<256:=fun c hc=>by have:=h c hc;omega
theorem T9:∀(l m:List Nat) (a:Nat),En a (l++m)=En (En a l) m
 | [],_,_=>rfl
 | c::l,m,a=>T9 l m (10*a+(c-48))
theorem dq (l:List Nat) (c:Nat):En 0 (l++[c])=10*En 0 l+(c-48):=by
 rw[T9];rfl
theorem J2:∀(k v:Nat),v<10 ^ (k+1)->ABR (Cj k v)/\En 0 (Cj k v)=v/\0<(Cj k v).length/\(Cj k v).length<=k+1/\(v<10->(Cj k v).length=1)/\(0<v->(Cj k v).getD 0 0≠48)
 | 0,v,h=>by
  have h:v<10:=by simpa using h
  refine⟨?_,?_,by simp[Cj],by simp[Cj],fun _=>rfl,fun hv=>by simp[Cj];omega⟩
  ·intro c hc
   simp[Cj]at hc;omega
  ·show 10*0+(48+v-48)=v
   omega
 | k+1,v,h=>by
  by_cases hv:v<10
  ·have e:Cj (k+1) v=[48+v]:=by
    show (match B2 v 10 with | true=>_ | false=>_)=_
    rw[show B2 v 10=true by simpa[Bu]using hv]
   rw[e]
   refine⟨?_,?_,by simp,by simp,fun _=>rfl,fun h=>by simp;omega⟩
   ·intro c hc
    simp at hc;omega
   ·show 10*0+(48+v-48)=v
    omega
  ·have e:Cj (k+1) v=Cj k (v / 10)++[48+v % 10]:=by
    show (match B2 v 10 with | true=>_ | false=>_)=_
    rw[show B2 v 10=false by rw[Dw];simpa[Bu]using hv]
   have hk:v / 10<10 ^ (k+1):=by
    rw[KG (by decide)]
    rw[Nat.pow_succ]at h;exact h
   obtain⟨h1,h2,h3,h4,h5,h6⟩:=J2 k (v / 10) hk
   rw[e]
   refine⟨?_,?_,by simp,by simp;omega,fun h=>absurd h hv,fun _=>?_⟩
   ·intro c hc
    rcases EA.1 hc with hc|hc
    ·exact h1 c hc
    ·simp at hc;omega
   ·rw[dq,h2];omega
   ·have h7:=h6 (by omega)
    cases hd:Cj k (v / 10)with
    | nil=>rw[hd]at h3;simp at h3
    | cons c l=>rw[hd]at h7;exact h7
def Gx (k:Nat) (F:List V->H->AF):Prop:=∀(U:H) (v:Nat),Ar U->v<10 ^ (k+1)->v<=18446744073709551615 ->
 ∃U',F [.int .u64 (AA v)] U=some (.str (BB (Cj k v)),U')/\Fr AL U U'
theorem Q5 {m:Nat} (h:m<256):BS.ofList [UInt8.ofNat (AA m).toNat]=BB [m]:=
 (Wk (l:=[m]) (fun c hc=>by simp at hc;omega)).symm
theorem MJ {k:Nat} (E:EB) (D:Ai) (W:AH) (N:Nat) (U:H) (v:Nat) (ht:Ar U) (hv:v<10):∃U',F6 E D W N [.int .u64 (AA v)] U=some (.str (BB (Cj k v)),U')/\Fr AL U U':=by
 refine⟨Br U (.cells [.int .u8 (AA (48+v))]),?_,Fr.new ht _⟩
 have e:Cj k v=[48+v]:=by
  cases k with
  | zero=>rfl
  | succ k=>
   show (match B2 v 10 with | true=>_ | false=>_)=_
   rw[show B2 v 10=true by simpa[Bu]using hv]
 have h1:BE .u8 (Ba .u64 (AA 48) (AA v))=AA (48+v):=by
  have:Ba .u64 (AA 48) (AA v)=AA (48+v):=BZ (k := .u64) (m:=48+v) (show _<=18446744073709551615 by omega)
  rw[this]
  exact BZ (k := .u8) (show _<=255 by omega)
 show j8 E D W (AA v) U=_
 simp only[j8,C5,h1]
 rw[decide_eq_true hv,Cy]
 have ha:CQ (Br U (.cells [.int .u8 (AA (48+v))])) U.next [.int .u8 (AA (48+v))]:=Gz _
 rw[cj,YR ha (by simp)]
 show some (V.str (BS.ofList [UInt8.ofNat (AA (48+v)).toNat]),_)=_
 rw[Q5 (by omega),e]
theorem dw (E:EB) (D:Ai) (W:AH) (N:Nat):Gx 0 (F6 E D W N):=fun U v ht hv _=>MJ E D W N U v ht (by simpa using hv)
theorem jN {E:EB} {D:Ai} {N k:Nat} (h:Gx k (D 6)) (hk:k<=30):Gx (k+1) (F6 E D (AT E D) N):=by
 intro U v ht hv hv2
 by_cases hs:v<10
 ·exact MJ E D _ N U v ht hs
 have hk1:v / 10<10 ^ (k+1):=by
  rw[KG (by decide)]
  rw[Nat.pow_succ]at hv;exact hv
 obtain⟨U1,g1,g2⟩:=h ⟨U.next+11,U.bl⟩ (v / 10) (ht.wide 11) hk1 (by omega)
 have hgap:=g2.gap ht (fun b hb=>hb.elim)
 obtain⟨d1,d2,d3,d4,_⟩:=J2 k (v / 10) hk1
 have hle:U.next+11<=U1.next:=g2.le
 let c:GM := .cells [.int .u8 (AA (48+v % 10))]
 have e:Cj (k+1) v=Cj k (v / 10)++[48+v % 10]:=by
  show (match B2 v 10 with | true=>_ | false=>_)=_
  rw[show B2 v 10=false by rw[Dw];simpa[Bu]using hs]
 have hquo:G5 .quo .none (.int .u64 (AA v)) (.int .u64 (AA 10))=some (.int .u64 (AA (v / 10))):=by
  show some (V.int .u64 (IntKind.wrap .u64 (AA (v / 10))))=_
  rw[<-DO,BZ (k := .u64) (show v / 10<=18446744073709551615 by omega)]
 have hrem:G5 .rem .none (.int .u64 (AA v)) (.int .u64 (AA 10))=some (.int .u64 (AA (v % 10))):=rfl
 have hadd:G5 .add .none (.int .u64 (AA 48)) (.int .u64 (AA (v % 10)))=some (.int .u64 (AA (48+v % 10))):=by
  show some (V.int .u64 (IntKind.wrap .u64 (AA (48+v % 10))))=_
  rw[<-DO,BZ (k := .u64) (show 48+v % 10<=18446744073709551615 by omega)]
 have hconv:BV (.conv (.toInt .u8) (.tmp 15)) [(15,.int .u64 (AA (48+v % 10)))]=some (.int .u8 (AA (48+v % 10))):=by
  show some (V.int .u8 (IntKind.wrap .u8 (AA (48+v % 10))))=_
  rw[<-DO,BZ (k := .u8) (show 48+v % 10<=255 by omega)]
 have hcall:Dx E D (.call 6 [.tmp 11]) [(11,.int .u64 (AA (v / 10)))] ⟨U.next+11,U.bl⟩=some (.str (BB (Cj k (v / 10))),U1):=g1
 have hstr:∀(l:EB) (nx:Nat),Cf E (.conv .toStr (.tmp 17)) [(17,.sl (U.next+7) 0 1 (.ex 1))] ⟨nx,CS U.next 11 (DQ 248 128) ((U.next+7,c)::l)⟩=some (.str (BB [48+v % 10])):=fun l nx=>by
  have hl:Go.Og.look (CS U.next 11 (DQ 248 128) ((U.next+7,c)::l)) (U.next+7)=some c:=by
   rw[Ov (by decide),Sa]
  show (match (Lq E ⟨nx,CS U.next 11 (DQ 248 128) ((U.next+7,c)::l)⟩ (U.next+7) 0 (1*1)).map (fun l=>(1,l))with
   | some (_,l)=>(match FV l with | some s=>some (V.str (BS.ofList s)) | none=>none)
   | none=>none)=_
  unfold Lq rd
  simp only[hl]
  show some (V.str (BS.ofList [UInt8.ofNat (AA (48+v % 10)).toNat]))=_
  rw[Q5 (by omega)]
 have hcat:G5 .add .none (.str (BB (Cj k (v / 10)))) (.str (BB [48+v % 10]))=some (.str (BB (Cj (k+1) v))):=by
  show (match Ag (AP (BB (Cj k (v / 10))).len (BB [48+v % 10]).len) 1000000000000 with | true=>some (V.str ((BB (Cj k (v / 10))).cat (BB [48+v % 10]))) | false=>none)=_
  rw[show Ag (AP (BB (Cj k (v / 10))).len (BB [48+v % 10]).len) 1000000000000=true from II (by rw[FT,FT];show (Cj k (v / 10)).length+1<=_;omega)]
  simp only[]
  rw[SV d1.bd (fun c hc=>by simp at hc;omega),e]
 have h0:=ht.gap 11
 have hdr:AT E D ABJ ny [(0,.int .u64 (AA v))] U=some ((2,.str (BB (Cj (k+1) v)))::[(19,.str (BB (Cj (k+1) v))),(18,.str (BB [48+v % 10])),(17,.sl (U.next+7) 0 1 (.ex 1)),(16,.int .u8 (AA (48+v % 10))),(15,.int .u64 (AA (48+v % 10))),(14,.int .u64 (AA (v % 10))),(13,.int .u64 (AA v)),(12,.str (BB (Cj k (v / 10)))),(11,.int .u64 (AA (v / 10))),(10,.int .u64 (AA v)),(0,.int .u64 (AA v))],
   ⟨U1.next,CS U.next 11 (fun k=>(128:Nat).testBit k) ((U.next+7,c)::U1.bl)⟩):=by
  refine PD (s:=⟨_,U1.next,[(U.next+7,c)::U1.bl,(U.next+7,c)::U.bl],[2],128,[(8,.conv .toStr (.tmp 17),[(17,.sl (U.next+7) 0 1 (.ex 1))],.str (BB [48+v % 10]))]⟩) ?_ ?_ rfl
  ·refine(Fz rfl rfl rfl).trans ?_
   refine(Fz (v := .int .u64 (AA (v / 10))) rfl rfl ?_).trans ?_
   ·exact hquo
   refine(VD (U':=U1) (v := .str (BB (Cj k (v / 10)))) rfl rfl rfl ?_).trans ?_
   ·show Dx E D (.call 6 [.tmp 11]) [(11,.int .u64 (AA (v / 10)))] ⟨U.next+11,CS U.next 11 (DQ 3 0) U.bl⟩=_
    rw[Uu h0];exact hcall
   show CX E D U.next 11 3 _ _ ⟨_,U1.next,[Ei U.next 11 (DQ 3 0) U.bl++U1.bl,U.bl],[2],0,[]⟩=_
   rw[Uo h0]
   refine(Fz rfl rfl rfl).trans ?_
   refine(Fz (v := .int .u64 (AA (v % 10))) rfl rfl ?_).trans ?_
   ·exact hrem
   refine(Fz (v := .int .u64 (AA (48+v % 10))) rfl rfl ?_).trans ?_
   ·exact hadd
   refine(Fz (v := .int .u8 (AA (48+v % 10))) rfl rfl ?_).trans ?_
   ·exact hconv
   refine(Qz (v := .sl (U.next+7) 0 1 (.ex 1)) (b:=c) (id:=U.next+7) (am':=128) rfl rfl rfl (show (0:Nat) ||| 2 ^ 7=128 from by decide) rfl).trans ?_
   show CX E D U.next 11 8 _ _ ⟨_,U1.next,[(U.next+7,c)::U1.bl,(U.next+7,c)::U.bl],[2],128,[]⟩=_
   refine(VC (v := .str (BB [48+v % 10])) rfl rfl rfl ?_).trans ?_
   ·exact hstr U1.bl U1.next
   refine(Fz (v := .str (BB (Cj (k+1) v))) rfl rfl ?_).trans ?_
   ·exact hcat
   refine(Fz rfl rfl rfl).trans ?_
   exact Hi
  ·simp only[Jf,List.all_nil,A8]
   have hs1:=hstr U1.bl 0
   have hs0:=hstr U.bl 0
   show (((!FA ny 8 [2] []) || (match Cf E (.conv .toStr (.tmp 17)) [(17,.sl (U.next+7) 0 1 (.ex 1))] ⟨0,CS U.next 11 (DQ 248 128) ((U.next+7,c)::U1.bl)⟩with | some u=>V.beq u (.str (BB [48+v % 10])) | none=>false)) &&
    (((!FA ny 8 [] [2]) || (match Cf E (.conv .toStr (.tmp 17)) [(17,.sl (U.next+7) 0 1 (.ex 1))] ⟨0,CS U.next 11 (DQ 248 128) ((U.next+7,c)::U.bl)⟩with | some u=>V.beq u (.str (BB [48+v % 10])) | none=>false))&&true))=true
   rw[hs1,hs0]
   have hb:V.beq (.str (BB [48+v % 10])) (.str (BB [48+v % 10]))=true:=by
    show decide _=true
    exact decide_eq_true rfl
   simp only[hb,tO,A8]
 refine⟨⟨U1.next,CS U.next 11 (fun k=>(128:Nat).testBit k) ((U.next+7,c)::U1.bl)⟩,?_,?_⟩
 ·show j8 E D (AT E D) (AA v) U=_
  simp only[j8,C5]
  rw[decide_eq_false hs,Bz,hdr]
  rfl
 ·refine⟨fun b hb=>?_,show U.next<=U1.next by omega,fun b hb hn=>?_⟩
  ·have hb':U1.next<=b:=hb
   show BU (CS _ _ _ _) b=none
   rw[A5,QT (by omega),E8 (by omega),<-A5]
   exact g2.tidy b hb'
  ·show BU (CS _ _ _ _) b=_
   rw[A5,IF hb,E8 (by omega),<-A5]
   exact g2.same b (show b<U.next+11 by omega) hn
def ADo (v:Int):List Nat:=match v with
 | .ofNat m=>Cj 19 m
 | .negSucc m=>45::Cj 19 (m+1)
def AL9 (v:Int):Prop:=-9223372036854775808<=v/\v<=9223372036854775807
theorem MK (c:Nat):Gv c=true↔48<=c/\c<=57:=by
 unfold Gv
 rw[AG,decide_eq_true_eq,decide_eq_true_eq]
theorem Mz:∀(k v p:Nat),v<10 ^ (p+1)->v<10 ^ (k+1)->(Cj k v).length<=p+1
 | 0,v,p,h,_=>by show 1<=p+1;omega
 | k+1,v,p,h,hk=>by
  by_cases hv:v<10
  ·rw[(J2 (k+1) v hk).2.2.2.2.1 hv];omega
  ·have e:Cj (k+1) v=Cj k (v / 10)++[48+v % 10]:=by
    show (match B2 v 10 with | true=>_ | false=>_)=_
    rw[show B2 v 10=false by rw[Dw];simpa[Bu]using hv]
   obtain⟨p,rfl⟩:∃j,p=j+1:=⟨p-1,by
    rcases p with _|p
    ·simp at h;omega
    ·rfl⟩
   have:=Mz k (v / 10) p (by rw[KG (by decide)];rw[Nat.pow_succ]at h;exact h) (by rw[KG (by decide)];rw[Nat.pow_succ]at hk;exact hk)
   rw[e,AS,AN,BQ];omega
theorem qQ {v:Int} (h:AL9 v) {r:List Nat} (hd:Gv (r.headD 0)=false) (hl:LP (r.headD 0)=false):∃m ds,ADo v=GB m ds/\IB m ds r/\L5 (ADo v)=v:=by
 obtain⟨h1,h2⟩:=h
 cases v with
 | ofNat m=>
  simp only[Db]at h1 h2
  obtain⟨d1,d2,d3,d4,d5,d6⟩:=J2 19 m (by show m<100000000000000000000;omega)
  have hn:=Mz 19 m 18 (by show m<10000000000000000000;omega) (by show m<100000000000000000000;omega)
  refine⟨false,Cj 19 m,rfl,⟨fun d h=>(MK d).2 (d1 d h),d3,hn,?_,(fun e=>by cases e),hd,hl,by omega,fun _=>by omega⟩,?_⟩
  ·rcases QJ m with h0|h0
   ·exact .inl (d5 (by omega))
   ·have:=d6 h0
    cases hds:Cj 19 m with
    | nil=>rw[hds]at d3;simp at d3
    | cons c l=>rw[hds]at this;exact .inr this
  ·show L5 (Cj 19 m)=_
   cases hds:Cj 19 m with
   | nil=>rw[hds]at d3;simp at d3
   | cons c l=>
    have hc:=d1 c (by rw[hds];simp)
    rw[hds]at d2
    show (match decide (c=45)with
     | true=>-AA (En 0 l)
     | false=>AA (En 0 (c::l)))=_
    rw[decide_eq_false (by omega),d2]
 | negSucc m=>
  obtain⟨d1,d2,d3,d4,d5,d6⟩:=J2 19 (m+1) (by show m+1<100000000000000000000;omega)
  have hn:=Mz 19 (m+1) 18 (by show m+1<10000000000000000000;omega) (by show m+1<100000000000000000000;omega)
  have h7:(Cj 19 (m+1)).headD 0≠48:=by
   have:=d6 (by omega)
   cases hds:Cj 19 (m+1)with
   | nil=>simp
   | cons c l=>rw[hds]at this;exact this
  refine⟨true,Cj 19 (m+1),rfl,⟨fun d h=>(MK d).2 (d1 d h),d3,hn,.inr h7,fun _=>h7,hd,hl,by omega,fun e=>by cases e⟩,?_⟩
  show -AA (En 0 (Cj 19 (m+1)))=_
  rw[d2];rfl
theorem CF {t:BS} {l:List BS} {c:Nat} {r:List Nat} (h:t.nats.head?≠some c) (h0:t.nats≠[]):Hx (t::l) (c::r)=Hx l (c::r):=by
 rw[IZ]
 have:decide ((c::r).take t.len=t.nats)=false:=decide_eq_false fun e=>by
  cases hl:t.len with
  | zero=>rw[hl]at e;exact h0 e.symm
  | succ n=>rw[hl]at e;rw[<-e]at h;exact h rfl
 rw[this,ABf]
theorem Mn {t:BS} {l:List BS} {r s:List Nat} (hn:r=t.nats++s):Hx (t::l) r=t.len:=by
 rw[IZ]
 have hl:=BS.length_nats t
 rw[decide_eq_true (by rw[hn,AS];omega),decide_eq_true (by rw[hn,<-hl,List.take_left])]
 rfl
theorem gP (r:List Nat):Hx DI (58::58::61::r)=3:=Mn (t:=BS.mk 3 4012602) (s:=r) (by rw[show (BS.mk 3 4012602).nats=[58,58,61] from by decide +kernel];rfl)
theorem OU {N c:Nat} {r:List Nat} (h1:Ur c=false) (h2:ML c r=false):T1 (N+1) (c::r)=c::r:=by
 unfold T1
 rw[h1,h2]
theorem FX {N c:Nat} {r:List Nat} (h1:Ur c=false) (h2:ML c r=false):T1 (N+2) (32::c::r)=c::r:=
 (rfl:T1 (N+2) (32::c::r)=T1 (N+1) (c::r)).trans (OU h1 h2)
theorem Iu {c n:Nat} {r w r':List Nat} (h:Hx DI (c::r)=n) (h0:0<n) (hw:(c::r).take n=w) (hr:(c::r).drop n=r') (h1:LP c=false) (h2:Gv c=false) (h3:c≠45) (h4:c≠39) (h5:c≠34):Tk (c::r) 6 w r':=by
 subst h;subst hw;subst hr
 exact .sign h1 h2 (fun e=>absurd e h3) h4 h5 h0
theorem Fq {c n k:Nat} {r w r':List Nat} (h:NN (c::r)=n) (hw:(c::r).take n=w) (hr:(c::r).drop n=r') (h1:LP c=true) (h2:Qn w=false) (hk:k=(if wj (BB w)=true then 5 else if c<=90 then 1 else 2)):Tk (c::r) k w r':=by
 subst h;subst hw;subst hr
 exact .name h1 h2 hk
theorem dJ {m:Bool} {ds r:List Nat} (h:IB m ds r):∃c l,GB m ds=c::l/\Ur c=false/\c≠46/\(∀t,ML c (l++t)=false):=by
 have h1:=h.n1
 cases hd:ds with
 | nil=>rw[hd]at h1;simp at h1
 | cons d l=>
  have hdg:=(MK d).1 (h.dig d (by rw[hd];simp))
  cases m with
  | false=>
   refine⟨d,l,rfl,?_,by omega,fun t=>?_⟩
   ·unfold Ur
    rw[decide_eq_false (by omega),decide_eq_false (by omega),decide_eq_false (by omega),decide_eq_false (by omega)];rfl
   ·unfold ML
    rw[decide_eq_false (by omega)];rfl
  | true=>
   refine⟨45,d::l,rfl,rfl,by decide,fun t=>?_⟩
   show (true&&decide (d=45))=false
   rw[decide_eq_false (by omega)];rfl
def Qq (m:Cg) (nd:Am):Bool:=decide (nd.mMode=2) || (decide (nd.mMode=0) && !decide (m.tg=0))
section
variable {E:EB} {D:Ai} {N:Nat}
end
theorem iG {N len:Nat} {m:Bool} {ds r:List Nat} {ts:List CK} (hn:IB m ds r) (h:JZ (N+10) len r ts):JZ (N+10) len (GB m ds++r) ((3,GB m ds,len-(GB m ds++r).length)::ts):=by
 obtain⟨c,l,e,a,_,b⟩:=dJ hn
 exact .one (r1:=GB m ds++r) (by rw[e];exact OU a (b _)) (.num hn) h
theorem qg {m:Bool} {ds r:List Nat} (hn:IB m ds r):∃c u,GB m ds++r=c::u/\c≠91:=by
 have h1:=hn.n1
 cases hd:ds with
 | nil=>rw[hd]at h1;simp at h1
 | cons d l=>
  have hdg:=(MK d).1 (hn.dig d (by rw[hd];simp))
  cases m with
  | false=>exact⟨d,l++r,rfl,by omega⟩
  | true=>exact⟨45,d::l++r,rfl,by omega⟩
theorem UH {t:BS} {l:List BS} {a b c:Nat} {r:List Nat} (h:t.nats=[a,b]) (hl:t.len=2) (hc:c≠b):Hx (t::l) (a::c::r)=Hx l (a::c::r):=by
 rw[IZ]
 have:decide ((a::c::r).take t.len=t.nats)=false:=decide_eq_false fun e=>by
  rw[hl,h]at e
  simp at e
  exact hc e
 rw[this,ABf]
theorem AC4 (c:Nat) (r:List Nat) (hc:c≠91):Hx DI (91::c::r)=1:=by
 unfold DI
 rw[CF (by decide +kernel) (by decide +kernel)]
 rw[CF (by decide +kernel) (by decide +kernel)]
 rw[CF (by decide +kernel) (by decide +kernel)]
 rw[UH (by decide +kernel) rfl hc]
 rw[CF (by decide +kernel) (by decide +kernel)]
 rw[CF (by decide +kernel) (by decide +kernel)]
 rw[CF (by decide +kernel) (by decide +kernel)]
 exact Mn (t:=BS.mk 1 91) (s:=c::r) (by rw[show (BS.mk 1 91).nats=[91] from by decide +kernel];rfl)
theorem AC2 (c:Nat) (r:List Nat) (hc:c≠93):Hx DI (93::c::r)=1:=by
 unfold DI
 rw[CF (by decide +kernel) (by decide +kernel)]
 rw[CF (by decide +kernel) (by decide +kernel)]
 rw[CF (by decide +kernel) (by decide +kernel)]
 rw[CF (by decide +kernel) (by decide +kernel)]
 rw[UH (by decide +kernel) rfl hc]
 rw[CF (by decide +kernel) (by decide +kernel)]
 rw[CF (by decide +kernel) (by decide +kernel)]
 rw[CF (by decide +kernel) (by decide +kernel)]
 exact Mn (t:=BS.mk 1 93) (s:=c::r) (by rw[show (BS.mk 1 93).nats=[93] from by decide +kernel];rfl)
def AOr (ex:Bool):List Nat:=match ex with
 | true=>93::32::69::88::80::76::73::67::73::84::32::78::85::76::76::32::69::78::68::[]
 | false=>93::32::73::77::80::76::73::67::73::84::32::78::85::76::76::32::69::78::68::[]
theorem wm {T:Er} {d:Nat} {t:CK} {l0 l l':List CK} {ns:List Am} {m:Bool × Int × Nat} {nd':Am} (h1:eR t=true) (hd:d<=16) (hn:ns.length<300) (hm:Ot (t::l0)=some (m,l)) (hb:JM T d (Hz m) l (ns++[Gm])=some (nd',l',ns++[Gm])):Lt T d (t::l0) ns=some (ns.length,l',ns++[nd']):=by
 unfold Lt
 dsimp only
 rw[h1,decide_eq_true hd,decide_eq_true hn,hm]
 show ((JM T d (Hz m) l (ns++[Gm])).map fun s=>(ns.length,s.2.1,s.2.2.set ns.length s.1))=_
 rw[hb]
 show some (ns.length,l',(ns++[Gm]).set ns.length nd')=_
 rw[KH _ _ (AK _),JG]
 rfl
def xV (w:List Nat):Bool:=Ci (L5 w) (AA 0) || Ci (AA 268435456) (L5 w)
theorem ADv (w:List Nat) (a1 a2:Nat) (l:List CK):EJ (BS.mk 1 91) ((6,[91],a1)::(3,w,a2)::l)=(true,(3,w,a2)::l):=by kernel_rfl
theorem xQ (w:List Nat) (a2 a3:Nat) (l:List CK):qP ((3,w,a2)::(6,[93],a3)::l)=some (L5 w,(6,[93],a3)::l):=by kernel_rfl
theorem ADs (a3:Nat) (t:CK) (l:List CK):D8 (BS.mk 1 93) ((6,[93],a3)::t::l)=some (t::l):=by kernel_rfl
theorem jn {T:Er} {n:Nat} {az:List (List Nat)} {ks:List Nat} {ns ns':List Am} {x:List Nat} {p q i:Nat} {t:CK} {l l':List CK} (ha:az.length<40) (hT:T 0 (t::l) ns=some (i,l',ns')):N1 T (n+1) az ks ns ((1,x,p)::(6,[58,58,61],q)::t::l)=N1 T n (az++[x]) (ks++[i]) ns' l':=by
 have h1:EJ (BS.mk 3 4476485) ((1,x,p)::(6,[58,58,61],q)::t::l)=(false,(1,x,p)::(6,[58,58,61],q)::t::l):=by kernel_rfl
 have h2:JK 1 ((1,x,p)::(6,[58,58,61],q)::t::l)=some (x,(6,[58,58,61],q)::t::l):=by kernel_rfl
 have h3:D8 (BS.mk 3 4012602) ((6,[58,58,61],q)::t::l)=some (t::l):=by kernel_rfl
 have h4:decide (40<=az.length)=false:=decide_eq_false (by omega)
 show (match EJ (BS.mk 3 4476485) ((1,x,p)::(6,[58,58,61],q)::t::l)with
  | (true,l1)=>some (az,ks,ns,l1)
  | (false,l1)=>(JK 1 l1).bind fun a=>match decide (40<=az.length)with
   | true=>none
   | false=>(D8 (BS.mk 3 4012602) a.2).bind fun l2=>(T 0 l2 ns).bind fun t=>N1 T n (az++[a.1]) (ks++[t.1]) t.2.2 t.2.1)=_
 simp only[h1,h2,C0,h4,h3,hT]
theorem ry (T:Er) (n:Nat) (az:List (List Nat)) (ks:List Nat) (ns:List Am) (p q:Nat):N1 T (n+1) az ks ns [(5,[69,78,68],p),(0,[],q)]=some (az,ks,ns,[(0,[],q)]):=by kernel_rfl
def L4 (x:Nat):Nat->List Nat
 | 0=>[]
 | n+1=>(x / 2 ^ (8*n)) % 256::L4 x n
theorem NM (x:Nat):∀n,(L4 x n).length=n
 | 0=>rfl
 | n+1=>by simp[L4,NM x n]
def Wc (v:Int):Nat:=(v % 18446744073709551616).toNat
theorem wq (v:Int):(Wc v:Int)=v % 18446744073709551616:=ot (Int.emod_nonneg _ (by decide))
theorem UD (v:Int):BE .u64 v=AA (Wc v):=by rw[T7];exact(wq v).symm
theorem SW (v:Int):∀n:Nat,n<=8->GI v n=nI (L4 (Wc v) n)
 | 0,_=>rfl
 | n+1,h=>by
  show JC v n::GI v n=AA ((Wc v / 2 ^ (8*n)) % 256)::nI (L4 (Wc v) n)
  rw[SW v n (by omega),<-VO v (show n<8 by omega),UD]
  congr 1
  rw[SL _ (by omega),SD]
  show (AA (Wc v) / 2 ^ (8*n)) % 256=_
  have:((2 ^ (8*n):Nat):Int)=(2:Int) ^ (8*n):=by simp
  rw[<-this];rfl
def G1 (x:Nat):Nat:=if x<2 ^ 8 then 1 else if x<2 ^ 16 then 2 else if x<2 ^ 24 then 3 else if x<2 ^ 32 then 4 else if x<2 ^ 40 then 5 else if x<2 ^ 48 then 6 else if x<2 ^ 56 then 7 else 8
theorem Wo (x:Nat):1<=G1 x/\G1 x<=8:=by
 unfold G1
 repeat' split
 all_goals omega
theorem dP (x:Nat) {n:Nat} (h1:1<=n) (h2:n<G1 x):2 ^ (8*n)<=x:=by
  unfold G1 at h2
  repeat' split at h2
  all_goals first
    | omega
    | (have:n=1\/n=2\/n=3\/n=4\/n=5\/n=6\/n=7:=by omega
       rcases this with rfl|rfl|rfl|rfl|rfl|rfl|rfl<;>omega)
theorem qh (x:Nat) (h:G1 x<8):x<2 ^ (8*G1 x):=by
 unfold G1 at h ⊢
 repeat' split
 all_goals first | assumption | (exfalso;simp_all)
def Vr (F:List V->H->AF) (args:List V) (U:H) (l:List Int):Prop:=∃u U',F args U=some (u,U')/\Nb U U' u l/\Fr AL U U'
def AC8 (v:Int):List Int:=GI v (FM v)
def sC (F:List V->H->AF):Prop:=∀(U:H) (v:Int) (n:Nat),Ar U->n<=8->Vr F [.int .u64 (BE .u64 v),.int .i64 (AA n)] U (GI v n)
def MU (F:List V->H->AF):Prop:=∀{U:H} {v:Int},V7 v->Ar U->Vr F [.int .i64 v] U (nI (L4 (Wc v) (FM v)))
def Lg (F:List V->H->AF):Prop:=∀{U:H} {x:Nat},x<18446744073709551616->Ar U->Vr F [.int .u64 (AA x)] U (nI (L4 x (G1 x)))
section
variable {E:EB} {D:Ai} {W:AH} {N:Nat} {U U':H}
theorem uc (a b:Int):Bt a b=decide (a=b):=by rw[Se];rw[Fg];simp
theorem iE {v:Int} {n:Nat} (hn:n<=8) (hN:8<N) (ht:Ar U) :
  ∃u U',F60 E D W N [.int .u64 (BE .u64 v),.int .i64 (AA n)] U=some (u,U')/\Nb U U' u (GI v n)/\Fr AL U U':=by
 obtain⟨U1,e1,f1,a1,n1⟩:=Ca ht (As n [V.int .u8 (AA 0)]).flatten
 have hz:(As n [V.int .u8 (AA 0)]).flatten=Je (As n (AA 0)):=by
  simp[Je,List.flatten_replicate_singleton]
 have loop:∀(m n' i:Nat) (U1:H),i+m=n->m<n'->Fr AL U U1->U.next<U1.next->CQ U1 U.next (Je ((GI v n).take i++As m (AA 0))) ->
   ∃U',Vw E D W N n' (BE .u64 v) (AA n) (.sl U.next 0 n (.ex n)) (AA n) (AA i) U1=some (.sl U.next 0 n (.ex n),U')/\CQ U' U.next (Je (GI v n))/\Fr AL U U':=by
  intro m
  induction m with
  | zero=>
   intro n' i U1 hi hn' f1 hx ha
   obtain⟨n',rfl⟩:∃k,n'=k+1:=⟨n'-1,by omega⟩
   refine⟨U1,?_,?_,f1⟩
   ·show Vb E D W _ _ (BE .u64 v) (AA n) (.sl U.next 0 n (.ex n)) (AA n) (AA i) U1=_
    unfold Vb
    rw[C5,decide_eq_false (by omega),Bz];rfl
   ·rw[Dj (by rw[Fv];omega)]at ha
    simpa using ha
  | succ m ih=>
   intro n' i U1 hi hn' f1 hx ha
   obtain⟨n',rfl⟩:∃k,n'=k+1:=⟨n'-1,by omega⟩
   have hlt:i<n:=by omega
   obtain⟨U2,e2,f2,a2⟩:=Mr f1.tidy ha (FC (Je ((GI v n).take i++As (m+1) (AA 0))) i [.int .u8 (JC v (n-1-i))])
   have hsp:FC (Je ((GI v n).take i++As (m+1) (AA 0))) i [.int .u8 (JC v (n-1-i))]=Je ((GI v n).take (i+1)++As m (AA 0)):=by
    have hl:((GI v n).take i).length=i:=by rw[BY,Fv];omega
    have:=gL (Je ((GI v n).take i)) (.int .u8 (AA 0)) (Je (As m (AA 0))) (.int .u8 (JC v (n-1-i)))
    rw[It,hl]at this
    rw[YK,NJ,show Je (AA 0::As m (AA 0)) = .int .u8 (AA 0)::Je (As m (AA 0))from rfl,this]
    rw[FW,Ql v hlt]
    simp[Je]
   rw[hsp]at e2 a2
   have f02:=f1.trans f2 (fun b hb h=>by have h:b=U.next:=h;omega)
   obtain⟨U3,g3,h3,f3⟩:=ih n' (i+1) U2 (by omega) (by omega) f02 (by have:=f2.le;omega) a2
   refine⟨U3,?_,h3,f3⟩
   have d1:decide (i<n)=true:=decide_eq_true hlt
   have en:Iy .i64 (AA 8) (Dp .i64 (Dp .i64 (AA n) (AA 1)) (AA i))=AA (8*(n-1-i)):=by
    rw[Fs (by omega) (by omega),Fs (by omega) (by omega)]
    exact BZ (k := .i64) (m:=8*(n-1-i)) (show 8*(n-1-i)<=9223372036854775807 by omega)
   have st:∀J:H->AF,DX 1 U.next i (.int .u8 (JC v (n-1-i))) U1 J=J U2:=fun J=>by
    rw[ER ha (by
     simp only[Fm,AN,BQ,It,AS,BY,Fv,List.length_replicate,AG]
     refine⟨⟨rfl,?_⟩,rfl⟩
     rw[Ac]
     show i+1<=_
     omega)]
    rw[Fm,hsp,e2]
   have ia:∀J:Nat->Nat->AF,AW 1 (.sl U.next 0 n (.ex n)) (AA i) J=J U.next i:=fun J=>by
    rw[Cb hlt]
    show J U.next (0+i*1)=_
    rw[BA,B8]
   have key:∀K1 K2,Vb E D W K1 K2 (BE .u64 v) (AA n) (.sl U.next 0 n (.ex n)) (AA n) (AA i) U1=K2 (BE .u64 v) (AA n) (.sl U.next 0 n (.ex n)) (AA n) (AA (i+1)) U2:=by
    intro K1 K2
    unfold Vb
    rw[C5,d1,Cy,en,Iw,ia,VO v (by omega),st,A3 (by omega)]
   exact(key _ _).trans g3
 rw[hz]at a1
 obtain⟨U',g,a,f⟩:=loop n N 0 U1 (by omega) (by omega) f1 (by omega) (by rw[IM,Ff];exact a1)
 refine⟨_,U',?_,⟨.inr ⟨U.next,by rw[Fv],a,by rw[It];simp⟩,fun b hb=>by cases hb;exact AK _⟩,f⟩
 show kH E D W (Vw E D W N N) (BE .u64 v) (AA n) U=_
 unfold kH
 rw[Iw,Iw,FP (by simp only[AG,Ac];refine⟨⟨AK _,?_⟩,?_⟩<;>omega)]
 show Vw E D W N N _ _ _ _ _ (Br U (.cells _))=_
 rw[e1]
 exact g
theorem gN {v:Int} (hv:V7 v) (hO:∀(U:H) (n:Nat),Ar U->n<=8->Vr (D 60) [.int .u64 (BE .u64 v),.int .i64 (AA n)] U (GI v n)) (hN:8<N) (ht:Ar U):Vr (vY E D W N) [.int .i64 v] U (AC8 v):=by
 have hr:=I2 v
 have loop:∀(m n' n:Nat),n+m=FM v->1<=n->m<n'->Z1 E D W N n' v (AA n) U=vG E D W N v (AA (FM v)) U:=by
  intro m
  induction m with
  | zero=>
   intro n' n hn h1 hn'
   obtain⟨n',rfl⟩:∃k,n'=k+1:=⟨n'-1,by omega⟩
   have hn:n=FM v:=by omega
   subst hn
   have en:Dp .i64 (Iy .i64 (AA 8) (AA (FM v))) (AA 1)=AA (8*FM v-1):=by
    rw[show Iy .i64 (AA 8) (AA (FM v))=AA (8*FM v)from BZ (k := .i64) (m:=8*FM v) (show _<=9223372036854775807 by omega),Fs (by omega) (by omega)]
   have hw:=Uj hv
   unfold Gb at hw
   show Vj E D W _ _ v (AA (FM v)) U=_
   unfold Vj
   rw[en]
   simp -implicitDefEqProofs only [Iw,Gs,YS v (show 8*FM v-1<=64 by omega),C5,uc,show AA 0=(0:Int)from rfl,show Az 0=(-1:Int)from rfl]
   rw[Q2]
   rw[Bk]at hw
   rcases hw with h|h
   ·rw[h];simp
   ·rw[h];simp
  | succ m ih=>
   intro n' n hn h1 hn'
   obtain⟨n',rfl⟩:∃k,n'=k+1:=⟨n'-1,by omega⟩
   have en:Dp .i64 (Iy .i64 (AA 8) (AA n)) (AA 1)=AA (8*n-1):=by
    rw[show Iy .i64 (AA 8) (AA n)=AA (8*n)from BZ (k := .i64) (m:=8*n) (show _<=9223372036854775807 by omega),Fs (by omega) (by omega)]
   have hw:=dQ v h1 (by omega)
   unfold Gb at hw
   rw[Bd]at hw
   have key:∀K1 K2,Vj E D W K1 K2 v (AA n) U=K2 v (AA (n+1)) U:=by
    intro K1 K2
    unfold Vj
    rw[en]
    simp -implicitDefEqProofs only [Iw,Gs,YS v (show 8*n-1<=64 by omega),C5,uc,show AA 0=(0:Int)from rfl,show Az 0=(-1:Int)from rfl,hw.1,hw.2,show decide (n<8)=true from decide_eq_true (by omega),FJ,A8,Cy]
    simp -implicitDefEqProofs only [I5,Cy,show Ba .i64 (AA n) (AA 1)=AA (n+1)from A3 (by omega)]
   refine(key _ _).trans ?_
   exact ih n' (n+1) (by omega) (by omega) (by omega)
 obtain⟨u,U',g,hu,f⟩:=hO U (FM v) ht hr.2
 refine⟨u,U',?_,hu,f⟩
 refine(show vY E D W N [.int .i64 v] U=Z1 E D W N N v (AA 1) U from rfl).trans ?_
 rw[loop (FM v-1) N 1 (by omega) (AK _) (by omega)]
 show ki E D W v (AA (FM v)) U=_
 unfold ki
 simp -implicitDefEqProofs only [↓g,↓E2,↓Bl hu.1.one]
theorem AKK (hN:8<N):sC (F60 E D W N):=fun U v n ht hn=>iE hn hN ht
theorem AC1 (hO:sC (D 60)) (hN:8<N):MU (vY E D W N):=by
 intro U v hv ht
 have:=gN (E:=E) (W:=W) hv (fun U n h1 h2=>hO U v n h1 h2) hN ht
 unfold AC8 at this
 rwa [SW v _ (I2 v).2]at this
theorem ACv (hO:sC (D 60)) (hN:8<N):Lg (X6 E D W N):=by
 intro U x hx ht
 have hr:=Wo x
 have tx:Wc (x:Int)=x:=by
  unfold Wc
  rw[Int.emod_eq_of_lt (by omega) (by omega)];rfl
 have ew:BE .u64 (x:Int)=AA x:=by rw[UD,tx]
 have sh:∀n:Nat,n<=8->Bt (Kc .u64 (AA x) (8*n)) (AA 0)=decide (x / 2 ^ (8*n)=0):=fun n hn=>by
  rw[SL _ (by omega)]
  have:((2 ^ (8*n):Nat):Int)=(2:Int) ^ (8*n):=by simp
  rw[<-this]
  exact KX (x / 2 ^ (8*n)) 0
 have ml:∀n:Nat,n<=8->Iy .i64 (AA 8) (AA n)=AA (8*n):=fun n hn=>BZ (k := .i64) (m:=8*n) (show _<=9223372036854775807 by omega)
 have loop:∀(m n' n:Nat),n+m=G1 x->1<=n->m<n'->TS E D W N n' (AA x) (AA n) U=nr E D W N (AA x) (AA (G1 x)) U:=by
  intro m
  induction m with
  | zero=>
   intro n' n hn h1 hn'
   obtain⟨n',rfl⟩:∃k,n'=k+1:=⟨n'-1,by omega⟩
   have hn:n=G1 x:=by omega
   subst hn
   show M6 E D W _ _ (AA x) (AA (G1 x)) U=_
   have key:∀K1 R2,M6 E D W K1 R2 (AA x) (AA (G1 x)) U=K1 (AA x) (AA (G1 x)) U:=by
    intro K1 R2
    unfold M6
    cases h8:decide (G1 x<8)with
    | true=>
     have h0:decide (x / 2 ^ (8*G1 x)=0)=true:=decide_eq_true (Nat.div_eq_of_lt (qh x (of_decide_eq_true h8)))
     simp -implicitDefEqProofs only [↓rP,rA,AB,AE,AD,h8,ml _ hr.2,↓Iw,sh _ hr.2,h0]
    | false=>simp -implicitDefEqProofs only [↓rP,rA,AB,AE,AD,h8]
   exact key _ _
  | succ m ih=>
   intro n' n hn h1 hn'
   obtain⟨n',rfl⟩:∃k,n'=k+1:=⟨n'-1,by omega⟩
   have h8:decide (n<8)=true:=decide_eq_true (by omega)
   have h0:decide (x / 2 ^ (8*n)=0)=false:=decide_eq_false fun e=>by
    have:=dP x h1 (by omega)
    have:=(Nat.div_eq_zero_iff).1 e
    have hp:0<2 ^ (8*n):=Nat.pow_pos (by decide)
    omega
   have key:∀K1 R2,M6 E D W K1 R2 (AA x) (AA n) U=R2 (AA x) (AA (n+1)) U:=by
    intro K1 R2
    unfold M6
    simp -implicitDefEqProofs only [↓rP,rA,AB,AE,AD,h8,ml n (by omega),↓Iw,sh n (by omega),h0,A3 (show n+1<=9223372036854775807 by omega)]
   refine(key _ _).trans ?_
   exact ih n' (n+1) (by omega) (by omega) (by omega)
 obtain⟨u,U',g,hu,f⟩:=hO U x (G1 x) ht hr.2
 rw[ew]at g
 rw[SW x _ hr.2,tx]at hu
 refine⟨u,U',?_,hu,f⟩
 refine(show X6 E D W N [.int .u64 (AA x)] U=TS E D W N N (AA x) (AA 1) U from rfl).trans ?_
 rw[loop (G1 x-1) N 1 (by omega) (AK _) (by omega)]
 show XN E D W (AA x) (AA (G1 x)) U=_
 unfold XN
 simp -implicitDefEqProofs only [↓rP,rS,↓g,↓Bl hu.1.one]
end
theorem Yl {U:H} (ht:Ar U) (z:List V):∃U1,Br U (.cells z)=U1/\Fr AL U U1/\CQ U1 U.next z/\U1.next=U.next+1:=⟨_,rfl,Fr.new ht _,Gz _,rfl⟩
structure zM (E:EB) (U:H) (esz n:Nat) (x:V) (m:List V):Prop where
 k:∀J:Nat->List V->AF,srcK E U esz x J=J n m
 c:C1 E U esz x=some (n,m)
 l:m.length=n*esz
 o:x.one=true
 s:∀J:Nat->AF,A0 x J=J n
 lt:∀b,AJ x b->b<U.next
theorem zM.of {E:EB} {U:H} {esz n:Nat} {x:V} {m:List V} (h:DL U esz n x m) (ht:Ar U):zM E U esz n x m:=⟨fun J=>h.srcK,h.cells,h.length,h.one,fun J=>h.slen,fun b hb=>h.lt ht hb⟩
section
variable {E:EB} {U U':H} {l m:List V}
theorem eV {esz bytes k:Nat} {v x:V} {J:V->H->AF} (h:DM U esz k v l) (hx:zM E U esz 0 x m):DV E esz bytes v x U J=J v U:=by
 unfold DV
 rw[hx.k]
 rcases h with (⟨rfl,rfl,rfl⟩|⟨b,rfl,ha,_,hl⟩)|⟨b,rfl,ha,hl⟩
 ·show CM (C6 E esz bytes .nils x U) J=_
  unfold C6;rw[hx.c];rfl
 ·rfl
 ·show CM (C6 E esz bytes (.sl b 0 k (.ex k)) x U) J=_
  unfold C6;rw[hx.c]
  simp only[]
  rw[if_pos (show Ag (k+0) k=true from II (AK _))]
  rfl
theorem eU {esz bytes k n:Nat} {v x:V} (h:DM U esz k v l) (ht:Ar U) (hx:zM E U esz n x m) (hn:0<n) (ho:An m=true) (hg:Bw (k+n) bytes=true) :
  ∃U',(∀J:V->H->AF,DV E esz bytes v x U J=J (.sl U.next 0 (k+n) (.op esz)) U')/\CQ U' U.next (l++m)/\U'.next=U.next+1/\Fr (AJ v) U U':=by
 obtain⟨n',rfl⟩:∃q,n=q+1:=⟨n-1,by omega⟩
 rcases h with (⟨rfl,rfl,rfl⟩|⟨b,rfl,ha,hk,hl⟩)|⟨b,rfl,ha,hl⟩
 ·refine⟨Br U (.cells m),fun J=>?_,by rw[Ff];exact Gz m,rfl,Fr.new ht _⟩
  unfold DV
  rw[hx.k]
  show CM (C6 E esz bytes .nils x U) J=_
  unfold C6;rw[hx.c]
  simp only[]
  rw[BA]at hg ⊢
  rw[if_neg (by omega),if_pos hg]
  rfl
 ·refine⟨⟨U.next+1,(U.next,.cells (l++m))::drop U.bl b⟩,fun J=>?_,?_,rfl,?_⟩
  ·unfold DV
   rw[hx.k]
   show (match BU U.bl b with
    | some (.cells l)=>GK (Ak l.length (k*esz)&&Ak esz esz&&Bw (k+(n'+1)) bytes&&An m) (O6 U.bl b fun bl'=>J (.sl U.next 0 (k+(n'+1)) (.op esz)) ⟨U.next+1,(U.next,.cells (l++m))::bl'⟩)
    | _=>none)=_
   rw[show BU U.bl b=some (.cells l)from ha]
   simp only[]
   rw[FP (by rw[hg,ho,hl];simp),Mv]
  ·show BU ((U.next,GM.cells (l++m))::_) _=_
   rw[Au,if_pos rfl]
  ·refine⟨fun k' hk'=>?_,EM _,fun k' hk' hn=>?_⟩
   ·have hk2:U.next+1<=k':=hk'
    show BU ((U.next,_)::drop U.bl b) k'=none
    rw[Au,if_neg (by simp only[];omega),I1]
    split
    ·rfl
    ·exact ht k' (by omega)
   ·show BU ((U.next,_)::drop U.bl b) k'=_
    rw[Au,if_neg (by simp only[];omega),I1,if_neg]
    intro hbk
    exact hn hbk.symm
 ·refine⟨Br U (.cells (l++m)),fun J=>?_,Gz _,rfl,Fr.new ht _⟩
  unfold DV
  rw[hx.k]
  show CM (C6 E esz bytes (.sl b 0 k (.ex k)) x U) J=_
  unfold C6;rw[hx.c]
  simp only[]
  rw[if_neg (show ¬Ag (k+(n'+1)) k=true from fun h=>by rw[Ac]at h;omega),if_pos hg]
  have hr:Lq E U b 0 (k*esz)=some l:=by
   unfold Lq rd
   rw[<-A5,show BU U.bl b=some (.cells l)from ha]
   simp only[]
   rw[show Ag (0+k*esz) l.length=true from II (by omega)]
   rw[FI,<-hl,EN];rfl
  rw[hr]
  rfl
theorem jq {esz bytes k n:Nat} {v x:V} (h:DM U esz k v l) (ht:Ar U) (hx:zM E U esz n x m) (ho:An m=true) (hg:Bw (k+n) bytes=true) :
  ∃u U',(∀J:V->H->AF,DV E esz bytes v x U J=J u U')/\DM U' esz (k+n) u (l++m)/\(∀b,AJ u b->AJ v b\/U.next<=b)/\Fr (AJ v) U U':=by
 cases n with
 | zero=>
  have hm:m=[]:=BW (by rw[hx.l];omega)
  subst hm
  exact⟨v,U,fun J=>eV h hx,by rw[EC];exact h,fun b hb => .inl hb,Fr.refl ht⟩
 | succ n=>
  obtain⟨U',g,a,nx,f⟩:=eU h ht hx (Nat.succ_pos n) ho hg
  refine⟨_,U',g,.inl (.inr ⟨U.next,rfl,a,by omega,?_⟩),fun b hb => .inr (by cases hb;exact AK _),f⟩
  rw[AS,h.length,hx.l,<-fN]
end
def Bx (E:EB) (U:H) (x:V) (l:List Int):Prop:=zM E U 1 l.length x (Je l)
section
variable {E:EB} {D:Ai} {W:AH} {N:Nat} {U U0 U1:H} {x v:V} {l m:List Int}
theorem Bx.of (h:By U x l) (ht:Ar U):Bx E U x l:=zM.of h ht
theorem Bx.fr (h:Bx E U x l) (f:Fr AL U U1):Bx E U1 x l:=by
 have rk:∀b,AJ x b->∀J:List V->AF,gh E U1 b J=gh E U b J:=fun b hb J=>by
  unfold gh
  rw[f.same b (h.lt b hb) (fun h=>h)]
 have rn:∀b o n,AJ x b->Lq E U1 b o n=Lq E U b o n:=fun b o n hb=>by
  unfold Lq rd
  simp only[<-A5]
  rw[f.same b (h.lt b hb) (fun h=>h)]
 refine⟨fun J=>?_,?_,h.l,h.o,h.s,fun b hb=>E3 (h.lt b hb) f.le⟩
 ·rw[<-h.k J]
  cases x with
  | sl b o n c=>exact rk b rfl _
  | _=>rfl
 ·rw[<-h.c]
  cases x with
  | sl b o n c=>
   show (Lq E U1 b o (n*1)).map _=(Lq E U b o (n*1)).map _
   rw[rn b o _ rfl]
  | _=>rfl
theorem W9 (h:Nb U0 U v l) (f0:Fr AL U0 U) (hx:Bx E U x m) (hs:l.length+m.length<=10000000) :
  ∃u U',(∀J:V->H->AF,DV E 1 1 v x U J=J u U')/\Nb U0 U' u (l++m)/\Fr AL U0 U'/\Fr (AJ v) U U':=by
 obtain⟨u,U',g,d,n,f⟩:=jq (bytes:=1) h.1 f0.tidy hx (YJ m) (by
  unfold Bw
  simp only[B8,AG,Ac];omega)
 have hle:=f0.le
 refine⟨u,U',g,⟨by rw[AS,YK];exact d,fun b hb=>?_⟩,f0.trans f (fun b hb hn=>by have:=h.2 b hn;omega),f⟩
 rcases n b hb with h'|h'
 ·exact h.2 b h'
 ·omega
end
def Lj (F:List V->H->AF) (args:List V) (U:H) (l:List Int):Prop:=∃u U',F args U=some (u,U')/\Nb U U' u l/\Fr AL U U'
theorem yR (k:IntKind) {x:Nat} (hb:7<=k.bits) (hx:x<2 ^ k.bits) (hw:∀m:Nat,m<=127->k.wrap m=AA m):JE k (AA x) (AA 127)=AA (x % 128):=by
 have h127:(127:Nat)<2 ^ k.bits:=E3 (show 127<2 ^ 7 by decide) (fM (by decide) hb)
 rw[Y8,BitVec.toNat_and,Qk,Qk,CY hx,CY h127,show (127:Nat)=2 ^ 7-1 from rfl,Nat.and_two_pow_sub_one_eq_mod]
 exact hw _ (by have:=QI x (show 0<2 ^ 7 by decide);omega)
theorem jr {x:Nat} (hx:x<=255):JE .u8 (AA x) (AA 127)=AA (x % 128):=yR .u8 (by decide) (show x<2 ^ 8 by omega) fun m hm=>(DO .u8 _).symm.trans (BZ (k := .u8) (show m<=255 by omega))
theorem ch (x:Nat):BE .u8 (AA x)=AA (x % 256):=by
 rw[SD];rfl
def dY (k:Nat):List Int:=match decide (127<k)with
 | false=>[AA k]
 | true=>[Ny .u8 (AA (k / 128)) (AA 128),AA (k % 128)]
def LQ (n:Nat):List Int:=match decide (255<n)with
 | false=>[AA n]
 | true=>[AA (n / 256),AA (n % 256)]
theorem Uv (k:Nat):(dY k).length<=2:=by unfold dY;split<;>simp
theorem Ul (n:Nat):1<=(LQ n).length/\(LQ n).length<=2:=by unfold LQ;split<;>simp
def Zk (F:List V->H->AF):Prop:=∀{U:H} {k:Nat},Ar U->k<16384->Lj F [.int .u64 (AA k)] U (dY k)
def sE (F:List V->H->AF):Prop:=∀{U:H} {n:Nat},Ar U->n<65536->Lj F [.int .u64 (AA n)] U (LQ n)
section
variable {E:EB} {D:Ai} {W:AH} {N:Nat}
theorem AC0 (k:Nat):Kc .u64 (AA k) 7=AA (k / 128):=pV (k := .u64) (show 7<=64 by decide)
theorem qI {U0 U:H} {x:V} {l:List Int} (f0:Fr AL U0 U) (hx:Nb U0 U x l) (c:Int) (hl:l.length<=1000) :
  ∃U1 u U2,Br U (.cells [.int .u8 c])=U1/\(∀J:V->H->AF,DV E 1 1 (.sl U.next 0 1 (.ex 1)) x U1 J=J u U2)/\Nb U0 U2 u (c::l)/\Fr AL U0 U2:=by
 obtain⟨U1,e1,f1,a1,n1⟩:=Yl f0.tidy (Je [c])
 have f01:=f0.trans f1 (fun _ _ h=>h)
 have x1:=Bx.of (E:=E) (hx.fr f1 f0.tidy).by_ f1.tidy
 obtain⟨u,U2,g,h,f,_⟩:=W9 (E:=E) (Nb.lit (U0:=U0) a1 f0.le) f01 x1 (by simp;omega)
 exact⟨U1,u,U2,e1,g,h,f⟩
theorem xL (hN:3<N):Zk (fH E D W N):=by
 intro U k ht hk
 obtain⟨N,rfl⟩:∃m,N=m+4:=⟨N-4,by omega⟩
 obtain⟨U1,e1,f1,a1,n1⟩:=Yl ht [.int .u8 (AA (k % 128))]
 have b1:Nb U U1 (.sl U.next 0 1 (.ex 1)) [AA (k % 128)]:=Nb.lit (l:=[AA (k % 128)]) a1 (AK _)
 have w1:=ch k
 have an:=jr (x:=k % 256) (by omega)
 rw[show k % 256 % 128=k % 128 by omega]at an
 have key0:∀K,XP E D W K (AA k) U=K (AA (k / 128)) (.sl U.next 0 1 (.ex 1)) U1:=fun K=>by
  unfold XP
  simp -implicitDefEqProofs only [↓rP,rA,AB,AE,AD,w1,an,↓e1,AC0]
 have endd:∀(R:Int->V->H->AF) (u:V) (U':H),Pq E D W (XO E D W) R (AA 0) u U'=some (u,U'):=fun R u U'=>by
  unfold Pq XO
  simp -implicitDefEqProofs only [↓rP,rA,AB,AE,AD,C7]
 cases hd:decide (127<k)with
 | false=>
  have hk':=of_decide_eq_false hd
  refine⟨.sl U.next 0 1 (.ex 1),U1,?_,?_,f1⟩
  ·simp only[show k / 128=0 by omega]at key0
   exact(key0 _).trans (endd _ _ _)
  ·unfold dY;rw[hd]
   rw[CY (by omega)]at b1;exact b1
 | true=>
  have hk':=of_decide_eq_true hd
  obtain⟨U2,u,U3,e2,g2,h2,f2⟩:=qI (E:=E) f1 b1 (Ny .u8 (AA (k / 128)) (AA 128)) (by simp)
  have w2:BE .u8 (AA (k / 128))=AA (k / 128):=BZ (k := .u8) (show k / 128<=255 by omega)
  have d2:decide (0<k / 128)=true:=decide_eq_true (by omega)
  have s2:k / 128 / 128=0:=by omega
  have step:∀K R,Pq E D W K R (AA (k / 128)) (.sl U.next 0 1 (.ex 1)) U1=R (AA 0) u U3:=fun K R=>by
   unfold Pq
   simp -implicitDefEqProofs only [↓rP,rA,AB,AE,AD,d2,AC0,w2,↓e2,↓g2,↓Bl h2.1.one,s2]
  refine⟨u,U3,?_,?_,f2⟩
  ·exact(key0 _).trans ((step _ _).trans (endd _ _ _))
  ·unfold dY;rw[hd];exact h2
end
theorem dI {n:Nat} (h:n<65536):nI (L4 n (G1 n))=LQ n:=by
 unfold LQ
 cases hd:decide (255<n)with
 | false=>
  have:=of_decide_eq_false hd
  have e:G1 n=1:=by unfold G1;rw[if_pos (by omega)]
  rw[e]
  show [AA (n / 2 ^ (8*0) % 256)]=_
  simp only[Nat.mul_zero,Nat.pow_zero,Nat.div_one]
  rw[CY (by omega)]
 | true=>
  have:=of_decide_eq_true hd
  have e:G1 n=2:=by unfold G1;rw[if_neg (by omega),if_pos (by omega)]
  rw[e]
  show [AA (n / 2 ^ (8*1) % 256),AA (n / 2 ^ (8*0) % 256)]=[AA (n / 256),AA (n % 256)]
  simp only[Nat.mul_zero,Nat.pow_zero,Nat.div_one,B8]
  rw[show (2:Nat) ^ 8=256 from rfl,CY (show n / 256<256 by omega)]
theorem xK {F:List V->H->AF} (h:Lg F):sE F:=fun {U n} ht hn=>by
 have:=h (U:=U) (x:=n) (by omega) ht
 rw[dI hn]at this
 exact this
def Fc (pl:Nat->List Int):Nat->Nat->List Int
 | 0,_=>[]
 | m+1,i=>pl i++Fc pl m (i+1)
def HG (E:EB) (F:List V->H->AF):Prop:=∀{U:H} {n:Nat} {v:V} {pv:Nat->V} {pl:Nat->List Int},Ar U->IA U 1 n v (fun k=>[pv k])->(∀k,k<n->Bx E U (pv k) (pl k))->(Fc pl n 0).length<=1000000->n<=10000 ->
 ∃u U',F [v] U=some (u,U')/\Nb U U' u (Fc pl n 0)/\Fr AL U U'
section
variable {E:EB} {D:Ai} {W:AH} {N:Nat} {U U':H}
theorem qj (hN:10000<N):HG E (F58 E D W N):=by
 intro U n v pv pl ht hr hp hs hn
 have loop:∀(m n' i:Nat) (A:List Int) (u:V) (U1:H),i+m=n->m<n'->Fr AL U U1->Nb U U1 u A->A.length+(Fc pl m i).length<=1000000 ->
   ∃u' U',Zx E D W N n' u v (AA n) (AA i) U1=some (u',U')/\Nb U U' u' (A++Fc pl m i)/\Fr AL U U':=by
  intro m
  induction m with
  | zero=>
   intro n' i A u U1 hi hn' f1 hu hl
   obtain⟨n',rfl⟩:∃k,n'=k+1:=⟨n'-1,by omega⟩
   refine⟨u,U1,?_,by rw[show Fc pl 0 i=[] from rfl,EC];exact hu,f1⟩
   show Vd E D W _ _ u v (AA n) (AA i) U1=_
   unfold Vd
   rw[C5,decide_eq_false (by omega),Bz];rfl
  | succ m ih=>
   intro n' i A u U1 hi hn' f1 hu hl
   obtain⟨n',rfl⟩:∃k,n'=k+1:=⟨n'-1,by omega⟩
   have hlt:i<n:=by omega
   simp only[Fc,AS]at hl
   obtain⟨u2,U2,g2,h2,f2,_⟩:=W9 (E:=E) hu f1 ((hp i hlt).fr f1) (by omega)
   obtain⟨u3,U3,g3,h3,f3⟩:=ih n' (i+1) (A++pl i) u2 U2 (by omega) (by omega) f2 h2 (by rw[AS];omega)
   refine⟨u3,U3,?_,by rw[show Fc pl (m+1) i=pl i++Fc pl m (i+1)from rfl,<-DN];exact h3,f3⟩
   have rd:∀J,AW 1 v (AA i) (fun b o=>EG E U1 b o J)=J (pv i):=fun J=>(hr.fr0 f1 ht).one (j:=0) hlt rfl J
   have d1:decide (i<n)=true:=decide_eq_true hlt
   have key:∀K1 K2,Vd E D W K1 K2 u v (AA n) (AA i) U1=K2 u2 v (AA n) (AA (i+1)) U2:=by
    intro K1 K2
    unfold Vd
    simp -implicitDefEqProofs only [↓rP,rA,AB,AE,AD,d1,↓rd,↓g2,↓Bl h2.1.one,A3 (show i+1<=9223372036854775807 by omega)]
   exact(key _ _).trans g3
 obtain⟨u,U',h1,h2,h3⟩:=loop n N 0 [] .nils U (by omega) (by omega) (Fr.refl ht) (Nb.nil U U) (by simpa using hs)
 refine⟨u,U',?_,h2,h3⟩
 show kJ E D W (Zx E D W N N) v U=_
 unfold kJ
 rw[hr.len.2]
 exact h1
end
def Sg (c:Nat) (made:Bool):Nat:=(if c=0 then 0 else 128)+(if made=true then 32 else 0)
def ck (c:Nat) (made:Bool) (k:Nat):List Int:=match decide (k<31)with
 | true=>[Ny .u8 (AA (Sg c made)) (AA k)]
 | false=>Ny .u8 (AA (Sg c made)) (AA 31)::dY k
def lnI (n:Nat):List Int:=match decide (n<128)with
 | true=>[AA n]
 | false=>Ny .u8 (AA 128) (AA (LQ n).length)::LQ n
def WV (c:Nat) (made:Bool) (k:Nat) (l:List Int):List Int:=(ck c made k++lnI l.length)++l
theorem OX (c:Nat) (made:Bool) (k:Nat):(ck c made k).length<=3:=by
 have:=Uv k
 unfold ck;split
 ·simp
 ·rw[AN];omega
theorem Yr (n:Nat):(lnI n).length<=3:=by
 have:=(Ul n).2
 unfold lnI;split
 ·simp
 ·rw[AN];omega
theorem Y1 (c:Nat) (made:Bool) (k:Nat) (l:List Int):(WV c made k l).length<=l.length+6:=by
 have:=OX c made k
 have:=Yr l.length
 unfold WV;rw[AS,AS];omega
theorem mx1 (n:Nat):Nz (AA n) (AA 0)=AA n:=by
 unfold Nz;cases n<;>rfl
def yk (F:List V->H->AF):Prop:=∀{U:H} {c k n:Nat} (made:Bool),Ar U->c=0\/c=2->k<16384->n<65536->Lj F [.agg [.int .i64 (AA c),.int .i64 (AA k)],.bool made,.int .i64 (AA n)] U (ck c made k++lnI n)
section
variable {E:EB} {D:Ai} {W:AH} {N:Nat} {U0 U U':H}
end
theorem gg {U:H} {b:Nat} {v:V} (h:CQ U b [v]):IA U 1 1 (.sl b 0 1 (.ex 1)) (fun _=>[v]):=⟨.inr ⟨b,_,_,rfl,h,fun k hk=>by
 obtain rfl:k=0:=by omega
 exact⟨AK _,rfl⟩⟩⟩
theorem ADC {U:H} {b:Nat} {v w:V} (h:CQ U b [v,w]):IA U 1 2 (.sl b 0 2 (.ex 2)) (fun k=>[if k=0 then v else w]):=⟨.inr ⟨b,_,_,rfl,h,fun k hk=>by
 have:k=0\/k=1:=by omega
 rcases this with rfl|rfl
 ·exact⟨by simp,rfl⟩
 ·exact⟨by simp,rfl⟩⟩⟩
theorem ADB {U:H} {b:Nat} {v w x:V} (h:CQ U b [v,w,x]):IA U 1 3 (.sl b 0 3 (.ex 3)) (fun k=>[if k=0 then v else if k=1 then w else x]):=⟨.inr ⟨b,_,_,rfl,h,fun k hk=>by
 have:k=0\/k=1\/k=2:=by omega
 rcases this with rfl|rfl|rfl
 ·exact⟨by simp,rfl⟩
 ·exact⟨by simp,rfl⟩
 ·exact⟨by simp,rfl⟩⟩⟩
def lM (E:EB) (F:List V->H->AF):Prop:=∀{U:H} {c k n:Nat} {v:V} {pv:Nat->V} {pl:Nat->List Int} (made:Bool),Ar U->c=0\/c=2->k<16384->IA U 1 n v (fun k=>[pv k])->(∀k,k<n->Bx E U (pv k) (pl k))->(Fc pl n 0).length<60000->n<=10000->Lj F [.agg [.int .i64 (AA c),.int .i64 (AA k)],.bool made,v] U (WV c made k (Fc pl n 0))
section
variable {E:EB} {D:Ai} {W:AH} {N:Nat} {U0 U U':H}
theorem tz (hJ:HG E (D 58)) (f0:Fr AL U0 U) {u w:V} {A B:List Int} (hu:Bx E U u A) (hw:Bx E U w B) (hl:A.length+B.length<=100000) :
  ∃U1 x U2,Br U (.cells [u,w])=U1/\D 58 [.sl U.next 0 2 (.ex 2)] U1=some (x,U2)/\Nb U0 U2 x (A++B)/\Fr AL U0 U2:=by
 obtain⟨U1,e1,f1,a1,n1⟩:=Yl f0.tidy [u,w]
 obtain⟨x,U2,g,h,f⟩:=hJ (U:=U1) (n:=2) (pv:=fun q=>if q=0 then u else w) (pl:=fun q=>if q=0 then A else B) f1.tidy (ADC a1) (fun q hq=>by
  have:q=0\/q=1:=by omega
  rcases this with rfl|rfl
  ·exact hu.fr f1
  ·exact hw.fr f1) (by simp[Fc];omega) (by omega)
 have f01:=f0.trans f1 (fun _ _ h=>h)
 refine⟨U1,x,U2,e1,g,?_,f01.trans f (fun _ _ h=>h)⟩
 have e:Fc (fun q=>if q=0 then A else B) 2 0=A++B:=by simp[Fc]
 rw[e]at h
 exact h.mono f01.le
theorem ADy (hJ:HG E (D 58)) (f0:Fr AL U0 U) {u w y:V} {A B C:List Int} (hu:Bx E U u A) (hw:Bx E U w B) (hy:Bx E U y C) (hl:A.length+B.length+C.length<=100000) :
  ∃U1 x U2,Br U (.cells [u,w,y])=U1/\D 58 [.sl U.next 0 3 (.ex 3)] U1=some (x,U2)/\Nb U0 U2 x (A++(B++C))/\Fr AL U0 U2:=by
 obtain⟨U1,e1,f1,a1,n1⟩:=Yl f0.tidy [u,w,y]
 obtain⟨x,U2,g,h,f⟩:=hJ (U:=U1) (n:=3) (pv:=fun q=>if q=0 then u else if q=1 then w else y) (pl:=fun q=>if q=0 then A else if q=1 then B else C) f1.tidy (ADB a1) (fun q hq=>by
  have:q=0\/q=1\/q=2:=by omega
  rcases this with rfl|rfl|rfl
  ·exact hu.fr f1
  ·exact hw.fr f1
  ·exact hy.fr f1) (by simp[Fc];omega) (by omega)
 have f01:=f0.trans f1 (fun _ _ h=>h)
 refine⟨U1,x,U2,e1,g,?_,f01.trans f (fun _ _ h=>h)⟩
 have e:Fc (fun q=>if q=0 then A else if q=1 then B else C) 3 0=A++(B++C):=by simp[Fc]
 rw[e]at h
 exact h.mono f01.le
theorem o_1 (hJ:HG E (D 58)) (hG:Zk (D 116)) {q c k n:Nat} {made:Bool} (f0:Fr AL U0 U) (aq:CQ U q [.int .i64 (AA c),.int .i64 (AA k)]) (hk:k<16384) :
  ∃u U2,(∀K,Q9 E D W K (AA n) q 0 (AA (Sg c made)) U=K (AA n) u U2)/\Nb U0 U2 u (ck c made k)/\Fr AL U0 U2:=by
 have ht:=f0.tidy
 unfold ck
 cases hd:decide (k<31)with
 | true=>
  have:=of_decide_eq_true hd
  obtain⟨U2,e2,f2,a2,n2⟩:=Yl ht (Je [Ny .u8 (AA (Sg c made)) (AA k)])
  have e2':Br U (.cells [V.int .u8 (Ny .u8 (AA (Sg c made)) (AA k))])=U2:=e2
  have w1:BE .u8 (AA k)=AA k:=BZ (k := .u8) (show k<=255 by omega)
  refine⟨.sl U.next 0 1 (.ex 1),U2,fun K=>?_,Nb.lit a2 f0.le,f0.trans f2 (fun _ _ h=>h)⟩
  unfold Q9
  simp -implicitDefEqProofs only [↓rP,rA,AB,AE,AD,↓AZ aq,mx1,hd,w1,↓e2']
 | false=>
  obtain⟨U2,e2,f2,a2,n2⟩:=Yl ht (Je [Ny .u8 (AA (Sg c made)) (AA 31)])
  have e2':Br U (.cells [V.int .u8 (Ny .u8 (AA (Sg c made)) (AA 31))])=U2:=e2
  have w1:BE .u64 (AA k)=AA k:=BZ (k := .u64) (show k<=18446744073709551615 by omega)
  have f02:=f0.trans f2 (fun _ _ h=>h)
  obtain⟨u3,U3,g3,h3,f3⟩:=hG f2.tidy hk
  have f03:=f02.trans f3 (fun _ _ h=>h)
  have b2:Nb U U2 (.sl U.next 0 1 (.ex 1)) [Ny .u8 (AA (Sg c made)) (AA 31)]:=Nb.lit a2 (AK _)
  have:=Uv k
  obtain⟨U4,u5,U5,e4,g5,h5,f5⟩:=tz (D:=D) hJ f03 (Bx.of (b2.fr f3 f2.tidy).by_ f3.tidy) (Bx.of h3.by_ f3.tidy) (by simp;omega)
  refine⟨u5,U5,fun K=>?_,h5,f5⟩
  have o3:=h3.1.one
  unfold Q9
  simp -implicitDefEqProofs only [↓rP,rA,AB,AE,AD,↓AZ aq,mx1,hd,w1,↓e2',↓g3,↓Bl o3,↓ua (show (V.sl U.next 0 1 (.ex 1)).one=true from rfl) o3,o3,↓e4,↓g5,↓Bl h5.1.one]
theorem o_2 (hJ:HG E (D 58)) (hL:sE (D 117)) {n:Nat} {u:V} {A:List Int} (f0:Fr AL U0 U) (hu:Nb U0 U u A) (hA:A.length<=10) (hn:n<65536) :
  ∃u' U2,Q8 E D W (AA n) u U=some (u',U2)/\Nb U0 U2 u' (A++lnI n)/\Fr AL U0 U2:=by
 have ht:=f0.tidy
 unfold lnI
 cases hd:decide (n<128)with
 | true=>
  have:=of_decide_eq_true hd
  obtain⟨U2,e2,f2,a2,n2⟩:=Yl ht (Je [AA n])
  have e2':Br U (.cells [V.int .u8 (AA n)])=U2:=e2
  have w1:BE .u8 (AA n)=AA n:=BZ (k := .u8) (show n<=255 by omega)
  have f02:=f0.trans f2 (fun _ _ h=>h)
  obtain⟨u4,U4,g4,h4,f4,_⟩:=W9 (E:=E) (hu.fr f2 ht) f02 (Bx.of (Nb.lit (U0:=U) (l:=[AA n]) a2 (AK _)).by_ f2.tidy) (by simp;omega)
  refine⟨u4,U4,?_,h4,f4⟩
  have g4:∀J:V->H->AF,DV E 1 1 u (.sl U.next 0 1 (.ex 1)) U2 J=J u4 U4:=g4
  unfold Q8
  simp -implicitDefEqProofs only [↓rP,rA,AB,AE,AD,mx1,hd,w1,↓e2',↓g4,↓Bl h4.1.one]
 | false=>
  have w1:BE .u64 (AA n)=AA n:=BZ (k := .u64) (show n<=18446744073709551615 by omega)
  obtain⟨u3,U3,g3,h3,f3⟩:=hL ht hn
  have f03:=f0.trans f3 (fun _ _ h=>h)
  have ll:=Ul n
  have w2:BE .u8 (AA (LQ n).length)=AA (LQ n).length:=BZ (k := .u8) (show (LQ n).length<=255 by omega)
  obtain⟨U4,e4,f4,a4,n4⟩:=Yl f3.tidy (Je [Ny .u8 (AA 128) (AA (LQ n).length)])
  have e4':Br U3 (.cells [V.int .u8 (Ny .u8 (AA 128) (AA (LQ n).length))])=U4:=e4
  have f04:=f03.trans f4 (fun _ _ h=>h)
  have hu4:=(hu.fr f3 ht).fr f4 f3.tidy
  have b4:Bx E U4 (.sl U3.next 0 1 (.ex 1)) [Ny .u8 (AA 128) (AA (LQ n).length)]:=Bx.of (Nb.lit (U0:=U3) (l:=[Ny .u8 (AA 128) (AA (LQ n).length)]) a4 (AK _)).by_ f4.tidy
  obtain⟨U5,u6,U6,e5,g6,h6,f6⟩:=ADy (D:=D) hJ f04 (Bx.of hu4.by_ f4.tidy) b4 (Bx.of (h3.fr f4 f3.tidy).by_ f4.tidy) (by simp;omega)
  have sl:=h3.by_.slen
  have o3:=h3.1.one
  have ou:=hu.1.one
  refine⟨u6,U6,?_,h6,f6⟩
  unfold Q8
  simp -implicitDefEqProofs only [↓rP,rA,AB,AE,AD,mx1,hd,w1,↓g3,↓Bl o3,↓sl,w2,↓e4',↓AD5 ou (show (V.sl U3.next 0 1 (.ex 1)).one=true from rfl) o3,ou,o3,↓e5,↓g6,↓Bl h6.1.one]
theorem qN (hJ:HG E (D 58)) (hG:Zk (D 116)) (hL:sE (D 117)):yk (F94 E D W N):=by
 intro U c k n made ht hc hk hn
 obtain⟨U1,e1,f1,a1,n1⟩:=Yl ht [.int .i64 (AA c),.int .i64 (AA k)]
 obtain⟨u2,U2,g2,h2,f2⟩:=o_1 (E:=E) (W:=W) (n:=n) (c:=c) (made:=made) hJ hG f1 a1 hk
 have tl:=OX c made k
 obtain⟨u3,U3,g3,h3,f3⟩:=o_2 (E:=E) (W:=W) hJ hL f2 h2 (by omega) hn
 refine⟨u3,U3,?_,h3,f3⟩
 have tail:Q9 E D W (Q8 E D W) (AA n) U.next 0 (AA (Sg c made)) U1=some (u3,U3):=(g2 _).trans g3
 show j0 E D W (Q9 E D W (Q8 E D W)) (AA c) (AA k) made (AA n) U=_
 unfold j0
 simp -implicitDefEqProofs only [↓rP,rS,↓e1,↓AZ a1]
 rcases hc with rfl|rfl<;>cases made
 ·exact tail
 ·exact tail
 ·exact tail
 ·exact tail
theorem ADn (hJ:HG E (D 58)) (hH:yk (D 94)):lM E (F59 E D W N):=by
 intro U c k n v pv pl made ht hc hk hr hp hl hn
 obtain⟨U1,e1,f1,a1,n1⟩:=Yl ht [.int .i64 (AA c),.int .i64 (AA k)]
 obtain⟨u2,U2,g2,h2,f2⟩:=hJ f1.tidy (hr.fr0 f1 ht) (fun k hk=>(hp k hk).fr f1) (by omega) hn
 have f02:=f1.trans f2 (fun _ _ h=>h)
 have a12:=f2.at_ a1 f1.tidy (fun h=>h)
 obtain⟨u3,U3,g3,h3,f3⟩:=hH (U:=U2) (n:=(Fc pl n 0).length) made f2.tidy hc hk (by omega)
 have f03:=f02.trans f3 (fun _ _ h=>h)
 have tl:=OX c made k
 have ll:=Yr (Fc pl n 0).length
 obtain⟨U4,u5,U5,e4,g5,h5,f5⟩:=tz (D:=D) hJ f03 (Bx.of h3.by_ f3.tidy) (Bx.of (h2.fr f3 f2.tidy).by_ f3.tidy) (by rw[AS];omega)
 refine⟨u5,U5,?_,h5,f5⟩
 have sl:=h2.by_.slen
 have o2:=h2.1.one
 have o3:=h3.1.one
 show kI E D W (AA c) (AA k) made v U=_
 unfold kI
 simp -implicitDefEqProofs only [↓rP,rS,hr.len.1,↓e1,↓BX a12,↓sl,↓g2,↓g3,↓ua o3 o2,o3,o2,↓e4,↓g5,↓Bl o2,↓Bl o3,↓Bl h5.1.one]
end
theorem SH {E:EB} {U:H} {l:List (Nat × Nat)} {v:V} (h:DL U 2 l.length v (T2 l)) {i:Nat} {t:Nat × Nat} (hi:l[i]? = some t) (hl:l.length<=2) (J:List V->AF) :
  AW 2 v (AA i) (fun b o=>Bv E U b o 2 J)=J [.int .i64 (AA t.1),.int .i64 (AA t.2)]:=by
 have hlt:i<l.length:=(AY.1 hi).1
 rcases h with ⟨h0,_⟩|⟨b,o,c,L,rfl,ha,hle,hm⟩
 ·omega
 ·rw[Cb hlt,BX ha]
  show EI L (o+i*2) 2 J=_
  rw[D6 (by omega)]
  congr 1
  have e:(L.drop (o+i*2)).take 2=((T2 l).drop (i*2)).take 2:=by
   rw[hm,Ln,CJ,ABZ,Em (by omega)]
  rw[e]
  match l,hl with
  | [],_=>simp at hlt
  | [a],_=>
   have:i=0:=by simpa using hlt
   subst this
   cases hi;rfl
  | [a,b],_=>
   have:i=0\/i=1:=by simp at hlt;omega
   rcases this with rfl|rfl<;>(cases hi;rfl)
  | _::_::_::_,h=>simp at h
def Qo (made:Bool):List (Nat × Nat)->List Int->List Int
 | [],x=>x
 | [t],x=>WV t.1 made t.2 x
 | t::s::_,x=>WV t.1 true t.2 (WV s.1 made s.2 x)
def ZD (l:List (Nat × Nat)):Prop:=(l.length=1\/l.length=2)/\∀t∈l,(t.1=0\/t.1=2)/\t.2<16384
def sB (E:EB) (F:List V->H->AF):Prop:=∀{U:H} {l:List (Nat × Nat)} {tv v p:V} {x:List Int} (made:Bool),Ar U->DL U 2 l.length tv (T2 l)->ZD l->IA U 1 1 v (fun _=>[p])->Bx E U p x->x.length<50000->Lj F [tv,.bool made,v] U (Qo made l x)
section
variable {E:EB} {D:Ai} {W:AH} {N:Nat}
end
theorem YN:∀(tl:List Dr) (ws:List (V × V × V)) (i:Nat) (t:Dr) (w:V × V × V),tl[i]? = some t->ws[i]? = some w->((Dd tl ws).drop (i*13)).take 13=t.c w
 | [],_,i,t,w,h,_=>by simp at h
 | _::_,[],i,t,w,_,h=>by simp at h
 | x::tl,y::ws,0,t,w,h,h'=>by simp at h h';subst h;subst h';rfl
 | x::tl,y::ws,i+1,t,w,h,h'=>by
  have h:tl[i]? = some t:=by simpa using h
  have h':ws[i]? = some w:=by simpa using h'
  show ((x.c y++Dd tl ws).drop ((i+1)*13)).take 13=_
  rw[show (i+1)*13=13+i*13 by omega,<-CJ,show (x.c y++Dd tl ws).drop 13=Dd tl ws from rfl]
  exact YN tl ws i t w h h'
theorem QN.one4 {n0:Nat} {U:H} {az:List (List Nat)} {rs:List Nat} {tl:List Dr} {u rv lv:V} (h:QN n0 U az rs tl u rv lv):u.one=true/\rv.one=true/\lv.one=true:=by
 obtain⟨ws,h1,_⟩:=h.t
 exact⟨h.n.one,h.r.one,h1.one⟩
theorem QN.fr0 {n0:Nat} {U U':H} {az:List (List Nat)} {rs:List Nat} {tl:List Dr} {u rv lv:V} (h:QN n0 U az rs tl u rv lv) (f:Fr AL U U') (ht:Ar U):QN n0 U' az rs tl u rv lv:=h.fr f ht (fun _ _ _ h=>h)
structure AEe (U:H) (x:Ty) (t:Dr):Prop where
 tags:QM U t.tags x.tags
 kind:x.kind=AA t.kind
 has:x.has=t.con.has
 hasLow:x.hasLow=t.con.hasLow
 hasHigh:x.hasHigh=t.con.hasHigh
 conMore:x.conMore=t.con.more
 low:x.low=t.con.low
 high:x.high=t.con.high
 root:x.root=AA t.root
 more:x.more=t.more
 of_:x.of_=AA t.of_
 items:DL U 3 t.items.length x.items (iT t.items)
 fields:DL U 11 t.fields.length x.fields (Ir t.fields)
def tyZ:Ty:=⟨0,.nils,false,false,false,false,0,0,.nils,.nils,0,false,0,rfl,rfl,rfl⟩
theorem QN.rows {n0:Nat} {U:H} {az:List (List Nat)} {rs:List Nat} {tl:List Dr} {u rv lv:V} (h:QN n0 U az rs tl u rv lv) :
  ∃ty:Nat->Ty,IA U 13 tl.length lv (fun i=>(ty i).c)/\∀(i:Nat) (t:Dr),tl[i]? = some t->AEe U (ty i) t:=by
 obtain⟨ws,h1,h2,h3⟩:=h.t
 have H:∀i:Nat,∃x:Ty,∀(t:Dr) (w:V × V × V),tl[i]? = some t->ws[i]? = some w->x.c=t.c w/\AEe U x t:=by
  intro i
  cases ht:tl[i]? with
  | none=>exact⟨tyZ,fun t w e=>by cases e⟩
  | some t=>
   have hlt:i<tl.length:=(AY.1 ht).1
   obtain⟨w,hw⟩:∃w,ws[i]? = some w:=⟨ws[i],AM (by omega)⟩
   obtain⟨a,b,c,_⟩:=h3 i t w ht hw
   refine⟨⟨AA t.kind,w.1,t.con.has,t.con.hasLow,t.con.hasHigh,t.con.more,t.con.low,t.con.high,w.2.1,w.2.2,AA t.root,t.more,AA t.of_,a.one,b.one,c.one⟩,fun t' w' e e'=>?_⟩
   cases e
   rw[hw]at e';cases e'
   exact⟨rfl,a,rfl,rfl,rfl,rfl,rfl,rfl,rfl,rfl,rfl,rfl,b,c⟩
 refine⟨fun i=>(H i).choose,?_,fun i t ht=>?_⟩
 ·have hz:=h.z
  rcases h1 with ⟨e0,e,_⟩|⟨b,o,c,L,e,ha,hle,hm⟩
  ·rw[e0,e];exact⟨.inl ⟨rfl,rfl⟩⟩
  ·rcases hz with hz|⟨b',n',c',hz⟩
   ·rw[e]at hz;cases hz
   ·rw[e]at hz;cases hz
    rw[e]
    rw[FI]at hm
    refine⟨.inr ⟨b,c,L,rfl,ha,fun k hk=>⟨by omega,?_⟩⟩⟩
    obtain⟨t,ht⟩:∃t,tl[k]? = some t:=⟨tl[k],AM hk⟩
    obtain⟨w,hw⟩:∃w,ws[k]? = some w:=⟨ws[k],AM (by omega)⟩
    have:=YN tl ws k t w ht hw
    rw[hm,Ln,ABZ,Em (by omega)]at this
    rw[this]
    exact((H k).choose_spec t w ht hw).1.symm
 ·have hlt:i<tl.length:=(AY.1 ht).1
  obtain⟨w,hw⟩:∃w,ws[i]? = some w:=⟨ws[i],AM (by omega)⟩
  exact((H i).choose_spec t w ht hw).2
section
variable {E:EB} {D:Ai} {W:AH} {N:Nat} {U U':H}
theorem Od {l:List (Nat × Nat)} {v:V} (h:QM U l v):V.beq v v=true:=by
 rcases h.s with ⟨_,rfl,_⟩|⟨b,o,c,L,rfl,_⟩<;>exact B0 _ rfl
theorem jK (hS:MU (D 35)) (hW:sB E (D 34)) {v:Int} (hv:V7 v) {x:Ty} {tl:List (Nat × Nat)} (ht:Ar U) {b5 b7:Nat} (a5:CQ U b5 (Fa v)) (a7:CQ U b7 x.c) (hT:QM U tl x.tags) (hok:ZD tl) :
    ∃env u U',AT E D RZ WC [(5,.ptr b5 0),(7,.ptr b7 0)] U=some (env,U')/\Go.Og.look env 6=some u/\Nb U U' u (Qo false tl (nI (L4 (Wc v) (FM v))))/\Fr AL U U':=by
  obtain⟨u1,U1,g1,h1,f1⟩:=hS (U:=⟨U.next+8,U.bl⟩) hv (ht.wide 8)
  have le1:U.next+8<=U1.next:=f1.le
  have f01:Fr AL U U1:=f1.wide
  have ln:=(I2 v).2
  have fb:Fr AL U ⟨U1.next,(U.next+5,.cells [u1])::U1.bl⟩:=⟨fun c hc=>by
    have hc:U1.next<=c:=hc
    show BU ((U.next+5,_)::U1.bl) c=none
    rw[Au,if_neg (by simp only[];omega)];exact f1.tidy c hc,f01.le,fun c hc _=>by
    show BU ((U.next+5,_)::U1.bl) c=_
    rw[Au,if_neg (by simp only[];omega)];exact f01.same c hc (fun h=>h)⟩
  have ab:CQ ⟨U1.next,(U.next+5,.cells [u1])::U1.bl⟩ (U.next+5) [u1]:=by
    show BU ((U.next+5,_)::U1.bl) _=_
    rw[Au,if_pos rfl]
  have hu:By ⟨U1.next,(U.next+5,.cells [u1])::U1.bl⟩ u1 (nI (L4 (Wc v) (FM v))):=by
    have hs:=h1.by_
    rcases hs with h|⟨b,o,c,L,rfl,ha,hl,hm⟩
    · exact .inl h
    · have hb:U.next+8<=b:=h1.2 b rfl
      refine .inr ⟨b,o,c,L,rfl,?_,hl,hm⟩
      show BU ((U.next+5,_)::U1.bl) b=_
      rw[Au,if_neg (by simp only[];omega)];exact ha
  obtain⟨u2,U2,g2,h2,f2⟩:=hW (U:=⟨U1.next,(U.next+5,.cells [u1])::U1.bl⟩) (v := .sl (U.next+5) 0 1 (.ex 1)) (p:=u1) false fb.tidy (hT.s.fr fb ht (fun _ _ h=>h)) hok (gg ab) (Bx.of hu fb.tidy) (by rw[KO,NM];omega)
  have go:Ll E D U 8 0 AL RZ WC ⟨[(5,.ptr b5 0),(7,.ptr b7 0)],U.next+8,[U.bl],[],0,[]⟩ _ U2:=
    Eo (.ptr b7 1) rfl rfl <|
    N0 x.tags (CO ht) rfl (DC (b:=b7) (off:=1) rfl a7 rfl ht (fun h=>h) (Od hT)) fun _ r1=>
    Eo (.ptr b5 1) rfl rfl <|
    N0 (.int .i64 v) r1 rfl (DC (b:=b5) (off:=1) rfl a5 rfl ht (fun h=>h) (B0 _ rfl)) fun _ r2=>
    QW u1 r2 rfl (by decide) f1 (fun _ _ h=>h) (fun _ h _ _=>h) g1 fun _ _ _ r3=>
    xk (.sl (U.next+5) 0 1 (.ex 1)) (.cells [u1]) 32 r3 rfl (by decide) (by decide) (W7 rfl h1.1.one) fun _ r4=>
    QW u2 r4 rfl (by decide) f2 (fun _ _ h=>h) (fun _ h _ _=>h) (H6 (vs:=[x.tags,.bool false,.sl (U.next+5) 0 1 (.ex 1)]) rfl (by rw[Jf,Cp x.oneT];rfl) g2) fun _ _ _ r5=>
    Eo u2 rfl (Fw rfl (Cp h2.1.one)) <|
    O5 r5
  obtain⟨d1,d2⟩:=ME (ops:=RZ) go
  exact⟨_,u2,U2,d1,rfl,h2.mono f01.le,d2⟩
end
inductive Lf (E:EB) (U:H):Vc->List Int->Prop
 | b1:Lf E U ⟨AA 1,AA 1,.nils,.nils,AA 0,.nils,rfl,rfl,rfl⟩ [AA 255]
 | b0:Lf E U ⟨AA 1,AA 0,.nils,.nils,AA 0,.nils,rfl,rfl,rfl⟩ [AA 0]
 | int {n:Int} (h:V7 n):Lf E U (Vc.int n) (nI (L4 (Wc n) (FM n)))
 | oct {b:V} {hb:b.one=true} {x:List Int} (h:Bx E U b x) (hl:x.length<=40000):Lf E U ⟨AA 5,AA 0,b,.nils,AA 0,.nils,hb,rfl,rfl⟩ x
 | nul:Lf E U ⟨AA 4,AA 0,.nils,.nils,AA 0,.nils,rfl,rfl,rfl⟩ []
theorem Lf.fr {E:EB} {U U':H} {v:Vc} {x:List Int} (h:Lf E U v x) (f:Fr AL U U'):Lf E U' v x:=by
 cases h with
 | b1=>exact .b1
 | b0=>exact .b0
 | int h=>exact .int h
 | oct h hl=>exact .oct (h.fr f) hl
 | nul=>exact .nul
def yl (E:EB) (F:List V->H->AF):Prop:=∀{U:H} {p nT i:Nat} {ty:Nat->Ty} {nm:BS} {nv rv tv:V} {v:Vc} {x:List Int} {tl:List (Nat × Nat)},Ar U->Ck U p nT ty nm nv rv tv []->i<nT->(ty i).kind=v.k->QM U tl (ty i).tags->ZD tl->Lf E U v x ->
 Lj F [.ptr p 0,.int .i64 (AA i),.agg v.c] U (Qo false tl x)
theorem qS (E:EB) (U:H):Bx E U .nils []:=⟨fun _=>rfl,rfl,rfl,rfl,fun _=>rfl,fun _ h=>h.elim⟩
section
variable {E:EB} {D:Ai} {N:Nat}
theorem rW (hS:MU (D 35)) (hW:sB E (D 34)):yl E (F18 E D (AT E D) N):=by
 intro U p nT i ty nm nv rv tv v x tl ht hc hi hk hT hok hv
 obtain⟨U1,e1,f1,a1,n1⟩:=Ca ht v.c
 have c1:=hc.fr f1 ht
 have rd:∀J,AW 13 tv (AA i) (fun b o=>Bv E U1 b o 13 J)=J (ty i).c:=fun J=>c1.row.all hi J
 obtain⟨U2,e2,f2,a2,n2⟩:=Ca f1.tidy [.int .i64 (AA 0),.nils,.bool false,.bool false,.bool false,.bool false,.int .i64 (AA 0),.int .i64 (AA 0),.nils,.nils,.int .i64 (AA 0),.bool false,.int .i64 (AA 0)]
 obtain⟨U3,e3,f3,a3⟩:=Mr f2.tidy a2 (ty i).c
 have f02:=f1.trans f2 (fun _ _ h=>h)
 have le1:=f1.le
 have f03:Fr AL U U3:=f02.trans f3 (fun c hc h=>by have h:c=U1.next:=h;omega)
 have a13:CQ U3 U.next v.c:=f3.at_ (f2.at_ a1 f1.tidy (fun h=>h)) f2.tidy (by show ¬U.next=U1.next;omega)
 have st:∀J:H->AF,DX 13 U1.next 0 (.agg (ty i).c) U2 J=J U3:=fun J=>by
  rw[ER a2 (by unfold Ty.c;simp[Cl,BC,BP,Ed,ET,(ty i).oneT,(ty i).oneI,(ty i).oneF])]
  show J (GP U2 U1.next (.cells (ty i).c))=_
  rw[e3]
 have hT3:=hT.fr f03 ht (fun _ _ h=>h)
 have ttp:=fun J=>c1.types (E:=E) (J:=J)
 have put:∀(U0:H) (q:V),Fr AL U U0->q.one=true->Bx E U0 q x->x.length<=40000->∃U4 u U5,Br U0 (.cells [q])=U4/\D 34 [(ty i).tags,.bool false,.sl U0.next 0 1 (.ex 1)] U4=some (u,U5)/\Nb U U5 u (Qo false tl x)/\Fr AL U U5:=fun U0 q f0 ho hb hl=>by
  obtain⟨U4,e4,f4,a4,n4⟩:=Yl f0.tidy [q]
  have f04:=f0.trans f4 (fun _ _ h=>h)
  obtain⟨u,U5,g5,h5,f5⟩:=hW (U:=U4) (p:=q) false f4.tidy (hT.fr f04 ht (fun _ _ h=>h)).s hok (gg a4) (hb.fr f4) (by omega)
  exact⟨U4,u,U5,e4,g5,h5.mono f04.le,f04.trans f5 (fun _ _ h=>h)⟩
 show ∃u U',Il E D (AT E D) (V6 E D (AT E D) N) p 0 (AA i) v.k v.n v.b v.l v.r v.m U=some (u,U')/\_
 have hv3:=hv.fr f03
 unfold Vc.c at e1 a13
 unfold Ty.c at rd st a3
 cases hv with
 | b1=>
  have hk:(ty i).kind=AA 1:=hk
  obtain⟨U4,e4,f4,a4,n4⟩:=Yl f3.tidy (Je [AA 255])
  have e4':Br U3 (.cells [V.int .u8 (AA 255)])=U4:=e4
  obtain⟨U5,u,U6,e5,g6,h6,f6⟩:=put U4 (.sl U3.next 0 1 (.ex 1)) (f03.trans f4 (fun _ _ h=>h)) rfl (Bx.of (Nb.lit (U0:=U3) (l:=[AA 255]) a4 (AK _)).by_ f4.tidy) (by simp)
  refine⟨u,U6,?_,h6,f6⟩
  have o6:=h6.1.one
  unfold Il
  simp -implicitDefEqProofs only [↓rP,rA,AB,AE,AD,↓e1,↓ttp,↓rd,(ty i).oneT,(ty i).oneI,(ty i).oneF,↓e2,↓st,↓AZ a3,hk,↓AZ a13,↓e4',↓e5,↓g6,↓Bl o6]
 | b0=>
  have hk:(ty i).kind=AA 1:=hk
  obtain⟨U4,e4,f4,a4,n4⟩:=Yl f3.tidy (Je [AA 0])
  have e4':Br U3 (.cells [V.int .u8 (AA 0)])=U4:=e4
  obtain⟨U5,u,U6,e5,g6,h6,f6⟩:=put U4 (.sl U3.next 0 1 (.ex 1)) (f03.trans f4 (fun _ _ h=>h)) rfl (Bx.of (Nb.lit (U0:=U3) (l:=[AA 0]) a4 (AK _)).by_ f4.tidy) (by simp)
  refine⟨u,U6,?_,h6,f6⟩
  have o6:=h6.1.one
  unfold Il
  simp -implicitDefEqProofs only [↓rP,rA,AB,AE,AD,↓e1,↓ttp,↓rd,(ty i).oneT,(ty i).oneI,(ty i).oneF,↓e2,↓st,↓AZ a3,hk,↓AZ a13,↓e4',↓e5,↓g6,↓Bl o6]
 | int h=>
  rename_i n
  have hk:(ty i).kind=AA 2:=hk
  have e1':Br U (.cells (Fa n))=U1:=e1
  unfold Fa vc at e1'
  obtain⟨env,u,U4,g4,l4,h4,f4⟩:=jK (E:=E) (D:=D) (x:=ty i) hS hW h f3.tidy (b5:=U.next) (b7:=U1.next) a13 a3 hT3 hok
  refine⟨u,U4,?_,h4.mono f03.le,f03.trans f4 (fun _ _ h=>h)⟩
  have gd:∀J:B6->H->AF,Cc (AT E D RZ WC [(5,.ptr U.next 0),(7,.ptr U1.next 0)] U3) J=J env U4:=fun J=>by rw[g4];rfl
  have m6:∀J:V->AF,BL env 6 J=J u:=fun J=>BH l4 (Cp h4.1.one)
  have key:∀K,Il E D (AT E D) K p 0 (AA i) (AA 2) n .nils .nils (AA 0) .nils U=K p 0 U.next 0 U1.next 0 (AA 2) true U3:=fun K=>by
   unfold Il
   simp -implicitDefEqProofs only [↓rP,rA,AB,AE,AD,↓e1',↓ttp,↓rd,(ty i).oneT,(ty i).oneI,(ty i).oneF,↓e2,↓st,↓AZ a3,hk]
  refine(key _).trans ?_
  show MT E D (AT E D) _ _ p 0 U.next 0 U1.next 0 (AA 2) true U3=_
  unfold MT
  simp -implicitDefEqProofs only [↓rP,rA,AB,AE,AD,↓gd,↓m6]
 | oct h hl=>
  rename_i b hb
  have hk:(ty i).kind=AA 5:=hk
  obtain⟨U5,u,U6,e5,g6,h6,f6⟩:=put U3 b f03 hb (h.fr f03) hl
  refine⟨u,U6,?_,h6,f6⟩
  have o6:=h6.1.one
  have fl:∀J:List V->AF,D9 [(0,1,b)] [V.nils] J=J [b]:=fun J=>Go.Og.fill1 hb J
  have key:∀K,Il E D (AT E D) K p 0 (AA i) (AA 5) (AA 0) b .nils (AA 0) .nils U=K p 0 U.next 0 U1.next 0 (AA 5) false U3:=fun K=>by
   unfold Il
   simp -implicitDefEqProofs only [↓rP,rA,AB,AE,AD,hb,↓e1,↓ttp,↓rd,(ty i).oneT,(ty i).oneI,(ty i).oneF,↓e2,↓st,↓AZ a3,hk]
  refine(key _).trans ?_
  show MT E D (AT E D) _ (Pd E D (AT E D) (RH E D (AT E D))) p 0 U.next 0 U1.next 0 (AA 5) false U3=_
  unfold MT Pd RH
  simp -implicitDefEqProofs only [↓rP,rA,AB,AE,AD,↓AZ a3,↓AZ a13,↓fl,hb,↓e5,↓g6,↓Bl o6]
 | nul=>
  have hk:(ty i).kind=AA 4:=hk
  obtain⟨U5,u,U6,e5,g6,h6,f6⟩:=put U3 .nils f03 rfl (qS E U3) (by simp)
  refine⟨u,U6,?_,h6,f6⟩
  have o6:=h6.1.one
  have fl:∀J:List V->AF,D9 [(0,1,V.nils)] [V.nils] J=J [V.nils]:=fun J=>Go.Og.fill1 rfl J
  have key:∀K,Il E D (AT E D) K p 0 (AA i) (AA 4) (AA 0) .nils .nils (AA 0) .nils U=K p 0 U.next 0 U1.next 0 (AA 4) false U3:=fun K=>by
   unfold Il
   simp -implicitDefEqProofs only [↓rP,rA,AB,AE,AD,↓e1,↓ttp,↓rd,(ty i).oneT,(ty i).oneI,(ty i).oneF,↓e2,↓st,↓AZ a3,hk]
  refine(key _).trans ?_
  show MT E D (AT E D) _ (Pd E D (AT E D) (RH E D (AT E D))) p 0 U.next 0 U1.next 0 (AA 4) false U3=_
  unfold MT Pd RH
  simp -implicitDefEqProofs only [↓rP,rA,AB,AE,AD,↓AZ a3,↓AZ a13,↓fl,↓e5,↓g6,↓Bl o6]
end
section
variable {E:EB} {D:Ai} {W:AH} {N:Nat} {U:H}
end
section
variable {E:EB} {D:Ai} {W:AH} {N:Nat} {U:H} {n p nT:Nat} {ty:Nat->Ty} {nm:BS} {nv rv tv:V} {rest:List V}
end
theorem yA (c:Nat) (made:Bool) (k:Nat) (l:List Int):(WV c made k l).length<=l.length+6:=Y1 c made k l
section
variable {E:EB} {D:Ai} {W:AH} {N:Nat} {nT:Nat} {ty:Nat->Ty} {nm:BS} {nv rv tv:V}
end
theorem OW:∀(tl:List Dr) (ws:List (V × V × V)) (i:Nat) (t:Dr) (u:V × V × V),tl[i]? = some t->ws[i]? = some u->((Dd tl ws).drop (i*13)).take 13=t.c u
 | [],_,i,t,u,h,_=>by simp at h
 | _::_,[],i,t,u,_,h=>by simp at h
 | x::tl,y::ws,0,t,u,h,h'=>by simp at h h';subst h;subst h';rfl
 | x::tl,y::ws,i+1,t,u,h,h'=>by
  have h:tl[i]? = some t:=by simpa using h
  have h':ws[i]? = some u:=by simpa using h'
  show ((x.c y++Dd tl ws).drop ((i+1)*13)).take 13=_
  rw[show (i+1)*13=13+i*13 by omega,<-CJ,show (x.c y++Dd tl ws).drop 13=Dd tl ws from rfl]
  exact OW tl ws i t u h h'
theorem YM {tl:List Dr} {ws:List (V × V × V)} {i j:Nat} {t:Dr} {u:V × V × V} {c:V} (h:tl[i]? = some t) (h':ws[i]? = some u) (hj:j<13) (hc:(t.c u)[j]? = some c):(Dd tl ws)[i*13+j]? = some c:=by
 rw[<-OW tl ws i t u h h',CG hj,Bm]at hc
 exact hc
structure eh (U:H) (lv:V) (i:Nat) (t:Dr) (u:V × V × V):Prop where
 rd:∀(E:EB) (J:List V->AF),AW 13 lv (AA i) (fun b o=>Bv E U b o 13 J)=J (t.c u)
 at_:∀{j:Nat} {c:V},j<13->(t.c u)[j]? = some c->∀(E:EB) (J:V->AF),AW 13 lv (AA i) (fun b o=>EG E U b (AP o j) J)=J c
 at0:∀(E:EB) (J:V->AF),AW 13 lv (AA i) (fun b o=>EG E U b o J)=J (.int .i64 (AA t.kind))
 tg:QM U t.tags u.1
 it:DL U 3 t.items.length u.2.1 (iT t.items)
 fd:DL U 11 t.fields.length u.2.2 (Ir t.fields)
theorem YO {U:H} {lv:V} {tl:List Dr} {ws:List (V × V × V)} {i:Nat} {t:Dr} {u:V × V × V} (h1:DL U 13 tl.length lv (Dd tl ws)) (hi:tl[i]? = some t) (hu:ws[i]? = some u) (a:QM U t.tags u.1) (b:DL U 3 t.items.length u.2.1 (iT t.items)) (c:DL U 11 t.fields.length u.2.2 (Ir t.fields)):eh U lv i t u:=by
 have hlt:i<tl.length:=(AY.1 hi).1
 refine⟨fun E J=>Iv (E:=E) h1 hlt (OW _ _ _ _ _ hi hu) (by decide) J,fun hj hc E J=>Gi (E:=E) h1 hlt hj (YM hi hu hj hc) J,fun E J=>?_,a,b,c⟩
 exact Gi (E:=E) (off:=0) h1 hlt (by decide) (YM hi hu (by decide) rfl) J
section
variable {U0 U U':H} {xb:Nat} {m:Cg} {nv tv dv lv:V} {tl:List Dr} {Q:Nat->Prop}
theorem Mk.ty (h:Mk U0 U xb m nv tv dv tl lv Q) {i:Nat} {t:Dr} (hi:tl[i]? = some t):∃u,eh U lv i t u/\∀U',Fr AL U U'->eh U' lv i t u:=by
 obtain⟨ws,h1,h2,h3⟩:=h.w
 have ht:=h.ht
 have hlt:i<tl.length:=(AY.1 hi).1
 obtain⟨w,hw⟩:∃w,ws[i]? = some w:=⟨ws[i],AM (by omega)⟩
 obtain⟨a,b,c,_⟩:=h3 i t w hi hw
 exact⟨w,YO h1.src hi hw a b c,fun U' f=>YO (h1.src.fr f ht (fun _ _ h=>h)) hi hw (a.fr f ht (fun _ _ h=>h)) (b.fr f ht (fun _ _ h=>h)) (c.fr f ht (fun _ _ h=>h))⟩
end
def tgV (t:Nat × Nat):V := .agg [.int .i64 (AA t.1),.int .i64 (AA t.2)]
def lJ (F:List V->H->AF):Prop:=∀{U:H} {v:V} {l:List (Nat × Nat)} (t:Nat × Nat),Ar U->DL U 2 l.length v (T2 l)->l.length<=9000->t ∉ l->∃U',F [v,tgV t] U=some (.bool false,U')/\Fr AL U U'
theorem YP:∀(l:List (Nat × Nat)) (i:Nat) (t:Nat × Nat),l[i]? = some t->((T2 l).drop (i*2)).take 2=[.int .i64 (AA t.1),.int .i64 (AA t.2)]
 | [],i,t,h=>by simp at h
 | x::l,0,t,h=>by simp at h;subst h;rfl
 | x::l,i+1,t,h=>by
  have h:l[i]? = some t:=by simpa using h
  show (([V.int .i64 (AA x.1),V.int .i64 (AA x.2)]++T2 l).drop ((i+1)*2)).take 2=_
  rw[show (i+1)*2=2+i*2 by omega,<-CJ,show ([V.int .i64 (AA x.1),V.int .i64 (AA x.2)]++T2 l).drop 2=T2 l from rfl]
  exact YP l i t h
theorem xu (a b c d:Nat) (J:Bool->AF):xw (.flat [(0,.int),(1,.int)]) (.agg [.int .i64 (AA a),.int .i64 (AA b)]) (.agg [.int .i64 (AA c),.int .i64 (AA d)]) J=J (decide ((a,b)=(c,d))):=by
 have h:Jz (.flat [(0,.int),(1,.int)]) (.agg [.int .i64 (AA a),.int .i64 (AA b)]) (.agg [.int .i64 (AA c),.int .i64 (AA d)])=some (Ak a c&&(Ak b d&&true)):=rfl
 unfold xw;rw[h]
 show J _=J _
 have nb:∀x y:Nat,Ak x y=decide (x=y):=fun x y=>by rw[Fg,AU];simp
 rw[nb,nb]
 congr 1
 by_cases h1:a=c
 ·by_cases h2:b=d
  ·subst h1;subst h2;simp
  ·simp[h1,h2]
 ·simp[h1]
section
variable {E:EB} {D:Ai} {W:AH} {N:Nat}
theorem AD2 (hN:10000<N):lJ (e9 E D W N):=by
 intro U v l t ht hv hl hnot
 obtain⟨U1,e1,f1,a1,n1⟩:=JI ht [.int .i64 (AA t.1),.int .i64 (AA t.2)]
 have hv:=hv.fr f1 ht (fun _ _ h=>h)
 have sl:∀J:Nat->AF,A0 v J=J l.length:=fun J=>hv.slen
 refine⟨U1,?_,f1⟩
 have loop:∀(m i n:Nat),i+m=l.length->m<n->TP E D W N n v U.next 0 (AA i) U1=some (.bool false,U1):=by
  intro m
  induction m with
  | zero=>
   intro i n hi hn
   obtain⟨n,rfl⟩:∃k,n=k+1:=⟨n-1,by omega⟩
   have d1:decide (i<l.length)=false:=decide_eq_false (by omega)
   have key:∀R,Pf E D W (Sj E D W) R v U.next 0 (AA i) U1=some (.bool false,U1):=by
    intro R
    unfold Pf Sj
    simp -implicitDefEqProofs only [↓rP,rA,AB,AE,AD,↓sl,d1]
   exact key _
  | succ m ih=>
   intro i n hi hn
   obtain⟨n,rfl⟩:∃k,n=k+1:=⟨n-1,by omega⟩
   have hlt:i<l.length:=by omega
   obtain⟨x,hx⟩:∃x,l[i]? = some x:=⟨l[i],AM hlt⟩
   have d1:decide (i<l.length)=true:=decide_eq_true hlt
   have rd:∀J,AW 2 v (AA i) (fun b o=>Bv E U1 b o 2 J)=J [.int .i64 (AA x.1),.int .i64 (AA x.2)]:=fun J=>Iv hv hlt (YP l i x hx) (by decide) J
   have ne:decide ((x.1,x.2)=(t.1,t.2))=false:=decide_eq_false fun e=>hnot (by rw[show t=x from e.symm];exact DA hx)
   have ek:=xu x.1 x.2 t.1 t.2
   have key:∀R,Pf E D W (Sj E D W) R v U.next 0 (AA i) U1=R v U.next 0 (AA (i+1)) U1:=by
    intro R
    unfold Pf
    simp -implicitDefEqProofs only [↓rP,rA,AB,AE,AD,↓sl,d1,↓rd,↓BX a1,↓ek,ne,A3 (show i+1<=9223372036854775807 by omega)]
   exact(key _).trans (ih (i+1) n (by omega) (by omega))
 show Sk E D W (TP E D W N N) v (AA t.1) (AA t.2) U=_
 have key:∀K,Sk E D W K v (AA t.1) (AA t.2) U=K v U.next 0 (AA 0) U1:=by
  intro K
  unfold Sk
  have ho:An (V.cells (.agg [.int .i64 (AA t.1),.int .i64 (AA t.2)]))=true:=rfl
  simp -implicitDefEqProofs only [↓rP,rA,AB,AE,AD,ho,↓e1]
 rw[key]
 exact loop l.length 0 N (by omega) (by omega)
end
def zN (U:H) (ws:List V) (tgs:List (Nat × Nat)):Prop:=ws.length=tgs.length/\∀(k:Nat) (w:V) (t:Nat × Nat),ws[k]? = some w->tgs[k]? = some t->DL U 2 1 w (T2 [t])/\V.beq w w=true
def Xe (F:List V->H->AF):Prop:=∀{U:H} {v:V} {ws:List V} {tgs:List (Nat × Nat)},Ar U->DL U 1 ws.length v ws->zN U ws tgs->tgs.Nodup->tgs.length<=5000->∃U',F [v] U=some (.bool true,U')/\Fr AL U U'
def Zn (F:List V->H->AF):Prop:=∀{U:H} {lv:V} {i:Nat} {t:Dr} {u:V × V × V} {tg:Nat × Nat},eh U lv i t u->t.tags=[tg]->F [lv,.int .i64 (AA i)] U=some (u.1,U)
def XR (F:List V->H->AF):Prop:=∀{U:H} {lv:V} {i:Nat} {t:Dr} {u:V × V × V},eh U lv i t u->t.kind≠9->F [lv,.int .i64 (AA i)] U=some (.bool false,U)
section
variable {E:EB} {D:Ai} {W:AH} {N:Nat}
theorem wh:XR (fD E D W N):=by
 intro U lv i t u h hk
 have r0:=h.at0 E
 have d9:decide (t.kind=9)=false:=decide_eq_false hk
 show Ss E D W (Xi E D W N N) lv (AA i) U=_
 have key:∀K,Ss E D W K lv (AA i) U=some (.bool false,U):=by
  intro K
  unfold Ss
  simp -implicitDefEqProofs only [↓rP,rA,AB,AE,AD,↓r0,d9]
 exact key _
theorem w4 (b:Nat):Cs 2 (.sl b 0 1 (.ex 1)) none (some (.int .i64 (AA 1))) none=some (.sl b 0 1 (.ex 1)):=rfl
theorem AEE:Zn (fC E D W N):=by
 intro U lv i t u tg h h1
 have r1:∀J,_:=h.at_ (j:=1) (c:=u.1) (by decide) rfl E
 have ht:=h.tg
 rw[h1]at ht
 obtain⟨b,hb⟩:=ht.e rfl
 rw[hb]at r1 ⊢
 show Sr E D W (Xh E D W N N) lv (AA i) U=_
 have sl:∀J:V->AF,gK (Cs 2 (.sl b 0 1 (.ex 1)) none (some (.int .i64 (AA 1))) none) J=J (.sl b 0 1 (.ex 1)):=fun J=>by rw[w4];rfl
 have key:∀K,Sr E D W K lv (AA i) U=some (.sl b 0 1 (.ex 1),U):=by
  intro K
  unfold Sr
  simp -implicitDefEqProofs only [↓rP,rA,AB,AE,AD,↓r1,show decide (0<1)=true from rfl,↓sl]
 exact key _
theorem pP (l:List (Nat × Nat)) (t:Nat × Nat):T2 (l++[t])=T2 l++[.int .i64 (AA t.1),.int .i64 (AA t.2)]:=by unfold T2;simp
theorem yI (hI:lJ (D 144)) (hN:10000<N):Xe (fB E D W N):=by
 intro U v ws tgs ht hv ho hnd hl
 obtain⟨hol,hok⟩:=ho
 have loop:∀(m i n:Nat) (U1:H) (av:V),i+m=tgs.length->m<n->Fr AL U U1->DM U1 2 i av (T2 (tgs.take i))->(∀b,AJ av b->U.next<=b) ->
   ∃U',TQ E D W N n v av (AA i) U1=some (.bool true,U')/\Fr AL U U':=by
  intro m
  induction m with
  | zero=>
   intro i n U1 av hi hn f ha na
   obtain⟨n,rfl⟩:∃k,n=k+1:=⟨n-1,by omega⟩
   have sl:∀J:Nat->AF,A0 v J=J tgs.length:=fun J=>by rw[hv.slen,hol]
   have d1:decide (i<tgs.length)=false:=decide_eq_false (by omega)
   refine⟨U1,?_,f⟩
   have key:∀K4,Ph E D W (So E D W) K4 v av (AA i) U1=some (.bool true,U1):=by
    intro K4
    unfold Ph So
    simp -implicitDefEqProofs only [↓rP,rA,AB,AE,AD,↓sl,d1]
   exact key _
  | succ m ih=>
   intro i n U1 av hi hn f ha na
   obtain⟨n,rfl⟩:∃k,n=k+1:=⟨n-1,by omega⟩
   obtain⟨N2,hN2⟩:∃k,N=k+2:=⟨N-2,by omega⟩
   have hlt:i<tgs.length:=by omega
   obtain⟨t,htk⟩:∃t,tgs[i]? = some t:=⟨tgs[i],AM hlt⟩
   obtain⟨w,hwk⟩:∃w,ws[i]? = some w:=⟨ws[i],AM (by omega)⟩
   obtain⟨sw,_⟩:=hok i w t hwk htk
   have d1:decide (i<tgs.length)=true:=decide_eq_true hlt
   have sl:∀J:Nat->AF,A0 v J=J tgs.length:=fun J=>by rw[hv.slen,hol]
   have tk:(tgs.take i).length=i:=by rw[BY];omega
   have hv1:=hv.fr f ht (fun _ _ h=>h)
   have sw1:=sw.fr f ht (fun _ _ h=>h)
   have rv:∀J,AW 1 v (AA i) (fun b o=>EG E U1 b o J)=J w:=fun J=>Gi (off:=0) hv1 (by omega) (by decide) (by rw[B8];exact hwk) J
   have slw:∀J:Nat->AF,A0 w J=J 1:=fun J=>sw1.slen
   have not:t ∉ tgs.take i:=by
    intro hm
    obtain⟨j,hj⟩:=List.getElem?_of_mem hm
    have hji:j<i:=by
     have:=(AY.1 hj).1
     omega
    rw[CG hji]at hj
    have:=(List.getElem?_inj (by omega) hnd).1 (hj.trans htk.symm)
    omega
   obtain⟨U2,g2,f2⟩:=hI t f.tidy (ha.src (l:=T2 (tgs.take i)) |> fun s=>by rw[tk];exact s) (by rw[tk];omega) not
   unfold tgV at g2
   have rw1:∀J,AW 2 w (AA 0) (fun b o=>Bv E U1 b o 2 J)=J [.int .i64 (AA t.1),.int .i64 (AA t.2)]:=fun J=>Iv sw1 (by decide) rfl (by decide) J
   have f02:Fr AL U U2:=f.trans f2 (fun _ _ h=>h)
   have sw2:=sw.fr f02 ht (fun _ _ h=>h)
   have hv2:=hv.fr f02 ht (fun _ _ h=>h)
   have rw2:∀J,AW 2 w (AA 0) (fun b o=>Bv E U2 b o 2 J)=J [.int .i64 (AA t.1),.int .i64 (AA t.2)]:=fun J=>Iv sw2 (by decide) rfl (by decide) J
   have rv2:∀J,AW 1 v (AA i) (fun b o=>EG E U2 b o J)=J w:=fun J=>Gi (off:=0) hv2 (by omega) (by decide) (by rw[B8];exact hwk) J
   obtain⟨U3,e3,f3,a3,n3⟩:=JI f2.tidy [.int .i64 (AA t.1),.int .i64 (AA t.2)]
   have x3:DL U3 2 1 (.sl U2.next 0 1 (.ex 1)) [.int .i64 (AA t.1),.int .i64 (AA t.2)] := .inr ⟨_,_,_,_,rfl,a3,AK _,rfl⟩
   have f13:Fr AL U1 U3:=f2.trans f3 (fun _ _ h=>h)
   obtain⟨av',U4,g4,d4,m4,f4⟩:=Du (E:=E) (bytes:=16) (ha.fr f13 f.tidy (fun _ _ h=>h)) f13.tidy x3 rfl (by unfold Bw;simp only[AG,Ac];omega)
   have le1:=f.le
   have le3:=f13.le
   have f04:Fr AL U U4:=(f.trans f13 (fun _ _ h=>h)).trans f4 (fun b hb e=>by have:=na b e;omega)
   have slw4:∀J:Nat->AF,A0 w J=J 1:=fun J=>sw1.slen
   have rv4:∀J,AW 1 v (AA i) (fun b o=>EG E U4 b o J)=J w:=fun J=>Gi (off:=0) (hv.fr f04 ht (fun _ _ h=>h)) (by omega) (by decide) (by rw[B8];exact hwk) J
   have uo:=d4.one
   obtain⟨U',g',f'⟩:=ih (i+1) n U4 av' (by omega) (by omega) f04 (by
    rw[show tgs.take (i+1)=tgs.take i++[t] from by rw[FW,htk];rfl,pP]
    exact d4) (fun b hb=>(m4 b hb).elim (na b) (fun e=>by omega))
   refine⟨U',?_,f'⟩
   have d01:decide (0<1)=true:=rfl
   have d11:decide (1<1)=false:=rfl
   have k2:∀K4,Ph E D W (So E D W) K4 v av (AA i) U1=K4 v av (AA i) (AA 0) U1:=by
    intro K4
    unfold Ph
    simp -implicitDefEqProofs only [↓rP,rA,AB,AE,AD,↓sl,d1]
   have k4:∀K3 R4,Pg E D W K3 R4 v av (AA i) (AA 0) U1=R4 v av' (AA i) (AA 1) U4:=by
    intro K3 R4
    unfold Pg
    simp -implicitDefEqProofs only [↓rP,rA,AB,AE,AD,↓rv,↓slw,d01,↓rw1,↓g2,↓rv2,↓rw2,↓e3,↓g4,↓Bl uo,A3 (show 0+1<=9223372036854775807 by decide)]
   have k5:∀R2 R4,Pg E D W (XF E D W R2) R4 v av' (AA i) (AA 1) U4=R2 v av' (AA (i+1)) U4:=by
    intro R2 R4
    unfold Pg XF
    simp -implicitDefEqProofs only [↓rP,rA,AB,AE,AD,↓rv4,↓slw4,d11,A3 (show i+1<=9223372036854775807 by omega)]
   subst hN2
   exact(k2 _).trans ((k4 _ _).trans ((k5 _ _).trans g'))
 have key:∀K,Sp E D W K v U=K v .nils (AA 0) U:=by
  intro K
  unfold Sp
  rfl
 show ∃U',Sp E D W (TQ E D W N N) v U=_/\_
 rw[key]
 exact loop tgs.length 0 N U .nils (by omega) (by omega) (Fr.refl ht) (DM.nil _ _) (fun b hb=>hb.elim)
end
end
end Go.Proofs.YtgblfbajgpboiaaGreatDoor
