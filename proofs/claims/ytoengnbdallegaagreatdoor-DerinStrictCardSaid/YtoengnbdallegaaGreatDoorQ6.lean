/- What the last text leans on, part 7 of 7: merged out of smaller texts. No condition. -/
import Derived.Shelf.SlGeneric
import Derived.Ground.SlgnProg
import Derived.Test.YtoengnbdallegaaGreatDoorChecked
import Derived.Test.YtoengnbdallegaaGreatDoorCards
import Derived.KernelRfl
import Derived.Test.YtoengnbdallegaaGreatDoorQ5
open Int renaming ofNat -> AA,negSucc -> BZ,tmod -> GH
open Nat renaming reduceLeDiff -> AB,reduceEqDiff -> AD,reduceLT -> AG,le_refl -> AL,beq_eq -> AQ,beq -> AY,ble -> Ac,add -> Ar,lt_or_ge -> A1,ble_eq -> BB,le_trans -> BJ,zero_add -> Bc,mul_one -> CE,eq_of_beq_eq_true -> CL,le_of_ble_eq_true -> DR,not_lt_zero -> Dd,add_sub_cancel_left -> Eu,lt_irrefl -> FX,zero_le -> Gz,le_add_right -> H3,beq_refl -> Rb,mod_lt -> tq
open Bool renaming and_eq_true -> AJ,or_eq_true -> BC,or_eq_false_iff -> BM,false_or -> Ct,true_and -> DW,eq_iff_iff -> De,and_true -> Fa,not_eq_true -> Fe,noConfusion -> H7,false_and -> Rh
open Option renaming some -> AM
open List renaming length_append -> AS,replicate -> AW,mem_cons -> Al,getElem?_eq_getElem -> Am,length_cons -> As,getElem?_eq_some_iff -> BE,getElem?_append_right -> BL,all_cons -> Bh,getD_eq_getElem?_getD -> Bj,getElem?_append_left -> B6,getElem?_drop -> CT,append_nil -> CZ,drop_zero -> Cq,nil_append -> DB,take_length -> DF,mem_singleton -> Dk,take_of_length_le -> D4,length_singleton -> EI,not_mem_nil -> EU,cons_append -> H5,getElem?_take -> Iq,drop_eq_getElem_cons -> Lv,forall_mem_cons -> Xy
set_option linter.all false
set_option maxRecDepth 100000
namespace Go.Proofs.YtoengnbdallegaaGreatDoor
open Go Go.Og
noncomputable section
def Rj (Z0 Z:H) (v:V) (pls:List (List Int)):Prop:=∃pvs:List V,JV Z 1 pls.length v pvs/\(∀b,A0 v b->Z0.next<=b)/\∀(i:Nat) (l:List Int),pls[i]? = some l->∃u,pvs[i]? = some u/\By Z u l/\∀b,A0 u b->¬A0 v b
theorem Rj.nil (Z0 Z:H):Rj Z0 Z .nils []:=⟨[],JV.nil Z 1,fun _ h=>h.elim,fun i l h=>by simp at h⟩
theorem Rj.one {Z0 Z:H} {v:V} {pls:List (List Int)} (h:Rj Z0 Z v pls):v.one=true:=by obtain⟨_,h,_⟩:=h;exact h.one
theorem Rj.fr {Z0 Z Z':H} {v:V} {pls:List (List Int)} (h:Rj Z0 Z v pls) (f:Fr AF Z Z') (ht:Ao Z):Rj Z0 Z' v pls:=by
 obtain⟨pvs,h1,h2,h3⟩:=h
 exact⟨pvs,h1.fr f ht (fun _ _ h=>h),h2,fun i l hi=>by obtain⟨u,a,b,c⟩:=h3 i l hi;exact⟨u,a,b.fr f ht,c⟩⟩
theorem Rj.app {E:EB} {Z0 Z:H} {v u:V} {pls:List (List Int)} {l:List Int} {xb:Nat} (h:Rj Z0 Z v pls) (f0:Fr AF Z0 Z) (hu:By Z u l) (hun:∀b,A0 u b->¬A0 v b) (hx:CM Z xb [u]) (hn:pls.length<=10000) :
  ∃v' Z',(∀J:V->H->AH,C8 E 1 24 v (.sl xb 0 1 (.ex 1)) Z J=J v' Z')/\Rj Z0 Z' v' (pls++[l])/\Fr AF Z0 Z'/\Fr (A0 v) Z Z'/\v'.one=true/\(∀b,A0 v' b->Z.next<=b):=by
 obtain⟨pvs,h1,h2,h3⟩:=h
 obtain⟨Z',g,a,n,f⟩:=OI (E:=E) (bytes:=24) (n:=1) h1 f0.tidy (x := .sl xb 0 1 (.ex 1)) (m:=[u]) (.inr ⟨xb,0,_,[u],rfl,hx,by simp,rfl⟩) (by decide) (by simp[allOne,hu.one]) (by
  unfold CO
  simp only[AJ,BB];omega)
 have hlen:=h1.length
 have keep:∀w m,By Z w m->(∀b,A0 w b->¬A0 v b)->By Z' w m:=fun w m hw hn=>HN.fr hw f f0.tidy hn
 have fresh:∀w m,By Z w m->∀b,A0 w b->¬A0 (V.sl Z.next 0 (pls.length+1) (.op 1)) b:=fun w m hw b hb hb'=>by
  have:=HN.lt hw f0.tidy hb
  have hb':b=Z.next:=hb'
  omega
 refine⟨_,Z',g,⟨pvs++[u],?_,fun b hb=>by cases hb;exact f0.le,fun i l' hi=>?_⟩,f0.trans f (fun b hb hn=>by have:=h2 b hn;omega),f,rfl,fun b hb=>by cases hb;exact AL _⟩
 ·rw[AS]
  exact .inl (.inr ⟨Z.next,rfl,a,by simp,by simp;omega⟩)
 ·by_cases hl:i<pls.length
  ·rw[B6 hl]at hi
   obtain⟨w,w1,w2,w3⟩:=h3 i l' hi
   exact⟨w,by rw[B6 (by omega)];exact w1,keep w _ w2 w3,fresh w _ w2⟩
  ·have hlt:=(BE.1 hi).1
   rw[AS,EI]at hlt
   have hi':i=pls.length:=by omega
   subst hi'
   rw[BL (AL _)]at hi
   simp at hi
   subst hi
   exact⟨u,by rw[BL (by omega)];simp[hlen],keep u _ hu hun,fresh u _ hu⟩
inductive sp (D:Ai) (Z0:H) (p:Nat) (f:Fd) (v:Vc):Option (List Int)->Prop
 | abs (h:v=Vc.abs):sp D Z0 p f v none
 | val {j:Nat} {l:List Int} (h:Bv v.k (AA 0)=false) (hj:f.type=AA j) (hb:V.beq (.agg v.c) (.agg v.c)=true) (hE:∀Z1,Fr AF Z0 Z1->Gj (D 42) [.ptr p 0,.int .i64 (AA j),.agg v.c] Z1 l):sp D Z0 p f v (some l)
def Dx (pts:Nat->Option (List Int)):Nat->Nat->List (List Int)
 | 0,_=>[]
 | m+1,k=>(pts k).toList++Dx pts m (k+1)
def iB (F:List V->H->AH):Prop:=∀{Z:H} (v:Vc),Ao Z->Bv v.k (AA 0)=false->(∃a b c,GM v.b a/\GM v.l b/\GM v.m c)->∃Z',F [.agg v.c] Z=some (.bool false,Z')/\Fr AF Z Z'
section
variable {E:EB} {D:Ai} {W:AI} {N:Nat} {Z Z':H} {p:Nat}
theorem ADR (hP:FH (D 99)):iB (UY E D W N):=by
 intro Z v ht hk ⟨a,b,c,h1,h2,h3⟩
 obtain⟨Z',g,f⟩:=Sh (E:=E) (W:=W) (N:=N) hP ht (k:=v.k) (n:=v.n) (r:=v.r) h1 h2 h3
 rw[hk,Rh]at g
 exact⟨Z',g,f⟩
theorem fz {Z0:H} {b4 b5 b9 k j nf:Nat} {x:Ty} {fd:Nat->Fd} {v7 v13:V} {v14:Int} {pls:List (List Int)} {w:Vc} {l:List Int} (f0:Fr AF Z0 Z) (a4:CM Z b4 x.c) (a9:CM Z b9 w.c) (hb4:¬A0 v7 b4) (hb9:¬A0 v7 b9) (hf:Fj Z 11 nf x.fields fun k=>(fd k).c) (hfn:∀b,A0 x.fields b->¬A0 v7 b) (hk:k<nf) (hj:(fd k).type=AA j) (hP:Rj Z0 Z v7 pls) (hwb:V.beq (.agg w.c) (.agg w.c)=true) (hn:pls.length<=10000) (h13:v13.live=true)
    (hE:∀Z1,Fr AF Z Z1->Gj (D 42) [.ptr p 0,.int .i64 (AA j),.agg w.c] Z1 l) :
    ∃env v' Z',AT E D P2 S8 [(0,.ptr p 0),(4,.ptr b4 0),(5,.ptr b5 0),(7,v7),(8,.int .i64 (AA k)),(9,.ptr b9 0),(13,v13),(14,.int .i64 v14),(15,.int .i64 (AA k))] Z=some (env,Z') /\
      (Go.Og.look env 0=some (.ptr p 0)/\Go.Og.look env 4=some (.ptr b4 0)/\Go.Og.look env 5=some (.ptr b5 0)/\Go.Og.look env 7=some v'/\Go.Og.look env 13=some v13/\Go.Og.look env 14=some (.int .i64 v14)/\Go.Og.look env 15=some (.int .i64 (AA k)))/\Rj Z0 Z' v' (pls++[l])/\Fr AF Z0 Z'/\v'.live=true/\Fr (A0 v7) Z Z'/\(∀b,A0 v' b->Z.next<=b):=by
  have ht:=f0.tidy
  have fw:Fr AF Z ⟨Z.next+13,Z.bl⟩:=⟨ht.wide 13,H3 _ _,fun _ _ _=>rfl⟩
  obtain⟨u1,Z1,g1,h1,f1⟩:=hE ⟨Z.next+13,Z.bl⟩ fw
  have le1:Z.next+13<=Z1.next:=f1.le
  have f01:Fr AF Z Z1:=f1.wide
  let Zb:H:=⟨Z1.next,(Z.next+10,.cells [u1])::Z1.bl⟩
  have fb1:Fr AF Z Zb:=⟨fun c hc=>by
    have hc:Z1.next<=c:=hc
    show BG ((Z.next+10,_)::Z1.bl) c=none
    rw[Av,if_neg (by simp only[];omega)];exact f1.tidy c hc,f01.le,fun c hc _=>by
    show BG ((Z.next+10,_)::Z1.bl) c=_
    rw[Av,if_neg (by simp only[];omega)];exact f01.same c hc (fun h=>h)⟩
  have ab:CM Zb (Z.next+10) [u1]:=by
    show BG ((Z.next+10,_)::Z1.bl) _=_
    rw[Av,if_pos rfl]
  have hun:∀b,A0 u1 b->Z.next+13<=b:=h1.2
  have hu:By Zb u1 l:=by
    have hs:=h1.by_
    rcases hs with h|⟨b,o,c,L,rfl,ha,hl,hm⟩
    · exact .inl h
    · have hb:Z.next+13<=b:=hun b rfl
      refine .inr ⟨b,o,c,L,rfl,?_,hl,hm⟩
      show BG ((Z.next+10,_)::Z1.bl) b=_
      rw[Av,if_neg (by simp only[];omega)];exact ha
  have v7lt:∀b,A0 v7 b->b<Z.next:=fun b hb=>by
    obtain⟨pvs,hd,_⟩:=hP
    exact hd.lt ht hb
  obtain⟨v',Z2,g2,h2,f2,f2',o2,nw⟩:=(hP.fr fb1 ht).app (E:=E) (f0.trans fb1 (fun _ _ h=>h)) hu (fun b hb hb'=>by have:=hun b hb;have:=v7lt b hb';omega) ab hn
  obtain⟨fb,c,L,ef,aL,hc⟩:∃fb c L,x.fields = .sl fb 0 nf c/\CM Z fb L/\∀k,k<nf->tM L 11 k (fd k).c:=by
    rcases hf.is with ⟨h0,_⟩|h
    · omega
    · exact h
  have nL:¬A0 v7 fb:=hfn fb (by rw[ef];exact rfl)
  have gL:L[0+k*11+1]? = some (.int .i64 (AA j)):=by
    have h3:((L.drop (k*11)).take 11)[1]? = some (.int .i64 (AA j)):=by rw[(hc k hk).2,<-hj];rfl
    rw[Iq,if_pos (by decide),CT]at h3
    rw[Bc];exact h3
  have hxb:V.beq x.fields x.fields=true:=by rw[ef];cases c<;>simp[V.beq]
  have go:E8 E D Z 13 0 (A0 v7) P2 S8 ⟨[(0,.ptr p 0),(4,.ptr b4 0),(5,.ptr b5 0),(7,v7),(8,.int .i64 (AA k)),(9,.ptr b9 0),(13,v13),(14,.int .i64 v14),(15,.int .i64 (AA k))],Z.next+13,[Z.bl],[],0,[]⟩ _ Z2:=
    Cp v7 rfl (EJ rfl (Bb hP.one)) <|
    Cp (.ptr p 0) rfl rfl <|
    Cp (.ptr b4 9) rfl rfl <|
    J3 x.fields (CW ht) rfl (EE (b:=b4) (off:=9) rfl a4 rfl ht hb4 hxb) fun _ r1=>
    Cp (.int .i64 (AA k)) rfl rfl <|
    Cp (.ptr fb (0+k*11)) rfl (JH ef rfl hk) <|
    Cp (.ptr fb (0+k*11+1)) rfl rfl <|
    J3 (.int .i64 (AA j)) r1 rfl (EE (b:=fb) (off:=0+k*11+1) rfl aL gL ht nL (CX _ rfl)) fun _ r2=>
    J3 (.agg w.c) r2 rfl (FF (b:=b9) (off:=0) (m:=6) rfl a9 rfl rfl ht hb9 hwb) fun _ r3=>
    KU u1 r3 rfl (by decide) (S':=AF) f1 (fun _ _ h=>h.elim) (fun _ h _ _=>h) (D3 (vs:=[.ptr p 0,.int .i64 (AA j),.agg w.c]) rfl rfl g1) fun _ _ _ r4=>
    XG (.sl (Z.next+10) 0 1 (.ex 1)) (.cells [u1]) 1024 r4 rfl (by decide) (by decide) (T2 rfl h1.1.one) fun _ r5=>
    KU v' r5 rfl (by decide) (S':=A0 v7) f2' (fun _ _ h=>h) (fun b h h1 _=>by have:=v7lt b h;omega) (NM rfl rfl g2) fun _ _ _ r6=>
    Cp v' rfl (EJ rfl (Bb o2)) <|
    Hx r6
  obtain⟨d1,d2⟩:=GK (ops:=P2) go
  exact⟨_,v',Z2,d1,⟨rfl,rfl,rfl,rfl,rfl,rfl,rfl⟩,h2,f2,Bb o2,d2,fun b hb=>BJ f01.le (nw b hb)⟩
theorem Y3 (hA:Sz (D 107)) (hN':iB (D 107)) {Z0:H} {x:Ty} {nf b5 qx:Nat} {fd:Nat->Fd} {g:Nat->Vc} {l:V} {pts:Nat->Option (List Int)} (hF:∀k,k<nf->sp D Z0 p (fd k) (g k) (pts k)/\∃a b c,GM (g k).b a/\GM (g k).l b/\GM (g k).m c) (ht0:Ao Z0) (hqx:qx<Z0.next) (ax:CM Z0 qx x.c) (hf:Fj Z0 11 nf x.fields fun k=>(fd k).c) (hr:Fj Z0 6 nf l (fun k=>(g k).c)) (hnf:nf<=1000) :
  ∀(m n' k:Nat) (Z:H) (v:V) (pls:List (List Int)),k+m=nf->m<n'->pls.length<=k->Fr AF Z0 Z->Rj Z0 Z v pls ->
   ∃v' Z',S5 E D (AT E D) N n' (.ptr p 0) qx 0 b5 0 v l (AA nf) (AA k) Z=Wf E D (AT E D) N qx 0 b5 0 v' Z'/\Rj Z0 Z' v' (pls++Dx pts m k)/\(pls++Dx pts m k).length<=nf/\Fr AF Z0 Z':=by
 intro m
 induction m with
 | zero=>
  intro n' k Z v pls hk hn' hp f0 hP
  obtain⟨n',rfl⟩:∃q,n'=q+1:=⟨n'-1,by omega⟩
  refine⟨v,Z,?_,by rw[show Dx pts 0 k=[] from rfl,CZ];exact hP,by rw[show Dx pts 0 k=[] from rfl,CZ];omega,f0⟩
  have d1:decide (k<nf)=false:=decide_eq_false (by omega)
  show ON E D (AT E D) _ _ (.ptr p 0) qx 0 b5 0 v l (AA nf) (AA k) Z=_
  unfold ON
  rw[EZ,d1,Cn]
 | succ m ih=>
  intro n' k Z v pls hk hn' hp f0 hP
  obtain⟨n',rfl⟩:∃q,n'=q+1:=⟨n'-1,by omega⟩
  have hlt:k<nf:=by omega
  have ht:=f0.tidy
  have rd:∀J,AV 6 l (AA k) (fun b o=>BP E Z b o 6 J)=J (g k).c:=fun J=>(hr.fr0 f0 ht0).all hlt J
  obtain⟨Z1,e1,f1,a1,n1⟩:=Jo ht EW
  obtain⟨Z2,g2,f2,a2,n2⟩:=Ff (n:=6) (o:=0) (v := .agg (g k).c) f1.tidy a1 (by
   show (AY 6 6&&Ac (0+6) 6&&allOne (g k).c)=true
   rw[(g k).allOne];rfl)
  have a2:CM Z2 Z.next (g k).c:=a2
  have F2:Fr AF Z Z2:=f1.trans f2 (fun b hb e=>by omega)
  have d1:decide (k<nf)=true:=decide_eq_true hlt
  obtain⟨hfe,hlen⟩:=hF k hlt
  have vlt:∀b,A0 v b->b<Z.next:=fun b hb=>by obtain⟨_,hd,_⟩:=hP;exact hd.lt ht hb
  have vge:∀b,A0 v b->Z0.next<=b:=by obtain⟨_,_,h,_⟩:=hP;exact h
  have n0:=f0.le
  show ∃v' Z',ON E D (AT E D) _ (Sj E D (AT E D) (S5 E D (AT E D) N n')) (.ptr p 0) qx 0 b5 0 v l (AA nf) (AA k) Z=_/\_
  unfold EW at e1
  rcases hpk:pts k with _|el
  ·rw[hpk]at hfe
   cases hfe with
   | abs h=>
    obtain⟨Z3,g3,f3⟩:=hA F2.tidy
    have F3:Fr AF Z Z3:=F2.trans f3 (fun _ _ h=>h)
    obtain⟨v',Z',g',h1,h2,h3⟩:=ih n' (k+1) Z3 v pls (by omega) (by omega) (by omega) (f0.trans F3 (fun _ _ h=>h)) (hP.fr F3 ht)
    have ep:Dx pts (m+1) k=Dx pts m (k+1):=by
     show (pts k).toList++_=_
     rw[hpk];rfl
    rw[ep]
    refine⟨v',Z',?_,h1,h2,h3⟩
    rw[<-g']
    rw[h]at rd g2 a2
    unfold Vc.c Vc.abs at rd g2 g3 a2
    unfold ON Sj
    simp -implicitDefEqProofs only [↓rP,rA,AD,AG,AB,d1,↓rd,↓e1,↓g2,↓Az a2,↓g3,CG (show k+1<=9223372036854775807 by omega)]
  ·rw[hpk]at hfe
   cases hfe with
   | @val j _ hv hj hb hE=>
    obtain⟨Z3,g3,f3⟩:=hN' (g k) F2.tidy hv hlen
    have F3:Fr AF Z Z3:=F2.trans f3 (fun _ _ h=>h)
    have F03:=f0.trans F3 (fun _ _ h=>h)
    obtain⟨ev,v',Z4,d,⟨y0,y4,y5,y7,O4,X2,Uv⟩,hP4,f4,vl,f34,nv4⟩:=fz (E:=E) (D:=D) (p:=p) (b5:=b5) (v13:=l) (v14:=AA nf) F03 (F03.at_ ax ht0 (fun h=>h)) (f3.at_ a2 F2.tidy (fun h=>h)) (fun e=>by have:=vge _ e;omega) (fun e=>by have:=vlt _ e;omega) (hf.fr0 F03 ht0) (fun b hb e=>by
     have:=vge b e
     rcases hf.is with ⟨h0,_⟩|⟨q,c,L,h,ha,_⟩
     ·omega
     ·rw[h]at hb
      have hb:b=q:=hb
      have:=ha.lt ht0
      omega) hlt hj (hP.fr F3 ht) hb (by omega) (Bb hr.len.1) (fun Z1 f=>hE Z1 (F03.trans f (fun _ _ h=>h)))
    obtain⟨v'',Z',g',h1,h2,h3⟩:=ih n' (k+1) Z4 v' (pls++[el]) (by omega) (by omega) (by rw[AS,EI];omega) f4 hP4
    have ep:pls++Dx pts (m+1) k=(pls++[el])++Dx pts m (k+1):=by
     show pls++((pts k).toList++_)=_
     rw[hpk];simp
    rw[ep]
    refine⟨v'',Z',?_,h1,h2,h3⟩
    rw[<-g']
    have gd:∀J:Bp->H->AH,Ch (AT E D P2 S8 [(0,.ptr p 0),(4,.ptr qx 0),(5,.ptr b5 0),(7,v),(8,.int .i64 (AA k)),(9,.ptr Z.next 0),(13,l),(14,.int .i64 (AA nf)),(15,.int .i64 (AA k))] Z3) J=J ev Z4:=fun J=>by rw[d];rfl
    have z0:∀J:V->AH,BO ev 0 J=J (.ptr p 0):=fun J=>BQ y0 rfl
    have z4:∀J:V->AH,BO ev 4 J=J (.ptr qx 0):=fun J=>BQ y4 rfl
    have z5:∀J:V->AH,BO ev 5 J=J (.ptr b5 0):=fun J=>BQ y5 rfl
    have z7:∀J:V->AH,BO ev 7 J=J v':=fun J=>BQ y7 vl
    have z13:∀J:V->AH,BO ev 13 J=J l:=fun J=>BQ O4 (Bb hr.len.1)
    have z14:∀J:V->AH,BO ev 14 J=J (.int .i64 (AA nf)):=fun J=>BQ X2 rfl
    have z15:∀J:V->AH,BO ev 15 J=J (.int .i64 (AA k)):=fun J=>BQ Uv rfl
    unfold Vc.c at rd g2 g3 a2
    unfold ON Sj
    simp -implicitDefEqProofs only [↓rP,rA,AD,AG,AB,d1,↓rd,(g k).oneB,(g k).oneL,(g k).oneM,↓e1,↓g2,↓Az a2,↓g3,↓gd,↓z0,↓z4,↓z5,↓z7,↓z13,↓z14,↓z15,CG (show k+1<=9223372036854775807 by omega)]
end
def V7 (E:EB) (F:List V->H->AH):Prop:=∀{Z:H} {l:List (Nat × Nat)} {tv v:V} {n:Nat} {pv:Nat->V} {pl:Nat->List Int} (made:Bool),Ao Z->HN Z 2 l.length tv (nQ l)->Vo l->Fj Z 1 n v (fun k=>[pv k])->(∀k,k<n->Bx E Z (pv k) (pl k))->n<=10000->(E0 pl n 0).length<50000->Gj F [tv,.bool made,v] Z (SA made l (E0 pl n 0))
theorem ui {E:EB} {F:List V->H->AH} (h:V7 E F):hU E F:=fun {Z l tv v p x} made ht hs hok hr hp hl=>by
 have:=h (n:=1) (pv:=fun _=>p) (pl:=fun _=>x) made ht hs hok hr (fun k hk=>hp) (by decide) (by simp[E0];omega)
 have e1:E0 (fun _=>x) 1 0=x:=by simp[E0]
 rw[e1]at this
 exact this
section
variable {E:EB} {D:Ai} {W:AI} {N:Nat}
theorem X4 (hJ:Gx E (D 105)) (hE:az E (D 106)) (hN:4<N):V7 E (uL E D W N):=by
 intro Z l tv v n pv pl made ht hs hok hr hp hn9 hl
 obtain⟨N,rfl⟩:∃m,N=m+5:=⟨N-5,by omega⟩
 obtain⟨u1,Z1,g1,h1,f1⟩:=hJ (pl:=pl) ht hr hp (by omega) hn9
 obtain⟨x,ex⟩:∃x,x=E0 pl n 0:=⟨_,rfl⟩
 rw[<-ex]at h1 hl ⊢
 have one:∀(Z0:H) (u:V) (y:List Int) (t:Nat × Nat) (mk:Bool),Fr AF Z Z0->Nb Z Z0 u y->((t.1=0\/t.1=2)/\t.2<16384)->y.length<60000 ->
   ∃Z2 u3 Z3,Bn Z0 (.cells [u])=Z2/\D 106 [.agg [.int .i64 (AA t.1),.int .i64 (AA t.2)],.bool mk,.sl Z0.next 0 1 (.ex 1)] Z2=some (u3,Z3)/\Nb Z Z3 u3 (Mz t.1 mk t.2 y)/\Fr AF Z Z3:=fun Z0 u y t mk f0 hu htg hy=>by
  obtain⟨Z2,e2,f2,a2,n2⟩:=Oy f0.tidy [u]
  obtain⟨u3,Z3,g3,h3,f3⟩:=hE (Z:=Z2) (n:=1) (pv:=fun _=>u) (pl:=fun _=>y) mk f2.tidy htg.1 htg.2 (YI a2) (fun k hk=>Bx.of (hu.fr f2 f0.tidy).by_ f2.tidy) (by simp[E0];omega) (by omega)
  have f02:=f0.trans f2 (fun _ _ h=>h)
  have e:E0 (fun _=>y) 1 0=y:=by simp[E0]
  rw[e]at h3
  exact⟨Z2,u3,Z3,e2,g3,h3.mono f02.le,f02.trans f3 (fun _ _ h=>h)⟩
 have sl:∀J:Nat->AH,A6 tv J=J l.length:=fun J=>hs.slen
 have key0:∀K,Vu E D W K tv made v Z=K tv made u1 (Dt .i64 (AA l.length) (AA 1)) Z1:=fun K=>by
  have o1:=h1.1.one
  unfold Vu
  simp -implicitDefEqProofs only [↓rP,rA,AD,AG,AB,↓g1,↓Aj o1,↓sl]
 have endd:∀(R:V->Bool->V->Int->H->AH) (u:V) (Z':H),Lg E D W (j9 E D W) R tv made u (BZ 0) Z'=some (u,Z'):=fun R u Z'=>rfl
 obtain⟨hlen,htags⟩:=hok
 match l,hlen,hs,htags,sl,key0 with
 | [t],_,hs,htags,sl,key0=>
  obtain⟨Z2,u3,Z3,e2,g3,h3,f3⟩:=one Z1 u1 x t made f1 h1 (htags t (by simp)) (by omega)
  have rd:=Qg (E:=E) (hs.fr f1 ht (fun _ _ h=>h)) (i:=0) (t:=t) rfl (by simp)
  have o1:=h1.1.one
  have o3:=h3.1.one
  have fl1:∀J:List V->AH,D6 [(0,1,u1)] [V.nils] J=J [u1]:=fun J=>Go.Og.fill1 o1 J
  have fl3:∀J:List V->AH,D6 [(0,1,u3)] [V.nils] J=J [u3]:=fun J=>Go.Og.fill1 o3 J
  have oo1:allOne [u1]=true:=by simp[Bk,B4,o1]
  have oo3:allOne [u3]=true:=by simp[Bk,B4,o3]
  have sb:Dt .i64 (AA 1) (AA 1)=AA 0:=rfl
  have sb2:Dt .i64 (AA 0) (AA 1)=BZ 0:=rfl
  have sl:∀J:Nat->AH,A6 tv J=J 1:=sl
  have step:∀K R,Lg E D W K R tv made u1 (AA 0) Z1=R tv made u3 (BZ 0) Z3:=fun K R=>by
   unfold Lg
   cases made with
   | true=>simp -implicitDefEqProofs only [↓rP,rA,AD,AG,AB,↓rd,↓fl1,o1,↓e2,↓g3,↓Aj o3,sb2,AL]
   | false=>simp -implicitDefEqProofs only [↓rP,rA,AD,AG,AB,↓rd,↓sl,sb,FX,↓fl1,o1,↓e2,↓g3,↓Aj o3,sb2,AL]
  refine⟨u3,Z3,?_,h3,f3⟩
  exact(key0 _).trans ((step _ _).trans (endd _ _ _))
 | [t,s],_,hs,htags,sl,key0=>
  obtain⟨Z2,u3,Z3,e2,g3,h3,f3⟩:=one Z1 u1 x s made f1 h1 (htags s (by simp)) (by omega)
  have le:=gD s.1 made s.2 x
  obtain⟨Z4,u5,Z5,e4,g5,h5,f5⟩:=one Z3 u3 _ t true f3 h3 (htags t (by simp)) (by omega)
  have rd1:=Qg (E:=E) (hs.fr f1 ht (fun _ _ h=>h)) (i:=1) (t:=s) rfl (by simp)
  have rd0:=Qg (E:=E) (hs.fr f3 ht (fun _ _ h=>h)) (i:=0) (t:=t) rfl (by simp)
  have o1:=h1.1.one
  have o3:=h3.1.one
  have fl1:∀J:List V->AH,D6 [(0,1,u1)] [V.nils] J=J [u1]:=fun J=>Go.Og.fill1 o1 J
  have fl3:∀J:List V->AH,D6 [(0,1,u3)] [V.nils] J=J [u3]:=fun J=>Go.Og.fill1 o3 J
  have oo1:allOne [u1]=true:=by simp[Bk,B4,o1]
  have oo3:allOne [u3]=true:=by simp[Bk,B4,o3]
  have o5:=h5.1.one
  have sb:Dt .i64 (AA 2) (AA 1)=AA 1:=rfl
  have sb1:Dt .i64 (AA 1) (AA 1)=AA 0:=rfl
  have sb2:Dt .i64 (AA 0) (AA 1)=BZ 0:=rfl
  have sl:∀J:Nat->AH,A6 tv J=J 2:=sl
  have d01:decide (0<=1)=true:=rfl
  have l01:decide (0<1)=true:=rfl
  have step1:∀K R,Lg E D W K R tv made u1 (AA 1) Z1=R tv made u3 (AA 0) Z3:=fun K R=>by
   unfold Lg
   cases made with
   | true=>simp -implicitDefEqProofs only [↓rP,rA,AD,AG,AB,↓rd1,↓fl1,o1,↓e2,↓g3,↓Aj o3,sb1,d01]
   | false=>simp -implicitDefEqProofs only [↓rP,rA,AD,AG,AB,↓rd1,↓sl,sb,FX,↓fl1,o1,↓e2,↓g3,↓Aj o3,sb1,d01]
  have step0:∀K R,Lg E D W K R tv made u3 (AA 0) Z3=R tv made u5 (BZ 0) Z5:=fun K R=>by
   unfold Lg
   cases made with
   | true=>simp -implicitDefEqProofs only [↓rP,rA,AD,AG,AB,↓rd0,↓fl3,o3,↓e4,↓g5,↓Aj o5,sb2,AL]
   | false=>simp -implicitDefEqProofs only [↓rP,rA,AD,AG,AB,↓rd0,↓sl,sb,l01,↓fl3,o3,↓e4,↓g5,↓Aj o5,sb2,AL]
  refine⟨u5,Z5,?_,h5,f5⟩
  exact(key0 _).trans ((step1 _ _).trans ((step0 _ _).trans (endd _ _ _)))
end
theorem VT (pls:List (List Int)):∀(m i:Nat),i+m=pls.length->E0 (fun k=>pls.getD k []) m i=(pls.drop i).flatten
 | 0,i,h=>by rw[List.drop_eq_nil_of_le (by omega)];rfl
 | m+1,i,h=>by
  have hi:i<pls.length:=by omega
  have e:pls.getD i []=pls[i]:=by rw[Bj,Am hi];rfl
  rw[Lv hi]
  show pls.getD i []++E0 _ m (i+1)=_
  rw[e,VT pls m (i+1) (by omega)];rfl
theorem Rj.row {Z0 Z:H} {v:V} {pls:List (List Int)} (h:Rj Z0 Z v pls):∃pv:Nat->V,Fj Z 1 pls.length v (fun k=>[pv k])/\∀k,k<pls.length->By Z (pv k) (pls.getD k []):=by
 obtain⟨pvs,h1,h2,h3⟩:=h
 have hl:pvs.length=pls.length:=by rw[h1.length,CE]
 refine⟨fun k=>pvs.getD k .nils,⟨?_⟩,fun k hk=>?_⟩
 ·have cel:∀k,k<pls.length->tM pvs 1 k [pvs.getD k .nils]:=fun k hk=>⟨by omega,by
   rw[CE,Lv (by omega),Bj,Am (by omega)];rfl⟩
  rcases h1 with (⟨h0,rfl,_⟩|⟨b,rfl,ha,_,_⟩)|⟨b,rfl,ha,_⟩
  ·exact .inl ⟨h0,rfl⟩
  ·exact .inr ⟨b,_,_,rfl,ha,cel⟩
  ·exact .inr ⟨b,_,_,rfl,ha,cel⟩
 ·obtain⟨u,q1,q2,_⟩:=h3 k _ (Am hk)
  have e1:pvs.getD k .nils=u:=by rw[Bj,q1];rfl
  have e2:pls.getD k []=pls[k]:=by rw[Bj,Am hk];rfl
  show By Z (pvs.getD k .nils) _
  rw[e1,e2]
  exact q2
structure yF (D:Ai) (Z:H) (p nf:Nat) (x:Ty) (fd:Nat->Fd) (g:Nat->Vc) (l:V) (pts:Nat->Option (List Int)):Prop where
 f:∀k,k<nf->sp D Z p (fd k) (g k) (pts k)/\∃a b c,GM (g k).b a/\GM (g k).l b/\GM (g k).m c
 row:Fj Z 11 nf x.fields fun k=>(fd k).c
 val:Fj Z 6 nf l fun k=>(g k).c
 few:nf<=1000
theorem sp.fr {D:Ai} {Z Z':H} {p:Nat} {f:Fd} {v:Vc} {o:Option (List Int)} (h:sp D Z p f v o) (hf:Fr AF Z Z'):sp D Z' p f v o:=by
 cases h with
 | abs h=>exact .abs h
 | val h hj hb hE=>exact .val h hj hb fun Z1 f=>hE Z1 (hf.trans f (fun _ _ h=>h))
theorem yF.fr {D:Ai} {Z Z':H} {p nf:Nat} {x:Ty} {fd:Nat->Fd} {g:Nat->Vc} {l:V} {pts:Nat->Option (List Int)} (h:yF D Z p nf x fd g l pts) (f:Fr AF Z Z') (ht:Ao Z):yF D Z' p nf x fd g l pts:=
 ⟨fun k hk=>⟨(h.f k hk).1.fr f,(h.f k hk).2⟩,h.row.fr0 f ht,h.val.fr0 f ht,h.few⟩
def bA (F:List V->H->AH) (D:Ai):Prop:=∀{Z:H} {p nf:Nat} {x:Ty} {fd:Nat->Fd} {g:Nat->Vc} {l:V} {hl:l.one=true} {pts:Nat->Option (List Int)},Ao Z->x.kind=AA 7->yF D Z p nf x fd g l pts ->
 ∃u Z',F [.ptr p 0,.agg x.c,.agg (Vr 7 l hl (AA 0) .nils rfl).c] Z=some (u,Z')/\Rj Z Z' u (Dx pts nf 0)/\(Dx pts nf 0).length<=nf/\Fr AF Z Z'
section
variable {E:EB} {D:Ai} {N:Nat}
theorem wE (hA:Sz (D 107)) (hN':iB (D 107)) (hN:1000<N):bA (uK E D (AT E D) N) D:=by
 intro Z p nf x fd g l hl pts ht hk hR
 obtain⟨Z1,e1,f1,a1,n1⟩:=Jo ht x.c
 obtain⟨Z2,e2,f2,a2,n2⟩:=Jo f1.tidy (Vr 7 l hl (AA 0) .nils rfl).c
 have f02:=f1.trans f2 (fun _ _ h=>h)
 have hR2:=hR.fr f02 ht
 have a12:=f2.at_ a1 f1.tidy (fun h=>h)
 have few:=hR.few
 obtain⟨v',Z3,g3,h1,h2,f3⟩:=Y3 (E:=E) (N:=N) (b5:=Z1.next) (qx:=Z.next) hA hN' hR2.f f02.tidy (by omega) a12 hR2.row hR2.val few nf N 0 Z2 .nils [] (by omega) (by omega) (Gz _) (Fr.refl f02.tidy) (Rj.nil _ _)
 rw[DB]at h1 h2
 have a13:=f3.at_ a12 f2.tidy (fun h=>h)
 have a23:CM Z3 Z1.next (Vr 7 l hl (AA 0) .nils rfl).c:=f3.at_ a2 f2.tidy (fun h=>h)
 have le2:=f02.le
 refine⟨v',Z3,?_,?_,h2,f02.trans f3 (fun _ _ h=>h)⟩
 ·have sl:=hR.val.len.2
  have l3:∀J:V->AH,BY E Z2 Z1.next 3 J=J l:=fun J=>CU a2 rfl
  have l5:∀J:V->AH,BY E Z3 Z1.next (Ar 0 5) J=J .nils:=fun J=>CU a23 rfl
  have l0:∀J:V->AH,BY E Z3 Z.next 0 J=J (.int .i64 (AA 7)):=fun J=>CU a13 (by rw[<-hk];rfl)
  obtain⟨N,rfl⟩:∃q,N=q+1:=⟨N-1,by omega⟩
  have t5:cF E D (AT E D) (N+1) (N+1) Z.next 0 v' .nils (AA 0) (AA 0) Z3=some (v',Z3):=by
   show Vq E D (AT E D) (Vs E D (AT E D) (Zi E D (AT E D))) _ Z.next 0 v' .nils (AA 0) (AA 0) Z3=_
   unfold Vq Vs Zi
   simp -implicitDefEqProofs only [↓rP,rA,AD,AG,AB,show decide (0<0)=false from rfl,↓l0,Bl,show decide (7=8)=false from rfl]
  have t1:Wf E D (AT E D) (N+1) Z.next 0 Z1.next 0 v' Z3=some (v',Z3):=by
   rw[<-t5]
   show Vt E D (AT E D) _ Z.next 0 Z1.next 0 v' Z3=_
   unfold Vt
   simp -implicitDefEqProofs only [↓rP,rA,AD,AG,AB,↓l5]
   all_goals rfl
  rw[<-t1,<-g3]
  unfold Vc.c Vr at e2
  unfold Ty.c at e1
  show Sk E D (AT E D) (S5 E D (AT E D) (N+1) (N+1)) (.ptr p 0) x.kind x.tags x.has x.hasLow x.hasHigh x.conMore x.low x.high x.items x.fields x.root x.more x.of_ (AA 7) (AA 0) .nils l (AA 0) .nils Z=_
  have key:∀K,Sk E D (AT E D) K (.ptr p 0) x.kind x.tags x.has x.hasLow x.hasHigh x.conMore x.low x.high x.items x.fields x.root x.more x.of_ (AA 7) (AA 0) .nils l (AA 0) .nils Z=K (.ptr p 0) Z.next 0 Z1.next 0 .nils l (AA nf) (AA 0) Z2:=by
   intro K
   unfold Sk Gk
   simp -implicitDefEqProofs only [↓rP,rA,AD,AG,AB,D7,hl,x.oneT,x.oneI,x.oneF,↓e1,↓e2,↓l3,↓sl]
  exact key _
 ·obtain⟨pvs,q1,q2,q3⟩:=h1
  exact⟨pvs,q1,fun b hb=>by have:=q2 b hb;omega,q3⟩
end
def bB (D':Ai) (F:List V->H->AH):Prop:=∀{Z:H} {p nT i nf:Nat} {ty:Nat->Ty} {nm:BS} {nv rv tv l:V} {hl:l.one=true} {fd:Nat->Fd} {g:Nat->Vc} {pts:Nat->Option (List Int)},Ao Z->Ck Z p nT ty nm nv rv tv []->i<nT->(ty i).kind=AA 7->HN Z 2 1 (ty i).tags (nQ [(0,16)])->V.beq (ty i).items (ty i).items=true->yF D' Z p nf (ty i) fd g l pts->0<nf->(Dx pts nf 0).flatten.length<50000 ->
 Gj F [.ptr p 0,.int .i64 (AA i),.agg (Vr 7 l hl (AA 0) .nils rfl).c] Z (Mz 0 true 16 (Dx pts nf 0).flatten)
section
variable {E:EB} {D D':Ai} {N:Nat}
theorem ZK (hF:bA (D 72) D') (hW:V7 E (D 71)):bB D' (sx E D (AT E D) N):=by
  intro Z p nT i nf ty nm nv rv tv l hl fd g pts ht hc hi hk htg hitm hR h0 hlen
  obtain⟨Z1,e1,f1,a1,n1⟩:=Jo ht (Vr 7 l hl (AA 0) .nils rfl).c
  have c1:=hc.fr f1 ht
  have rd:∀J,AV 13 tv (AA i) (fun b o=>BP E Z1 b o 13 J)=J (ty i).c:=fun J=>c1.row.all hi J
  obtain⟨Z2,e2,f2,a2,n2⟩:=Jo f1.tidy Ky
  obtain⟨Z3,g3,f3,a3,n3⟩:=Ff (n:=13) (o:=0) (v := .agg (ty i).c) f2.tidy a2 (by unfold Ty.c;simp[Ky,Ec,Bk,B4,ED,FE,(ty i).oneT,(ty i).oneI,(ty i).oneF])
  have a3:CM Z3 Z1.next (ty i).c:=a3
  have f02:=f1.trans f2 (fun _ _ h=>h)
  have le1:=f1.le
  have f03:Fr AF Z Z3:=f02.trans f3 (fun c hc h=>by omega)
  have a13:CM Z3 Z.next (Vr 7 l hl (AA 0) .nils rfl).c:=f3.at_ (f2.at_ a1 f1.tidy (fun h=>h)) f2.tidy (fun e=>by omega)
  have ttp:=fun J=>c1.types (E:=E) (J:=J)
  have hT3:=htg.fr f03 ht (fun _ _ h=>h)
  have fw:Fr AF Z3 ⟨Z3.next+8,Z3.bl⟩:=(CW (E:=E) (n:=8) (S:=AF) f3.tidy).fr
  have Fw:=f03.trans fw (fun _ _ h=>h)
  obtain⟨fv,Z4,g4,hP,hPl,f4⟩:=hF (hl:=hl) fw.tidy hk (hR.fr Fw ht)
  have few:=hR.few
  have le4:Z3.next+8<=Z4.next:=f4.le
  have f34:Fr AF Z3 Z4:=fw.trans f4 (fun _ _ h=>h)
  obtain⟨pv,hrow,hby⟩:=hP.row
  have ec:E0 (fun k=>(Dx pts nf 0).getD k []) (Dx pts nf 0).length 0=(Dx pts nf 0).flatten:=by
    rw[VT _ _ 0 (by omega),Cq]
  obtain⟨u,Z5,g5,h5,f5⟩:=hW (Z:=Z4) (l:=[(0,16)]) (pv:=pv) (pl:=fun k=>(Dx pts nf 0).getD k []) true f4.tidy (hT3.fr f34 f3.tidy (fun _ _ h=>h)) ⟨.inl rfl,fun t h=>by
    rw[Dk.1 h];exact⟨.inl rfl,by decide⟩⟩ hrow (fun k hk=>Bx.of (hby k hk) f4.tidy) (by omega) (by rw[ec];exact hlen)
  rw[ec]at h5
  have h5:Nb Z4 Z5 u (Mz 0 true 16 (Dx pts nf 0).flatten):=h5
  refine⟨u,Z5,?_,h5.mono (BJ f03.le f34.le),(f03.trans f34 (fun _ _ h=>h)).trans f5 (fun _ _ h=>h)⟩
  have bC:V.beq (.agg (ty i).c) (.agg (ty i).c)=true:=by
    have b1:V.beq (ty i).tags (ty i).tags=true:=by
      rcases htg with ⟨h,_,_⟩|⟨b,o,c,M',h,_⟩
      · omega
      · rw[h];cases c<;>simp[V.beq]
    have b3:V.beq (ty i).fields (ty i).fields=true:=by
      rcases hR.row.is with ⟨_,h⟩|⟨b,c,M',h,_⟩
      · rw[h];rfl
      · rw[h];cases c<;>simp[V.beq]
    unfold Ty.c
    simp[V.beq,I1,b1,b3,hitm]
  have bV:V.beq (.agg (Vr 7 l hl (AA 0) .nils rfl).c) (.agg (Vr 7 l hl (AA 0) .nils rfl).c)=true:=by
    have b1:V.beq l l=true:=by
      rcases hR.val.is with ⟨_,e⟩|⟨b,c,L,e,_⟩
      · rw[e];rfl
      · rw[e];cases c<;>simp[V.beq]
    unfold Vc.c Vr
    simp[V.beq,I1,b1]
  have oT:=(ty i).oneT
  have tbq:V.beq (ty i).tags (ty i).tags=true:=by
    rcases htg with ⟨h,_,_⟩|⟨b,o,c,M',h,_⟩
    · omega
    · rw[h];cases c<;>simp[V.beq]
  have fo:fv.one=true:=hP.one
  have go:E8 E D Z3 8 0 AF P4 S9 ⟨[(0,.ptr p 0),(5,.ptr Z.next 0),(7,.ptr Z1.next 0)],Z3.next+8,[Z3.bl],[],0,[]⟩ _ Z5:=
    Cp (.ptr Z1.next 1) rfl rfl <|
    J3 (ty i).tags (CW f3.tidy) rfl (EE (b:=Z1.next) (off:=1) rfl a3 rfl f3.tidy (fun h=>h) tbq) fun _ r1=>
    Cp (.ptr p 0) rfl rfl <|
    J3 (.agg (ty i).c) r1 rfl (FF (b:=Z1.next) (off:=0) rfl a3 rfl rfl f3.tidy (fun h=>h) bC) fun _ r2=>
    J3 (.agg (Vr 7 l hl (AA 0) .nils rfl).c) r2 rfl (FF (b:=Z.next) (off:=0) rfl a13 rfl rfl f3.tidy (fun h=>h) bV) fun _ r3=>
    KU fv r3 rfl (by decide) f4 (fun _ _ h=>h) (fun _ h _ _=>h) (D3 (vs:=[.ptr p 0,.agg (ty i).c,.agg (Vr 7 l hl (AA 0) .nils rfl).c]) rfl rfl g4) fun _ _ _ r4=>
    KU u r4 rfl (by decide) f5 (fun _ _ h=>h) (fun _ h _ _=>h) (D3 (vs:=[(ty i).tags,.bool true,fv]) rfl (by rw[Bh,Bb oT];show (true&&(true&&(fv.live&&true)))=true;rw[Bb fo];rfl) g5) fun _ _ _ r5=>
    Cp u rfl (EJ rfl (Bb h5.1.one)) <|
    Hx r5
  obtain⟨d1,d2⟩:=GK (ops:=P4) go
  obtain⟨env,d1,l6⟩:∃env,AT E D P4 S9 [(0,.ptr p 0),(5,.ptr Z.next 0),(7,.ptr Z1.next 0)] Z3=some (env,Z5)/\Go.Og.look env 6=some u:=⟨_,d1,rfl⟩
  have gd:∀J:Bp->H->AH,Ch (AT E D P4 S9 [(0,.ptr p 0),(5,.ptr Z.next 0),(7,.ptr Z1.next 0)] Z3) J=J env Z5:=fun J=>by rw[d1];rfl
  have m6:∀J:V->AH,BO env 6 J=J u:=fun J=>BQ l6 (Bb h5.1.one)
  unfold Vc.c Vr at e1 a13
  unfold Ky at e2
  have l0:∀J:V->AH,BY E Z3 Z1.next 0 J=J (.int .i64 (AA 7)):=fun J=>CU a3 (by rw[<-hk];rfl)
  unfold Ty.c at rd g3
  have key:∀K,Hc E D (AT E D) K p 0 (AA i) (AA 7) (AA 0) .nils l (AA 0) .nils Z=K p 0 Z.next 0 Z1.next 0 (AA 7) false Z3:=fun K=>by
    unfold Hc
    simp -implicitDefEqProofs only [↓rP,rA,AD,AG,AB,hl,↓e1,↓ttp,↓rd,(ty i).oneT,(ty i).oneI,(ty i).oneF,↓e2,↓g3,↓l0,Bl,show decide (7=1)=false from rfl,show decide (7=2)=false from rfl,show decide (7=3)=false from rfl]
  show Hc E D (AT E D) (Wg E D (AT E D) N) p 0 (AA i) (AA 7) (AA 0) .nils l (AA 0) .nils Z=some (u,Z5)
  refine(key _).trans ?_
  show KA E D (AT E D) _ (Mn E D (AT E D) (Pj E D (AT E D))) p 0 Z.next 0 Z1.next 0 (AA 7) false Z3=_
  unfold KA Mn
  simp -implicitDefEqProofs only [↓rP,rA,AD,AG,AB,Bl,show decide (7=10)=false from rfl,show decide (7=9)=false from rfl,decide_true,↓gd,↓m6]
theorem wF {Z:H} {i0:Nat} {nm:BS} {nv rv tv u:V} {L:List Nat} {ok:Bool} {nT:Nat} {Q:H->List V->Prop} (ht:Ao Z) (h1:nv.one=true) (h2:rv.one=true) (h3:tv.one=true) (hlen:∀J:Nat->AH,A6 tv J=J nT) (hi:i0<nT) (hu:Oc Z u L) (hL:L.length<=70000)
  (hV:∀Z1 p,Fr AF Z Z1->CM Z1 p [.bool false,.str nm,nv,rv,tv]->∃a b c d e f Z2,D 15 [.ptr p 0,.int .i64 (AA i0),u,.int .i64 (AA 1)] Z1=some (.agg [.int .i64 a,.int .i64 b,c,d,.int .i64 e,f],Z2)/\c.one=true/\d.one=true/\f.one=true/\Q Z2 [.int .i64 a,.int .i64 b,c,d,.int .i64 e,f]/\Fr AF Z1 Z2)
  (hQ:∀Z1 Z2 l,Ao Z1->Fr AF Z1 Z2->Q Z1 l->Q Z2 l)
  (hE:∀Z2 a b c d e f,Fr AF Z Z2->Q Z2 [.int .i64 a,.int .i64 b,c,d,.int .i64 e,f]->∃w er Z3,D 16 [.agg [.str nm,nv,rv,tv],.int .i64 (AA i0),.agg [.int .i64 a,.int .i64 b,c,d,.int .i64 e,f]] Z2=some (.tup [w,.int .i64 er],Z3)/\w.one=true/\Fr AF Z2 Z3 /\
   ((Bv er (AA 0)=false/\ok=false)\/(er=AA 0/\∀Z4,Fr AF Z3 Z4->D 17 [w,u] Z4=some (.bool ok,Z4)))) :
  ∃vc er Z',F9 E D (AT E D) N [.agg [.str nm,nv,rv,tv],.int .i64 (AA i0),u] Z=some (.tup [.agg vc,.int .i64 (AA er)],Z')/\Fr AF Z Z'/\(ok=true->er=0/\Q Z' vc)/\(ok=false->er=4/\vc=EW):=by
 obtain⟨Z1,e1,f1,a1,n1⟩:=Jo ht [.str nm,nv,rv,tv]
 obtain⟨Z2,e2,f2,a2,n2⟩:=Jo f1.tidy [.bool false,.str nm,nv,rv,tv]
 have f02:=f1.trans f2 (fun _ _ h=>h)
 obtain⟨a,b,c,d,e,f,Z3,g3,oc,od,of_,q3,f3⟩:=hV Z2 Z1.next f02 a2
 have f03:=f02.trans f3 (fun _ _ h=>h)
 have a13:=f3.at_ (f2.at_ a1 f1.tidy (fun h=>h)) f2.tidy (fun h=>h)
 have a23:=f3.at_ a2 f2.tidy (fun h=>h)
 obtain⟨w,er,Z4,g4,wo,f4,hcase⟩:=hE Z3 a b c d e f f03 q3
 have f04:=f03.trans f4 (fun _ _ h=>h)
 have uo:=hu.one
 have su:=hu.slen
 have dL:decide (70000<L.length)=false:=decide_eq_false (by omega)
 have di:decide (nT<=i0)=false:=decide_eq_false (by omega)
 have d0:decide (i0<0)=false:=decide_eq_false (by omega)
 have l3:∀J:V->AH,BY E Z1 Z.next 3 J=J tv:=fun J=>CU a1 rfl
 have l0:∀J:V->AH,BY E Z3 Z1.next 0 J=J (.bool false):=fun J=>CU a23 rfl
 have main:∀r:Bool,(Bv er (AA 0)=false/\r=false)\/(er=AA 0/\D 17 [w,u] Z4=some (.bool r,Z4))->F9 E D (AT E D) N [.agg [.str nm,nv,rv,tv],.int .i64 (AA i0),u] Z=(match r with
   | true=>some (.tup [.agg [.int .i64 a,.int .i64 b,c,d,.int .i64 e,f],.int .i64 (AA 0)],Z4)
   | false=>some (.tup [.agg EW,.int .i64 (AA 4)],Z4)):=by
  intro r hr
  have mid:F9 E D (AT E D) N [.agg [.str nm,nv,rv,tv],.int .i64 (AA i0),u] Z=Ze E D (AT E D) nm nv rv tv (AA i0) u Z:=rfl
  rw[mid]
  rcases hr with ⟨h,rfl⟩|⟨h,hb⟩
  ·unfold Ze Gk
   simp -implicitDefEqProofs only [↓rP,rA,AD,AG,AB,D7,h1,h2,h3,↓e1,d0,↓l3,↓hlen,di,↓su,dL,↓Az a1,↓e2,↓g3,oc,od,of_,↓l0,↓Az a13,↓g4,h]
   rfl
  ·subst h
   cases r with
   | true=>
    unfold Ze Gk
    simp -implicitDefEqProofs only [↓rP,rA,AD,AG,AB,D7,h1,h2,h3,↓e1,d0,↓l3,↓hlen,di,↓su,dL,↓Az a1,↓e2,↓g3,oc,od,of_,↓l0,↓Az a13,↓g4,Bl,decide_true,↓hb]
   | false=>
    unfold Ze Gk
    simp -implicitDefEqProofs only [↓rP,rA,AD,AG,AB,D7,h1,h2,h3,↓e1,d0,↓l3,↓hlen,di,↓su,dL,↓Az a1,↓e2,↓g3,oc,od,of_,↓l0,↓Az a13,↓g4,Bl,decide_true,↓hb]
    rfl
 have hm:=main ok (hcase.imp id fun h=>⟨h.1,h.2 Z4 (Fr.refl f4.tidy)⟩)
 cases ok with
 | true=>exact⟨_,0,Z4,hm,f04,fun _=>⟨rfl,hQ _ _ _ f3.tidy f4 q3⟩,fun h=>(by cases h)⟩
 | false=>exact⟨_,4,Z4,hm,f04,fun h=>(by cases h),fun _=>⟨rfl,rfl⟩⟩
end
section
variable {E:EB} {D:Ai} {W:AI} {N:Nat} {Z Z':H} {p nT:Nat} {ty:Nat->Ty} {nm:BS} {nv rv tv:V} {rest:List V}
theorem nj (ht:Ao Z) (hc:Ck Z p nT ty nm nv rv tv rest) {i:Nat} (hi:i<nT) (v:Vc) (hm:v.m = .nils) (hr:v.r=AA 0) :
  ∃Z',UX E D W N [.ptr p 0,.int .i64 (AA i),.agg v.c] Z=some (.bool true,Z')/\Fr AF Z Z':=by
 obtain⟨Z1,e1,f1,a1,n1⟩:=Cg ht v.c
 have c1:=hc.fr f1 ht
 have rd:∀J,AV 13 tv (AA i) (fun b o=>BP E Z1 b o 13 J)=J (ty i).c:=fun J=>c1.row.all hi J
 refine⟨Z1,?_,f1⟩
 show RB E D W _ p 0 (AA i) v.k v.n v.b v.l v.r v.m Z=_
 unfold RB
 unfold Vc.c at e1 a1
 rw[hm,hr]at e1 a1
 rw[hm,hr]
 simp -implicitDefEqProofs only [↓rP,rA,AD,AG,AB,v.oneB,v.oneL,↓e1,↓c1.types,↓rd,Ty.c,(ty i).oneT,(ty i).oneI,(ty i).oneF,↓BK a1,↓Az a1]
theorem YH {v:Vc} {ru:Int} {q:Nat} (hq:∀Z1:H,Ao Z1->Fr AF Z Z1->∃Z2,D 41 [.agg v.c,.int .i64 ru] Z1=some (.bool true,Z2)/\Fr AF Z1 Z2) (ht:Ao Z) (ha:CM Z q [.int .i64 ru]) :
  ∃Z',uM E D W N ([]++[.agg v.c]++[.ptr q 0]) Z=some (.bool false,Z')/\Fr AF Z Z':=by
 obtain⟨Z1,e1,f1,a1,n1⟩:=Cg ht v.c
 obtain⟨Z2,g2,f2⟩:=hq Z1 f1.tidy f1
 have a2:=f1.at_ ha ht (fun h=>h)
 refine⟨Z2,?_,f1.trans f2 (fun _ _ h=>h)⟩
 unfold Vc.c at e1 a1 g2
 show Zj E D W v.k v.n v.b v.l v.r v.m (.ptr q 0) Z=_
 unfold Zj
 simp -implicitDefEqProofs only [↓rP,rA,AD,AG,AB,v.oneB,v.oneL,v.oneM,↓e1,↓Az a1,↓BK a2,↓g2]
theorem XF {i:Nat} (hS:∀Z1,Ao Z1->Fr AF Z Z1->∃Z2,D 148 [.agg [.str nm,nv,rv,tv],.int .i64 (AA i)] Z1=some (.nils,Z2)/\Fr AF Z1 Z2) (hN:0<N) (ht:Ao Z) (hc:Ck Z p nT ty nm nv rv tv [.bool false]) (hi:i<nT) (v:Vc) :
  ∃Z',UW E D W N [.ptr p 0,.int .i64 (AA i),.agg v.c] Z=some (.bool true,Z')/\Fr AF Z Z':=by
 obtain⟨N,rfl⟩:∃k,N=k+1:=⟨N-1,by omega⟩
 obtain⟨Z1,e1,f1,a1,n1⟩:=Cg ht v.c
 have c1:=hc.fr f1 ht
 have rd:∀J,AV 13 tv (AA i) (fun b o=>BP E Z1 b o 13 J)=J (ty i).c:=fun J=>c1.row.all hi J
 obtain⟨Z2,g2,f2⟩:=hS Z1 f1.tidy f1
 have pt:=c1.at_
 refine⟨Z2,?_,f1.trans f2 (fun _ _ h=>h)⟩
 unfold Vc.c at e1 a1
 simp only[H5,DB]at pt
 have key:∀K,OP E D W K p 0 (AA i) v.k v.n v.b v.l v.r v.m Z=K Z.next 0 .nils (AA 0) (AA 0) (ty i).kind (ty i).tags (ty i).has (ty i).hasLow (ty i).hasHigh (ty i).conMore (ty i).low (ty i).high (ty i).items (ty i).fields (ty i).root (ty i).more (ty i).of_ Z2:=by
  intro K
  unfold OP
  simp -implicitDefEqProofs only [↓rP,rA,AD,AG,AB,c1.n1,c1.r1,c1.t1,v.oneB,v.oneL,v.oneM,↓e1,↓c1.types,↓rd,Ty.c,(ty i).oneT,(ty i).oneI,(ty i).oneF,↓Az pt,↓g2]
 show OP E D W (UR E D W (N+1) (N+1)) p 0 (AA i) v.k v.n v.b v.l v.r v.m Z=_
 rw[key]
 show OO E D W (RA E D W) _ _ Z.next 0 .nils (AA 0) (AA 0) _ _ _ _ _ _ _ _ _ _ _ _ _ Z2=_
 have k0:∀K3 K5,OO E D W (RA E D W) K3 K5 Z.next 0 .nils (AA 0) (AA 0) (ty i).kind (ty i).tags (ty i).has (ty i).hasLow (ty i).hasHigh (ty i).conMore (ty i).low (ty i).high (ty i).items (ty i).fields (ty i).root (ty i).more (ty i).of_ Z2=some (.bool true,Z2):=by
  intro K3 K5
  unfold OO RA
  rw[EZ,decide_eq_false (FX 0),Cn]
  all_goals rfl
 exact k0 _ _
end
def NU (k:Nat) (v:Vc) (body:List Nat):List Nat:=match k with
 | 1=>match v.n with
  | .ofNat 1=>[255]
  | _=>[0]
 | 2=>sN v.n
 | 5=>body
 | _=>[]
def jf (k:Nat) (v:Vc) (body:List Nat):List Int:=nI (NU k v body)
theorem Oc.bx {E:EB} {Z:H} {v:V} {L:List Nat} (h:Oc Z v L) (ht:Ao Z):Bx E Z v (nI L):=by
 refine⟨fun J=>?_,?_,?_,h.one,fun J=>?_,fun b hb=>h.lt ht b hb⟩
 ·rw[B9];exact h.srcK J
 ·rw[B9];exact h.cells
 ·show (Hv (nI L)).length=_
  rw[Fl,CE]
 ·rw[B9];exact h.slen J
theorem Dv.lf {E:EB} {Z:H} {k:Nat} {v:Vc} {body:List Nat} (h:Dv Z k v body) (ht:Ao Z) (hl:body.length<=40000):Lf E Z v (jf k v body)/\v.k=AA k/\v.l = .nils/\v.m = .nils/\v.r=AA 0/\GM v.b (match k with | 5=>body.length | _=>0)/\V.beq (.agg v.c) (.agg v.c)=true:=by
  cases h with
  | b1 h=>exact⟨.b1,rfl,rfl,rfl,rfl,GM.nils,CX _ rfl⟩
  | b0 h=>exact⟨.b0,rfl,rfl,rfl,rfl,GM.nils,CX _ rfl⟩
  | int h h2=>exact⟨.int h,rfl,rfl,rfl,rfl,GM.nils,CX _ rfl⟩
  | oct h=>
    rename_i b hb
    exact⟨.oct (h.bx ht) (by show (nI body).length<=40000;rw[B9];exact hl),rfl,rfl,rfl,rfl,⟨hb,fun J=>h.slen J⟩,by
      have:=h.beq
      unfold Vc.c
      simp[V.beq,I1,this]⟩
  | nul=>exact⟨.nul,rfl,rfl,rfl,rfl,GM.nils,CX _ rfl⟩
def T1 (F:List V->H->AH) (a:List V) (Z:H):Prop:=∃Z',F a Z=some (.bool true,Z')/\Fr AF Z Z'
def Nl (v:Vc):Prop:=v.b = .nils/\v.l = .nils/\v.m = .nils
def UM (F:List V->H->AH):Prop:=∀Z:H,F [.nils,.nils] Z=some (.bool true,Z)
def Li (F:List V->H->AH) (f:V):Prop:=∀Z:H,F [.nils,.nils,f] Z=some (.bool true,Z)
def Sw (F:List V->H->AH):Prop:=∀{Z:H} (v:Vc),Ao Z->Nl v->T1 F [.agg v.c,.agg v.c] Z
def ag (F:List V->H->AH):Prop:=∀{Z:H} {l l':V} {n:Nat} {g:Nat->Vc},Ao Z->Fj Z 6 n l (fun k=>(g k).c)->Fj Z 6 n l' (fun k=>(g k).c)->(∀k,k<n->Nl (g k))->n<=1000->T1 F [l,l',.fn 11 [] []] Z
def V9 (F:List V->H->AH):Prop:=∀{Z:H} {l l':V} {hl:l.one=true} {hl':l'.one=true} {K n:Nat} {g:Nat->Vc},Ao Z->Fj Z 6 n l (fun k=>(g k).c)->Fj Z 6 n l' (fun k=>(g k).c)->(∀k,k<n->Nl (g k))->n<=1000->T1 F [.agg (Vr K l hl (AA 0) .nils rfl).c,.agg (Vr K l' hl' (AA 0) .nils rfl).c] Z
section
variable {E:EB} {D:Ai} {W:AI} {N:Nat}
theorem ADH:UM (F18 E D W N):=fun Z=>rfl
theorem ADE:UM (Kx E D W N):=fun Z=>rfl
theorem vA (h:Sw (D 11)) (hN:1000<N):ag (eZ E D W N):=by
 intro Z l l' n g ht h1 h2 hn h10
 have loop:∀(m n' i:Nat) (Z1:H),i+m=n->m<n'->Fr AF Z Z1->∃Z',Wd E D W N n' l l' (.fn 11 [] []) (AA i) Z1=some (.bool true,Z')/\Fr AF Z Z':=by
  intro m
  induction m with
  | zero=>
   intro n' i Z1 hi hn' f
   obtain⟨n',rfl⟩:∃q,n'=q+1:=⟨n'-1,by omega⟩
   have hi:i=n:=hi
   subst hi
   have sl:=h1.len.2
   have d1:decide (i<i)=false:=decide_eq_false (FX _)
   refine⟨Z1,?_,f⟩
   show Pp E D W (Zy E D W) _ l l' (.fn 11 [] []) (AA i) Z1=_
   unfold Pp Zy
   simp -implicitDefEqProofs only [↓rP,rA,AD,AG,AB,↓sl,d1]
  | succ m ih=>
   intro n' i Z1 hi hn' f
   obtain⟨n',rfl⟩:∃q,n'=q+1:=⟨n'-1,by omega⟩
   have hlt:i<n:=by omega
   have sl:=h1.len.2
   have d1:decide (i<n)=true:=decide_eq_true hlt
   have r1:∀J,AV 6 l (AA i) (fun b o=>BP E Z1 b o 6 J)=J (g i).c:=fun J=>(h1.fr0 f ht).all hlt J
   have r2:∀J,AV 6 l' (AA i) (fun b o=>BP E Z1 b o 6 J)=J (g i).c:=fun J=>(h2.fr0 f ht).all hlt J
   obtain⟨Z2,g2,f2⟩:=h (g i) f.tidy (hn i hlt)
   obtain⟨Z',g',f'⟩:=ih n' (i+1) Z2 (by omega) (by omega) (f.trans f2 (fun _ _ h=>h))
   refine⟨Z',?_,f'⟩
   rw[<-g']
   have cv:∀J,GC D (.fn 11 [] []) [.agg (g i).c,.agg (g i).c] Z1 J=J (.bool true) Z2:=fun J=>by
    show AU (D 11 ([]++[.agg (g i).c,.agg (g i).c]++[]) Z1) J=_
    rw[show ([]++[V.agg (g i).c,.agg (g i).c]++[])=[.agg (g i).c,.agg (g i).c] from rfl,g2];rfl
   unfold Vc.c at r1 r2 cv
   show Pp E D W _ _ l l' (.fn 11 [] []) (AA i) Z1=_
   unfold Pp
   simp -implicitDefEqProofs only [↓rP,rA,AD,AG,AB,↓sl,d1,↓r1,(g i).oneB,(g i).oneL,(g i).oneM,↓r2,↓cv,CG (show i+1<=9223372036854775807 by omega)]
   all_goals rfl
 obtain⟨Z',g',f'⟩:=loop n N 0 Z (by omega) (by omega) (Fr.refl ht)
 refine⟨Z',?_,f'⟩
 have s1:=h1.len.2
 have s2:=h2.len.2
 have d:decide (n=n)=true:=decide_eq_true rfl
 rw[<-g']
 show V3 E D W (Wd E D W N N) l l' (.fn 11 [] []) Z=_
 unfold V3
 simp -implicitDefEqProofs only [↓rP,rA,AD,AG,AB,↓s1,↓s2,Bl,d]
theorem ADI {f:V} (hN:0<N):Li (uU E D W N) f:=by
 intro Z
 obtain⟨N,rfl⟩:∃q,N=q+1:=⟨N-1,by omega⟩
 rfl
theorem uv {Z:H} {v w:Vc} (ht:Ao Z) (hk:v.k=w.k) (hn:v.n=w.n) (hr:v.r=w.r) (hm:v.m = .nils) (hm':w.m = .nils)
  (hB:∀Z1,D 18 [v.b,w.b] Z1=some (.bool true,Z1)) (hL:∀Z1,Ao Z1->Fr AF Z Z1->T1 (D 19) [v.l,w.l,.fn 11 [] []] Z1) (hM:Li (D 20) (.fn 21 [] [])):T1 (tH E D W N) [.agg v.c,.agg w.c] Z:=by
 obtain⟨Z1,e1,f1,a1,n1⟩:=Jo ht v.c
 obtain⟨Z2,e2,f2,a2,n2⟩:=Jo f1.tidy w.c
 have f02:=f1.trans f2 (fun _ _ h=>h)
 have a12:=f2.at_ a1 f1.tidy (fun h=>h)
 obtain⟨Z3,g3,f3⟩:=hL Z2 f02.tidy f02
 have a13:=f3.at_ a12 f02.tidy (fun h=>h)
 have a23:=f3.at_ a2 f02.tidy (fun h=>h)
 have gB:=hB Z2
 have gM:=hM Z3
 have o1:=v.allOne
 have o2:=w.allOne
 refine⟨Z3,?_,f02.trans f3 (fun _ _ h=>h)⟩
 have ek:Bv v.k w.k=true:=by rw[hk,Ie];simp
 have en:Bv v.n w.n=true:=by rw[hn,Ie];simp
 have er:Bv v.r w.r=true:=by rw[hr,Ie];simp
 unfold Vc.c at e1 e2 a12 a2 a13 a23
 rw[hm]at e1 a12 a13
 rw[hm']at e2 a2 a23
 show aZ E D W v.k v.n v.b v.l v.r v.m w.k w.n w.b w.l w.r w.m Z=_
 rw[hm,hm']
 unfold aZ
 simp -implicitDefEqProofs only [↓rP,rA,AD,AG,AB,v.oneB,v.oneL,w.oneB,w.oneL,↓e1,↓e2,↓BK a12,↓BK a2,↓BK a13,↓BK a23,ek,en,er,↓gB,↓g3,↓gM]
theorem ux (hB:UM (D 18)) (hL:Li (D 19) (.fn 11 [] [])) (hM:Li (D 20) (.fn 21 [] [])):Sw (tH E D W N):=by
 intro Z v ht ⟨h1,h2,h3⟩
 exact uv ht rfl rfl rfl h3 h3 (fun Z1=>by rw[h1];exact hB Z1) (fun Z1 h f=>⟨Z1,by rw[h2];exact hL Z1,Fr.refl h⟩) hM
theorem uw (hB:UM (D 18)) (hL:ag (D 19)) (hM:Li (D 20) (.fn 21 [] [])):V9 (tH E D W N):=by
 intro Z l l' hl hl' K n g ht h1 h2 hn h10
 exact uv (v:=Vr K l hl (AA 0) .nils rfl) (w:=Vr K l' hl' (AA 0) .nils rfl) ht rfl rfl rfl rfl rfl hB (fun Z1 h f=>hL h (h1.fr0 f ht) (h2.fr0 f ht) hn h10) hM
end
def IU:Nat->Nat
 | 0=>1
 | 1=>2
 | _=>5
def N5 (t:Nat) (w:List Nat):List Nat:=(128+t)::w.length::w
def LH (e:List Nat):List Nat:=48::e.length::e
theorem VK {n:Nat} (h:n<128):Ys n=[AA n]:=by unfold Ys;rw[decide_eq_true h]
theorem VQ {t:Nat} (ht:t<3) {w:List Nat} (hw:w.length<128):Mz 2 false t (nI w)=nI (N5 t w):=by
 unfold Mz
 rw[B9,VK hw]
 have:t=0\/t=1\/t=2:=by omega
 rcases this with rfl|rfl|rfl<;>rfl
theorem js {e:List Nat} (he:e.length<128):Mz 0 true 16 (nI e)=nI (LH e):=by
 unfold Mz
 rw[B9,VK he]
 rfl
theorem Y7 {x t c:Nat} {mk:Bool} {body:List Nat} (hx:x<256) (h1:x / 64=c) (h2:x % 32=t) (h3:t<31) (h4:x / 32 % 2=1↔mk=true) (hl:body.length<128) (hb:Lu body):jY (x::body.length::body) c t mk body 2/\Lu (x::body.length::body):=by
 refine⟨⟨⟨⟨x,_,rfl,h1,h4⟩,0,1,?_,?_,rfl,by simp,by omega,by omega⟩,by simp only[As];omega,rfl⟩,fun c hc=>?_⟩
 ·rw[<-h2];exact .short (by omega)
 ·exact .short hl
 ·rcases Al.1 hc with rfl|hc
  ·exact hx
  ·rcases Al.1 hc with rfl|hc
   ·omega
   ·exact hb c hc
structure aa (B W Sl:List V->H->AH) (Pt:H->Prop) (nm:BS) (nv rv tv:V) (ty:Nat->Ty) (fd:Nat->Fd):Prop where
 t4:ov [.str nm,nv,rv,tv]
 ptf:∀Z Z',Ao Z->Fr AF Z Z'->Pt Z->Pt Z'
 row:∀Z,Pt Z->Fj Z 13 4 tv fun i=>(ty i).c
 frow:∀Z,Pt Z->Fj Z 11 3 (ty 0).fields fun k=>(fd k).c
 tg0:∀Z,Pt Z->HN Z 2 1 (ty 0).tags (nQ [(0,16)])
 tg:∀Z k,Pt Z->k<3->jv Z [(2,k)] (ty (k+1)).tags
 k0:(ty 0).kind=AA 7
 itm:V.beq (ty 0).items (ty 0).items=true
 kd:∀k,k<3->(ty (k+1)).kind=AA (IU k)/\(ty (k+1)).has=false
 fty:∀k,k<3->(fd k).type=AA (k+1)
 fo:(fd 0).opt=true/\(fd 2).opt=true
 fh:(fd 0).has=false/\(fd 1).has=true/\(fd 2).has=false
 df:(fd 1).d0=AA 2/\(fd 1).d1=AA 5/\(fd 1).d2 = .nils/\(fd 1).d3 = .nils/\(fd 1).d4=AA 0/\(fd 1).d5 = .nils
 bw:∀k,k<3->Bw B W Pt [.str nm,nv,rv,tv] (k+1) k
 sl:∀Z,Ao Z->Pt Z->∃Z',Sl [.agg [.str nm,nv,rv,tv],.int .i64 (AA 0)] Z=some (.nils,Z')/\Fr AF Z Z'
structure WZ (Z:H) (q:Nat) (gs:List Vc) (t:Nat) (v:Vc) (body:List Nat):Prop where
 at_:CM Z q (Kv gs)
 len:gs.length=3
 hv:gs[t]? = some v
 abs:∀i,i<3->i≠t->gs[i]? = some Vc.abs
 dv:Dv Z (IU t) v body
 small:body.length<=100
 t:t<3
theorem WZ.fr {Z Z':H} {q:Nat} {gs:List Vc} {t:Nat} {v:Vc} {body:List Nat} (h:WZ Z q gs t v body) (f:Fr AF Z Z') (ht:Ao Z):WZ Z' q gs t v body:=⟨f.at_ h.at_ ht (fun h=>h),h.len,h.hv,h.abs,h.dv.fr f ht,h.small,h.t⟩
def gS (gs:List Vc) (k:Nat):Vc:=gs.getD k Vc.abs
theorem PT {gs:List Vc} {k:Nat} {v:Vc} (h:gs[k]? = some v):gS gs k=v:=by unfold gS;rw[Bj,h];rfl
theorem WZ.row {Z:H} {q:Nat} {gs:List Vc} {t:Nat} {v:Vc} {body:List Nat} (h:WZ Z q gs t v body):Fj Z 6 3 (.sl q 0 3 (.ex 3)) fun k=>(gS gs k).c:=
 ⟨.inr ⟨q,_,_,rfl,h.at_,fun k hk=>⟨by rw[M6,h.len];omega,by
  have:gs[k]? = some (gS gs k):=by unfold gS;rw[Bj,Am (by rw[h.len];exact hk)];rfl
  exact QY gs k _ this⟩⟩⟩
def vS (q:Nat):Vc:=Vr 7 (.sl q 0 3 (.ex 3)) rfl (AA 0) .nils rfl
def SN (t:Nat) (v:Vc):Bool:=match t with
 | 1=>!decide (v.n=5)
 | _=>true
def ah (F:List V->H->AH):Prop:=∀{Z:H} (n:Int),Ao Z->∃Z',F [.agg (Vc.int n).c,.agg [.int .i64 (AA 2),.int .i64 (AA 5),.nils,.nils,.int .i64 (AA 0),.nils]] Z=some (.bool (decide (n=5)),Z')/\Fr AF Z Z'
section
variable {E:EB} {D:Ai} {W:AI} {N:Nat}
theorem va {f:V} (hN:0<N):Li (Xq E D W N) f:=by
 intro Z
 obtain⟨N,rfl⟩:∃q,N=q+1:=⟨N-1,by omega⟩
 rfl
theorem vZ {f:V} (hN:0<N):Li (Xp E D W N) f:=by
 intro Z
 obtain⟨N,rfl⟩:∃q,N=q+1:=⟨N-1,by omega⟩
 rfl
theorem vC (hB:UM (D 17)) (hL:Li (D 149) (.fn 127 [] [])) (hM:Li (D 150) (.fn 151 [] [])):ah (dV E D W N):=by
 intro Z n ht
 obtain⟨Z1,e1,f1,a1,n1⟩:=Jo ht (Vc.int n).c
 obtain⟨Z2,e2,f2,a2,n2⟩:=Jo f1.tidy [.int .i64 (AA 2),.int .i64 (AA 5),.nils,.nils,.int .i64 (AA 0),.nils]
 have a12:=f2.at_ a1 f1.tidy (fun h=>h)
 refine⟨Z2,?_,f1.trans f2 (fun _ _ h=>h)⟩
 have gB:=hB Z2
 have gL:=hL Z2
 have gM:=hM Z2
 unfold Vc.c Vc.int at e1 a12
 have en:Bv n (AA 5)=decide (n=5):=by rw[Ie];rw[De];simp
 show UD E D W (AA 2) n .nils .nils (AA 0) .nils (AA 2) (AA 5) .nils .nils (AA 0) .nils Z=_
 unfold UD
 cases hd:decide (n=5)with
 | true=>
  rw[hd]at en
  simp -implicitDefEqProofs only [↓rP,rA,AD,AG,AB,↓e1,↓e2,↓BK a12,↓BK a2,Bl,decide_true,en,↓gB,↓gL,↓gM]
 | false=>
  rw[hd]at en
  simp -implicitDefEqProofs only [↓rP,rA,AD,AG,AB,↓e1,↓e2,↓BK a12,↓BK a2,Bl,decide_true,en]
end
def UN (E:EB) (F:List V->H->AH):Prop:=∀{Z:H} {p nT i dp:Nat} {ty:Nat->Ty} {nm:BS} {nv rv tv:V} {rest:List V} {v:Vc} {x:List Int},Ao Z->Ck Z p nT ty nm nv rv tv rest->i<nT->dp<=17->(ty i).kind=v.k->(ty i).has=false->Lf E Z v x->∃Z',F [.ptr p 0,.int .i64 (AA i),.agg v.c,.int .i64 (AA dp)] Z=some (.bool true,Z')/\Fr AF Z Z'
def ai (F:List V->H->AH):Prop:=∀{Z:H} {p nT i:Nat} {ty:Nat->Ty} {nm:BS} {nv rv tv:V} {rest:List V},Ao Z->Ck Z p nT ty nm nv rv tv rest->i<nT->∀v:Vc,v.m = .nils->v.r=AA 0->∃Z',F [.ptr p 0,.int .i64 (AA i),.agg v.c] Z=some (.bool true,Z')/\Fr AF Z Z'
def aw (Pt:H->Prop) (nm:BS) (nv rv tv:V) (ty:Nat->Ty) (F:List V->H->AH):Prop:=∀{Z:H} {p:Nat},Ao Z->Ck Z p 4 ty nm nv rv tv [.bool false]->Pt Z->∀v:Vc,∃Z',F [.ptr p 0,.int .i64 (AA 0),.agg v.c] Z=some (.bool true,Z')/\Fr AF Z Z'
def Ps (Pt:H->Prop) (nm:BS) (nv rv tv:V) (ty:Nat->Ty) (F:List V->H->AH):Prop:=∀{Z:H} {p q dp t:Nat} {gs:List Vc} {v:Vc} {body:List Nat},Ao Z->Ck Z p 4 ty nm nv rv tv [.bool false]->Pt Z->WZ Z q gs t v body->dp<=16->∃Z',F [.ptr p 0,.int .i64 (AA 0),.agg (vS q).c,.int .i64 (AA dp)] Z=some (.bool (SN t v),Z')/\Fr AF Z Z'
def ay (Pt:H->Prop) (nm:BS) (nv rv tv:V) (F:List V->H->AH):Prop:=∀{Z:H} {q t:Nat} {gs:List Vc} {v:Vc} {body:List Nat},Ao Z->Pt Z->WZ Z q gs t v body->∃Z',F [.agg [.str nm,nv,rv,tv],.int .i64 (AA 0),.agg (vS q).c] Z=some (.bool (SN t v),Z')/\Fr AF Z Z'
def bE (F:List V->H->AH):Prop:=∀{Z:H} {q t:Nat} {gs:List Vc} {v:Vc} {body:List Nat},Ao Z->WZ Z q gs t v body->∃Z',F [.agg (vS q).c] Z=some (.int .i64 (AA (1+3)),Z')/\Fr AF Z Z'
def bF (F:List V->H->AH):Prop:=∀{Z:H} (v:Vc),Ao Z->v.l = .nils->∃Z',F [.agg v.c] Z=some (.int .i64 (AA 1),Z')/\Fr AF Z Z'
def ak (F:List V->H->AH):Prop:=∀{Z:H} (v:Vc) (ru:Int),Ao Z->v.l = .nils->v.r=AA 0->∃Z',F [.agg v.c,.int .i64 ru] Z=some (.bool true,Z')/\Fr AF Z Z'
def pV (F:List V->H->AH):Prop:=∀{Z:H} {q:Nat} {ru:Int} (v:Vc),Ao Z->v.l = .nils->v.r=AA 0->CM Z q [.int .i64 ru]->∃Z',F ([]++[.agg v.c]++[.ptr q 0]) Z=some (.bool false,Z')/\Fr AF Z Z'
def aj (F:List V->H->AH):Prop:=∀{Z:H} {q t:Nat} {gs:List Vc} {v:Vc} {body:List Nat} (ru:Int),Ao Z->WZ Z q gs t v body->∃Z',F [.agg (vS q).c,.int .i64 ru] Z=some (.bool true,Z')/\Fr AF Z Z'
def uD (t:Nat) (fb:Bool) (k:Nat):Bool:=match AY k t with
 | true=>fb
 | false=>true
theorem fP {t:Nat} (ht:t<3) (fb:Bool):Xh (uD t fb) 3 0=fb:=by
 have:t=0\/t=1\/t=2:=by omega
 rcases this with rfl|rfl|rfl<;>cases fb<;>rfl
theorem WZ.leafs {Z:H} {q:Nat} {gs:List Vc} {t:Nat} {v:Vc} {body:List Nat} (h:WZ Z q gs t v body) (ht:Ao Z) (k:Nat) (hk:k<3):(gS gs k).l = .nils/\(gS gs k).r=AA 0/\(gS gs k).m = .nils:=by
 by_cases e:k=t
 ·subst e
  obtain⟨_,_,h1,h2,h3,_,_⟩:=h.dv.lf (E:=[]) ht (by have:=h.small;omega)
  rw[PT h.hv]
  exact⟨h1,h3,h2⟩
 ·rw[PT (h.abs k hk e)]
  exact⟨rfl,rfl,rfl⟩
section
variable {E:EB} {D:Ai} {W:AI} {N:Nat} {B Wi Sl:List V->H->AH} {Pt:H->Prop} {nm:BS} {nv rv tv:V} {ty:Nat->Ty} {fd:Nat->Fd}
theorem oP (hP:FH (D 99)) (hW:JQ (D 100)) (hS:WA E (D 101)):UN E (jR E D W N):=fun ht hc hi hd hk hh hv=>fy hP hW hS ht hc hi hd hk hh hv
theorem vE:ai (UX E D W N):=fun ht hc hi v hm hr=>nj ht hc hi v hm hr
theorem vx (hT:aa B Wi (D 148) Pt nm nv rv tv ty fd) (hN:0<N):aw Pt nm nv rv tv ty (UW E D W N):=by
 intro Z p ht hc hp v
 exact XF (fun Z1 h1 f=>hT.sl Z1 h1 (hT.ptf _ _ ht f hp)) hN ht hc (by decide) v
theorem v8 (hT:aa B Wi Sl Pt nm nv rv tv ty fd) (hP:FH (D 99)) (hA:Sz (D 107)) (hL:Xl (D 126)) (hV:UN E (D 67)) (hS:ah (D 127)) (hR:ai (D 125)) (hG:aw Pt nm nv rv tv ty (D 128)) (hN:100<N):Ps Pt nm nv rv tv ty (UZ E D W N):=by
 intro Z p q dp t gs v body ht hc hp hr hd
 have h3:=hr.t
 obtain⟨lf,vk,vl,vm,vr,_,_⟩:=hr.dv.lf (E:=E) ht (by have:=hr.small;omega)
 have key:=Ro (E:=E) (W:=W) (N:=N) (K:=7) (l := .sl q 0 3 (.ex 3)) (hl:=rfl) (r:=AA 0) (mv := .nils) (hm:=rfl) (ok:=uD t (SN t v)) (rb:=true) (g:=gS gs) (fd:=fd) (Z:=Z) (p:=p) (i:=0) (dp:=dp) (nm':=0) hP hA hL (fun k hk=>by
  by_cases e:k=t
  ·subst e
   rw[PT hr.hv]
   have nz:Bv v.k (AA 0)=false:=by
    rw[vk,Bl]
    have:k=0\/k=1\/k=2:=by omega
    rcases this with rfl|rfl|rfl<;>rfl
   have fit:sn (D 67) Z 4 ty (k+1) v:=fun Z1 p1 dp1 nm1 nv1 rv1 tv1 rest1 h1 f hc1 hd1=>hV h1 hc1 (by omega) hd1 (by rw[(hT.kd k hk).1,vk]) (hT.kd k hk).2 (lf.fr f)
   have hko:uD k (SN k v) k=SN k v:=by
    unfold uD;rw[Rb]
   rw[hko]
   have:k=0\/k=1\/k=2:=by omega
   rcases this with rfl|rfl|rfl
   ·exact .val nz (hT.fty 0 hk) fit hT.fh.1
   ·obtain⟨d0,d1,d2,d3,d4,d5⟩:=hT.df
    refine .dft nz (hT.fty 1 hk) fit hT.fh.2.1 fun Z1 h1 f=>?_
    rw[d0,d1,d2,d3,d4,d5]
    have hdv:=hr.dv
    cases hdv with
    | @int n _ _ _=>exact hS n h1
   ·exact .val nz (hT.fty 2 hk) fit hT.fh.2.2
  ·have hko:uD t (SN t v) k=true:=by
    unfold uD
    rw[show AY k t=false from by
     rw[<-Fe,AQ];exact e]
   rw[hko]
   refine .abs (PT (hr.abs k hk e)) ?_
   have:k=0\/k=1\/k=2:=by omega
   rcases this with rfl|rfl|rfl
   ·rw[hT.fo.1];rfl
   ·rw[hT.fh.2.1,Bool.or_true]
   ·rw[hT.fo.2];rfl) hd (by decide) (by omega) (by decide) GM.nils
  (fun Z1 h1 f=>hR h1 (hc.fr f ht) (by decide) (vS q) rfl rfl)
  (fun Z1 h1 f=>hG h1 (hc.fr f ht) (hT.ptf _ _ ht f hp) (vS q)) ht hc (hT.frow Z hp) hr.row
 rw[fP h3,DW]at key
 exact key
theorem vy (hT:aa B Wi Sl Pt nm nv rv tv ty fd) (hF:Ps Pt nm nv rv tv ty (D 103)):Ps Pt nm nv rv tv ty (jR E D W N):=by
 intro Z p q dp t gs v body ht hc hp hr hd
 exact fC (K:=7) (.inl rfl) ht hc (by decide) (by omega) hT.k0 (fun Z1 h1 f=>hF h1 (hc.fr f ht) (hT.ptf _ _ ht f hp) (hr.fr f ht) hd)
theorem wL (hN:0<N):bF (nE E D W N):=fun v ht hl=>VR (n:=0) (g:=fun _=>v) (by omega) (by omega) ht ⟨.inl ⟨rfl,hl⟩⟩ (fun _ k hk=>absurd hk (Dd _))
theorem wK (hC:bF (D 68)) (hN:100<N):bE (nE E D W N):=by
 intro Z q t gs v body ht hr
 exact VR (v:=vS q) (n:=3) (g:=gS gs) (by omega) (by omega) ht hr.row (fun Z1 k hk f=>hC (gS gs k) f.tidy (hr.leafs ht k hk).1)
theorem vz (hT:aa B Wi Sl Pt nm nv rv tv ty fd) (hV:Ps Pt nm nv rv tv ty (D 67)) (hC:bE (D 68)):ay Pt nm nv rv tv (sz E D W N):=by
 intro Z q t gs v body ht hp hr
 obtain⟨_,_,_,_,e,o1,o2,o3,_,_,_⟩:=hT.t4.ex
 injection e with e1 e
 injection e with e2 e
 injection e with e3 e
 injection e with e4 e
 subst e2;subst e3;subst e4
 exact jP (n:=1+3) (by decide) ht (hT.row Z hp) o1 o2 o3 (fun Z1 p h1 f hc=>hV h1 hc (hT.ptf _ _ ht f hp) (hr.fr f ht) (by decide)) (fun Z1 h1 f=>hC h1 (hr.fr f ht))
theorem vJ {D':Ai} (hC:bG (D 69) D'):ak (sy E D W N):=fun v ru ht hl hr=>U3 (n:=0) (g:=fun _=>v) hC (by omega) (by rw[hr];rfl) ht ⟨.inl ⟨rfl,hl⟩⟩ (fun _ _ k hk=>absurd hk (Dd _))
theorem ADA (hR:ak (D 41)):pV (uM E D W N):=fun v ht hl hr ha=>YH (fun Z1 h1 f=>hR v _ h1 hl hr) ht ha
theorem vI {D':Ai} (hC:bG (D 69) D') (h1:pV (D' 70)):aj (sy E D W N):=by
 intro Z q t gs v body ru ht hr
 exact U3 hC (v:=vS q) (n:=3) (g:=gS gs) (by omega) rfl ht hr.row (fun Z1 q1 k hk f ha=>h1 (gS gs k) f.tidy (hr.leafs ht k hk).1 (hr.leafs ht k hk).2.1 ha)
end
def nq (t:Nat) (l:List Int) (k:Nat):Option (List Int):=match AY k t with
 | true=>some l
 | false=>none
theorem fM {t:Nat} (ht:t<3) (l:List Int):Dx (nq t l) 3 0=[l]:=by
 have:t=0\/t=1\/t=2:=by omega
 rcases this with rfl|rfl|rfl<;>rfl
def UO (Pt:H->Prop) (nm:BS) (nv rv tv:V) (F:List V->H->AH):Prop:=∀{Z:H} {q t:Nat} {gs:List Vc} {v:Vc} {body:List Nat},Ao Z->Pt Z->WZ Z q gs t v body->∃w e Z',F [.agg [.str nm,nv,rv,tv],.int .i64 (AA 0),.agg (vS q).c] Z=some (.tup [w,.int .i64 e],Z')/\w.one=true/\Fr AF Z Z'/\(SN t v=true->e=AA 0/\Nb Z Z' w (nI (LH (N5 t (NU (IU t) v body)))))/\(SN t v=false->e=AA 13)
theorem Ux {Z:H} {k:Nat} {v:Vc} {body:List Nat} (h:Dv Z k v body) (hb:body.length<=100):(NU k v body).length<=100:=by
 cases h with
 | b1 h=>show ([255]:List Nat).length<=100;decide
 | b0 h=>show ([0]:List Nat).length<=100;decide
 | @int n r h h2=>show (sN n).length<=100;rw[KJ];have:=(C7 n).2;omega
 | oct h=>exact hb
 | nul=>show ([]:List Nat).length<=100;decide
section
variable {E:EB} {D D':Ai} {W:AI} {N:Nat} {B Wi Sl:List V->H->AH} {Pt:H->Prop} {nm:BS} {nv rv tv:V} {ty:Nat->Ty} {fd:Nat->Fd}
theorem aa.ones (hT:aa B Wi Sl Pt nm nv rv tv ty fd):nv.one=true/\rv.one=true/\tv.one=true:=by
 obtain⟨_,_,_,_,e,o1,o2,o3,_,_,_⟩:=hT.t4.ex
 injection e with e1 e
 injection e with e2 e
 injection e with e3 e
 injection e with e4 e
 subst e2;subst e3;subst e4
 exact⟨o1,o2,o3⟩
theorem oS (hT:aa B Wi Sl Pt nm nv rv tv ty fd) (hFi:ay Pt nm nv rv tv (D 40)) (hRu:aj (D 41)) (hE:bB D' (D 42)) (hL:pX E (D' 42)):UO Pt nm nv rv tv (uV E D W N):=by
  intro Z q t gs v body ht hp hr
  obtain⟨o1,o2,o3⟩:=hT.ones
  have h3:=hr.t
  have sm:=hr.small
  have lw:=Ux hr.dv sm
  have lx:(N5 t (NU (IU t) v body)).length<=102:=by show (_::_::NU (IU t) v body).length<=_;simp only[As];omega
  obtain⟨w,e,Z',g,wo,f,q1,q2⟩:=oU (E:=E) (D:=D) (W:=W) (N:=N) (v:=vS q) (O:=nI (LH (N5 t (NU (IU t) v body)))) (fb:=SN t v) (i:=0) (nm:=nm) ht (hT.row Z hp) o1 o2 o3 (fun Z1 h1 f=>hFi h1 (hT.ptf _ _ ht f hp) (hr.fr f ht)) (fun _ Z1 h1 f=>hRu _ h1 (hr.fr f ht)) (fun _=>⟨by rw[B9];show (_::_::N5 t _).length<=_;simp only[As];omega,fun Z1 p f hc=>by
      have hr1:=hr.fr f ht
      have hp1:=hT.ptf _ _ ht f hp
      have ht1:=f.tidy
      have pe:Dx (nq t (Mz 2 false t (jf (IU t) v body))) 3 0=[Mz 2 false t (jf (IU t) v body)]:=fM h3 _
      have ew:Mz 2 false t (jf (IU t) v body)=nI (N5 t (NU (IU t) v body)):=VQ h3 (by omega)
      have key:=hE (Z:=Z1) (hl:=rfl) (l := .sl q 0 3 (.ex 3)) (g:=gS gs) (fd:=fd) (pts:=nq t (Mz 2 false t (jf (IU t) v body))) ht1 hc (by decide) hT.k0 (hT.tg0 Z1 hp1) hT.itm ⟨fun k hk=>by
          by_cases ek:k=t
          · subst ek
            obtain⟨lf,vk,vl,vm,vr,lb,vb⟩:=hr1.dv.lf (E:=E) ht1 (by omega)
            rw[PT hr1.hv]
            have:nq k (Mz 2 false k (jf (IU k) v body)) k=some (Mz 2 false k (jf (IU k) v body)):=by unfold nq;rw[Rb]
            rw[this]
            refine⟨.val (by
              rw[vk,Bl]
              have:k=0\/k=1\/k=2:=by omega
              rcases this with rfl|rfl|rfl<;>rfl) (hT.fty k hk) vb fun Z2 f2=>?_,_,0,0,lb,by rw[vl];exact GM.nils,by rw[vm];exact GM.nils⟩
            exact hL f2.tidy (hc.fr f2 ht1) (by omega) (by rw[(hT.kd k hk).1,vk]) (hT.tg Z2 k (hT.ptf _ _ ht1 f2 hp1) hk) ⟨.inl rfl,fun t ht=>by rw[Dk.1 ht];exact⟨.inr rfl,by show k<16384;omega⟩⟩ (lf.fr f2)
          · have:nq t (Mz 2 false t (jf (IU t) v body)) k=none:=by
              unfold nq
              rw[show AY k t=false from by rw[<-Fe,AQ];exact ek]
            rw[this,PT (hr1.abs k hk ek)]
            exact⟨.abs rfl,0,0,0,GM.nils,GM.nils,GM.nils⟩,hT.frow Z1 hp1,hr1.row,by decide⟩ (by decide) (by
          rw[pe,List.flatten_singleton,ew,B9];omega)
      rw[pe,List.flatten_singleton,ew,js (by omega)]at key
      exact key⟩)
  exact⟨w,e,Z',g,wo,f,q1,q2⟩
theorem fO {t:Nat} (ht:t<3) (e:List Nat):(∀i,i<3->i≠t->(NC true [0,1,2] [(e,(2,t))]).1[i]? = some none)/\(NC true [0,1,2] [(e,(2,t))]).1[t]? = some (some (e,(2,t)))/\(NC true [0,1,2] [(e,(2,t))]).2=[]:=by
 have:t=0\/t=1\/t=2:=by omega
 rcases this with rfl|rfl|rfl
 ·refine⟨fun i hi hne=>?_,rfl,rfl⟩
  have:i=1\/i=2:=by omega
  rcases this with rfl|rfl<;>rfl
 ·refine⟨fun i hi hne=>?_,rfl,rfl⟩
  have:i=0\/i=2:=by omega
  rcases this with rfl|rfl<;>rfl
 ·refine⟨fun i hi hne=>?_,rfl,rfl⟩
  have:i=0\/i=1:=by omega
  rcases this with rfl|rfl<;>rfl
end
theorem vh {L:List Nat} {l k:Nat} (h:UQ L l k):k=1:=by
 cases h;rfl
theorem no0 {L:List Nat} {l k:Nat} (h:qZ L l k):k=0:=by
 cases h;rfl
theorem Y6 {e b b':List Nat} {c t h h':Nat} {mk mk':Bool} (h1:jY e c t mk b h) (h2:jY e c t mk' b' h'):b=b':=by
 obtain⟨n,k,q1,q2,q3,_⟩:=h1.hd.p
 obtain⟨n',k',p1,p2,p3,_⟩:=h2.hd.p
 have e1:n=0:=no0 q1
 have e2:n'=0:=no0 p1
 have e3:k=1:=vh q2
 have e4:k'=1:=vh p2
 rw[<-h1.body,<-h2.body,q3,p3,e1,e2,e3,e4]
def Qd (t:Nat) (body:List Nat) (Z:H) (vc:List V):Prop:=∃q gs v,vc=(vS q).c/\WZ Z q gs t v body
theorem YJ {a b:List Nat}:LH a=LH b↔a=b:=⟨fun h=>by unfold LH at h;injection h with _ h;injection h with _ h,fun h=>by rw[h]⟩
section
variable {E:EB} {D:Ai} {N M:Nat} {B Wi Sl:List V->H->AH} {Pt:H->Prop} {nm:BS} {nv rv tv:V} {ty:Nat->Ty} {fd:Nat->Fd}
theorem aa.fty' (hT:aa B Wi Sl Pt nm nv rv tv ty fd) {Z:H} {p:Nat} (hp:Pt Z) (hd:CM Z p [.bool false,.str nm,nv,rv,tv]):jQ B Wi Pt Z p 4 ty [.str nm,nv,rv,tv] tv (ty 0) 3 fd (fun k=>k+1) (fun k=>k) IU:=
 ⟨hT.frow Z hp,fun k hk=>⟨hT.fty k hk,(hT.kd k hk).1,by
  have:k=0\/k=1\/k=2:=by omega
  rcases this with rfl|rfl|rfl
  ·exact .inl rfl
  ·exact .inr (.inl rfl)
  ·exact .inr (.inr (.inr rfl)),⟨⟨nm,nv,rv,rfl⟩,hd,hT.row Z hp,by omega,(hT.tg Z k hp hk).s⟩,hT.bw k hk⟩,hT.t4,hp,hT.ptf,hd,hT.itm⟩
theorem oZ (hT:aa B Wi Sl Pt nm nv rv tv ty fd) (hVr:pT B Wi M (D 15)) (hM:1<M) (hEn:UO Pt nm nv rv tv (D 16)) (hB:WD E (D 17)) {Z:H} {u:V} {t x:Nat} {mk ok:Bool} {body:List Nat} (ht:Ao Z) (hp:Pt Z) (hu:Oc Z u (LH (x::body.length::body))) (h3:t<3) (hx:x<256) (hx1:x / 64=2) (hx2:x % 32=t) (hx3:x / 32 % 2=1↔mk=true) (hb:Lu body) (hl:body.length<=100)
    (hok:∀(Z:H) (v:Vc),Dv Z (IU t) v body->(SN t v&&decide (N5 t (NU (IU t) v body)=x::body.length::body))=ok) :
    ∃vc er Z',F9 E D (AT E D) N [.agg [.str nm,nv,rv,tv],.int .i64 (AA 0),u] Z=some (.tup [.agg vc,.int .i64 (AA er)],Z')/\Fr AF Z Z'/\(ok=true->er=0/\Qd t body Z' vc)/\(ok=false->er=4/\vc=EW):=by
  obtain⟨o1,o2,o3⟩:=hT.ones
  obtain⟨em,eb⟩:=Y7 (t:=t) hx hx1 hx2 (by omega) hx3 (by omega) hb
  obtain⟨e,he⟩:∃e,e=x::body.length::body:=⟨_,rfl⟩
  have hle:e.length=body.length+2:=by rw[he];rfl
  rw[<-he]at em eb hu hok
  obtain⟨rm,rb⟩:=Y7 (x:=48) (t:=16) (c:=0) (mk:=true) (body:=e) (by decide) rfl rfl (by decide) (by decide) (by omega) eb
  have rl:(LH e).length=e.length+2:=rfl
  obtain⟨p1,p2,p3⟩:=fO h3 e
  refine wF (E:=E) (D:=D) (N:=N) (nT:=4) (Q:=Qd t body) (L:=LH e) ht o1 o2 o3 (hT.row Z hp).len.2 (by decide) hu (by omega) (fun Z1 p f hd=>?_) (fun Z1 Z2 l h1 f ⟨q,gs,v,hv,hr⟩=>⟨q,gs,v,hv,hr.fr f h1⟩) (fun Z2 a b c d e' f' f hq=>?_)
  · have hp1:=hT.ptf _ _ ht f hp
    obtain⟨Zb,Z',q,gs,m,g,hg,hat,hgd,_,hm,f'⟩:=hVr (X:=[(e,(2,t))]) (ts:=[0,1,2]) (K:=7) (un:=16) (i0:=0) (dp:=1) (nf:=3) (L:=LH e) (mk:=true) (h:=2) f.tidy (hT.fty' hp1 hd) ⟨nm,nv,rv,rfl⟩ (hT.row Z1 hp1) (by decide) hT.k0 (.inl rfl) (hT.tg0 Z1 hp1) (hu.fr0 f ht) rb (by
        rw[show ([(e,(2,t))].map (·.1)).flatten=e from CZ e];exact rm) (by omega) (by decide) (by decide) (by decide) (fun y hy=>by
        rw[Dk.1 hy];exact⟨eb,by show e.length<=100000;omega,mk,body,2,em⟩) (by simp) hM rfl (fun i t' hi=>by
        match i,hi with
        | 0,hi=>cases hi;rfl
        | 1,hi=>cases hi;rfl
        | 2,hi=>cases hi;rfl
        | i+3,hi=>simp at hi)
    have g:D 15 [.ptr p 0,.int .i64 (AA 0),u,.int .i64 (AA 1)] Z1=some (.agg [.int .i64 (AA 7),.int .i64 (AA 0),.nils,.sl q 0 3 (.ex 3),.int .i64 (AA (nZ ((NC true [0,1,2] [(e,(2,t))]).2.map (·.1)))),m],Z'):=g
    have hm:m = .nils:=hm p3
    rw[p3,hm]at g
    have hgd:∀i,i<3->∃o v,(NC true [0,1,2] [(e,(2,t))]).1[i]? = some o/\gs[i]? = some v/\Gd Zb Z' i (IU i) o v:=hgd
    obtain⟨o,v,q1,q2,q3⟩:=hgd t h3
    rw[p2]at q1
    cases q1
    obtain⟨mk',body',h',r1,_,_,r2,_⟩:=q3
    have:body'=body:=Y6 r1 em
    subst this
    refine⟨AA 7,AA 0,.nils,.sl q 0 3 (.ex 3),AA 0,.nils,Z',g,rfl,rfl,rfl,⟨q,gs,v,rfl,hat,hg,q2,fun i hi hne=>?_,r2,hl,h3⟩,f'⟩
    obtain⟨o,w,s1,s2,s3⟩:=hgd i hi
    rw[p1 i hi hne]at s1
    cases s1
    rw[s2,show w=Vc.abs from s3]
  · obtain⟨q,gs,v,hv,hr⟩:=hq
    rw[hv]
    obtain⟨w,er,Z3,g,wo,f3,k1,k2⟩:=hEn f.tidy (hT.ptf _ _ ht f hp) hr
    refine⟨w,er,Z3,g,wo,f3,?_⟩
    have hk:=hok Z2 v hr.dv
    cases hf:SN t v with
    | false=>
      rw[hf,Rh]at hk
      rw[k2 hf]
      exact .inl ⟨rfl,hk.symm⟩
    | true=>
      rw[hf,DW]at hk
      obtain⟨e0,hn⟩:=k1 hf
      refine .inr ⟨e0,fun Z4 f4=>?_⟩
      have lw:=Ux hr.dv hl
      have ow:Oc Z3 w (LH (N5 t (NU (IU t) v body))):=Oc.of_dst (by
        have:=hn.1
        rw[B9]at this
        exact this)
      have bw:Lu (LH (N5 t (NU (IU t) v body))):=fun c hc=>by
        have hwb:Lu (NU (IU t) v body):=by
          have hdv:=hr.dv
          revert hdv
          generalize IU t=kk
          intro hdv
          cases hdv with
          | b1 h=>intro c hc;have:c∈([255]:List Nat):=hc;simp at this;omega
          | b0 h=>intro c hc;have:c∈([0]:List Nat):=hc;simp at this;omega
          | @int n r h h2=>exact Nd n
          | oct h=>exact hb
          | nul=>intro c hc;cases hc
        have lm:(N5 t (NU (IU t) v body)).length=(NU (IU t) v body).length+2:=rfl
        rcases Al.1 hc with rfl|hc
        · decide
        · rcases Al.1 hc with rfl | hc
          · omega
          · rcases Al.1 hc with rfl | hc
            · omega
            · rcases Al.1 hc with rfl | hc
              · omega
              · exact hwb c hc
      have:=hB (ow.fr0 f4 f3.tidy) ((hu.fr0 (f.trans f3 (fun _ _ h=>h)) ht).fr0 f4 f3.tidy) bw rb (by show 0<(_::_).length;simp) (by show 0<(_::_).length;simp)
      rw[this,<-hk]
      rw[decide_eq_decide.2 (YJ (a:=N5 t (NU (IU t) v body)) (b:=e))]
end
theorem Tq {Z:H} {v:Vc} {body:List Nat} (h:Dv Z 2 v body):∃n,v=Vc.int n/\DQ n/\∀m,DQ m->body=sN m->n=m:=by
 cases h with
 | @int n _ h h2=>exact⟨n,rfl,h,h2⟩
theorem wC {Z:H} {v:Vc} {y:Nat} (h:Dv Z 1 v [y]):(v=vB 1 1/\y≠0)\/(v=vB 1 0/\y=0):=by
 cases h with
 | b1 h=>exact .inl ⟨rfl,h⟩
 | b0 h=>exact .inr ⟨rfl,h _ _ rfl⟩
theorem ADM {y:Nat} (hy:y<256) (Z:H) (v:Vc) (h:Dv Z (IU 0) v [y]):(SN 0 v&&decide (N5 0 (NU (IU 0) v [y])=128::[y].length::[y]))=(decide (y=0) || decide (y=255)):=by
 rcases wC h with ⟨rfl,h0⟩|⟨rfl,rfl⟩
 ·show (true&&decide ([128,1,255]=[128,1,y]))=_
  rw[DW,decide_eq_false h0,Ct]
  refine decide_eq_decide.2 ⟨fun e=>?_,fun e=>by rw[e]⟩
  injection e with _ e;injection e with _ e;injection e with e _;exact e.symm
 ·rfl
theorem ADL {n:Int} (hn:DQ n) (Z:H) (v:Vc) (h:Dv Z (IU 1) v (sN n)):(SN 1 v&&decide (N5 1 (NU (IU 1) v (sN n))=129::(sN n).length::sN n))=!decide (n=5):=by
 obtain⟨m,rfl,h1,h2⟩:=Tq h
 have:m=n:=h2 n hn rfl
 subst this
 have e:N5 1 (NU (IU 1) (Vc.int m) (sN m))=129::(sN m).length::sN m:=rfl
 rw[decide_eq_true e,Fa]
 rfl
theorem Yn {n:Int} (hn:DQ n) {m:Int} (hm:DQ m):sN m≠(if n<0 then 255 else 0)::sN n:=by
 intro e
 obtain⟨c,r,hc,hs⟩:=eu hn
 rw[hc]at e
 obtain⟨h1,h2⟩:=nY hm e
 by_cases h:n<0
 ·rw[if_pos h]at h2
  exact h2 ⟨rfl,by
   rcases A1 c 128 with h'|h'
   ·have:=hs.1 h';omega
   ·exact h'⟩
 ·rw[if_neg h]at h1
  exact h1 ⟨rfl,hs.2 (by omega)⟩
theorem XD {n:Int} (hn:DQ n) (Z:H) (v:Vc) (h:Dv Z (IU 1) v ((if n<0 then 255 else 0)::sN n)):(SN 1 v&&decide (N5 1 (NU (IU 1) v ((if n<0 then 255 else 0)::sN n))=129::((if n<0 then 255 else 0)::sN n).length::((if n<0 then 255 else 0)::sN n)))=false:=by
 obtain⟨m,rfl,h1,h2⟩:=Tq h
 have e:¬N5 1 (NU (IU 1) (Vc.int m) ((if n<0 then 255 else 0)::sN n))=129::((if n<0 then 255 else 0)::sN n).length::((if n<0 then 255 else 0)::sN n):=fun e=>by
  have e:129::(sN m).length::sN m=129::((if n<0 then 255 else 0)::sN n).length::((if n<0 then 255 else 0)::sN n):=e
  injection e with _ e
  injection e with _ e
  exact Yn hn h1 e
 rw[decide_eq_false e,Bool.and_false]
theorem ADK {w:List Nat} (Z:H) (v:Vc) (h:Dv Z (IU 2) v w):(SN 2 v&&decide (N5 2 (NU (IU 2) v w)=162::w.length::w))=false:=by
 have e:¬N5 2 (NU (IU 2) v w)=162::w.length::w:=fun e=>by
  have e:130::_=162::_:=e
  injection e with e _
  cases e
 rw[decide_eq_false e,Bool.and_false]
theorem oV {w:List Nat} (hw:w.length<128):Mz 2 true 2 (nI w)=nI (162::w.length::w):=by
 unfold Mz
 rw[B9,VK hw]
 rfl
theorem wB {w:List Nat} (hw:w.length<128):Mz 0 false 4 (nI w)=nI (4::w.length::w):=by
 unfold Mz
 rw[B9,VK hw]
 rfl
def pa (F:List V->H->AH):Prop:=∀Z:H,Ao Z->∃Z',F [] Z=some (.bool true,Z')/\Fr AF Z Z'
theorem vH {Z:H} {q:Nat} {gs:List Vc} (h:CM Z q (Kv gs)) (hl:gs.length=3):Fj Z 6 3 (.sl q 0 3 (.ex 3)) fun k=>(gS gs k).c:=
 ⟨.inr ⟨q,_,_,rfl,h,fun k hk=>⟨by rw[M6,hl];omega,by
  have:gs[k]? = some (gS gs k):=by unfold gS;rw[Bj,Am (by rw[hl];exact hk)];rfl
  exact QY gs k _ this⟩⟩⟩
def bD (Pt:H->Prop) (nm:BS) (nv rv tv:V) (F:List V->H->AH):Prop:=∀{Z:H} {u:V} {t x:Nat} {mk ok:Bool} {body:List Nat},Ao Z->Pt Z->Oc Z u (LH (x::body.length::body))->t<3->x<256->x / 64=2->x % 32=t->(x / 32 % 2=1↔mk=true)->Lu body->body.length<=100->(∀(Z:H) (v:Vc),Dv Z (IU t) v body->(SN t v&&decide (N5 t (NU (IU t) v body)=x::body.length::body))=ok) ->
 ∃vc er Z',F [.agg [.str nm,nv,rv,tv],.int .i64 (AA 0),u] Z=some (.tup [.agg vc,.int .i64 (AA er)],Z')/\Fr AF Z Z'/\(ok=true->er=0/\Qd t body Z' vc)/\(ok=false->er=4/\vc=EW)
section
variable {E:EB} {D:Ai} {N:Nat} {Pt:H->Prop} {nm:BS} {nv rv tv:V}
theorem VI (hEl:WB E (D 8)) (hDc:bD Pt nm nv rv tv (D 9)) (hAw:pa (D 10)) (hZ:Sw (D 11)) (hV:V9 (D 11)) (hptf:∀Z Z',Ao Z->Fr AF Z Z'->Pt Z->Pt Z') (h4:ov [.str nm,nv,rv,tv])
    {Z:H} {bv:V} {tb wb wl t x:Nat} {mk ok:Bool} {body:List Nat} {ws:List Vc} (ht:Ao Z) (hp:Pt Z) (atb:CM Z tb [.str nm,nv,rv,tv]) (hb:By Z bv (nI (x::body.length::body))) (awb:CM Z wb [.int .i64 (AA 7),.int .i64 (AA 0),.nils,.sl wl 0 3 (.ex 3),.int .i64 (AA 0),.nils]) (awl:CM Z wl (Kv ws))
    (h3:t<3) (hx:x<256) (hx1:x / 64=2) (hx2:x % 32=t) (hx3:x / 32 % 2=1↔mk=true) (hby:Lu body) (hl:body.length<=100)
    (hok:∀(Z:H) (v:Vc),Dv Z (IU t) v body->(SN t v&&decide (N5 t (NU (IU t) v body)=x::body.length::body))=ok)
    (hw:ok=true->∀(Z:H) (q:Nat) (gs:List Vc) (v:Vc),WZ Z q gs t v body->gs=ws/\∀k,k<3->Nl (gS ws k)) :
    ∃Z',gy E D (AT E D) tb 0 true bv ok wb 0 Z=some (.bool true,Z'):=by
  obtain⟨_,_,_,_,e,o1,o2,o3,b1,b2,b3⟩:=h4.ex
  injection e with e1 e
  injection e with e2 e
  injection e with e3 e
  injection e with e4 e
  subst e2;subst e3;subst e4
  have fw:Fr AF Z ⟨Z.next+11,Z.bl⟩:=(CW (E:=E) (n:=11) (S:=AF) ht).fr
  obtain⟨u1,Z1,g1,h1,f1⟩:=hEl (c:=0) (k:=16) (l:=nI (x::body.length::body)) true fw.tidy (.inl rfl) (by decide) (by rw[B9];simp only[As];omega) (Bx.of (hb.fr fw ht) fw.tidy)
  rw[js (by simp only[As];omega)]at h1
  have F1:Fr AF Z Z1:=fw.trans f1 (fun _ _ h=>h)
  have ou:Oc Z1 u1 (LH (x::body.length::body)):=Oc.of_dst (by
    have:=h1.1
    rw[B9]at this
    exact this)
  obtain⟨vc,er,Z2,g2,f2,k1,k2⟩:=hDc F1.tidy (hptf _ _ ht F1 hp) ou h3 hx hx1 hx2 hx3 hby hl hok
  have F2:Fr AF Z Z2:=F1.trans f2 (fun _ _ h=>h)
  have n1:Z.next+11<=Z1.next:=f1.le
  have n2:Z1.next<=Z2.next:=f2.le
  have hvc:vc.length=6/\allOne vc=true:=by
    cases ok with
    | true=>
      obtain⟨_,q,gs,v,rfl,_⟩:=k1 rfl
      exact⟨rfl,(vS q).allOne⟩
    | false=>
      obtain⟨_,rfl⟩:=k2 rfl
      exact⟨rfl,rfl⟩
  obtain⟨vl,vo⟩:=hvc
  let Z3:H:=⟨Z2.next,(Z.next+8,.cells EW)::Z2.bl⟩
  have F3:Fr AF Z Z3:=⟨fun c hc=>by
    have hc:Z2.next<=c:=hc
    show BG ((Z.next+8,_)::Z2.bl) c=none
    rw[Av,if_neg (by simp only[];omega)];exact f2.tidy c hc,F2.le,fun c hc _=>by
    show BG ((Z.next+8,_)::Z2.bl) c=_
    rw[Av,if_neg (by simp only[];omega)];exact F2.same c hc (fun h=>h)⟩
  have a3:CM Z3 (Z.next+8) EW:=by
    show BG ((Z.next+8,_)::Z2.bl) _=_
    rw[Av,if_pos rfl]
  obtain⟨Z4,g4,f4,a4⟩:∃Z4,Db E D (.store 6 (.tmp 14) (.tmp 79)) [(14,.ptr (Z.next+8) 0),(79,.agg vc)] Z3=some (.dead,Z4)/\Fr (fun b=>b=Z.next+8) Z3 Z4/\CM Z4 (Z.next+8) vc:=by
    obtain⟨Z4,r1,r2,r3⟩:=KI (E:=E) (D:=D) (n:=6) (x := .tmp 14) (y := .tmp 79) (e:=[(14,.ptr (Z.next+8) 0),(79,.agg vc)]) F3.tidy a3 rfl (show (B8 [(14,.ptr (Z.next+8) 0),(79,.agg vc)] (.tmp 79)).cells=vc from rfl) (by rw[vl,vo];rfl)
    have:HT EW 0 vc=vc:=by
      match vc,vl with
      | [a,b,c,d,e,f],_=>rfl
    rw[this]at r3
    exact⟨Z4,r1,r2,r3⟩
  have bo:=hb.one
  have ab:V.beq (.agg [.str nm,nv,rv,tv]) (.agg [.str nm,nv,rv,tv])=true:=by simp[V.beq,I1,b1,b2,b3]
  have go:E8 E D Z 11 0 AF Xn dR ⟨[(7,.ptr tb 0),(8,.bool true),(10,bv),(11,.bool ok),(12,.ptr wb 0)],Z.next+11,[Z.bl],[],0,[]⟩ _ Z4:=
    J3 (.agg [.str nm,nv,rv,tv]) (CW ht) rfl (FF (b:=tb) (off:=0) (m:=4) rfl atb rfl rfl ht (fun h=>h) ab) fun _ r1=>
    Cp (.agg [.int .i64 (AA 0),.int .i64 (AA 16)]) rfl rfl <|
    Cp bv rfl (EJ rfl (Bb bo)) <|
    KU u1 r1 rfl (by decide) f1 (fun _ _ h=>h) (fun _ h _ _=>h) (D3 (vs:=[.agg [.int .i64 (AA 0),.int .i64 (AA 16)],.bool true,bv]) rfl (by rw[Bh,Bh,Bh,Bb bo];rfl) g1) fun _ _ _ r2=>
    KU (.tup [.agg vc,.int .i64 (AA er)]) r2 rfl (by decide) f2 (fun _ _ h=>h) (fun _ h _ _=>h) (D3 (vs:=[.agg [.str nm,nv,rv,tv],.int .i64 (AA 0),u1]) rfl (by rw[Bh,Bh,Bh,Bb h1.1.one];rfl) g2) fun _ _ _ r3=>
    Cp (.tup [.agg vc,.int .i64 (AA er)]) rfl rfl <|
    Cp (.agg vc) rfl rfl <|
    Cp (.int .i64 (AA er)) rfl rfl <|
    XG (.ptr (Z.next+8) 0) (.cells EW) 256 r3 rfl (by decide) (by decide) rfl fun _ r4=>
    jo .dead r4 rfl (by decide) f4 (fun b h e=>by omega) (fun b e h1 h2=>by subst e;rw[Eu];decide) g4 fun _ _ _ r5=>
    Cp (.int .i64 (AA er)) rfl rfl <|
    Hx r5
  obtain⟨ev,d,y8,jd,Iz,X2,Uv⟩:∃ev,AT E D Xn dR [(7,.ptr tb 0),(8,.bool true),(10,bv),(11,.bool ok),(12,.ptr wb 0)] Z=some (ev,Z4)/\Go.Og.look ev 8=some (.bool true)/\Go.Og.look ev 11=some (.bool ok)/\Go.Og.look ev 12=some (.ptr wb 0)/\Go.Og.look ev 14=some (.ptr (Z.next+8) 0)/\Go.Og.look ev 15=some (.int .i64 (AA er)):=⟨_,(GK (ops:=Xn) go).1,rfl,rfl,rfl,rfl,rfl⟩
  have F4:Fr AF Z Z4:=F3.trans f4 (fun b hb e=>by omega)
  have gd:∀J:Bp->H->AH,Ch (AT E D Xn dR [(7,.ptr tb 0),(8,.bool true),(10,bv),(11,.bool ok),(12,.ptr wb 0)] Z) J=J ev Z4:=fun J=>by rw[d];rfl
  have z8:∀J:V->AH,BO ev 8 J=J (.bool true):=fun J=>BQ y8 rfl
  have z11:∀J:V->AH,BO ev 11 J=J (.bool ok):=fun J=>BQ jd rfl
  have z12:∀J:V->AH,BO ev 12 J=J (.ptr wb 0):=fun J=>BQ Iz rfl
  have z14:∀J:V->AH,BO ev 14 J=J (.ptr (Z.next+8) 0):=fun J=>BQ X2 rfl
  have z15:∀J:V->AH,BO ev 15 J=J (.int .i64 (AA er)):=fun J=>BQ Uv rfl
  obtain⟨Z5,g5,f5⟩:=hAw Z4 F4.tidy
  have F5:Fr AF Z Z5:=F4.trans f5 (fun _ _ h=>h)
  have a5:=f5.at_ a4 F4.tidy (fun h=>h)
  have ld:∀J:List V->AH,BP E Z5 (Z.next+8) 0 6 J=J vc:=fun J=>by
    rw[Az a5,Jd (by omega),Cq,<-vl,DF]
  cases ok with
  | false=>
    obtain⟨rfl,rfl⟩:=k2 rfl
    obtain⟨Z6,g6,f6⟩:=hZ (Z:=Z5) Vc.abs F5.tidy ⟨rfl,rfl,rfl⟩
    refine⟨Z6,?_⟩
    unfold Vc.c Vc.abs at g6
    unfold EW at ld
    unfold gy
    simp -implicitDefEqProofs only [↓rP,rA,AD,AG,AB,↓gd,↓z8,↓z11,↓z12,↓z14,↓z15,↓g5,Bl,decide_true,↓ld,↓g6]
  | true=>
    obtain⟨rfl,q,gs,v,rfl,hr⟩:=k1 rfl
    obtain⟨rfl,hnl⟩:=hw rfl Z2 q gs v hr
    have qlt:q<Z2.next:=hr.at_.lt f2.tidy
    have n8:BG Z2.bl (Z.next+8)=none:=by
      have e1:BG Z2.bl (Z.next+8)=BG Z1.bl (Z.next+8):=f2.same _ (by omega) (fun h=>h)
      have e2:BG Z1.bl (Z.next+8)=BG Z.bl (Z.next+8):=f1.same _ (by show Z.next+8<Z.next+11;omega) (fun h=>h)
      rw[e1,e2]
      exact ht _ (by omega)
    have qne:q≠Z.next+8:=fun e=>by
      have:BG Z2.bl q=some (.cells (Kv gs)):=hr.at_
      rw[e,n8]at this
      cases this
    have aq3:CM Z3 q (Kv gs):=by
      show BG ((Z.next+8,_)::Z2.bl) q=_
      rw[Av,if_neg (by simp only[];omega)];exact hr.at_
    have aq5:=f5.at_ (f4.at_ aq3 F3.tidy (fun e=>qne e)) F4.tidy (fun h=>h)
    have aw5:=F5.at_ awb ht (fun h=>h)
    obtain⟨Z6,g6,f6⟩:=hV (Z:=Z5) (l := .sl q 0 3 (.ex 3)) (l' := .sl wl 0 3 (.ex 3)) (hl:=rfl) (hl':=rfl) (K:=7) (g:=gS gs) F5.tidy (vH aq5 hr.len) (vH (F5.at_ awl ht (fun h=>h)) hr.len) hnl (by decide)
    refine⟨Z6,?_⟩
    have ldw:∀J:List V->AH,BP E Z5 wb 0 6 J=J [.int .i64 (AA 7),.int .i64 (AA 0),.nils,.sl wl 0 3 (.ex 3),.int .i64 (AA 0),.nils]:=fun J=>by rw[Az aw5];rfl
    unfold Vc.c Vr at g6
    unfold vS Vc.c Vr at ld
    unfold gy
    simp -implicitDefEqProofs only [↓rP,rA,AD,AG,AB,↓gd,↓z8,↓z11,↓z12,↓z14,↓z15,↓g5,Bl,decide_true,↓ld,↓ldw,↓g6]
end
theorem gs3 {gs:List Vc} {a b c:Vc} (hl:gs.length=3) (h0:gs[0]? = some a) (h1:gs[1]? = some b) (h2:gs[2]? = some c):gs=[a,b,c]:=by
 match gs,hl with
 | [x,y,z],_=>
  simp at h0 h1 h2
  rw[h0,h1,h2]
theorem nlB (k n:Nat):Nl (vB k n):=⟨rfl,rfl,rfl⟩
theorem nlA:Nl Vc.abs:=⟨rfl,rfl,rfl⟩
theorem AC9 (c:Int):∃r:Nat,r<4/\GH (Ap .u64 c) (AA 4)=AA r:=by
 obtain⟨k,hk⟩:∃k:Nat,Ap .u64 c=AA k:=by
  rw[NS]
  exact Int.eq_ofNat_of_zero_le (Int.emod_nonneg _ (by decide))
 exact⟨k % 4,tq _ (by decide),by rw[hk];rfl⟩
def kP (D:Ai) (F:List V->H->AH) (t0:BS):Prop:=∀Z:H,Ao Z->∃Pt nm nv rv tv Z',F [.str t0] Z=some (.tup [.agg [.str nm,nv,rv,tv],.bool true],Z')/\Fr AF Z Z'/\Pt Z'/\(∀Z Z',Ao Z->Fr AF Z Z'->Pt Z->Pt Z')/\ov [.str nm,nv,rv,tv]/\bD Pt nm nv rv tv (D 9)
section
variable {E:EB} {D:Ai} {N:Nat}
theorem vi {t0:BS} (ht0:t0=BS.mk 137 226512669145774835787552813045342205744664672948163956739964864073194674402257524072219146352772370422835385268860203894635856546299145261305076249863035954196228233577801936438188401159539121422570938484479284731963997307652805544338596275674289996615417362922097323455017081215090127200226272488853258482717530386776042823229517)
    (hTb:kP D (D 6) t0) (hSg:GZ (D 7)) (hEl:WB E (D 8)) (hAw:pa (D 10)) (hZ:Sw (D 11)) (hV:V9 (D 11)) {Z:H} (ht:Ao Z) {n:Int} (hn:DQ n) {y:Nat} (hy:y<256) (kind:Int) :
    ∃Z',F3 E D (AT E D) N [.int .i64 n,.int .u8 (AA y),.int .i64 kind] Z=some (.bool true,Z'):=by
  subst ht0
  obtain⟨Pt,nm,nv,rv,tv,Z1,g1,f1,hp1,hptf,h4,hDc⟩:=hTb Z ht
  obtain⟨_,_,_,_,e,o1,o2,o3,b1,b2,b3⟩:=h4.ex
  injection e with e1 e
  injection e with e2 e
  injection e with e3 e
  injection e with e4 e
  subst e2;subst e3;subst e4
  obtain⟨Z2,e2,f2,a2,n2⟩:=Jo f1.tidy [.str ⟨0,0⟩,.nils,.nils,.nils]
  obtain⟨Z3,g3,f3,a3,n3⟩:=Ff (n:=4) (o:=0) (v := .agg [.str nm,nv,rv,tv]) f2.tidy a2 (by
    show (AY 4 4&&Ac (0+4) 4&&allOne [.str nm,nv,rv,tv])=true
    simp[Bk,B4,o1,o2,o3,Jk])
  have a3:CM Z3 Z1.next [.str nm,nv,rv,tv]:=a3
  have F13:Fr AF Z1 Z3:=f2.trans f3 (fun b hb e=>by omega)
  obtain⟨c,Z4,g4,hc,f4⟩:=hSg hn F13.tidy
  have hc:Nb Z3 Z4 c (nI (sN n)):=hc
  have jV:Fr AF Z1 Z4:=F13.trans f4 (fun _ _ h=>h)
  obtain⟨Z5,e5,f5,a5,n5⟩:=Jo jV.tidy (AW 3 [V.int .i64 (AA 0),.int .i64 (AA 0),.nils,.nils,.int .i64 (AA 0),.nils]).flatten
  obtain⟨Z6,e6,f6,a6,n6⟩:=Jo f5.tidy EW
  obtain⟨Z7,g7,f7,a7,n7⟩:=Ff (n:=6) (o:=0) (v := .agg [.int .i64 (AA 7),.int .i64 (AA 0),.nils,.sl Z4.next 0 3 (.ex 3),.int .i64 (AA 0),.nils]) f6.tidy a6 rfl
  have a7:CM Z7 Z5.next [.int .i64 (AA 7),.int .i64 (AA 0),.nils,.sl Z4.next 0 3 (.ex 3),.int .i64 (AA 0),.nils]:=a7
  have jS:Fr AF Z5 Z7:=f6.trans f7 (fun b hb e=>by omega)
  have F47:Fr AF Z4 Z7:=f5.trans jS (fun _ _ h=>h)
  have Kx:Fr AF Z1 Z7:=jV.trans F47 (fun _ _ h=>h)
  have l4:Z3.next<=Z4.next:=f4.le
  have n3':Z3.next=Z1.next+1:=by omega
  have a37:CM Z7 Z1.next [.str nm,nv,rv,tv]:=F47.at_ (f4.at_ a3 F13.tidy (fun h=>h)) jV.tidy (fun h=>h)
  have a57:CM Z7 Z4.next (Kv [Vc.abs,Vc.abs,Vc.abs]):=jS.at_ a5 f5.tidy (fun h=>h)
  have hc7:Nb Z3 Z7 c (nI (sN n)):=hc.fr F47 f4.tidy
  have hp7:Pt Z7:=hptf _ _ f1.tidy Kx hp1
  have cl:(sN n).length<=8:=by rw[KJ];exact(C7 n).2
  have co:=hc.1.one
  obtain⟨r,hr,er⟩:=AC9 kind
  have ch:(Ac 3 3&&Ac (3*96) 281474976710656&&Ac 3 1000000000000)=true:=rfl
  have hwz:Z4.next<Z7.next:=by have:=jS.le;omega
  have put:∀(Z8:H) (k:Nat) (w:Vc),k<3->Fr AF Z7 Z8->∃Z9,(∀J:H->AH,Fg 6 Z4.next (0+k*6) (.agg w.c) Z8 J=J Z9)/\Fr (fun b=>b=Z4.next) Z8 Z9/\CM Z9 Z4.next (Kv ([Vc.abs,Vc.abs,Vc.abs].set k w)):=fun Z8 k w hk f=>by
    obtain⟨Z9,q1,q2,q3,_⟩:=Ff (n:=6) (o:=0+k*6) (v := .agg w.c) f.tidy (f.at_ a57 Kx.tidy (fun h=>h)) (by
      show (AY 6 6&&Ac (0+k*6+6) 18&&allOne w.c)=true
      rw[w.allOne,Fa]
      have:Ac (0+k*6+6) 18=true:=by rw[BB];omega
      rw[this];rfl)
    refine⟨Z9,q1,q2,?_⟩
    rw[Bc]at q3
    rw[<-QX _ _ _ (by exact hk)]
    exact q3
  show ∃Z',T9 E D (AT E D) (jO E D (AT E D) N) (zz E D (AT E D) N) n (AA y) kind Z=_
  have tn:Z1.next<Z4.next:=by omega
  have w5:Z5.next=Z4.next+1:=n5
  have i0:∀J:Nat->Nat->AH,AV 6 (.sl Z4.next 0 3 (.ex 3)) (AA 0) J=J Z4.next (0+0*6):=fun J=>Di (by decide)
  have i1:∀J:Nat->Nat->AH,AV 6 (.sl Z4.next 0 3 (.ex 3)) (AA 1) J=J Z4.next (0+1*6):=fun J=>Di (by decide)
  unfold EW at e6
  have hr4:r=0\/r=1\/r=2\/r=3:=by omega
  rcases hr4 with rfl|rfl|rfl|rfl
  ·
    obtain⟨Z8,e8,f8,a8,n8⟩:=Jo Kx.tidy [.int .u8 (AA y)]
    have hb8:Nb Z7 Z8 (.sl Z7.next 0 1 (.ex 1)) (nI [y]):=Nb.lit (l:=nI [y]) a8 (AL _)
    obtain⟨u9,Z9,g9,h9,f9⟩:=hEl (c:=2) (k:=0) (l:=nI [y]) false f8.tidy (.inr rfl) (by decide) (by rw[B9];show 1<60000;decide) (Bx.of hb8.by_ f8.tidy)
    have h9:Nb Z8 Z9 u9 (nI (N5 0 [y])):=by rw[<-VQ (by decide) (by show 1<128;decide)];exact h9
    have F79:Fr AF Z7 Z9:=f8.trans f9 (fun _ _ h=>h)
    obtain⟨Z10,q1,q2,q3⟩:=put Z9 0 (vB 1 (y % 2)) (by decide) F79
    have F710:Fr (fun b=>b=Z4.next) Z7 Z10:=(Fr.to_any F79).trans q2 (fun _ _ h=>h)
    have u9o:=h9.1.one
    have F110:Fr AF Z1 Z10:=(Kx.trans F79 (fun _ _ h=>h)).trans q2 (fun b hb e=>by omega)
    have a9w:=F79.at_ a7 Kx.tidy (fun h=>h)
    have a10w:=q2.at_ a9w F79.tidy (fun e=>by omega)
    have a10t:=q2.at_ (F79.at_ a37 Kx.tidy (fun h=>h)) F79.tidy (fun e=>by omega)
    have b10:By Z10 u9 (nI (128::[y].length::[y])):=HN.fr h9.by_ q2 F79.tidy (fun b hb e=>by have:=h9.2 b hb;omega)
    have l9:∀J:V->AH,BY E Z9 Z5.next 3 J=J (.sl Z4.next 0 3 (.ex 3)):=fun J=>CU a9w rfl
    obtain⟨Z',g'⟩:=VI (E:=E) (D:=D) (body:=[y]) (t:=0) (x:=128) (mk:=false) (ok:=decide (y=0) || decide (y=255)) (ws:=[vB 1 (y % 2),Vc.abs,Vc.abs]) hEl hDc hAw hZ hV hptf h4 F110.tidy (hptf _ _ f1.tidy F110 hp1) a10t b10 a10w q3 (by decide) (by decide) rfl rfl (by decide) (fun c hc=>by rw[Dk.1 hc];exact hy) (by show 1<=100;decide) (fun Z v h=>ADM hy Z v h) (fun hk Z q gs v hr=>by
      have hv:v=vB 1 (y % 2):=by
        rcases wC hr.dv with ⟨rfl,h0⟩|⟨rfl,rfl⟩
        · rw[BC,decide_eq_true_eq,decide_eq_true_eq]at hk
          rcases hk with h|rfl
          · exact absurd h h0
          · rfl
        · rfl
      have hg:=gs3 hr.len hr.hv (hr.abs 1 (by decide) (by decide)) (hr.abs 2 (by decide) (by decide))
      rw[hv]at hg
      refine⟨hg,fun k hk=>?_⟩
      have:k=0\/k=1\/k=2:=by omega
      rcases this with rfl|rfl|rfl
      · exact nlB 1 (y % 2)
      · exact nlA
      · exact nlA)
    refine⟨Z',?_⟩
    rw[<-g']
    have wv:Ap .i64 (GX .u8 (AA y) (AA 1))=AA (y % 2):=by
      rw[gv (by omega)]
      exact Ba (show y % 2<=9223372036854775807 by omega)
    unfold Vc.c vB at q1
    unfold T9
    cases h0:decide (y=0)with
    | true=>simp -implicitDefEqProofs only [↓rP,rA,AD,AG,AB,↓g1,o1,o2,o3,↓e2,↓g3,↓g4,↓Aj co,↓EF,ch,↓e5,↓e6,↓g7,er,Bl,decide_true,↓e8,↓g9,↓Aj u9o,h0,↓l9,↓i0,wv,↓q1,Bool.true_or];rfl
    | false=>simp -implicitDefEqProofs only [↓rP,rA,AD,AG,AB,↓g1,o1,o2,o3,↓e2,↓g3,↓g4,↓Aj co,↓EF,ch,↓e5,↓e6,↓g7,er,Bl,decide_true,↓e8,↓g9,↓Aj u9o,h0,↓l9,↓i0,wv,↓q1,Ct];rfl
  ·
    obtain⟨u9,Z9,g9,h9,f9⟩:=hEl (c:=2) (k:=1) (l:=nI (sN n)) false Kx.tidy (.inr rfl) (by decide) (by rw[B9];omega) (Bx.of hc7.by_ Kx.tidy)
    have h9:Nb Z7 Z9 u9 (nI (N5 1 (sN n))):=by rw[<-VQ (by decide) (by omega)];exact h9
    obtain⟨Z10,q1,q2,q3⟩:=put Z9 1 (Vc.int n) (by decide) f9
    have u9o:=h9.1.one
    have F110:Fr AF Z1 Z10:=(Kx.trans f9 (fun _ _ h=>h)).trans q2 (fun b hb e=>by omega)
    have a9w:=f9.at_ a7 Kx.tidy (fun h=>h)
    have a10w:=q2.at_ a9w f9.tidy (fun e=>by omega)
    have a10t:=q2.at_ (f9.at_ a37 Kx.tidy (fun h=>h)) f9.tidy (fun e=>by omega)
    have b10:By Z10 u9 (nI (129::(sN n).length::sN n)):=HN.fr h9.by_ q2 f9.tidy (fun b hb e=>by have:=h9.2 b hb;omega)
    have l9:∀J:V->AH,BY E Z9 Z5.next 3 J=J (.sl Z4.next 0 3 (.ex 3)):=fun J=>CU a9w rfl
    obtain⟨Z',g'⟩:=VI (E:=E) (D:=D) (body:=sN n) (t:=1) (x:=129) (mk:=false) (ok:=!decide (n=5)) (ws:=[Vc.abs,Vc.int n,Vc.abs]) hEl hDc hAw hZ hV hptf h4 F110.tidy (hptf _ _ f1.tidy F110 hp1) a10t b10 a10w q3 (by decide) (by decide) rfl rfl (by decide) (Nd n) (by omega) (fun Z v h=>ADL hn Z v h) (fun hk Z q gs v hr=>by
      have hv:v=Vc.int n:=by
        obtain⟨m,rfl,h1,h2⟩:=Tq hr.dv
        rw[h2 n hn rfl]
      have hg:=gs3 hr.len (hr.abs 0 (by decide) (by decide)) hr.hv (hr.abs 2 (by decide) (by decide))
      rw[hv]at hg
      refine⟨hg,fun k hk=>?_⟩
      have:k=0\/k=1\/k=2:=by omega
      rcases this with rfl|rfl|rfl
      · exact nlA
      · exact⟨rfl,rfl,rfl⟩
      · exact nlA)
    refine⟨Z',?_⟩
    rw[<-g']
    have en:Bv n (AA 5)=decide (n=5):=by rw[Ie];rw[De];simp
    unfold Vc.c Vc.int at q1
    unfold T9
    simp -implicitDefEqProofs only [↓rP,rA,AD,AG,AB,↓g1,o1,o2,o3,↓e2,↓g3,↓g4,↓Aj co,↓EF,ch,↓e5,↓e6,↓g7,er,Bl,decide_true,show decide (1=0)=false from rfl,↓g9,↓Aj u9o,↓l9,↓i1,↓q1,en]
    all_goals rfl
  ·
    have main:∀m:Nat,m=(if n<0 then 255 else 0)->∃Z',pA E D (AT E D) (jO E D (AT E D) N) Z1.next 0 true c false Z5.next 0 (AA m) Z7=some (.bool true,Z'):=fun m hm=>by
      have m256:m<256:=by rw[hm];split<;>decide
      obtain⟨Z8,e8,f8,a8,n8⟩:=Jo Kx.tidy [.int .u8 (AA m)]
      have hb8:Nb Z7 Z8 (.sl Z7.next 0 1 (.ex 1)) (nI [m]):=Nb.lit (l:=nI [m]) a8 (AL _)
      obtain⟨u2,Z9,g9,h9,f79,_⟩:=ZW (E:=E) hb8 f8 (hc7.by_.fr f8 Kx.tidy) (by rw[B9,B9];show 1+(sN n).length<=10000000;omega)
      have h9:Nb Z7 Z9 u2 (nI (m::sN n)):=h9
      obtain⟨u4,Z10,g10,h10,f10⟩:=hEl (c:=2) (k:=1) (l:=nI (m::sN n)) false f79.tidy (.inr rfl) (by decide) (by rw[B9];show (sN n).length+1<60000;omega) (Bx.of h9.by_ f79.tidy)
      have hl9:(m::sN n).length<=9:=by show (sN n).length+1<=9;omega
      have h10:Nb Z9 Z10 u4 (nI (N5 1 (m::sN n))):=by rw[<-VQ (by decide) (by omega)];exact h10
      have F710:Fr AF Z7 Z10:=f79.trans f10 (fun _ _ h=>h)
      have F110:Fr AF Z1 Z10:=Kx.trans F710 (fun _ _ h=>h)
      have uo:=h9.1.one
      have u4o:=h10.1.one
      obtain⟨Z',g'⟩:=VI (E:=E) (D:=D) (body:=m::sN n) (t:=1) (x:=129) (mk:=false) (ok:=false) (ws:=[Vc.abs,Vc.abs,Vc.abs]) hEl hDc hAw hZ hV hptf h4 F110.tidy (hptf _ _ f1.tidy F110 hp1) (F710.at_ a37 Kx.tidy (fun h=>h)) h10.by_ (F710.at_ a7 Kx.tidy (fun h=>h)) (F710.at_ a57 Kx.tidy (fun h=>h)) (by decide) (by decide) rfl rfl (by decide) (fun d hd=>by
        rcases Al.1 hd with rfl|hd
        · exact m256
        · exact Nd n d hd) (by omega) (fun Z v h=>by subst hm;exact XD hn Z v h) (fun h=>by cases h)
      refine⟨Z',?_⟩
      rw[<-g']
      unfold pA
      simp -implicitDefEqProofs only [↓rP,rA,AD,AG,AB,↓e8,↓g9,↓Aj uo,↓g10,↓Aj u4o]
      all_goals rfl
    have en:Cv n (AA 0)=decide (n<0):=by rw[Nn];rfl
    cases hd:decide (n<0)with
    | true=>
      obtain⟨Z',g'⟩:=main 255 (by rw[if_pos (of_decide_eq_true hd)])
      refine⟨Z',?_⟩
      rw[<-g']
      rw[hd]at en
      unfold T9
      simp -implicitDefEqProofs only [↓rP,rA,AD,AG,AB,↓g1,o1,o2,o3,↓e2,↓g3,↓g4,↓Aj co,↓EF,ch,↓e5,↓e6,↓g7,er,Bl,decide_true,show decide (2=0)=false from rfl,show decide (2=1)=false from rfl,en]
      all_goals rfl
    | false=>
      obtain⟨Z',g'⟩:=main 0 (by rw[if_neg (of_decide_eq_false hd)])
      refine⟨Z',?_⟩
      rw[<-g']
      rw[hd]at en
      unfold T9
      simp -implicitDefEqProofs only [↓rP,rA,AD,AG,AB,↓g1,o1,o2,o3,↓e2,↓g3,↓g4,↓Aj co,↓EF,ch,↓e5,↓e6,↓g7,er,Bl,decide_true,show decide (2=0)=false from rfl,show decide (2=1)=false from rfl,en]
      all_goals rfl
  ·
    obtain⟨u8,Z8,g8,h8,f8⟩:=hEl (c:=0) (k:=4) (l:=nI (sN n)) false Kx.tidy (.inl rfl) (by decide) (by rw[B9];omega) (Bx.of hc7.by_ Kx.tidy)
    have h8:Nb Z7 Z8 u8 (nI (4::(sN n).length::sN n)):=by rw[<-wB (by omega)];exact h8
    have hl8:(4::(sN n).length::sN n).length<=10:=by show (sN n).length+2<=10;omega
    obtain⟨u9,Z9,g9,h9,f9⟩:=hEl (c:=2) (k:=2) (l:=nI (4::(sN n).length::sN n)) true f8.tidy (.inr rfl) (by decide) (by rw[B9];omega) (Bx.of h8.by_ f8.tidy)
    have h9:Nb Z8 Z9 u9 (nI (162::(4::(sN n).length::sN n).length::(4::(sN n).length::sN n))):=by rw[<-oV (by omega)];exact h9
    have F79:Fr AF Z7 Z9:=f8.trans f9 (fun _ _ h=>h)
    have eZ:Fr AF Z1 Z9:=Kx.trans F79 (fun _ _ h=>h)
    have u8o:=h8.1.one
    have u9o:=h9.1.one
    obtain⟨Z',g'⟩:=VI (E:=E) (D:=D) (body:=4::(sN n).length::sN n) (t:=2) (x:=162) (mk:=true) (ok:=false) (ws:=[Vc.abs,Vc.abs,Vc.abs]) hEl hDc hAw hZ hV hptf h4 eZ.tidy (hptf _ _ f1.tidy eZ hp1) (F79.at_ a37 Kx.tidy (fun h=>h)) h9.by_ (F79.at_ a7 Kx.tidy (fun h=>h)) (F79.at_ a57 Kx.tidy (fun h=>h)) (by decide) (by decide) rfl rfl (by decide) (fun d hd=>by
      rcases Al.1 hd with rfl|hd
      · decide
      · rcases Al.1 hd with rfl | hd
        · omega
        · exact Nd n d hd) (by omega) (fun Z v h=>ADK Z v h) (fun h=>by cases h)
    refine⟨Z',?_⟩
    rw[<-g']
    unfold T9
    simp -implicitDefEqProofs only [↓rP,rA,AD,AG,AB,↓g1,o1,o2,o3,↓e2,↓g3,↓g4,↓Aj co,↓EF,ch,↓e5,↓e6,↓g7,er,Bl,decide_true,show decide (3=0)=false from rfl,show decide (3=1)=false from rfl,show decide (3=2)=false from rfl,↓g8,↓Aj u8o,↓g9,↓Aj u9o]
    all_goals rfl
end
section
variable {E:EB} {D:Ai} {W:AI} {N:Nat} {Z Z':H}
theorem Wu {v:Int} (hv:DQ v) (hN:8<N) (ht:Ao Z):Py (F7 E D W N) [.int .i64 v] Z (Ws v):=by
  have hr:=C7 v
  have loop:∀(m n' j:Nat) (u:V) (Z1:H),j+1+m=C4 v->m<n'->Fr AF Z Z1->Nb Z Z1 u (E3 v (j+1)) ->
      ∃u' Z',iW E D W N n' (v / 2 ^ (8*j)) u Z1=some (u',Z')/\Nb Z Z' u' (Ws v)/\Fr AF Z Z':=by
    intro m
    induction m with
    | zero=>
      intro n' j u Z1 hj hn' f1 hu
      obtain⟨n',rfl⟩:∃k,n'=k+1:=⟨n'-1,by omega⟩
      have hw:=GU hv
      have hjl:C4 v=j+1:=by omega
      rw[hjl,PH v (by omega),Nat.add_sub_cancel,AJ,decide_eq_true_eq,decide_eq_true_eq]at hw
      refine⟨u,Z1,?_,by unfold Ws;rw[hjl];exact hu,f1⟩
      show Xj E D W _ _ (v / 2 ^ (8*j)) u Z1=_
      unfold Xj
      simp -implicitDefEqProofs only [Js,Nn]
      rw[MC (by
        simp only[BM,decide_eq_false_iff_not]
        refine⟨?_,?_⟩
        · show ¬(v / 2 ^ (8*j) < -128);omega
        · show ¬((127:Int)<v / 2 ^ (8*j));omega)]
      rfl
    | succ m ih=>
      intro n' j u Z1 hj hn' f1 hu
      obtain⟨n',rfl⟩:∃k,n'=k+1:=⟨n'-1,by omega⟩
      have hw:=L6 v (n:=j+1) (by omega) (by omega)
      rw[PH v (by omega),Nat.add_sub_cancel,Bool.and_eq_false_iff,decide_eq_false_iff_not,decide_eq_false_iff_not]at hw
      obtain⟨Z2,e2,f2,a2,n2⟩:=Cg f1.tidy (Hv [Ek v (j+1)])
      have f02:=f1.trans f2 (fun _ _ h=>h)
      obtain⟨u3,Z3,g3,h3,f3,_⟩:=ZW (E:=E) (Z0:=Z) (Z:=Z2) (v := .sl Z1.next 0 1 (.ex 1)) (l:=[Ek v (j+1)]) (x:=u) (m:=E3 v (j+1)) (Nb.lit a2 f1.le) f02 (hu.fr f2 f1.tidy).by_ (by rw[EY];simp;omega)
      obtain⟨u4,Z4,g4,h4,f4⟩:=ih n' (j+1) u3 Z3 (by omega) (by omega) f3 h3
      refine⟨u4,Z4,?_,h4,f4⟩
      have key:∀K1 K2,Xj E D W K1 K2 (v / 2 ^ (8*j)) u Z1=K2 (v / 2 ^ (8*(j+1))) u3 Z3:=by
        intro K1 K2
        unfold Xj
        simp -implicitDefEqProofs only [Js,Nn]
        rw[PY (by
          simp only[BC,decide_eq_true_eq]
          rcases hw with h|h
          · left;show v / 2 ^ (8*j) < -128;omega
          · right;show (127:Int)<v / 2 ^ (8*j);omega)]
        have e2':Bn Z1 (.cells [V.int .u8 (Ek v (j+1))])=Z2:=e2
        simp -implicitDefEqProofs only [wD,Sc,↓e2',↓g3,↓Aj h3.1.one]
      exact(key _ _).trans g4
  obtain⟨Z1,e1,f1,a1,n1⟩:=Cg ht (Hv [Ek v 0])
  obtain⟨u,Z',g,hu,f⟩:=loop (C4 v-1) N 0 (.sl Z.next 0 1 (.ex 1)) Z1 (by omega) (by omega) f1 (Nb.lit (l:=[Ek v 0]) a1 (AL _))
  refine⟨u,Z',?_,hu,f⟩
  have e1':Bn Z (.cells [V.int .u8 (Ap .u8 v)])=Z1:=by
    rw[<-e1]
    have:Ap .u8 v=Ek v 0:=by rw[<-Sc];congr 1;simp
    rw[this];rfl
  have hz:v / 2 ^ (8*0)=v:=by simp
  rw[hz]at g
  show gx E D W (iW E D W N N) v Z=_
  unfold gx
  rw[e1']
  exact g
theorem na (hN:8<N):GZ (F7 E D W N):=fun {Z v} hv ht=>by
 have h:=Wu (E:=E) (D:=D) (W:=W) hv hN ht
 unfold Ws at h
 rw[NF v (C4 v) (C7 v).2]at h
 exact h
end
end
end Go.Proofs.YtoengnbdallegaaGreatDoor
namespace Go.Proofs.YtoengnbdallegaaGreatDoor
open Go Go.Og Go.Proofs Go.Shelf
def tlays45_ren : Go.Shelf.Ren := ⟨fun | 45 => 65 | n => n, fun | 22 => 104 | 23 => 29 | 3 => 3 | 4 => 4 | 0 => 0 | n => n, fun | n => n⟩
theorem tlays45 : Go.Proofs.SlLaysE.n45 Tryz.prog tlays45_ren := {
  mixed := by kernel_rfl
  f45 := ⟨Tryz.f65.name, by decide, Tryz.func65.trans (congrArg some (by kernel_rfl))⟩
  t0 := Tryz.underlying0
  a0 := Tryz.isAgg0
  z0 := Tryz.sizeOf0
  v0 := Tryz.zeroValue0
  t3 := Tryz.underlying3
  a3 := Tryz.isAgg3
  z3 := Tryz.sizeOf3
  v3 := Tryz.zeroValue3
  t4 := Tryz.underlying4
  a4 := Tryz.isAgg4
  z4 := Tryz.sizeOf4
  v4 := Tryz.zeroValue4
  t22 := Tryz.underlying104
  a22 := Tryz.isAgg104
  z22 := Tryz.sizeOf104
  v22 := Tryz.zeroValue104
  a23 := Tryz.isAgg29
  z23 := Tryz.sizeOf29 }
theorem wJ:tlays45_ren.f 45=65:=by kernel_rfl
theorem wH:(Tryz.prog.info? (tlays45_ren.t 23)).map (fun i=>i.size)=some 1:=by kernel_rfl
theorem wI:∃i0:TypeInfo,Tryz.prog.info? (tlays45_ren.t 23)=some i0/\i0.size=1:=by
 have h:=wH
 cases hi:Tryz.prog.info? (tlays45_ren.t 23)with
 | none=>rw[hi]at h;cases h
 | some i0=>
  rw[hi]at h
  exact⟨i0,rfl,AM.inj h⟩
theorem oa:HK Tryz.prog (tlays45_ren.f 45)=true:=by kernel_rfl
theorem wG:∀w,(zeroValue (tlays45_ren.t 23)).run Tryz.prog w = .ok (.slice none 0 0) w:=by intro w;kernel_rfl
theorem XY (E:EB):CI Tryz.prog E glob 65 Tv:=by
 obtain⟨i0,h1,h2⟩:=wI
 have:=oY (E:=E) (G:=glob) tlays45 wG h1 h2 oa
 rw[wJ]at this
 exact this
set_option maxHeartbeats 0
noncomputable section
def t0:BS:=⟨137,226512669145774835787552813045342205744664672948163956739964864073194674402257524072219146352772370422835385268860203894635856546299145261305076249863035954196228233577801936438188401159539121422570938484479284731963997307652805544338596275674289996615417362922097323455017081215090127200226272488853258482717530386776042823229517⟩
def uH:Dq:=⟨100,[],
 [],
 .bool true,407,
 []⟩
theorem XR:uH.right 2 ((DT [] 100000 60) 10)=true:=by kernel_rfl
theorem XQ:uH.shape=true:=by kernel_rfl
def eT:Dq:=⟨100,[.str t0],
 [],
 .tup [.agg [.str ⟨1,77⟩,.sl 630 0 1 (.op 1),.sl 1067 0 1 (.op 1),.sl 801 0 4 (.op 13)],.bool true],1080,
 [(630,.cells [.str ⟨1,65⟩]),
 (648,.cells [.int .i64 (AA 0),.int .i64 (AA 16)]),
 (728,.cells [.int .i64 (AA 2),.int .i64 (AA 0)]),
 (759,.cells [.int .i64 (AA 2),.int .i64 (AA 1)]),
 (801,.cells [.int .i64 (AA 7),.sl 648 0 1 (.ex 1),.bool false,.bool false,.bool false,.bool false,.int .i64 (AA 0),.int .i64 (AA 0),.nils,.sl 805 0 3 (.op 11),.int .i64 (AA 3),.bool false,.int .i64 (AA 0),.int .i64 (AA 1),.sl 728 0 1 (.ex 1),.bool false,.bool false,.bool false,.bool false,.int .i64 (AA 0),.int .i64 (AA 0),.nils,.nils,.int .i64 (AA 0),.bool false,.int .i64 (AA 0),.int .i64 (AA 2),.sl 759 0 1 (.ex 1),.bool false,.bool false,.bool false,.bool false,.int .i64 (AA 0),.int .i64 (AA 0),.nils,.nils,.int .i64 (AA 0),.bool false,.int .i64 (AA 0),.int .i64 (AA 5),.sl 803 0 1 (.ex 1),.bool false,.bool false,.bool false,.bool false,.int .i64 (AA 0),.int .i64 (AA 0),.nils,.nils,.int .i64 (AA 0),.bool false,.int .i64 (AA 0)]),
 (803,.cells [.int .i64 (AA 2),.int .i64 (AA 2)]),
 (805,.cells [.str ⟨1,97⟩,.int .i64 (AA 1),.bool true,.bool false,.int .i64 (AA 0),.int .i64 (AA 0),.nils,.nils,.int .i64 (AA 0),.nils,.int .i64 (AA 0),.str ⟨1,98⟩,.int .i64 (AA 2),.bool false,.bool true,.int .i64 (AA 2),.int .i64 (AA 5),.nils,.nils,.int .i64 (AA 0),.nils,.int .i64 (AA 0),.str ⟨1,99⟩,.int .i64 (AA 3),.bool true,.bool false,.int .i64 (AA 0),.int .i64 (AA 0),.nils,.nils,.int .i64 (AA 0),.nils,.int .i64 (AA 0)]),
 (1067,.cells [.int .i64 (AA 0)])]⟩
theorem Y8:eT.right 2 ((DT [] 100000 60) 6)=true:=by kernel_rfl
theorem N6:eT.shape=true:=by kernel_rfl
def XP:Dq:=⟨1080,[.agg [.str ⟨1,77⟩,.sl 630 0 1 (.op 1),.sl 1067 0 1 (.op 1),.sl 801 0 4 (.op 13)],.int .i64 (AA 0)],
 [(630,.cells [.str ⟨1,65⟩]),
 (648,.cells [.int .i64 (AA 0),.int .i64 (AA 16)]),
 (728,.cells [.int .i64 (AA 2),.int .i64 (AA 0)]),
 (759,.cells [.int .i64 (AA 2),.int .i64 (AA 1)]),
 (801,.cells [.int .i64 (AA 7),.sl 648 0 1 (.ex 1),.bool false,.bool false,.bool false,.bool false,.int .i64 (AA 0),.int .i64 (AA 0),.nils,.sl 805 0 3 (.op 11),.int .i64 (AA 3),.bool false,.int .i64 (AA 0),.int .i64 (AA 1),.sl 728 0 1 (.ex 1),.bool false,.bool false,.bool false,.bool false,.int .i64 (AA 0),.int .i64 (AA 0),.nils,.nils,.int .i64 (AA 0),.bool false,.int .i64 (AA 0),.int .i64 (AA 2),.sl 759 0 1 (.ex 1),.bool false,.bool false,.bool false,.bool false,.int .i64 (AA 0),.int .i64 (AA 0),.nils,.nils,.int .i64 (AA 0),.bool false,.int .i64 (AA 0),.int .i64 (AA 5),.sl 803 0 1 (.ex 1),.bool false,.bool false,.bool false,.bool false,.int .i64 (AA 0),.int .i64 (AA 0),.nils,.nils,.int .i64 (AA 0),.bool false,.int .i64 (AA 0)]),
 (803,.cells [.int .i64 (AA 2),.int .i64 (AA 2)]),
 (805,.cells [.str ⟨1,97⟩,.int .i64 (AA 1),.bool true,.bool false,.int .i64 (AA 0),.int .i64 (AA 0),.nils,.nils,.int .i64 (AA 0),.nils,.int .i64 (AA 0),.str ⟨1,98⟩,.int .i64 (AA 2),.bool false,.bool true,.int .i64 (AA 2),.int .i64 (AA 5),.nils,.nils,.int .i64 (AA 0),.nils,.int .i64 (AA 0),.str ⟨1,99⟩,.int .i64 (AA 3),.bool true,.bool false,.int .i64 (AA 0),.int .i64 (AA 0),.nils,.nils,.int .i64 (AA 0),.nils,.int .i64 (AA 0)]),
 (1067,.cells [.int .i64 (AA 0)])],
 .sl 1094 0 1 (.op 2),1095,
 [(630,.cells [.str ⟨1,65⟩]),
 (648,.cells [.int .i64 (AA 0),.int .i64 (AA 16)]),
 (728,.cells [.int .i64 (AA 2),.int .i64 (AA 0)]),
 (759,.cells [.int .i64 (AA 2),.int .i64 (AA 1)]),
 (801,.cells [.int .i64 (AA 7),.sl 648 0 1 (.ex 1),.bool false,.bool false,.bool false,.bool false,.int .i64 (AA 0),.int .i64 (AA 0),.nils,.sl 805 0 3 (.op 11),.int .i64 (AA 3),.bool false,.int .i64 (AA 0),.int .i64 (AA 1),.sl 728 0 1 (.ex 1),.bool false,.bool false,.bool false,.bool false,.int .i64 (AA 0),.int .i64 (AA 0),.nils,.nils,.int .i64 (AA 0),.bool false,.int .i64 (AA 0),.int .i64 (AA 2),.sl 759 0 1 (.ex 1),.bool false,.bool false,.bool false,.bool false,.int .i64 (AA 0),.int .i64 (AA 0),.nils,.nils,.int .i64 (AA 0),.bool false,.int .i64 (AA 0),.int .i64 (AA 5),.sl 803 0 1 (.ex 1),.bool false,.bool false,.bool false,.bool false,.int .i64 (AA 0),.int .i64 (AA 0),.nils,.nils,.int .i64 (AA 0),.bool false,.int .i64 (AA 0)]),
 (803,.cells [.int .i64 (AA 2),.int .i64 (AA 2)]),
 (805,.cells [.str ⟨1,97⟩,.int .i64 (AA 1),.bool true,.bool false,.int .i64 (AA 0),.int .i64 (AA 0),.nils,.nils,.int .i64 (AA 0),.nils,.int .i64 (AA 0),.str ⟨1,98⟩,.int .i64 (AA 2),.bool false,.bool true,.int .i64 (AA 2),.int .i64 (AA 5),.nils,.nils,.int .i64 (AA 0),.nils,.int .i64 (AA 0),.str ⟨1,99⟩,.int .i64 (AA 3),.bool true,.bool false,.int .i64 (AA 0),.int .i64 (AA 0),.nils,.nils,.int .i64 (AA 0),.nils,.int .i64 (AA 0)]),
 (1067,.cells [.int .i64 (AA 0)]),
 (1094,.cells [.int .i64 (AA 0),.int .i64 (AA 16)])]⟩
theorem Tp:XP.right 2 ((DT [] 100000 60) 96)=true:=by kernel_rfl
def XM:Dq:=⟨1080,[.agg [.str ⟨1,77⟩,.sl 630 0 1 (.op 1),.sl 1067 0 1 (.op 1),.sl 801 0 4 (.op 13)],.int .i64 (AA 0)],
 [(630,.cells [.str ⟨1,65⟩]),
 (648,.cells [.int .i64 (AA 0),.int .i64 (AA 16)]),
 (728,.cells [.int .i64 (AA 2),.int .i64 (AA 0)]),
 (759,.cells [.int .i64 (AA 2),.int .i64 (AA 1)]),
 (801,.cells [.int .i64 (AA 7),.sl 648 0 1 (.ex 1),.bool false,.bool false,.bool false,.bool false,.int .i64 (AA 0),.int .i64 (AA 0),.nils,.sl 805 0 3 (.op 11),.int .i64 (AA 3),.bool false,.int .i64 (AA 0),.int .i64 (AA 1),.sl 728 0 1 (.ex 1),.bool false,.bool false,.bool false,.bool false,.int .i64 (AA 0),.int .i64 (AA 0),.nils,.nils,.int .i64 (AA 0),.bool false,.int .i64 (AA 0),.int .i64 (AA 2),.sl 759 0 1 (.ex 1),.bool false,.bool false,.bool false,.bool false,.int .i64 (AA 0),.int .i64 (AA 0),.nils,.nils,.int .i64 (AA 0),.bool false,.int .i64 (AA 0),.int .i64 (AA 5),.sl 803 0 1 (.ex 1),.bool false,.bool false,.bool false,.bool false,.int .i64 (AA 0),.int .i64 (AA 0),.nils,.nils,.int .i64 (AA 0),.bool false,.int .i64 (AA 0)]),
 (803,.cells [.int .i64 (AA 2),.int .i64 (AA 2)]),
 (805,.cells [.str ⟨1,97⟩,.int .i64 (AA 1),.bool true,.bool false,.int .i64 (AA 0),.int .i64 (AA 0),.nils,.nils,.int .i64 (AA 0),.nils,.int .i64 (AA 0),.str ⟨1,98⟩,.int .i64 (AA 2),.bool false,.bool true,.int .i64 (AA 2),.int .i64 (AA 5),.nils,.nils,.int .i64 (AA 0),.nils,.int .i64 (AA 0),.str ⟨1,99⟩,.int .i64 (AA 3),.bool true,.bool false,.int .i64 (AA 0),.int .i64 (AA 0),.nils,.nils,.int .i64 (AA 0),.nils,.int .i64 (AA 0)]),
 (1067,.cells [.int .i64 (AA 0)])],
 .bool false,1086,
 [(630,.cells [.str ⟨1,65⟩]),
 (648,.cells [.int .i64 (AA 0),.int .i64 (AA 16)]),
 (728,.cells [.int .i64 (AA 2),.int .i64 (AA 0)]),
 (759,.cells [.int .i64 (AA 2),.int .i64 (AA 1)]),
 (801,.cells [.int .i64 (AA 7),.sl 648 0 1 (.ex 1),.bool false,.bool false,.bool false,.bool false,.int .i64 (AA 0),.int .i64 (AA 0),.nils,.sl 805 0 3 (.op 11),.int .i64 (AA 3),.bool false,.int .i64 (AA 0),.int .i64 (AA 1),.sl 728 0 1 (.ex 1),.bool false,.bool false,.bool false,.bool false,.int .i64 (AA 0),.int .i64 (AA 0),.nils,.nils,.int .i64 (AA 0),.bool false,.int .i64 (AA 0),.int .i64 (AA 2),.sl 759 0 1 (.ex 1),.bool false,.bool false,.bool false,.bool false,.int .i64 (AA 0),.int .i64 (AA 0),.nils,.nils,.int .i64 (AA 0),.bool false,.int .i64 (AA 0),.int .i64 (AA 5),.sl 803 0 1 (.ex 1),.bool false,.bool false,.bool false,.bool false,.int .i64 (AA 0),.int .i64 (AA 0),.nils,.nils,.int .i64 (AA 0),.bool false,.int .i64 (AA 0)]),
 (803,.cells [.int .i64 (AA 2),.int .i64 (AA 2)]),
 (805,.cells [.str ⟨1,97⟩,.int .i64 (AA 1),.bool true,.bool false,.int .i64 (AA 0),.int .i64 (AA 0),.nils,.nils,.int .i64 (AA 0),.nils,.int .i64 (AA 0),.str ⟨1,98⟩,.int .i64 (AA 2),.bool false,.bool true,.int .i64 (AA 2),.int .i64 (AA 5),.nils,.nils,.int .i64 (AA 0),.nils,.int .i64 (AA 0),.str ⟨1,99⟩,.int .i64 (AA 3),.bool true,.bool false,.int .i64 (AA 0),.int .i64 (AA 0),.nils,.nils,.int .i64 (AA 0),.nils,.int .i64 (AA 0)]),
 (1067,.cells [.int .i64 (AA 0)])]⟩
theorem Tl:XM.right 2 ((DT [] 100000 60) 97)=true:=by kernel_rfl
def Q5:Dq:=⟨1080,[.agg [.str ⟨1,77⟩,.sl 630 0 1 (.op 1),.sl 1067 0 1 (.op 1),.sl 801 0 4 (.op 13)],.int .i64 (AA 1)],
 [(630,.cells [.str ⟨1,65⟩]),
 (648,.cells [.int .i64 (AA 0),.int .i64 (AA 16)]),
 (728,.cells [.int .i64 (AA 2),.int .i64 (AA 0)]),
 (759,.cells [.int .i64 (AA 2),.int .i64 (AA 1)]),
 (801,.cells [.int .i64 (AA 7),.sl 648 0 1 (.ex 1),.bool false,.bool false,.bool false,.bool false,.int .i64 (AA 0),.int .i64 (AA 0),.nils,.sl 805 0 3 (.op 11),.int .i64 (AA 3),.bool false,.int .i64 (AA 0),.int .i64 (AA 1),.sl 728 0 1 (.ex 1),.bool false,.bool false,.bool false,.bool false,.int .i64 (AA 0),.int .i64 (AA 0),.nils,.nils,.int .i64 (AA 0),.bool false,.int .i64 (AA 0),.int .i64 (AA 2),.sl 759 0 1 (.ex 1),.bool false,.bool false,.bool false,.bool false,.int .i64 (AA 0),.int .i64 (AA 0),.nils,.nils,.int .i64 (AA 0),.bool false,.int .i64 (AA 0),.int .i64 (AA 5),.sl 803 0 1 (.ex 1),.bool false,.bool false,.bool false,.bool false,.int .i64 (AA 0),.int .i64 (AA 0),.nils,.nils,.int .i64 (AA 0),.bool false,.int .i64 (AA 0)]),
 (803,.cells [.int .i64 (AA 2),.int .i64 (AA 2)]),
 (805,.cells [.str ⟨1,97⟩,.int .i64 (AA 1),.bool true,.bool false,.int .i64 (AA 0),.int .i64 (AA 0),.nils,.nils,.int .i64 (AA 0),.nils,.int .i64 (AA 0),.str ⟨1,98⟩,.int .i64 (AA 2),.bool false,.bool true,.int .i64 (AA 2),.int .i64 (AA 5),.nils,.nils,.int .i64 (AA 0),.nils,.int .i64 (AA 0),.str ⟨1,99⟩,.int .i64 (AA 3),.bool true,.bool false,.int .i64 (AA 0),.int .i64 (AA 0),.nils,.nils,.int .i64 (AA 0),.nils,.int .i64 (AA 0)]),
 (1067,.cells [.int .i64 (AA 0)])],
 .sl 1094 0 1 (.op 2),1095,
 [(630,.cells [.str ⟨1,65⟩]),
 (648,.cells [.int .i64 (AA 0),.int .i64 (AA 16)]),
 (728,.cells [.int .i64 (AA 2),.int .i64 (AA 0)]),
 (759,.cells [.int .i64 (AA 2),.int .i64 (AA 1)]),
 (801,.cells [.int .i64 (AA 7),.sl 648 0 1 (.ex 1),.bool false,.bool false,.bool false,.bool false,.int .i64 (AA 0),.int .i64 (AA 0),.nils,.sl 805 0 3 (.op 11),.int .i64 (AA 3),.bool false,.int .i64 (AA 0),.int .i64 (AA 1),.sl 728 0 1 (.ex 1),.bool false,.bool false,.bool false,.bool false,.int .i64 (AA 0),.int .i64 (AA 0),.nils,.nils,.int .i64 (AA 0),.bool false,.int .i64 (AA 0),.int .i64 (AA 2),.sl 759 0 1 (.ex 1),.bool false,.bool false,.bool false,.bool false,.int .i64 (AA 0),.int .i64 (AA 0),.nils,.nils,.int .i64 (AA 0),.bool false,.int .i64 (AA 0),.int .i64 (AA 5),.sl 803 0 1 (.ex 1),.bool false,.bool false,.bool false,.bool false,.int .i64 (AA 0),.int .i64 (AA 0),.nils,.nils,.int .i64 (AA 0),.bool false,.int .i64 (AA 0)]),
 (803,.cells [.int .i64 (AA 2),.int .i64 (AA 2)]),
 (805,.cells [.str ⟨1,97⟩,.int .i64 (AA 1),.bool true,.bool false,.int .i64 (AA 0),.int .i64 (AA 0),.nils,.nils,.int .i64 (AA 0),.nils,.int .i64 (AA 0),.str ⟨1,98⟩,.int .i64 (AA 2),.bool false,.bool true,.int .i64 (AA 2),.int .i64 (AA 5),.nils,.nils,.int .i64 (AA 0),.nils,.int .i64 (AA 0),.str ⟨1,99⟩,.int .i64 (AA 3),.bool true,.bool false,.int .i64 (AA 0),.int .i64 (AA 0),.nils,.nils,.int .i64 (AA 0),.nils,.int .i64 (AA 0)]),
 (1067,.cells [.int .i64 (AA 0)]),
 (1094,.cells [.int .i64 (AA 2),.int .i64 (AA 0)])]⟩
theorem To:Q5.right 2 ((DT [] 100000 60) 96)=true:=by kernel_rfl
theorem N9:Q5.shape=true:=by kernel_rfl
def Q2:Dq:=⟨1080,[.agg [.str ⟨1,77⟩,.sl 630 0 1 (.op 1),.sl 1067 0 1 (.op 1),.sl 801 0 4 (.op 13)],.int .i64 (AA 1)],
 [(630,.cells [.str ⟨1,65⟩]),
 (648,.cells [.int .i64 (AA 0),.int .i64 (AA 16)]),
 (728,.cells [.int .i64 (AA 2),.int .i64 (AA 0)]),
 (759,.cells [.int .i64 (AA 2),.int .i64 (AA 1)]),
 (801,.cells [.int .i64 (AA 7),.sl 648 0 1 (.ex 1),.bool false,.bool false,.bool false,.bool false,.int .i64 (AA 0),.int .i64 (AA 0),.nils,.sl 805 0 3 (.op 11),.int .i64 (AA 3),.bool false,.int .i64 (AA 0),.int .i64 (AA 1),.sl 728 0 1 (.ex 1),.bool false,.bool false,.bool false,.bool false,.int .i64 (AA 0),.int .i64 (AA 0),.nils,.nils,.int .i64 (AA 0),.bool false,.int .i64 (AA 0),.int .i64 (AA 2),.sl 759 0 1 (.ex 1),.bool false,.bool false,.bool false,.bool false,.int .i64 (AA 0),.int .i64 (AA 0),.nils,.nils,.int .i64 (AA 0),.bool false,.int .i64 (AA 0),.int .i64 (AA 5),.sl 803 0 1 (.ex 1),.bool false,.bool false,.bool false,.bool false,.int .i64 (AA 0),.int .i64 (AA 0),.nils,.nils,.int .i64 (AA 0),.bool false,.int .i64 (AA 0)]),
 (803,.cells [.int .i64 (AA 2),.int .i64 (AA 2)]),
 (805,.cells [.str ⟨1,97⟩,.int .i64 (AA 1),.bool true,.bool false,.int .i64 (AA 0),.int .i64 (AA 0),.nils,.nils,.int .i64 (AA 0),.nils,.int .i64 (AA 0),.str ⟨1,98⟩,.int .i64 (AA 2),.bool false,.bool true,.int .i64 (AA 2),.int .i64 (AA 5),.nils,.nils,.int .i64 (AA 0),.nils,.int .i64 (AA 0),.str ⟨1,99⟩,.int .i64 (AA 3),.bool true,.bool false,.int .i64 (AA 0),.int .i64 (AA 0),.nils,.nils,.int .i64 (AA 0),.nils,.int .i64 (AA 0)]),
 (1067,.cells [.int .i64 (AA 0)])],
 .bool false,1086,
 [(630,.cells [.str ⟨1,65⟩]),
 (648,.cells [.int .i64 (AA 0),.int .i64 (AA 16)]),
 (728,.cells [.int .i64 (AA 2),.int .i64 (AA 0)]),
 (759,.cells [.int .i64 (AA 2),.int .i64 (AA 1)]),
 (801,.cells [.int .i64 (AA 7),.sl 648 0 1 (.ex 1),.bool false,.bool false,.bool false,.bool false,.int .i64 (AA 0),.int .i64 (AA 0),.nils,.sl 805 0 3 (.op 11),.int .i64 (AA 3),.bool false,.int .i64 (AA 0),.int .i64 (AA 1),.sl 728 0 1 (.ex 1),.bool false,.bool false,.bool false,.bool false,.int .i64 (AA 0),.int .i64 (AA 0),.nils,.nils,.int .i64 (AA 0),.bool false,.int .i64 (AA 0),.int .i64 (AA 2),.sl 759 0 1 (.ex 1),.bool false,.bool false,.bool false,.bool false,.int .i64 (AA 0),.int .i64 (AA 0),.nils,.nils,.int .i64 (AA 0),.bool false,.int .i64 (AA 0),.int .i64 (AA 5),.sl 803 0 1 (.ex 1),.bool false,.bool false,.bool false,.bool false,.int .i64 (AA 0),.int .i64 (AA 0),.nils,.nils,.int .i64 (AA 0),.bool false,.int .i64 (AA 0)]),
 (803,.cells [.int .i64 (AA 2),.int .i64 (AA 2)]),
 (805,.cells [.str ⟨1,97⟩,.int .i64 (AA 1),.bool true,.bool false,.int .i64 (AA 0),.int .i64 (AA 0),.nils,.nils,.int .i64 (AA 0),.nils,.int .i64 (AA 0),.str ⟨1,98⟩,.int .i64 (AA 2),.bool false,.bool true,.int .i64 (AA 2),.int .i64 (AA 5),.nils,.nils,.int .i64 (AA 0),.nils,.int .i64 (AA 0),.str ⟨1,99⟩,.int .i64 (AA 3),.bool true,.bool false,.int .i64 (AA 0),.int .i64 (AA 0),.nils,.nils,.int .i64 (AA 0),.nils,.int .i64 (AA 0)]),
 (1067,.cells [.int .i64 (AA 0)])]⟩
theorem Tk:Q2.right 2 ((DT [] 100000 60) 97)=true:=by kernel_rfl
theorem Tj:Q2.shape=true:=by kernel_rfl
def Q4:Dq:=⟨1080,[.agg [.str ⟨1,77⟩,.sl 630 0 1 (.op 1),.sl 1067 0 1 (.op 1),.sl 801 0 4 (.op 13)],.int .i64 (AA 2)],
 [(630,.cells [.str ⟨1,65⟩]),
 (648,.cells [.int .i64 (AA 0),.int .i64 (AA 16)]),
 (728,.cells [.int .i64 (AA 2),.int .i64 (AA 0)]),
 (759,.cells [.int .i64 (AA 2),.int .i64 (AA 1)]),
 (801,.cells [.int .i64 (AA 7),.sl 648 0 1 (.ex 1),.bool false,.bool false,.bool false,.bool false,.int .i64 (AA 0),.int .i64 (AA 0),.nils,.sl 805 0 3 (.op 11),.int .i64 (AA 3),.bool false,.int .i64 (AA 0),.int .i64 (AA 1),.sl 728 0 1 (.ex 1),.bool false,.bool false,.bool false,.bool false,.int .i64 (AA 0),.int .i64 (AA 0),.nils,.nils,.int .i64 (AA 0),.bool false,.int .i64 (AA 0),.int .i64 (AA 2),.sl 759 0 1 (.ex 1),.bool false,.bool false,.bool false,.bool false,.int .i64 (AA 0),.int .i64 (AA 0),.nils,.nils,.int .i64 (AA 0),.bool false,.int .i64 (AA 0),.int .i64 (AA 5),.sl 803 0 1 (.ex 1),.bool false,.bool false,.bool false,.bool false,.int .i64 (AA 0),.int .i64 (AA 0),.nils,.nils,.int .i64 (AA 0),.bool false,.int .i64 (AA 0)]),
 (803,.cells [.int .i64 (AA 2),.int .i64 (AA 2)]),
 (805,.cells [.str ⟨1,97⟩,.int .i64 (AA 1),.bool true,.bool false,.int .i64 (AA 0),.int .i64 (AA 0),.nils,.nils,.int .i64 (AA 0),.nils,.int .i64 (AA 0),.str ⟨1,98⟩,.int .i64 (AA 2),.bool false,.bool true,.int .i64 (AA 2),.int .i64 (AA 5),.nils,.nils,.int .i64 (AA 0),.nils,.int .i64 (AA 0),.str ⟨1,99⟩,.int .i64 (AA 3),.bool true,.bool false,.int .i64 (AA 0),.int .i64 (AA 0),.nils,.nils,.int .i64 (AA 0),.nils,.int .i64 (AA 0)]),
 (1067,.cells [.int .i64 (AA 0)])],
 .sl 1094 0 1 (.op 2),1095,
 [(630,.cells [.str ⟨1,65⟩]),
 (648,.cells [.int .i64 (AA 0),.int .i64 (AA 16)]),
 (728,.cells [.int .i64 (AA 2),.int .i64 (AA 0)]),
 (759,.cells [.int .i64 (AA 2),.int .i64 (AA 1)]),
 (801,.cells [.int .i64 (AA 7),.sl 648 0 1 (.ex 1),.bool false,.bool false,.bool false,.bool false,.int .i64 (AA 0),.int .i64 (AA 0),.nils,.sl 805 0 3 (.op 11),.int .i64 (AA 3),.bool false,.int .i64 (AA 0),.int .i64 (AA 1),.sl 728 0 1 (.ex 1),.bool false,.bool false,.bool false,.bool false,.int .i64 (AA 0),.int .i64 (AA 0),.nils,.nils,.int .i64 (AA 0),.bool false,.int .i64 (AA 0),.int .i64 (AA 2),.sl 759 0 1 (.ex 1),.bool false,.bool false,.bool false,.bool false,.int .i64 (AA 0),.int .i64 (AA 0),.nils,.nils,.int .i64 (AA 0),.bool false,.int .i64 (AA 0),.int .i64 (AA 5),.sl 803 0 1 (.ex 1),.bool false,.bool false,.bool false,.bool false,.int .i64 (AA 0),.int .i64 (AA 0),.nils,.nils,.int .i64 (AA 0),.bool false,.int .i64 (AA 0)]),
 (803,.cells [.int .i64 (AA 2),.int .i64 (AA 2)]),
 (805,.cells [.str ⟨1,97⟩,.int .i64 (AA 1),.bool true,.bool false,.int .i64 (AA 0),.int .i64 (AA 0),.nils,.nils,.int .i64 (AA 0),.nils,.int .i64 (AA 0),.str ⟨1,98⟩,.int .i64 (AA 2),.bool false,.bool true,.int .i64 (AA 2),.int .i64 (AA 5),.nils,.nils,.int .i64 (AA 0),.nils,.int .i64 (AA 0),.str ⟨1,99⟩,.int .i64 (AA 3),.bool true,.bool false,.int .i64 (AA 0),.int .i64 (AA 0),.nils,.nils,.int .i64 (AA 0),.nils,.int .i64 (AA 0)]),
 (1067,.cells [.int .i64 (AA 0)]),
 (1094,.cells [.int .i64 (AA 2),.int .i64 (AA 1)])]⟩
theorem Tn:Q4.right 2 ((DT [] 100000 60) 96)=true:=by kernel_rfl
theorem N8:Q4.shape=true:=by kernel_rfl
def Q1:Dq:=⟨1080,[.agg [.str ⟨1,77⟩,.sl 630 0 1 (.op 1),.sl 1067 0 1 (.op 1),.sl 801 0 4 (.op 13)],.int .i64 (AA 2)],
 [(630,.cells [.str ⟨1,65⟩]),
 (648,.cells [.int .i64 (AA 0),.int .i64 (AA 16)]),
 (728,.cells [.int .i64 (AA 2),.int .i64 (AA 0)]),
 (759,.cells [.int .i64 (AA 2),.int .i64 (AA 1)]),
 (801,.cells [.int .i64 (AA 7),.sl 648 0 1 (.ex 1),.bool false,.bool false,.bool false,.bool false,.int .i64 (AA 0),.int .i64 (AA 0),.nils,.sl 805 0 3 (.op 11),.int .i64 (AA 3),.bool false,.int .i64 (AA 0),.int .i64 (AA 1),.sl 728 0 1 (.ex 1),.bool false,.bool false,.bool false,.bool false,.int .i64 (AA 0),.int .i64 (AA 0),.nils,.nils,.int .i64 (AA 0),.bool false,.int .i64 (AA 0),.int .i64 (AA 2),.sl 759 0 1 (.ex 1),.bool false,.bool false,.bool false,.bool false,.int .i64 (AA 0),.int .i64 (AA 0),.nils,.nils,.int .i64 (AA 0),.bool false,.int .i64 (AA 0),.int .i64 (AA 5),.sl 803 0 1 (.ex 1),.bool false,.bool false,.bool false,.bool false,.int .i64 (AA 0),.int .i64 (AA 0),.nils,.nils,.int .i64 (AA 0),.bool false,.int .i64 (AA 0)]),
 (803,.cells [.int .i64 (AA 2),.int .i64 (AA 2)]),
 (805,.cells [.str ⟨1,97⟩,.int .i64 (AA 1),.bool true,.bool false,.int .i64 (AA 0),.int .i64 (AA 0),.nils,.nils,.int .i64 (AA 0),.nils,.int .i64 (AA 0),.str ⟨1,98⟩,.int .i64 (AA 2),.bool false,.bool true,.int .i64 (AA 2),.int .i64 (AA 5),.nils,.nils,.int .i64 (AA 0),.nils,.int .i64 (AA 0),.str ⟨1,99⟩,.int .i64 (AA 3),.bool true,.bool false,.int .i64 (AA 0),.int .i64 (AA 0),.nils,.nils,.int .i64 (AA 0),.nils,.int .i64 (AA 0)]),
 (1067,.cells [.int .i64 (AA 0)])],
 .bool false,1086,
 [(630,.cells [.str ⟨1,65⟩]),
 (648,.cells [.int .i64 (AA 0),.int .i64 (AA 16)]),
 (728,.cells [.int .i64 (AA 2),.int .i64 (AA 0)]),
 (759,.cells [.int .i64 (AA 2),.int .i64 (AA 1)]),
 (801,.cells [.int .i64 (AA 7),.sl 648 0 1 (.ex 1),.bool false,.bool false,.bool false,.bool false,.int .i64 (AA 0),.int .i64 (AA 0),.nils,.sl 805 0 3 (.op 11),.int .i64 (AA 3),.bool false,.int .i64 (AA 0),.int .i64 (AA 1),.sl 728 0 1 (.ex 1),.bool false,.bool false,.bool false,.bool false,.int .i64 (AA 0),.int .i64 (AA 0),.nils,.nils,.int .i64 (AA 0),.bool false,.int .i64 (AA 0),.int .i64 (AA 2),.sl 759 0 1 (.ex 1),.bool false,.bool false,.bool false,.bool false,.int .i64 (AA 0),.int .i64 (AA 0),.nils,.nils,.int .i64 (AA 0),.bool false,.int .i64 (AA 0),.int .i64 (AA 5),.sl 803 0 1 (.ex 1),.bool false,.bool false,.bool false,.bool false,.int .i64 (AA 0),.int .i64 (AA 0),.nils,.nils,.int .i64 (AA 0),.bool false,.int .i64 (AA 0)]),
 (803,.cells [.int .i64 (AA 2),.int .i64 (AA 2)]),
 (805,.cells [.str ⟨1,97⟩,.int .i64 (AA 1),.bool true,.bool false,.int .i64 (AA 0),.int .i64 (AA 0),.nils,.nils,.int .i64 (AA 0),.nils,.int .i64 (AA 0),.str ⟨1,98⟩,.int .i64 (AA 2),.bool false,.bool true,.int .i64 (AA 2),.int .i64 (AA 5),.nils,.nils,.int .i64 (AA 0),.nils,.int .i64 (AA 0),.str ⟨1,99⟩,.int .i64 (AA 3),.bool true,.bool false,.int .i64 (AA 0),.int .i64 (AA 0),.nils,.nils,.int .i64 (AA 0),.nils,.int .i64 (AA 0)]),
 (1067,.cells [.int .i64 (AA 0)])]⟩
theorem Ti:Q1.right 2 ((DT [] 100000 60) 97)=true:=by kernel_rfl
theorem Th:Q1.shape=true:=by kernel_rfl
def Q3:Dq:=⟨1080,[.agg [.str ⟨1,77⟩,.sl 630 0 1 (.op 1),.sl 1067 0 1 (.op 1),.sl 801 0 4 (.op 13)],.int .i64 (AA 3)],
 [(630,.cells [.str ⟨1,65⟩]),
 (648,.cells [.int .i64 (AA 0),.int .i64 (AA 16)]),
 (728,.cells [.int .i64 (AA 2),.int .i64 (AA 0)]),
 (759,.cells [.int .i64 (AA 2),.int .i64 (AA 1)]),
 (801,.cells [.int .i64 (AA 7),.sl 648 0 1 (.ex 1),.bool false,.bool false,.bool false,.bool false,.int .i64 (AA 0),.int .i64 (AA 0),.nils,.sl 805 0 3 (.op 11),.int .i64 (AA 3),.bool false,.int .i64 (AA 0),.int .i64 (AA 1),.sl 728 0 1 (.ex 1),.bool false,.bool false,.bool false,.bool false,.int .i64 (AA 0),.int .i64 (AA 0),.nils,.nils,.int .i64 (AA 0),.bool false,.int .i64 (AA 0),.int .i64 (AA 2),.sl 759 0 1 (.ex 1),.bool false,.bool false,.bool false,.bool false,.int .i64 (AA 0),.int .i64 (AA 0),.nils,.nils,.int .i64 (AA 0),.bool false,.int .i64 (AA 0),.int .i64 (AA 5),.sl 803 0 1 (.ex 1),.bool false,.bool false,.bool false,.bool false,.int .i64 (AA 0),.int .i64 (AA 0),.nils,.nils,.int .i64 (AA 0),.bool false,.int .i64 (AA 0)]),
 (803,.cells [.int .i64 (AA 2),.int .i64 (AA 2)]),
 (805,.cells [.str ⟨1,97⟩,.int .i64 (AA 1),.bool true,.bool false,.int .i64 (AA 0),.int .i64 (AA 0),.nils,.nils,.int .i64 (AA 0),.nils,.int .i64 (AA 0),.str ⟨1,98⟩,.int .i64 (AA 2),.bool false,.bool true,.int .i64 (AA 2),.int .i64 (AA 5),.nils,.nils,.int .i64 (AA 0),.nils,.int .i64 (AA 0),.str ⟨1,99⟩,.int .i64 (AA 3),.bool true,.bool false,.int .i64 (AA 0),.int .i64 (AA 0),.nils,.nils,.int .i64 (AA 0),.nils,.int .i64 (AA 0)]),
 (1067,.cells [.int .i64 (AA 0)])],
 .sl 1094 0 1 (.op 2),1095,
 [(630,.cells [.str ⟨1,65⟩]),
 (648,.cells [.int .i64 (AA 0),.int .i64 (AA 16)]),
 (728,.cells [.int .i64 (AA 2),.int .i64 (AA 0)]),
 (759,.cells [.int .i64 (AA 2),.int .i64 (AA 1)]),
 (801,.cells [.int .i64 (AA 7),.sl 648 0 1 (.ex 1),.bool false,.bool false,.bool false,.bool false,.int .i64 (AA 0),.int .i64 (AA 0),.nils,.sl 805 0 3 (.op 11),.int .i64 (AA 3),.bool false,.int .i64 (AA 0),.int .i64 (AA 1),.sl 728 0 1 (.ex 1),.bool false,.bool false,.bool false,.bool false,.int .i64 (AA 0),.int .i64 (AA 0),.nils,.nils,.int .i64 (AA 0),.bool false,.int .i64 (AA 0),.int .i64 (AA 2),.sl 759 0 1 (.ex 1),.bool false,.bool false,.bool false,.bool false,.int .i64 (AA 0),.int .i64 (AA 0),.nils,.nils,.int .i64 (AA 0),.bool false,.int .i64 (AA 0),.int .i64 (AA 5),.sl 803 0 1 (.ex 1),.bool false,.bool false,.bool false,.bool false,.int .i64 (AA 0),.int .i64 (AA 0),.nils,.nils,.int .i64 (AA 0),.bool false,.int .i64 (AA 0)]),
 (803,.cells [.int .i64 (AA 2),.int .i64 (AA 2)]),
 (805,.cells [.str ⟨1,97⟩,.int .i64 (AA 1),.bool true,.bool false,.int .i64 (AA 0),.int .i64 (AA 0),.nils,.nils,.int .i64 (AA 0),.nils,.int .i64 (AA 0),.str ⟨1,98⟩,.int .i64 (AA 2),.bool false,.bool true,.int .i64 (AA 2),.int .i64 (AA 5),.nils,.nils,.int .i64 (AA 0),.nils,.int .i64 (AA 0),.str ⟨1,99⟩,.int .i64 (AA 3),.bool true,.bool false,.int .i64 (AA 0),.int .i64 (AA 0),.nils,.nils,.int .i64 (AA 0),.nils,.int .i64 (AA 0)]),
 (1067,.cells [.int .i64 (AA 0)]),
 (1094,.cells [.int .i64 (AA 2),.int .i64 (AA 2)])]⟩
theorem Tm:Q3.right 2 ((DT [] 100000 60) 96)=true:=by kernel_rfl
theorem N7:Q3.shape=true:=by kernel_rfl
def Q0:Dq:=⟨1080,[.agg [.str ⟨1,77⟩,.sl 630 0 1 (.op 1),.sl 1067 0 1 (.op 1),.sl 801 0 4 (.op 13)],.int .i64 (AA 3)],
 [(630,.cells [.str ⟨1,65⟩]),
 (648,.cells [.int .i64 (AA 0),.int .i64 (AA 16)]),
 (728,.cells [.int .i64 (AA 2),.int .i64 (AA 0)]),
 (759,.cells [.int .i64 (AA 2),.int .i64 (AA 1)]),
 (801,.cells [.int .i64 (AA 7),.sl 648 0 1 (.ex 1),.bool false,.bool false,.bool false,.bool false,.int .i64 (AA 0),.int .i64 (AA 0),.nils,.sl 805 0 3 (.op 11),.int .i64 (AA 3),.bool false,.int .i64 (AA 0),.int .i64 (AA 1),.sl 728 0 1 (.ex 1),.bool false,.bool false,.bool false,.bool false,.int .i64 (AA 0),.int .i64 (AA 0),.nils,.nils,.int .i64 (AA 0),.bool false,.int .i64 (AA 0),.int .i64 (AA 2),.sl 759 0 1 (.ex 1),.bool false,.bool false,.bool false,.bool false,.int .i64 (AA 0),.int .i64 (AA 0),.nils,.nils,.int .i64 (AA 0),.bool false,.int .i64 (AA 0),.int .i64 (AA 5),.sl 803 0 1 (.ex 1),.bool false,.bool false,.bool false,.bool false,.int .i64 (AA 0),.int .i64 (AA 0),.nils,.nils,.int .i64 (AA 0),.bool false,.int .i64 (AA 0)]),
 (803,.cells [.int .i64 (AA 2),.int .i64 (AA 2)]),
 (805,.cells [.str ⟨1,97⟩,.int .i64 (AA 1),.bool true,.bool false,.int .i64 (AA 0),.int .i64 (AA 0),.nils,.nils,.int .i64 (AA 0),.nils,.int .i64 (AA 0),.str ⟨1,98⟩,.int .i64 (AA 2),.bool false,.bool true,.int .i64 (AA 2),.int .i64 (AA 5),.nils,.nils,.int .i64 (AA 0),.nils,.int .i64 (AA 0),.str ⟨1,99⟩,.int .i64 (AA 3),.bool true,.bool false,.int .i64 (AA 0),.int .i64 (AA 0),.nils,.nils,.int .i64 (AA 0),.nils,.int .i64 (AA 0)]),
 (1067,.cells [.int .i64 (AA 0)])],
 .bool false,1086,
 [(630,.cells [.str ⟨1,65⟩]),
 (648,.cells [.int .i64 (AA 0),.int .i64 (AA 16)]),
 (728,.cells [.int .i64 (AA 2),.int .i64 (AA 0)]),
 (759,.cells [.int .i64 (AA 2),.int .i64 (AA 1)]),
 (801,.cells [.int .i64 (AA 7),.sl 648 0 1 (.ex 1),.bool false,.bool false,.bool false,.bool false,.int .i64 (AA 0),.int .i64 (AA 0),.nils,.sl 805 0 3 (.op 11),.int .i64 (AA 3),.bool false,.int .i64 (AA 0),.int .i64 (AA 1),.sl 728 0 1 (.ex 1),.bool false,.bool false,.bool false,.bool false,.int .i64 (AA 0),.int .i64 (AA 0),.nils,.nils,.int .i64 (AA 0),.bool false,.int .i64 (AA 0),.int .i64 (AA 2),.sl 759 0 1 (.ex 1),.bool false,.bool false,.bool false,.bool false,.int .i64 (AA 0),.int .i64 (AA 0),.nils,.nils,.int .i64 (AA 0),.bool false,.int .i64 (AA 0),.int .i64 (AA 5),.sl 803 0 1 (.ex 1),.bool false,.bool false,.bool false,.bool false,.int .i64 (AA 0),.int .i64 (AA 0),.nils,.nils,.int .i64 (AA 0),.bool false,.int .i64 (AA 0)]),
 (803,.cells [.int .i64 (AA 2),.int .i64 (AA 2)]),
 (805,.cells [.str ⟨1,97⟩,.int .i64 (AA 1),.bool true,.bool false,.int .i64 (AA 0),.int .i64 (AA 0),.nils,.nils,.int .i64 (AA 0),.nils,.int .i64 (AA 0),.str ⟨1,98⟩,.int .i64 (AA 2),.bool false,.bool true,.int .i64 (AA 2),.int .i64 (AA 5),.nils,.nils,.int .i64 (AA 0),.nils,.int .i64 (AA 0),.str ⟨1,99⟩,.int .i64 (AA 3),.bool true,.bool false,.int .i64 (AA 0),.int .i64 (AA 0),.nils,.nils,.int .i64 (AA 0),.nils,.int .i64 (AA 0)]),
 (1067,.cells [.int .i64 (AA 0)])]⟩
theorem Tg:Q0.right 2 ((DT [] 100000 60) 97)=true:=by kernel_rfl
theorem Tf:Q0.shape=true:=by kernel_rfl
def uG:Dq:=⟨1080,[.agg [.str ⟨1,77⟩,.sl 630 0 1 (.op 1),.sl 1067 0 1 (.op 1),.sl 801 0 4 (.op 13)],.int .i64 (AA 0)],
 [(630,.cells [.str ⟨1,65⟩]),
 (648,.cells [.int .i64 (AA 0),.int .i64 (AA 16)]),
 (728,.cells [.int .i64 (AA 2),.int .i64 (AA 0)]),
 (759,.cells [.int .i64 (AA 2),.int .i64 (AA 1)]),
 (801,.cells [.int .i64 (AA 7),.sl 648 0 1 (.ex 1),.bool false,.bool false,.bool false,.bool false,.int .i64 (AA 0),.int .i64 (AA 0),.nils,.sl 805 0 3 (.op 11),.int .i64 (AA 3),.bool false,.int .i64 (AA 0),.int .i64 (AA 1),.sl 728 0 1 (.ex 1),.bool false,.bool false,.bool false,.bool false,.int .i64 (AA 0),.int .i64 (AA 0),.nils,.nils,.int .i64 (AA 0),.bool false,.int .i64 (AA 0),.int .i64 (AA 2),.sl 759 0 1 (.ex 1),.bool false,.bool false,.bool false,.bool false,.int .i64 (AA 0),.int .i64 (AA 0),.nils,.nils,.int .i64 (AA 0),.bool false,.int .i64 (AA 0),.int .i64 (AA 5),.sl 803 0 1 (.ex 1),.bool false,.bool false,.bool false,.bool false,.int .i64 (AA 0),.int .i64 (AA 0),.nils,.nils,.int .i64 (AA 0),.bool false,.int .i64 (AA 0)]),
 (803,.cells [.int .i64 (AA 2),.int .i64 (AA 2)]),
 (805,.cells [.str ⟨1,97⟩,.int .i64 (AA 1),.bool true,.bool false,.int .i64 (AA 0),.int .i64 (AA 0),.nils,.nils,.int .i64 (AA 0),.nils,.int .i64 (AA 0),.str ⟨1,98⟩,.int .i64 (AA 2),.bool false,.bool true,.int .i64 (AA 2),.int .i64 (AA 5),.nils,.nils,.int .i64 (AA 0),.nils,.int .i64 (AA 0),.str ⟨1,99⟩,.int .i64 (AA 3),.bool true,.bool false,.int .i64 (AA 0),.int .i64 (AA 0),.nils,.nils,.int .i64 (AA 0),.nils,.int .i64 (AA 0)]),
 (1067,.cells [.int .i64 (AA 0)])],
 .nils,1084,
 [(630,.cells [.str ⟨1,65⟩]),
 (648,.cells [.int .i64 (AA 0),.int .i64 (AA 16)]),
 (728,.cells [.int .i64 (AA 2),.int .i64 (AA 0)]),
 (759,.cells [.int .i64 (AA 2),.int .i64 (AA 1)]),
 (801,.cells [.int .i64 (AA 7),.sl 648 0 1 (.ex 1),.bool false,.bool false,.bool false,.bool false,.int .i64 (AA 0),.int .i64 (AA 0),.nils,.sl 805 0 3 (.op 11),.int .i64 (AA 3),.bool false,.int .i64 (AA 0),.int .i64 (AA 1),.sl 728 0 1 (.ex 1),.bool false,.bool false,.bool false,.bool false,.int .i64 (AA 0),.int .i64 (AA 0),.nils,.nils,.int .i64 (AA 0),.bool false,.int .i64 (AA 0),.int .i64 (AA 2),.sl 759 0 1 (.ex 1),.bool false,.bool false,.bool false,.bool false,.int .i64 (AA 0),.int .i64 (AA 0),.nils,.nils,.int .i64 (AA 0),.bool false,.int .i64 (AA 0),.int .i64 (AA 5),.sl 803 0 1 (.ex 1),.bool false,.bool false,.bool false,.bool false,.int .i64 (AA 0),.int .i64 (AA 0),.nils,.nils,.int .i64 (AA 0),.bool false,.int .i64 (AA 0)]),
 (803,.cells [.int .i64 (AA 2),.int .i64 (AA 2)]),
 (805,.cells [.str ⟨1,97⟩,.int .i64 (AA 1),.bool true,.bool false,.int .i64 (AA 0),.int .i64 (AA 0),.nils,.nils,.int .i64 (AA 0),.nils,.int .i64 (AA 0),.str ⟨1,98⟩,.int .i64 (AA 2),.bool false,.bool true,.int .i64 (AA 2),.int .i64 (AA 5),.nils,.nils,.int .i64 (AA 0),.nils,.int .i64 (AA 0),.str ⟨1,99⟩,.int .i64 (AA 3),.bool true,.bool false,.int .i64 (AA 0),.int .i64 (AA 0),.nils,.nils,.int .i64 (AA 0),.nils,.int .i64 (AA 0)]),
 (1067,.cells [.int .i64 (AA 0)])]⟩
theorem XO:uG.right 2 ((DT [] 100000 60) 148)=true:=by kernel_rfl
theorem XN:uG.shape=true:=by kernel_rfl
def kn:List (Nat × List Dq):=[(10,[uH]),(6,[eT]),(96,[XP,Q5,Q4,Q3]),(97,[XM,Q2,Q1,Q0]),(148,[uG])]
def TW (E:EB) (d:Nat):Ai:=Nat.rec (fun _ _ _=>none) (fun _ ih f=>match AY f 65 with
 | true=>Tv
 | false=>match BG kn f with
  | some l=>L5 l (BD E 600000 ih f)
  | none=>BD E 600000 ih f) d
theorem Yv:∀p∈kn,∀e∈p.2,e.right 2 (DT [] 100000 60 p.1)=true:=by
 unfold kn
 simp only[Xy,EU,false_implies,implies_true,and_true]
 exact⟨XR,Y8,⟨Tp,To,Tn,Tm⟩,⟨Tl,Tk,Ti,Tg⟩,XO⟩
theorem wS (E:EB):∀(d:Nat) (f:FuncId),CI Tryz.prog E glob f (TW E d f):=by
 intro d
 induction d with
 | zero=>intro f C _ _ R Z w args xs v Z' h;cases h
 | succ d ih=>
  intro f
  show CI Tryz.prog E glob f (match AY f 65 with
   | true=>Tv
   | false=>match BG kn f with
    | some l=>L5 l (BD E 600000 (TW E d) f)
    | none=>BD E 600000 (TW E d) f)
  split
  ·rename_i h65
   rw[CL h65]
   exact XY E
  ·split
   ·rename_i l hl
    rw[Au]at hl
    exact fi (eQ E 600000 (TW E d) ih f) (AAw [] 100000 60 f) Yy (Yv _ (GR hl))
   ·exact eQ E 600000 (TW E d) ih f
abbrev tw (E:EB) (d:Nat) (F:EB->Ai->AI->Nat->List V->H->AH):List V->H->AH:=F E (TW E d) (AT E (TW E d)) 600000
section
variable (E:EB) (d:Nat)
theorem DE7:TW E (d+1) 7=tw E d F7:=by kernel_rfl
theorem DE8:TW E (d+1) 8=tw E d F8:=by kernel_rfl
theorem DE9:TW E (d+1) 9=tw E d F9:=by kernel_rfl
theorem ABH:TW E (d+1) 11=tw E d tH:=by kernel_rfl
theorem AF2:TW E (d+1) 14=tw E d jV:=by kernel_rfl
theorem AA6:TW E (d+1) 15=tw E d tA:=by kernel_rfl
theorem AF1:TW E (d+1) 16=tw E d uV:=by kernel_rfl
theorem AA2:TW E (d+1) 17=tw E d Kx:=by kernel_rfl
theorem AF0:TW E (d+1) 18=tw E d F18:=by kernel_rfl
theorem AA1:TW E (d+1) 19=tw E d eZ:=by kernel_rfl
theorem AFz:TW E (d+1) 20=tw E d uU:=by kernel_rfl
theorem AFy:TW E (d+1) 31=tw E d uT:=by kernel_rfl
theorem AFx:TW E (d+1) 32=tw E d uS:=by kernel_rfl
theorem AFw:TW E (d+1) 33=tw E d uR:=by kernel_rfl
theorem AFv:TW E (d+1) 34=tw E d F34:=by kernel_rfl
theorem AFu:TW E (d+1) 36=tw E d F36:=by kernel_rfl
theorem AFt:TW E (d+1) 38=tw E d uQ:=by kernel_rfl
theorem AFs:TW E (d+1) 39=tw E d uP:=by kernel_rfl
theorem AFr:TW E (d+1) 40=tw E d sz:=by kernel_rfl
theorem AA0:TW E (d+1) 41=tw E d sy:=by kernel_rfl
theorem AAz:TW E (d+1) 42=tw E d sx:=by kernel_rfl
theorem AFq:TW E (d+1) 57=tw E d jS:=by kernel_rfl
theorem AFp:TW E (d+1) 58=tw E d uO:=by kernel_rfl
theorem AFo:TW E (d+1) 59=tw E d nF:=by kernel_rfl
theorem AFm:TW E (d+1) 62=tw E d F62:=by kernel_rfl
theorem AFl:TW E (d+1) 63=tw E d uN:=by kernel_rfl
theorem AFk:TW E (d+1) 64=tw E d F64:=by kernel_rfl
theorem AFi:TW E (d+1) 66=tw E d F66:=by kernel_rfl
theorem AAy:TW E (d+1) 67=tw E d jR:=by kernel_rfl
theorem AAx:TW E (d+1) 68=tw E d nE:=by kernel_rfl
theorem AFh:TW E (d+1) 69=tw E d F69:=by kernel_rfl
theorem AFg:TW E (d+1) 70=tw E d uM:=by kernel_rfl
theorem AFf:TW E (d+1) 71=tw E d uL:=by kernel_rfl
theorem AFe:TW E (d+1) 72=tw E d uK:=by kernel_rfl
theorem AFd:TW E (d+1) 93=tw E d F93:=by kernel_rfl
theorem AFc:TW E (d+1) 94=tw E d sr:=by kernel_rfl
theorem AFb:TW E (d+1) 95=tw E d F95:=by kernel_rfl
theorem AFa:TW E (d+1) 99=tw E d F99:=by kernel_rfl
theorem ABN:TW E (d+1) 100=tw E d dc:=by kernel_rfl
theorem ABM:TW E (d+1) 101=tw E d db:=by kernel_rfl
theorem ABL:TW E (d+1) 103=tw E d UZ:=by kernel_rfl
theorem ABK:TW E (d+1) 104=tw E d Xu:=by kernel_rfl
theorem ABJ:TW E (d+1) 105=tw E d Xt:=by kernel_rfl
theorem ABI:TW E (d+1) 106=tw E d dZ:=by kernel_rfl
theorem nG:TW E (d+1) 107=tw E d UY:=by kernel_rfl
theorem ABG:TW E (d+1) 116=tw E d dY:=by kernel_rfl
theorem ABF:TW E (d+1) 117=tw E d dW:=by kernel_rfl
theorem ABE:TW E (d+1) 118=tw E d Xs:=by kernel_rfl
theorem ABD:TW E (d+1) 125=tw E d UX:=by kernel_rfl
theorem ABC:TW E (d+1) 126=tw E d Xr:=by kernel_rfl
theorem ABB:TW E (d+1) 127=tw E d dV:=by kernel_rfl
theorem ABA:TW E (d+1) 128=tw E d UW:=by kernel_rfl
theorem AA9:TW E (d+1) 129=tw E d dU:=by kernel_rfl
theorem AA7:TW E (d+1) 149=tw E d Xq:=by kernel_rfl
theorem AA5:TW E (d+1) 150=tw E d Xp:=by kernel_rfl
theorem AA4:TW E (d+1) 152=tw E d Xo:=by kernel_rfl
theorem AA3:TW E (d+1) 153=tw E d UU:=by kernel_rfl
theorem AFj:TW E (d+1) 65=Tv:=by kernel_rfl
end
theorem AF3 (E:EB) (d:Nat):TW E (d+1) 10=L5 [uH] (BD E 600000 (TW E d) 10):=by kernel_rfl
theorem DE6 (E:EB) (d:Nat):TW E (d+1) 6=L5 [eT] (BD E 600000 (TW E d) 6):=by kernel_rfl
theorem tL (E:EB) (d:Nat):TW E (d+1) 96=L5 [XP,Q5,Q4,Q3] (BD E 600000 (TW E d) 96):=by kernel_rfl
theorem tK (E:EB) (d:Nat):TW E (d+1) 97=L5 [XM,Q2,Q1,Q0] (BD E 600000 (TW E d) 97):=by kernel_rfl
theorem AA8 (E:EB) (d:Nat):TW E (d+1) 148=L5 [uG] (BD E 600000 (TW E d) 148):=by kernel_rfl
theorem vY {E:EB} {D:Ai} {W:AI} {N:Nat} {f:V} (hN:0<N):Li (eZ E D W N) f:=by
 intro Z
 obtain⟨N,rfl⟩:∃q,N=q+1:=⟨N-1,by omega⟩
 rfl
section
variable {E:EB}
theorem ACU (d:Nat):ae (TW E (d+1) 58):=by rw[AFp];exact uq (by decide)
theorem xO8 (d:Nat):iA (TW E (d+1) 94):=by rw[AFc];exact ADD (by decide)
theorem ub (d:Nat):GZ (TW E (d+2) 59):=by rw[AFo];exact vD (xO8 d) (by decide)
theorem ACT (d:Nat):Kg (TW E (d+2) 153):=by rw[AA3];exact um (xO8 d) (by decide)
theorem ug (d:Nat):WD E (TW E (d+1) 17):=by rw[AA2];exact wO
theorem xNq (d:Nat):UM (TW E (d+1) 17):=by rw[AA2];exact ADE
theorem xTs (d:Nat):pU (TW E (d+3) 34):=by rw[AFv];exact AC6 (ACU (d+1)) (ub d) (ug (d+1))
theorem uh (d:Nat):Pu (TW E (d+1) 36):=by rw[AFu];exact wP
theorem xNo (d:Nat):pW (TW E (d+1) 116):=by rw[ABG];exact ADG
theorem ACp (d:Nat):av (TW E (d+1) 117):=by rw[ABF];exact vd
theorem uZ (d:Nat):V8 (TW E (d+2) 93):=by rw[AFd];exact ur (xNo d) (ACp d)
theorem je (d:Nat):RF (TW E (d+3) 57):=by rw[AFq];exact nS (uZ d)
theorem ud (d:Nat):Lj (TW E (d+4) 33):=by rw[AFw];exact Yw (je d) (by decide)
theorem ACY (d:Nat):RH 600000 (TW E (d+4) 38):=by rw[AFt];exact ej (je d)
theorem xCx (d:Nat):pY (TW E (d+1) 118):=by rw[ABE];exact ADO (by decide)
theorem xCt (d:Nat):pZ (TW E (d+2) 95):=by rw[AFb];exact ADP (xCx d)
theorem xLv (d:Nat):Xk E (TW E (d+5) 15):=by rw[AA6];exact oJ (ud d) (xTs (d+1)) (uh (d+3))
theorem NQ (d:Nat):FH (TW E (d+1) 99):=by rw[AFa];exact fN
theorem Uw (d:Nat):JQ (TW E (d+1) 100):=by rw[ABN];exact(fun Z h hl hh mo lo hi v ht=>X5 ht h hl hh mo lo hi v)
theorem ACX (d:Nat):WA E (TW E (d+2) 101):=by rw[ABM];exact uy (NQ d) (Uw d)
theorem ue (d:Nat):UN E (TW E (d+3) 67):=by rw[AAy];exact oP (NQ (d+1)) (Uw (d+1)) (ACX d)
theorem xAb (d:Nat):Sz (TW E (d+2) 107):=by rw[nG];exact ADS (NQ d)
theorem xAn (d:Nat):iB (TW E (d+2) 107):=by rw[nG];exact ADR (NQ d)
theorem xLs (d:Nat):Xl (TW E (d+1) 126):=by rw[ABC];exact ADJ
theorem xNe (d:Nat):Li (TW E (d+1) 149) (.fn 127 [] []):=by rw[AA7];exact va (by decide)
theorem xNr (d:Nat):Li (TW E (d+1) 150) (.fn 151 [] []):=by rw[AA5];exact vZ (by decide)
theorem ACa (d:Nat):ah (TW E (d+2) 127):=by rw[ABB];exact vC (xNq d) (xNe d) (xNr d)
theorem ACb (d:Nat):ai (TW E (d+1) 125):=by rw[ABD];exact vE
theorem ACz (d:Nat):bF (TW E (d+1) 68):=by rw[AAx];exact wL (by decide)
theorem ACy (d:Nat):bE (TW E (d+2) 68):=by rw[AAx];exact wK (ACz d) (by decide)
theorem ACm (d:Nat):Mq (TW E (d+1) 152):=by rw[AA4];exact oB (by decide)
theorem X3 (d:Nat):Gx E (TW E (d+1) 105):=by rw[ABJ];exact fp (by decide)
theorem xHn (d:Nat):UM (TW E (d+1) 18):=by rw[AF0];exact ADH
theorem xH3 (d:Nat):Li (TW E (d+1) 19) (.fn 11 [] []):=by rw[AA1];exact vY (by decide)
theorem xH4 (d:Nat):Li (TW E (d+1) 20) (.fn 21 [] []):=by rw[AFz];exact ADI (by decide)
theorem ua (d:Nat):Sw (TW E (d+2) 11):=by rw[ABH];exact ux (xHn d) (xH3 d) (xH4 d)
theorem ACZ (d:Nat):ag (TW E (d+3) 19):=by rw[AA1];exact vA (ua d) (by decide)
theorem ACW (d:Nat):V9 (TW E (d+4) 11):=by rw[ABH];exact uw (xHn (d+2)) (ACZ d) (xH4 (d+2))
theorem ACc (d:Nat):GZ (TW E (d+1) 7):=by rw[DE7];exact na (by decide)
theorem ACk (d:Nat):Sx (TW E (d+2) 153):=oA (ACT d)
theorem ACl (d:Nat):Xm (TW E (d+3) 129):=by rw[AA9];exact fQ (X3 (d+1)) (ACm (d+1)) (ACk d)
theorem ACn (d:Nat):az E (TW E (d+4) 106):=by rw[ABI];exact vV (X3 (d+2)) (ACl d)
theorem uY (d:Nat):V7 E (TW E (d+5) 71):=by rw[AFf];exact X4 (X3 (d+3)) (ACn d) (by decide)
theorem xWi (d:Nat):hU E (TW E (d+5) 71):=ui (uY d)
theorem xDe (d:Nat):pX E (TW E (d+6) 42):=by rw[AAz];exact gH (ub (d+3)) (xWi d)
theorem ACv (d:Nat):bA (TW E (d+3) 72) (TW E (d+2)):=by rw[AFe];exact wE (xAb d) (xAn d) (by decide)
theorem ACw (d:Nat):bB (TW E (d+6)) (TW E (d+8) 42):=by rw[AAz];exact ZK (ACv (d+4)) (uY (d+2))
theorem ACh (d:Nat):Mq (TW E (d+1) 31):=by rw[AFy];exact ni (by decide)
theorem ACd (d:Nat):Sx (TW E (d+1) 32):=by rw[AFx];exact nh (by decide)
theorem ACg (d:Nat):Xm (TW E (d+2) 14):=by rw[AF2];exact fB (ACh d) (ACd d)
theorem ACi (d:Nat):WB E (TW E (d+3) 8):=by rw[DE8];exact fE (ACg d)
theorem xIx (d:Nat):xK (TW E (d+1) 104) (TW E d):=by rw[ABK];exact fun ht hr hq hn=>vu ht hr hq (by omega) (by omega)
theorem xCf (d:Nat):bG (TW E (d+2) 69) (TW E d):=by rw[AFh];exact wN (xIx d)
theorem ACf (d:Nat):ak (TW E (d+3) 41):=by rw[AA0];exact vJ (xCf d)
theorem xR1 (d:Nat):pV (TW E (d+4) 70):=by rw[AFg];exact ADA (ACf d)
theorem ACe (d:Nat):aj (TW E (d+7) 41):=by rw[AA0];exact vI (xCf (d+4)) (xR1 d)
theorem nM (d:Nat):RG (TW E (d+2) 96) (TW E (d+2) 97) (TW E (d+3) 62):=by rw[AFm];exact eg (uZ d) (xCt d)
theorem AC0 (d:Nat):WC (TW E (d+2) 96) (TW E (d+2) 97) (TW E (d+4) 64):=fun hPt h4 ht hp hP hu hx hB ac aq hj=>by rw[AFk];exact wM (nM d) hPt h4 ht hp hP hu hx hB ac aq hj
theorem ACq (d:Nat):Sy 600000 (TW E (d+4) 64) (TW E (d+5) 63):=by rw[AFl];exact vq
theorem uc (d:Nat):OR (TW E (d+1) 66) (TW E (d+1) 65):=by rw[AFi,AFj];exact nr
theorem ACo (d:Nat):au (TW E (d+2) 96) (TW E (d+2) 97) 600000 (TW E (d+6) 39):=by rw[AFs];exact vW (xLv d) (AC0 d) (ACq d) (uc (d+4)) (uh (d+4)) (by decide)
theorem ACj (d:Nat):pT (TW E (d+2) 96) (TW E (d+2) 97) 600000 (TW E (d+7) 15):=by rw[AA6];exact vK (ud (d+2)) (ACY (d+2)) (AL _) (ACo d)
end
theorem oM {e:Dq} {F:List V->H->AH} {args:List V} {Z:H} {ρ:Nat->Nat} (hm:e.Fits ρ args Z):∃ρ',e.Fits ρ' args Z/\L5 [e] F args Z=some (e.ans ρ' Z):=by
 obtain⟨e',ρ',he,hf,hr⟩:=SD (F:=F) (l:=[e]) (Dk.2 rfl) hm
 have:=Dk.1 he
 subst this
 exact⟨ρ',hf,hr⟩
def wQ:List V->Nat
 | [_,.int _ (.ofNat k)]=>k
 | _=>0
theorem XE {e:Dq} {l:List Dq} {F:List V->H->AH} {args:List V} {Z:H} {ρ:Nat->Nat} (he:e∈l) (hm:e.Fits ρ args Z) (ha:∀e'∈l,(∀ρ ρ':Nat->Nat,wQ (NA ρ e.args)=wQ (NA ρ' e'.args)->e'=e)):∃ρ',e.Fits ρ' args Z/\L5 l F args Z=some (e.ans ρ' Z):=by
 obtain⟨e',ρ',h1,hf,hr⟩:=SD (F:=F) he hm
 have:e'=e:=ha e' h1 ρ ρ' (by rw[<-hm.args,hf.args])
 subst this
 exact⟨ρ',hf,hr⟩
theorem dQ.nil {ρ:Nat->Nat} {Z:H}:dQ [] ρ Z:=fun id b h=>by cases h
theorem sj.nil {ρ:Nat->Nat}:sj [] ρ:=fun id id' h=>by cases h
def Pt (τ:Nat->Nat) (Z:H):Prop:=sj eT.bl1 τ/\dQ eT.bl1 τ Z
section
variable {E:EB} {τ:Nat->Nat}
theorem vU (Z Z':H) (ht:Ao Z) (f:Fr AF Z Z') (h:Pt τ Z):Pt τ Z':=⟨h.1,h.2.fr f ht fun _ _ h=>h⟩
def nO (τ:Nat->Nat):Nat->Ty
 | 0=>⟨AA 7,(.sl (τ 648) 0 1 (.ex 1)),false,false,false,false,AA 0,AA 0,.nils,(.sl (τ 805) 0 3 (.op 11)),AA 3,false,AA 0,rfl,rfl,rfl⟩
 | 1=>⟨AA 1,(.sl (τ 728) 0 1 (.ex 1)),false,false,false,false,AA 0,AA 0,.nils,.nils,AA 0,false,AA 0,rfl,rfl,rfl⟩
 | 2=>⟨AA 2,(.sl (τ 759) 0 1 (.ex 1)),false,false,false,false,AA 0,AA 0,.nils,.nils,AA 0,false,AA 0,rfl,rfl,rfl⟩
 | _=>⟨AA 5,(.sl (τ 803) 0 1 (.ex 1)),false,false,false,false,AA 0,AA 0,.nils,.nils,AA 0,false,AA 0,rfl,rfl,rfl⟩
def fdS (τ:Nat->Nat):Nat->Fd
 | 0=>⟨⟨1,97⟩,AA 1,true,false,AA 0,AA 0,.nils,.nils,AA 0,.nils,AA 0,rfl,rfl,rfl⟩
 | 1=>⟨⟨1,98⟩,AA 2,false,true,AA 2,AA 5,.nils,.nils,AA 0,.nils,AA 0,rfl,rfl,rfl⟩
 | _=>⟨⟨1,99⟩,AA 3,true,false,AA 0,AA 0,.nils,.nils,AA 0,.nils,AA 0,rfl,rfl,rfl⟩
theorem nn {Z:H} (h:Pt τ Z):Fj Z 13 4 (.sl (τ 801) 0 4 (.op 13)) fun i=>(nO τ i).c:=
 ⟨.inr ⟨τ 801,_,_,rfl,h.2 801 _ rfl,fun k hk=>by
  have:k=0\/k=1\/k=2\/k=3:=by omega
  rcases this with rfl|rfl|rfl|rfl<;>exact⟨DR rfl,rfl⟩⟩⟩
theorem fK {Z:H} (h:Pt τ Z):Fj Z 11 3 (nO τ 0).fields fun k=>(fdS τ k).c:=
 ⟨.inr ⟨τ 805,_,_,rfl,h.2 805 _ rfl,fun k hk=>by
  have:k=0\/k=1\/k=2:=by omega
  rcases this with rfl|rfl|rfl<;>exact⟨DR rfl,rfl⟩⟩⟩
theorem Yb {Z:H} {q:Nat} {cp:Ua} {l:List V} (h:dQ eT.bl1 τ Z) (hq:Go.Og.look eT.bl1 q=some (.cells l)) (hl:NA τ l=l) (h2:l.length=2):HN Z 2 1 (.sl (τ q) 0 1 cp) l:=
 .inr ⟨τ q,0,cp,NA τ l,rfl,h q _ hq,by rw[hl,h2];decide,by rw[hl,Cq];exact(D4 (by rw[h2];decide)).symm⟩
theorem vT {Z:H} (h:Pt τ Z) (k:Nat) (hk:k<3):jv Z [(2,k)] (nO τ (k+1)).tags:=by
 have:k=0\/k=1\/k=2:=by omega
 rcases this with rfl|rfl|rfl<;>exact⟨Yb h.2 rfl rfl rfl,fun _=>⟨_,rfl⟩⟩
theorem AC3 (a b:Nat):Bw (TW E (a+1) 96) (TW E (b+1) 97) (Pt τ) [.str ⟨1,77⟩,(.sl (τ 630) 0 1 (.op 1)),(.sl (τ 1067) 0 1 (.op 1)),(.sl (τ 801) 0 4 (.op 13))] 1 0:=by
  refine⟨fun Z ht hP=>?_,fun Z ht hP=>?_⟩
  · obtain⟨ρ,hf,hr⟩:=XE (e:=Q5) (l:=[XP,Q5,Q4,Q3]) (F:=BD E 600000 (TW E a) 96) (by simp) (Gv (e:=Q5) (ρ:=τ) (args:=[.agg [.str ⟨1,77⟩,(.sl (τ 630) 0 1 (.op 1)),(.sl (τ 1067) 0 1 (.op 1)),(.sl (τ 801) 0 4 (.op 13))],.int .i64 (AA 1)]) rfl hP.2 hP.1) (fun e' he ρ ρ' h=>by
      simp only[Al,EU,or_false]at he
      rcases he with rfl|rfl|rfl|rfl<;>first|rfl|(exact H7 (show true=false from congrArg (AY 1) h)))
    refine⟨_,_,by rw[tL,hr],?_,Dq.fr0 N9 (by kernel_rfl) hf ht⟩
    exact .inr ⟨_,0,_,_,rfl,Dq.has N9 hf ht 1094 _ rfl,DR rfl,rfl⟩
  · obtain⟨ρ,hf,hr⟩:=XE (e:=Q2) (l:=[XM,Q2,Q1,Q0]) (F:=BD E 600000 (TW E b) 97) (by simp) (Gv (e:=Q2) (ρ:=τ) (args:=[.agg [.str ⟨1,77⟩,(.sl (τ 630) 0 1 (.op 1)),(.sl (τ 1067) 0 1 (.op 1)),(.sl (τ 801) 0 4 (.op 13))],.int .i64 (AA 1)]) rfl hP.2 hP.1) (fun e' he ρ ρ' h=>by
      simp only[Al,EU,or_false]at he
      rcases he with rfl|rfl|rfl|rfl<;>first|rfl|(exact H7 (show true=false from congrArg (AY 1) h)))
    exact⟨_,by rw[tK,hr];rfl,Dq.fr0 Tj (by kernel_rfl) hf ht⟩
theorem AC2 (a b:Nat):Bw (TW E (a+1) 96) (TW E (b+1) 97) (Pt τ) [.str ⟨1,77⟩,(.sl (τ 630) 0 1 (.op 1)),(.sl (τ 1067) 0 1 (.op 1)),(.sl (τ 801) 0 4 (.op 13))] 2 1:=by
  refine⟨fun Z ht hP=>?_,fun Z ht hP=>?_⟩
  · obtain⟨ρ,hf,hr⟩:=XE (e:=Q4) (l:=[XP,Q5,Q4,Q3]) (F:=BD E 600000 (TW E a) 96) (by simp) (Gv (e:=Q4) (ρ:=τ) (args:=[.agg [.str ⟨1,77⟩,(.sl (τ 630) 0 1 (.op 1)),(.sl (τ 1067) 0 1 (.op 1)),(.sl (τ 801) 0 4 (.op 13))],.int .i64 (AA 2)]) rfl hP.2 hP.1) (fun e' he ρ ρ' h=>by
      simp only[Al,EU,or_false]at he
      rcases he with rfl|rfl|rfl|rfl<;>first|rfl|(exact H7 (show true=false from congrArg (AY 2) h)))
    refine⟨_,_,by rw[tL,hr],?_,Dq.fr0 N8 (by kernel_rfl) hf ht⟩
    exact .inr ⟨_,0,_,_,rfl,Dq.has N8 hf ht 1094 _ rfl,DR rfl,rfl⟩
  · obtain⟨ρ,hf,hr⟩:=XE (e:=Q1) (l:=[XM,Q2,Q1,Q0]) (F:=BD E 600000 (TW E b) 97) (by simp) (Gv (e:=Q1) (ρ:=τ) (args:=[.agg [.str ⟨1,77⟩,(.sl (τ 630) 0 1 (.op 1)),(.sl (τ 1067) 0 1 (.op 1)),(.sl (τ 801) 0 4 (.op 13))],.int .i64 (AA 2)]) rfl hP.2 hP.1) (fun e' he ρ ρ' h=>by
      simp only[Al,EU,or_false]at he
      rcases he with rfl|rfl|rfl|rfl<;>first|rfl|(exact H7 (show true=false from congrArg (AY 2) h)))
    exact⟨_,by rw[tK,hr];rfl,Dq.fr0 Th (by kernel_rfl) hf ht⟩
theorem AC1 (a b:Nat):Bw (TW E (a+1) 96) (TW E (b+1) 97) (Pt τ) [.str ⟨1,77⟩,(.sl (τ 630) 0 1 (.op 1)),(.sl (τ 1067) 0 1 (.op 1)),(.sl (τ 801) 0 4 (.op 13))] 3 2:=by
  refine⟨fun Z ht hP=>?_,fun Z ht hP=>?_⟩
  · obtain⟨ρ,hf,hr⟩:=XE (e:=Q3) (l:=[XP,Q5,Q4,Q3]) (F:=BD E 600000 (TW E a) 96) (by simp) (Gv (e:=Q3) (ρ:=τ) (args:=[.agg [.str ⟨1,77⟩,(.sl (τ 630) 0 1 (.op 1)),(.sl (τ 1067) 0 1 (.op 1)),(.sl (τ 801) 0 4 (.op 13))],.int .i64 (AA 3)]) rfl hP.2 hP.1) (fun e' he ρ ρ' h=>by
      simp only[Al,EU,or_false]at he
      rcases he with rfl|rfl|rfl|rfl<;>first|rfl|(exact H7 (show true=false from congrArg (AY 3) h)))
    refine⟨_,_,by rw[tL,hr],?_,Dq.fr0 N7 (by kernel_rfl) hf ht⟩
    exact .inr ⟨_,0,_,_,rfl,Dq.has N7 hf ht 1094 _ rfl,DR rfl,rfl⟩
  · obtain⟨ρ,hf,hr⟩:=XE (e:=Q0) (l:=[XM,Q2,Q1,Q0]) (F:=BD E 600000 (TW E b) 97) (by simp) (Gv (e:=Q0) (ρ:=τ) (args:=[.agg [.str ⟨1,77⟩,(.sl (τ 630) 0 1 (.op 1)),(.sl (τ 1067) 0 1 (.op 1)),(.sl (τ 801) 0 4 (.op 13))],.int .i64 (AA 3)]) rfl hP.2 hP.1) (fun e' he ρ ρ' h=>by
      simp only[Al,EU,or_false]at he
      rcases he with rfl|rfl|rfl|rfl<;>first|rfl|(exact H7 (show true=false from congrArg (AY 3) h)))
    exact⟨_,by rw[tK,hr];rfl,Dq.fr0 Tf (by kernel_rfl) hf ht⟩
theorem TO (a b c:Nat):aa (TW E (a+1) 96) (TW E (b+1) 97) (TW E (c+1) 148) (Pt τ) ⟨1,77⟩ (.sl (τ 630) 0 1 (.op 1)) (.sl (τ 1067) 0 1 (.op 1)) (.sl (τ 801) 0 4 (.op 13)) (nO τ) (fdS τ) where
 t4:=⟨⟨_,_,_,_,rfl,rfl,rfl,rfl,CX _ rfl,CX _ rfl,CX _ rfl⟩⟩
 ptf:=vU
 row:=fun Z h=>nn h
 frow:=fun Z h=>fK h
 tg0:=fun Z h=>Yb h.2 rfl rfl rfl
 tg:=fun Z k h hk=>vT h k hk
 k0:=rfl
 itm:=rfl
 kd:=fun k hk=>by
  have:k=0\/k=1\/k=2:=by omega
  rcases this with rfl|rfl|rfl<;>exact⟨rfl,rfl⟩
 fty:=fun k hk=>by
  have:k=0\/k=1\/k=2:=by omega
  rcases this with rfl|rfl|rfl<;>rfl
 fo:=⟨rfl,rfl⟩
 fh:=⟨rfl,rfl,rfl⟩
 df:=⟨rfl,rfl,rfl,rfl,rfl,rfl⟩
 bw:=fun k hk=>by
  have:k=0\/k=1\/k=2:=by omega
  rcases this with rfl|rfl|rfl
  ·exact AC3 a b
  ·exact AC2 a b
  ·exact AC1 a b
 sl:=fun Z ht hP=>by
  obtain⟨ρ,hf,hr⟩:=oM (e:=uG) (F:=BD E 600000 (TW E c) 148) (Gv (e:=uG) (ρ:=τ) (args:=[.agg [.str ⟨1,77⟩,(.sl (τ 630) 0 1 (.op 1)),(.sl (τ 1067) 0 1 (.op 1)),(.sl (τ 801) 0 4 (.op 13))],.int .i64 (AA 0)]) rfl hP.2 hP.1)
  exact⟨_,by rw[AA8,hr];rfl,Dq.fr0 XN (by kernel_rfl) hf ht⟩
theorem ACr (d:Nat):aw (Pt τ) ⟨1,77⟩ (.sl (τ 630) 0 1 (.op 1)) (.sl (τ 1067) 0 1 (.op 1)) (.sl (τ 801) 0 4 (.op 13)) (nO τ) (TW E (d+2) 128):=by rw[ABA];exact vx (TO (E:=E) (τ:=τ) 0 0 d) (by decide)
theorem ACu (d:Nat):Ps (Pt τ) ⟨1,77⟩ (.sl (τ 630) 0 1 (.op 1)) (.sl (τ 1067) 0 1 (.op 1)) (.sl (τ 801) 0 4 (.op 13)) (nO τ) (TW E (d+4) 103):=by rw[ABL];exact v8 (TO (E:=E) (τ:=τ) 0 0 0) (NQ (d+2)) (xAb (d+1)) (xLs (d+2)) (ue d) (ACa (d+1)) (ACb (d+2)) (ACr (d+1)) (by decide)
theorem ACs (d:Nat):Ps (Pt τ) ⟨1,77⟩ (.sl (τ 630) 0 1 (.op 1)) (.sl (τ 1067) 0 1 (.op 1)) (.sl (τ 801) 0 4 (.op 13)) (nO τ) (TW E (d+5) 67):=by rw[AAy];exact vy (TO (E:=E) (τ:=τ) 0 0 0) (ACu d)
theorem ACt (d:Nat):ay (Pt τ) ⟨1,77⟩ (.sl (τ 630) 0 1 (.op 1)) (.sl (τ 1067) 0 1 (.op 1)) (.sl (τ 801) 0 4 (.op 13)) (TW E (d+6) 40):=by rw[AFr];exact vz (TO (E:=E) (τ:=τ) 0 0 0) (ACs d) (ACy (d+3))
theorem uf (d:Nat):UO (Pt τ) ⟨1,77⟩ (.sl (τ 630) 0 1 (.op 1)) (.sl (τ 1067) 0 1 (.op 1)) (.sl (τ 801) 0 4 (.op 13)) (TW E (d+9) 16):=by rw[AF1];exact oS (TO (E:=E) (τ:=τ) 0 0 0) (ACt (d+2)) (ACe (d+1)) (ACw d) (xDe d)
theorem ACx (d:Nat):bD (Pt τ) ⟨1,77⟩ (.sl (τ 630) 0 1 (.op 1)) (.sl (τ 1067) 0 1 (.op 1)) (.sl (τ 801) 0 4 (.op 13)) (TW E (d+10) 9):=by
 rw[DE9]
 intro Z u t x mk ok body ht hp hu h3 hx h1 h2 h4 hb hl hok
 exact oZ (TO (E:=E) (τ:=τ) (d+3) (d+3) 0) (ACj (d+2)) (by decide) (uf d) (ug (d+8)) ht hp hu h3 hx h1 h2 h4 hb hl hok
theorem ACV (d:Nat):kP (TW E (d+10)) (TW E (d+10) 6) t0:=by
 intro Z ht
 obtain⟨ρ,hf,hr⟩:=oM (e:=eT) (F:=BD E 600000 (TW E (d+9)) 6) (Gv (e:=eT) (ρ:=fun x=>x) (args:=[.str t0]) (Z:=Z) rfl dQ.nil sj.nil)
 exact⟨Pt (eT.to ρ Z),_,_,_,_,_,by rw[show d+10=(d+9)+1 from rfl,DE6,hr];rfl,Dq.fr0 N6 (by kernel_rfl) hf ht,⟨Dq.to_inj N6 hf ht,Dq.has N6 hf ht⟩,vU,(TO (E:=E) (τ:=eT.to ρ Z) 0 0 0).t4,ACx d⟩
theorem xAw (d:Nat):pa (TW E (d+1) 10):=by
 intro Z ht
 obtain⟨ρ,hf,hr⟩:=oM (e:=uH) (F:=BD E 600000 (TW E d) 10) (Gv (e:=uH) (ρ:=fun x=>x) (args:=[]) (Z:=Z) rfl dQ.nil sj.nil)
 exact⟨_,by rw[AF3,hr];rfl,Dq.fr0 XQ (by kernel_rfl) hf ht⟩
theorem oW {n:Int} (hn:DQ n) {y:Nat} (hy:y<256) (kind:Int):okB (F3 E (TW E 59) (AT E (TW E 59)) 600000 [.int .i64 n,.int .u8 (AA y),.int .i64 kind] ⟨100,[]⟩)=true:=by
 have ht:Ao ⟨100,[]⟩:=fun _ _=>rfl
 obtain⟨Z',h⟩:=vi (E:=E) (D:=TW E 59) (N:=600000) (t0:=t0) (by unfold t0;rfl) (ACV 49) (ACc 58) (ACi 56) (xAw 58) (ua 57) (ACW 55) ht hn hy kind
 rw[h];rfl
end
end
end Go.Proofs.YtoengnbdallegaaGreatDoor
namespace Go.Proofs.YtoengnbdallegaaGreatDoor.derinStrict
open Go
theorem W5:(Rows.derinStrictRow.inPlace==Tryz.pinned.checked.prog.inPlace 3)=true:=by kernel_rfl
theorem Qw:(Rows.derinStrictRow.unfollowed==Tryz.pinned.checked.prog.unfollowed 3)=true:=by kernel_rfl
theorem Tc:(Rows.derinStrictRow.recurses==Tryz.pinned.checked.prog.recurses 3)=true:=by kernel_rfl
theorem SF:(Rows.derinStrictRow.named==Tryz.pinned.checked.prog.varsNamed 3)=true:=by kernel_rfl
end Go.Proofs.YtoengnbdallegaaGreatDoor.derinStrict
