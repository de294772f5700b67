/- What the last text leans on, part 7 of 7: merged out of smaller texts. No condition. -/
import Derived.Shelf.SlGeneric
import Derived.Ground.SlgnProg
import Derived.Test.YtoengnbdallegaaGreatDoorChecked
import Derived.Test.YtoengnbdallegaaGreatDoorCards
import Derived.KernelRfl
import Derived.Test.YtoengnbdallegaaGreatDoorQ5
open Int renaming ofNat -> AA,negSucc -> BQ,tmod -> E3
open Nat renaming reduceLeDiff -> AB,reduceEqDiff -> AD,reduceLT -> AF,le_refl -> AL,beq_eq -> AS,beq -> AW,ble -> Ag,add -> Ap,lt_or_ge -> A6,ble_eq -> BF,eq_of_beq_eq_true -> BK,le_trans -> BP,zero_add -> BZ,le_of_ble_eq_true -> Bu,mul_one -> CG,not_lt_zero -> DL,lt_irrefl -> DM,add_sub_cancel_left -> FC,zero_le -> HE,le_add_right -> IU,beq_refl -> Sy,mod_lt -> wj
open Bool renaming and_eq_true -> AJ,or_eq_false_iff -> BJ,or_eq_true -> BN,not_true -> Bt,noConfusion -> Cm,false_or -> DN,not_false -> Dj,true_and -> Eu,not_eq_true -> IX,false_and -> wx
open Option renaming some -> AM
open List renaming length_append -> AQ,mem_cons -> Ae,getElem?_eq_getElem -> Af,mem_cons_self -> Av,length_cons -> Ay,getElem?_eq_some_iff -> A0,getElem?_append_right -> BB,getElem?_append_left -> Bh,all_cons -> Bj,getD_eq_getElem?_getD -> B7,mem_singleton -> CE,append_nil -> CF,map_cons -> CP,length_map -> CY,drop_zero -> Ca,getElem?_drop -> Cc,length_singleton -> Cf,nil_append -> Ch,not_mem_nil -> Cl,mem_cons_of_mem -> Cu,take_of_length_le -> Cy,range -> Cz,take_length -> DU,mem_map -> EF,cons_append -> Ef,append_assoc -> FE,drop_eq_getElem_cons -> Gx,map_append -> G4,flatten_append -> IL,drop_drop -> IV,getElem?_take -> JN,mem_append -> Ja,map_nil -> Mc,flatten_singleton -> S1,forall_mem_cons -> ZC
set_option linter.all false
set_option maxRecDepth 100000
namespace Go.Proofs.YtoengnbdallegaaGreatDoor
open Go Go.Og
noncomputable section
def Vr (K:Nat) (l:V) (hl:l.one=true) (r:Int) (m:V) (hm:m.one=true):Vc:=⟨AA K,AA 0,.nils,l,r,m,rfl,hl,hm⟩
def sel (b:Bool) (x y:AH):AH:=match b with
 | true=>x
 | false=>y
theorem WB (x y:AH):sel true x y=x:=rfl
theorem mA (x y:AH):sel false x y=y:=rfl
def Yt (ok:Nat->Bool):Nat->Nat->Bool
 | 0,_=>true
 | m+1,k=>ok k&&Yt ok m (k+1)
def ACX (F:List V->H->AH) (Z0:H) (nT:Nat) (ty:Nat->Ty) (j:Nat) (v:Vc):Prop:=∀(Z:H) (p dp:Nat) (nm:BS) (nv rv tv:V) (rest:List V),Aj Z->Fr AG Z0 Z->Ck Z p nT ty nm nv rv tv rest->dp<=17->∃Z',F [.ptr p 0,.int .i64 (AA j),.agg v.c,.int .i64 (AA dp)] Z=some (.bool true,Z')/\Fr AG Z Z'
def SmA (S:List V->H->AH) (Z0:H) (v:Vc) (f:Fd) (b:Bool):Prop:=∀Z:H,Aj Z->Fr AG Z0 Z->∃Z',S [.agg v.c,.agg [.int .i64 f.d0,.int .i64 f.d1,f.d2,f.d3,.int .i64 f.d4,f.d5]] Z=some (.bool b,Z')/\Fr AG Z Z'
inductive xF (F S:List V->H->AH) (Z0:H) (nT:Nat) (ty:Nat->Ty) (lo:Bool) (f:Fd) (v:Vc):Bool->Prop
 | abs (h:v=Vc.abs) (ho:(f.opt || f.has || lo)=true):xF F S Z0 nT ty lo f v true
 | val {j:Nat} (h:B4 v.k (AA 0)=false) (hj:f.type=AA j) (hf:ACX F Z0 nT ty j v) (hh:f.has=false):xF F S Z0 nT ty lo f v true
 | dft {j:Nat} {b:Bool} (h:B4 v.k (AA 0)=false) (hj:f.type=AA j) (hf:ACX F Z0 nT ty j v) (hh:f.has=true) (hs:SmA S Z0 v f b):xF F S Z0 nT ty lo f v (!b)
def UF (F:List V->H->AH):Prop:=∀{Z:H},Aj Z->∃Z',F [.agg Vc.abs.c] Z=some (.bool true,Z')/\Fr AG Z Z'
def Yx (F:List V->H->AH):Prop:=∀{Z:H},Aj Z->∀(x:Ty) {nf:Nat} {fd:Nat->Fd},Ea Z 11 nf x.fields (fun k=>(fd k).c)->∀{k:Nat},k<nf->((fd k).opt || (fd k).has || Hp x.root (AA k))=true->∃Z',F [.agg x.c,.int .i64 (AA k)] Z=some (.bool true,Z')/\Fr AG Z Z'
section
variable {E:EB} {D:Ak} {W:AI} {N:Nat} {Z0:H} {p nT:Nat} {ty:Nat->Ty} {nm:BS} {nv rv tv:V} {rest:List V}
theorem AFi (hP:FB (D 99)):UF (Vk E D W N):=by
 intro Z ht
 exact Tz hP ht (k:=AA 0) (n:=AA 0) (r:=AA 0) GY.nils GY.nils GY.nils
theorem AFY:Yx (Y4 E D W N):=by
 intro Z ht x nf fd hf k hk ho
 obtain⟨Z',g,f⟩:=jE (E:=E) (D:=D) (W:=W) (N:=N) ht x hf hk
 rw[ho]at g
 exact⟨Z',g,f⟩
theorem ie (hA:UF (D 107)) (hL:Yx (D 126)) {Z:H} {x:Ty} {nf:Nat} {fd:Nat->Fd} {g:Nat->Vc} {l r m:V} {kk:Int} {i dp q k:Nat} {ok:Bool} (hok:xF (D 67) (D 127) Z0 nT ty (Hp x.root (AA k)) (fd k) (g k) ok) (f0:Fr AG Z0 Z) (hd:dp<=16) (hlt:k<nf) (hc:Ck Z p nT ty nm nv rv tv rest) (hf:Ea Z 11 nf x.fields fun k=>(fd k).c) (hr:Ea Z 6 nf l (fun k=>(g k).c)) (qa:CB Z q [.int .i64 kk,.int .i64 (AA 0),.nils,l,r,m]) :
  ∃Z2,Fr AG Z Z2/\∀K1 K3,JI E D W K1 K3 p 0 (AA i) (AA dp) q 0 x.fields (AA nf) (AA k) x.kind x.tags x.has x.hasLow x.hasHigh x.conMore x.low x.high x.items x.fields x.root x.more x.of_ Z=sel ok (K3 p 0 (AA i) (AA dp) q 0 x.fields (AA nf) (AA k) x.kind x.tags x.has x.hasLow x.hasHigh x.conMore x.low x.high x.items x.fields x.root x.more x.of_ Z2) (some (.bool false,Z2)):=by
 have ht:=f0.tidy
 have rf:∀J,AU 11 x.fields (AA k) (fun b o=>BH E Z b o 11 J)=J (fd k).c:=fun J=>hf.all hlt J
 have rg:∀J,AU 6 l (AA k) (fun b o=>BH E Z b o 6 J)=J (g k).c:=fun J=>hr.all hlt J
 have d1:decide (k<nf)=true:=decide_eq_true hlt
 unfold Fd.c at rf
 cases hok with
 | abs h ho=>
  obtain⟨Z1,g1,f1⟩:=hA ht
  obtain⟨Z2,g2,f2⟩:=hL f1.tidy x (hf.fr0 f1 ht) hlt ho
  rw[h]at rg
  unfold Vc.c Vc.abs at rg g1
  unfold Ty.c at g2
  refine⟨Z2,f1.trans f2 (fun _ _ h=>h),fun K1 K3=>?_⟩
  unfold JI
  simp -implicitDefEqProofs only [↓rP,rA,AD,AF,AB,d1,↓rf,(fd k).one2,(fd k).one3,(fd k).one5,↓BG qa,↓rg,BW,decide_true,↓g1,↓g2,WB]
 | val hv hj hfit hh=>
  obtain⟨Z2,g2,f2⟩:=hfit Z p (dp+1) nm nv rv tv rest ht f0 hc (by omega)
  unfold Vc.c at rg g2
  refine⟨Z2,f2,fun K1 K3=>?_⟩
  unfold JI
  simp -implicitDefEqProofs only [↓rP,rA,AD,AF,AB,d1,↓rf,(fd k).one2,(fd k).one3,(fd k).one5,↓BG qa,↓rg,(g k).oneB,(g k).oneL,(g k).oneM,hv,hh,hj,Bb (show dp+1<=9223372036854775807 by omega),↓g2,WB]
 | @dft j b hv hj hfit hh hs=>
  obtain⟨Z2,g2,f2⟩:=hfit Z p (dp+1) nm nv rv tv rest ht f0 hc (by omega)
  obtain⟨Z3,g3,f3⟩:=hs Z2 f2.tidy (f0.trans f2 (fun _ _ h=>h))
  unfold Vc.c at rg g2 g3
  refine⟨Z3,f2.trans f3 (fun _ _ h=>h),fun K1 K3=>?_⟩
  unfold JI
  cases b with
  | true=>simp -implicitDefEqProofs only [↓rP,rA,AD,AF,AB,d1,↓rf,(fd k).one2,(fd k).one3,(fd k).one5,↓BG qa,↓rg,(g k).oneB,(g k).oneL,(g k).oneM,hv,hh,hj,Bb (show dp+1<=9223372036854775807 by omega),↓g2,↓g3,Bt,Dj,WB,mA]
  | false=>simp -implicitDefEqProofs only [↓rP,rA,AD,AF,AB,d1,↓rf,(fd k).one2,(fd k).one3,(fd k).one5,↓BG qa,↓rg,(g k).oneB,(g k).oneL,(g k).oneM,hv,hh,hj,Bb (show dp+1<=9223372036854775807 by omega),↓g2,↓g3,Bt,Dj,WB,mA]
theorem ig (hA:UF (D 107)) (hL:Yx (D 126)) {x:Ty} {nf:Nat} {fd:Nat->Fd} {g:Nat->Vc} {l r m:V} {kk:Int} {i dp q:Nat} {ok:Nat->Bool} (hok:∀k,k<nf->xF (D 67) (D 127) Z0 nT ty (Hp x.root (AA k)) (fd k) (g k) (ok k)) (hd:dp<=16) (hnf:nf<=10000) :
  ∀(c n' k:Nat) (Z:H),k+c=nf->c<n'->Fr AG Z0 Z->Ck Z p nT ty nm nv rv tv rest->Ea Z 11 nf x.fields (fun k=>(fd k).c)->Ea Z 6 nf l (fun k=>(g k).c)->CB Z q [.int .i64 kk,.int .i64 (AA 0),.nils,l,r,m] ->
   ∃Z',PQ E D W N n' p 0 (AA i) (AA dp) q 0 x.fields (AA nf) (AA k) x.kind x.tags x.has x.hasLow x.hasHigh x.conMore x.low x.high x.items x.fields x.root x.more x.of_ Z=sel (Yt ok c k) (Su E D W N p 0 (AA i) q 0 Z') (some (.bool false,Z'))/\Fr AG Z Z':=by
 intro c
 induction c with
 | zero=>
  intro n' k Z hk hn' f0 hc hf hr hq
  obtain⟨n',rfl⟩:∃k,n'=k+1:=⟨n'-1,by omega⟩
  refine⟨Z,?_,Fr.refl f0.tidy⟩
  show JI E D W _ _ p 0 (AA i) (AA dp) q 0 x.fields (AA nf) (AA k) _ _ _ _ _ _ _ _ _ _ _ _ _ Z=_
  unfold JI
  rw[Ej,decide_eq_false (by omega),C3]
  rfl
 | succ c ih=>
  intro n' k Z hk hn' f0 hc hf hr hq
  obtain⟨n',rfl⟩:∃k,n'=k+1:=⟨n'-1,by omega⟩
  have ht:=f0.tidy
  obtain⟨Z2,f2,step⟩:=ie (E:=E) (W:=W) (i:=i) hA hL (hok k (by omega)) f0 hd (by omega) hc hf hr hq
  show ∃Z',JI E D W _ (PH E D W (PQ E D W N n')) p 0 (AA i) (AA dp) q 0 x.fields (AA nf) (AA k) _ _ _ _ _ _ _ _ _ _ _ _ _ Z=_/\_
  rw[step]
  unfold Yt
  cases hokk:ok k with
  | false=>exact⟨Z2,rfl,f2⟩
  | true=>
   obtain⟨Z3,h3,f3⟩:=ih n' (k+1) Z2 (by omega) (by omega) (f0.trans f2 (fun _ _ h=>h)) (hc.fr f2 ht) (hf.fr0 f2 ht) (hr.fr0 f2 ht) (f2.at_ hq ht (fun h=>h))
   refine⟨Z3,?_,f2.trans f3 (fun _ _ h=>h)⟩
   rw[Eu,<-h3]
   show PH E D W (PQ E D W N n') p 0 (AA i) (AA dp) q 0 x.fields (AA nf) (AA k) x.kind x.tags x.has x.hasLow x.hasHigh x.conMore x.low x.high x.items x.fields x.root x.more x.of_ Z2=_
   unfold PH
   rw[Bb (by omega)]
theorem TC (hP:FB (D 99)) (hA:UF (D 107)) (hL:Yx (D 126)) {Z:H} {nf K:Nat} {fd:Nat->Fd} {g:Nat->Vc} {l:V} {hl:l.one=true} {r:Int} {mv:V} {hm:mv.one=true} {i dp:Nat} {ok:Nat->Bool} {rb:Bool} (hok:∀k,k<nf->xF (D 67) (D 127) Z nT ty (Hp (ty i).root (AA k)) (fd k) (g k) (ok k)) (hd:dp<=16) (hi:i<nT) (hN:nf<N) (hnf:nf<=10000)
  {nm':Nat} (hml:GY mv nm')
  (hR:∀Z1,Aj Z1->Fr AG Z Z1->∃Z',D 125 [.ptr p 0,.int .i64 (AA i),.agg (Vr K l hl r mv hm).c] Z1=some (.bool rb,Z')/\Fr AG Z1 Z')
  (hG:∀Z1,Aj Z1->Fr AG Z Z1->∃Z',D 128 [.ptr p 0,.int .i64 (AA i),.agg (Vr K l hl r mv hm).c] Z1=some (.bool true,Z')/\Fr AG Z1 Z')
  (ht:Aj Z) (hc:Ck Z p nT ty nm nv rv tv [.bool false]) (hf:Ea Z 11 nf (ty i).fields fun k=>(fd k).c) (hr:Ea Z 6 nf l (fun k=>(g k).c)) :
  ∃Z',UW E D W N [.ptr p 0,.int .i64 (AA i),.agg (Vr K l hl r mv hm).c,.int .i64 (AA dp)] Z=some (.bool (rb&&Yt ok nf 0),Z')/\Fr AG Z Z':=by
 obtain⟨Z1,e1,f1,a1,n1⟩:=CZ ht (Vr K l hl r mv hm).c
 have c1:=hc.fr f1 ht
 have rd:∀J,AU 13 tv (AA i) (fun b o=>BH E Z1 b o 13 J)=J (ty i).c:=fun J=>c1.row.all hi J
 obtain⟨Z2,g2,f2⟩:=hP Z1 (AA 12) (AA K) (AA 0) r .nils l mv 0 nf nm' f1.tidy GY.nils hr.len hml
 rw[show I1 (AA 12) (AA K) (AA 0) 0 nf r nm'=true from rfl]at g2
 have f02:=f1.trans f2 (fun _ _ h=>h)
 obtain⟨Z3,g3,f3⟩:=hR Z2 f2.tidy f02
 have f03:=f02.trans f3 (fun _ _ h=>h)
 have a2:CB Z2 Z.next [.int .i64 (AA K),.int .i64 (AA 0),.nils,l,.int .i64 r,mv]:=f2.at_ a1 f1.tidy (fun h=>h)
 have a3:CB Z3 Z.next [.int .i64 (AA K),.int .i64 (AA 0),.nils,l,.int .i64 r,mv]:=f3.at_ a2 f2.tidy (fun h=>h)
 obtain⟨Z4,h4,f4⟩:=ig (E:=E) (W:=W) (N:=N) (x:=ty i) (i:=i) (q:=Z.next) hA hL hok hd hnf nf N 0 Z3 (by omega) hN f03 (hc.fr f03 ht) (hf.fr0 f03 ht) (hr.fr0 f03 ht) a3
 have f04:=f03.trans f4 (fun _ _ h=>h)
 obtain⟨Z5,g5,f5⟩:=hG Z4 f4.tidy f04
 have a4:CB Z4 Z.next [.int .i64 (AA K),.int .i64 (AA 0),.nils,l,.int .i64 r,mv]:=f4.at_ a3 f3.tidy (fun h=>h)
 have hln:=hr.len.2
 have hlf:=hf.len.2
 have e1':Br Z (.cells [.int .i64 (AA K),.int .i64 (AA 0),.nils,l,.int .i64 r,mv])=Z1:=e1
 have a1':CB Z1 Z.next [.int .i64 (AA K),.int .i64 (AA 0),.nils,l,.int .i64 r,mv]:=a1
 have g3':D 125 [.ptr p 0,.int .i64 (AA i),.agg [.int .i64 (AA K),.int .i64 (AA 0),.nils,l,.int .i64 r,mv]] Z2=some (.bool rb,Z3):=g3
 have g5':D 128 [.ptr p 0,.int .i64 (AA i),.agg [.int .i64 (AA K),.int .i64 (AA 0),.nils,l,.int .i64 r,mv]] Z4=some (.bool true,Z5):=g5
 unfold vc at g2
 have d1:decide (nf=nf)=true:=decide_eq_true rfl
 cases rb with
 | false=>
  refine⟨Z3,?_,f03⟩
  show J3 E D W _ p 0 (AA i) (AA K) (AA 0) .nils l r mv (AA dp) Z=_
  unfold J3
  simp -implicitDefEqProofs only [↓rP,rA,AD,AF,AB,hl,hm,↓e1',↓c1.types,↓rd,Ty.c,(ty i).oneT,(ty i).oneI,(ty i).oneF,↓BG a1',↓Au a1',↓g2,↓BG a2,↓Au a2,↓hln,↓hlf,d1,↓g3',wx]
 | true=>
  have key:∀K',J3 E D W K' p 0 (AA i) (AA K) (AA 0) .nils l r mv (AA dp) Z=K' p 0 (AA i) (AA dp) Z.next 0 (ty i).fields (AA nf) (AA 0) (ty i).kind (ty i).tags (ty i).has (ty i).hasLow (ty i).hasHigh (ty i).conMore (ty i).low (ty i).high (ty i).items (ty i).fields (ty i).root (ty i).more (ty i).of_ Z3:=by
   intro K'
   unfold J3
   simp -implicitDefEqProofs only [↓rP,rA,AD,AF,AB,hl,hm,↓e1',↓c1.types,↓rd,Ty.c,(ty i).oneT,(ty i).oneI,(ty i).oneF,↓BG a1',↓Au a1',↓g2,↓BG a2,↓Au a2,↓hln,↓hlf,d1,↓g3']
  have tail:Su E D W N p 0 (AA i) Z.next 0 Z4=some (.bool true,Z5):=by
   show VW E D W p 0 (AA i) Z.next 0 Z4=_
   unfold VW
   simp -implicitDefEqProofs only [↓rP,rA,AD,AF,AB,hl,hm,↓Au a4,↓g5']
  rw[Eu]
  cases hb:Yt ok nf 0 with
  | true=>
   rw[hb]at h4
   exact⟨Z5,((key _).trans h4).trans tail,f04.trans f5 (fun _ _ h=>h)⟩
  | false=>
   rw[hb]at h4
   exact⟨Z4,(key _).trans h4,f04⟩
end
section
variable {E:EB} {D:Ak} {W:AI} {N:Nat} {p nT:Nat} {ty:Nat->Ty} {nm:BS} {nv rv tv:V} {rest:List V}
theorem WH {Z:H} {K i dp:Nat} {l:V} {hl:l.one=true} {r:Int} {m:V} {hm:m.one=true} {fb:Bool} (hK:K=7\/K=8) (ht:Aj Z) (hc:Ck Z p nT ty nm nv rv tv rest) (hi:i<nT) (hd:dp<=17) (hk:(ty i).kind=AA K)
  (hF:∀Z1,Aj Z1->Fr AG Z Z1->∃Z2,D 103 [.ptr p 0,.int .i64 (AA i),.agg (Vr K l hl r m hm).c,.int .i64 (AA dp)] Z1=some (.bool fb,Z2)/\Fr AG Z1 Z2) :
  ∃Z',iL E D W N [.ptr p 0,.int .i64 (AA i),.agg (Vr K l hl r m hm).c,.int .i64 (AA dp)] Z=some (.bool fb,Z')/\Fr AG Z Z':=by
 obtain⟨Z1,e1,f1,a1,n1⟩:=CZ ht (Vr K l hl r m hm).c
 obtain⟨Z2,g,f2⟩:=hF Z1 f1.tidy f1
 have c1:=hc.fr f1 ht
 have rd:∀J,AU 13 tv (AA i) (fun b o=>BH E Z1 b o 13 J)=J (ty i).c:=fun J=>c1.row.all hi J
 have hln:=c1.row.len.2
 unfold Vc.c Vr at e1 a1 g
 have d1:decide (nT<=i)=false:=decide_eq_false (by omega)
 have d2:decide (17<dp)=false:=decide_eq_false (by omega)
 refine⟨Z2,?_,f1.trans f2 (fun _ _ h=>h)⟩
 show H2 E D W (T5 E D W (cG E D W (pT E D W N))) p 0 (AA i) (AA K) (AA 0) .nils l r m (AA dp) Z=_
 unfold H2 T5 cG
 rcases hK with rfl|rfl
 ·simp -implicitDefEqProofs only [↓rP,rA,AD,AF,AB,DL,hl,hm,↓e1,↓c1.types,↓hln,d1,d2,↓rd,Ty.c,hk,(ty i).oneT,(ty i).oneI,(ty i).oneF,↓BG a1,↓Au a1,↓g]
 ·simp -implicitDefEqProofs only [↓rP,rA,AD,AF,AB,DL,hl,hm,↓e1,↓c1.types,↓hln,d1,d2,↓rd,Ty.c,hk,(ty i).oneT,(ty i).oneI,(ty i).oneF,↓BG a1,↓Au a1,↓g]
theorem lR {Z:H} {i n:Nat} {v:Vc} {fb:Bool} (hn:n<=5000) (ht:Aj Z) (hr:Ea Z 13 nT tv fun i=>(ty i).c) (h1:nv.one=true) (h2:rv.one=true) (h3:tv.one=true)
  (hF:∀(Z1:H) (p:Nat),Aj Z1->Fr AG Z Z1->Ck Z1 p nT ty nm nv rv tv [.bool false]->∃Z2,D 67 [.ptr p 0,.int .i64 (AA i),.agg v.c,.int .i64 (AA 1)] Z1=some (.bool fb,Z2)/\Fr AG Z1 Z2)
  (hC:∀Z1:H,Aj Z1->Fr AG Z Z1->∃Z2,D 68 [.agg v.c] Z1=some (.int .i64 (AA n),Z2)/\Fr AG Z1 Z2) :
  ∃Z',qO E D W N [.agg [.str nm,nv,rv,tv],.int .i64 (AA i),.agg v.c] Z=some (.bool fb,Z')/\Fr AG Z Z':=by
 cases fb with
 | true=>exact vn hn ht hr h1 h2 h3 hF hC
 | false=>
  obtain⟨Z1,e1,f1,a1,n1⟩:=CZ ht [.str nm,nv,rv,tv]
  obtain⟨Z2,e2,f2,a2,n2⟩:=CZ f1.tidy v.c
  obtain⟨Z3,e3,f3,a3,n3⟩:=CZ f2.tidy [.str nm,nv,rv,tv,.bool false]
  have f02:=f1.trans f2 (fun _ _ h=>h)
  have f03:=f02.trans f3 (fun _ _ h=>h)
  have r3:=hr.fr0 f03 ht
  have c3:Ck Z3 Z2.next nT ty nm nv rv tv [.bool false]:=⟨a3,h1,h2,h3,r3,fun b hb e=>by
   subst e
   have lo:=f02.le
   rcases hr.is with ⟨_,rfl⟩|⟨b,c,L,rfl,ha,_⟩
   ·exact hb
   ·have:=ha.lt ht
    have hb:Z2.next=b:=hb
    omega⟩
  obtain⟨Z4,g4,f4⟩:=hF Z3 Z2.next f3.tidy f03 c3
  have f04:=f03.trans f4 (fun _ _ h=>h)
  have a12:=f2.at_ a1 f1.tidy (fun h=>h)
  have a23:=f3.at_ a2 f2.tidy (fun h=>h)
  refine⟨Z4,?_,f04⟩
  unfold Vc.c at e2 a2 a23 g4
  show PE E D W nm nv rv tv (AA i) v.k v.n v.b v.l v.r v.m Z=_
  unfold PE
  simp -implicitDefEqProofs only [↓rP,rA,AD,AF,AB,h1,h2,h3,v.oneB,v.oneL,v.oneM,↓e1,↓e2,↓e3,↓Au a12,↓Au a23,↓g4]
theorem bB {Z:H} {i:Nat} {v:Vc} {O:List Int} {fb:Bool} (ht:Aj Z) (hr:Ea Z 13 nT tv fun i=>(ty i).c) (h1:nv.one=true) (h2:rv.one=true) (h3:tv.one=true)
  (hFi:∀Z1,Aj Z1->Fr AG Z Z1->∃Z',D 40 [.agg [.str nm,nv,rv,tv],.int .i64 (AA i),.agg v.c] Z1=some (.bool fb,Z')/\Fr AG Z1 Z')
  (hRu:fb=true->∀Z1,Aj Z1->Fr AG Z Z1->∃Z',D 41 [.agg v.c,.int .i64 (AA 1)] Z1=some (.bool true,Z')/\Fr AG Z1 Z')
  (hE:fb=true->O.length<=70000/\∀Z1 q,Fr AG Z Z1->Ck Z1 q nT ty nm nv rv tv []->Gw (D 42) [.ptr q 0,.int .i64 (AA i),.agg v.c] Z1 O) :
  ∃w e Z',vx E D W N [.agg [.str nm,nv,rv,tv],.int .i64 (AA i),.agg v.c] Z=some (.tup [w,.int .i64 e],Z')/\w.one=true/\Fr AG Z Z'/\(fb=true->e=AA 0/\Nb Z Z' w O)/\(fb=false->e=AA 13):=by
 obtain⟨Z1,e1,f1,a1,n1⟩:=CZ ht [.str nm,nv,rv,tv]
 obtain⟨Z2,e2,f2,a2,n2⟩:=CZ f1.tidy v.c
 have f02:=f1.trans f2 (fun _ _ h=>h)
 obtain⟨Z3,g3,f3⟩:=hFi Z2 f02.tidy f02
 have f03:=f02.trans f3 (fun _ _ h=>h)
 have a12:=f2.at_ a1 f1.tidy (fun h=>h)
 have a13:=f3.at_ a12 f02.tidy (fun h=>h)
 have a23:=f3.at_ a2 f02.tidy (fun h=>h)
 show ∃w e Z',XI E D W nm nv rv tv (AA i) v.k v.n v.b v.l v.r v.m Z=some (.tup [w,.int .i64 e],Z')/\_
 cases fb with
 | false=>
  refine⟨.nils,AA 13,Z3,?_,rfl,f03,fun h=>(by cases h),fun _=>rfl⟩
  unfold Vc.c at e2 a2 g3
  unfold XI
  simp -implicitDefEqProofs only [↓rP,rA,AD,AF,AB,h1,h2,h3,v.oneB,v.oneL,v.oneM,↓e1,↓Au a12,↓e2,↓Au a2,↓g3]
 | true=>
  obtain⟨Z4,g4,f4⟩:=hRu rfl Z3 f03.tidy f03
  obtain⟨hO,hE⟩:=hE rfl
  have f04:=f03.trans f4 (fun _ _ h=>h)
  obtain⟨Z5,e5,f5,a5,n5⟩:=CZ f04.tidy [.str nm,nv,rv,tv]
  have f05:=f04.trans f5 (fun _ _ h=>h)
  have r5:=hr.fr0 f05 ht
  have c5:Ck Z5 Z4.next nT ty nm nv rv tv []:=⟨a5,h1,h2,h3,r5,fun b hb e=>by
   subst e
   have lo:=f04.le
   rcases hr.is with ⟨_,rfl⟩|⟨b,c,L,rfl,ha,_⟩
   ·exact hb
   ·have:=ha.lt ht
    have hb:Z4.next=b:=hb
    omega⟩
  obtain⟨u,Z6,g6,h6,f6⟩:=hE Z5 Z4.next f05 c5
  have a14:=f4.at_ a13 f03.tidy (fun h=>h)
  have a24:=f4.at_ a23 f03.tidy (fun h=>h)
  have a25:=f5.at_ a24 f04.tidy (fun h=>h)
  have sl:=h6.by_.slen
  have d7:decide (70000<O.length)=false:=decide_eq_false (by omega)
  have o6:=h6.1.one
  refine⟨u,AA 0,Z6,?_,o6,f05.trans f6 (fun _ _ h=>h),fun _=>⟨rfl,h6.mono f05.le⟩,fun h=>(by cases h)⟩
  unfold Vc.c at e2 a2 a23 a24 a25 g3 g4 g6
  unfold XI
  simp -implicitDefEqProofs only [↓rP,rA,AD,AF,AB,h1,h2,h3,v.oneB,v.oneL,v.oneM,↓e1,↓Au a12,↓e2,↓Au a2,↓g3,↓Au a23,↓g4,↓Au a14,↓e5,↓Au a25,↓g6,↓Aw o6,↓sl,d7]
end
def Qv (Z0 Z:H) (v:V) (pls:List (List Int)):Prop:=∃pvs:List V,Hr Z 1 pls.length v pvs/\(∀b,Al v b->Z0.next<=b)/\∀(i:Nat) (l:List Int),pls[i]? = some l->∃u,pvs[i]? = some u/\By Z u l/\∀b,Al u b->¬Al v b
theorem Qv.nil (Z0 Z:H):Qv Z0 Z .nils []:=⟨[],Hr.nil Z 1,fun _ h=>h.elim,fun i l h=>by simp at h⟩
theorem Qv.one {Z0 Z:H} {v:V} {pls:List (List Int)} (h:Qv Z0 Z v pls):v.one=true:=by obtain⟨_,h,_⟩:=h;exact h.one
theorem Qv.fr {Z0 Z Z':H} {v:V} {pls:List (List Int)} (h:Qv Z0 Z v pls) (f:Fr AG Z Z') (ht:Aj Z):Qv Z0 Z' v pls:=by
 obtain⟨pvs,h1,h2,h3⟩:=h
 exact⟨pvs,h1.fr f ht (fun _ _ h=>h),h2,fun i l hi=>by obtain⟨u,a,b,c⟩:=h3 i l hi;exact⟨u,a,b.fr f ht,c⟩⟩
theorem Qv.app {E:EB} {Z0 Z:H} {v u:V} {pls:List (List Int)} {l:List Int} {xb:Nat} (h:Qv Z0 Z v pls) (f0:Fr AG Z0 Z) (hu:By Z u l) (hun:∀b,Al u b->¬Al v b) (hx:CB Z xb [u]) (hn:pls.length<=10000) :
  ∃v' Z',(∀J:V->H->AH,DD E 1 24 v (.sl xb 0 1 (.ex 1)) Z J=J v' Z')/\Qv Z0 Z' v' (pls++[l])/\Fr AG Z0 Z'/\Fr (Al v) Z Z'/\v'.one=true/\(∀b,Al v' b->Z.next<=b):=by
 obtain⟨pvs,h1,h2,h3⟩:=h
 obtain⟨Z',g,a,n,f⟩:=O8 (E:=E) (bytes:=24) (n:=1) h1 f0.tidy (x := .sl xb 0 1 (.ex 1)) (m:=[u]) (.inr ⟨xb,0,_,[u],rfl,hx,by simp,rfl⟩) (by decide) (by simp[allOne,hu.one]) (by
  unfold CT
  simp only[AJ,BF];omega)
 have hlen:=h1.length
 have keep:∀w m,By Z w m->(∀b,Al w b->¬Al v b)->By Z' w m:=fun w m hw hn=>HR.fr hw f f0.tidy hn
 have fresh:∀w m,By Z w m->∀b,Al w b->¬Al (V.sl Z.next 0 (pls.length+1) (.op 1)) b:=fun w m hw b hb hb'=>by
  have:=HR.lt hw f0.tidy hb
  have hb':b=Z.next:=hb'
  omega
 refine⟨_,Z',g,⟨pvs++[u],?_,fun b hb=>by cases hb;exact f0.le,fun i l' hi=>?_⟩,f0.trans f (fun b hb hn=>by have:=h2 b hn;omega),f,rfl,fun b hb=>by cases hb;exact AL _⟩
 ·rw[AQ]
  exact .inl (.inr ⟨Z.next,rfl,a,by simp,by simp;omega⟩)
 ·by_cases hl:i<pls.length
  ·rw[Bh hl]at hi
   obtain⟨w,w1,w2,w3⟩:=h3 i l' hi
   exact⟨w,by rw[Bh (by omega)];exact w1,keep w _ w2 w3,fresh w _ w2⟩
  ·have hlt:=(A0.1 hi).1
   rw[AQ,Cf]at hlt
   have hi':i=pls.length:=by omega
   subst hi'
   rw[BB (AL _)]at hi
   simp at hi
   subst hi
   exact⟨u,by rw[BB (by omega)];simp[hlen],keep u _ hu hun,fresh u _ hu⟩
inductive vp (D:Ak) (Z0:H) (p:Nat) (f:Fd) (v:Vc):Option (List Int)->Prop
 | abs (h:v=Vc.abs):vp D Z0 p f v none
 | val {j:Nat} {l:List Int} (h:B4 v.k (AA 0)=false) (hj:f.type=AA j) (hb:V.beq (.agg v.c) (.agg v.c)=true) (hE:∀Z1,Fr AG Z0 Z1->Gw (D 42) [.ptr p 0,.int .i64 (AA j),.agg v.c] Z1 l):vp D Z0 p f v (some l)
def Dw (pts:Nat->Option (List Int)):Nat->Nat->List (List Int)
 | 0,_=>[]
 | m+1,k=>(pts k).toList++Dw pts m (k+1)
def kB (F:List V->H->AH):Prop:=∀{Z:H} (v:Vc),Aj Z->B4 v.k (AA 0)=false->(∃a b c,GY v.b a/\GY v.l b/\GY v.m c)->∃Z',F [.agg v.c] Z=some (.bool false,Z')/\Fr AG Z Z'
section
variable {E:EB} {D:Ak} {W:AI} {N:Nat} {Z Z':H} {p:Nat}
theorem AFh (hP:FB (D 99)):kB (Vk E D W N):=by
 intro Z v ht hk ⟨a,b,c,h1,h2,h3⟩
 obtain⟨Z',g,f⟩:=Tz (E:=E) (W:=W) (N:=N) hP ht (k:=v.k) (n:=v.n) (r:=v.r) h1 h2 h3
 rw[hk,wx]at g
 exact⟨Z',g,f⟩
theorem jP {Z0:H} {b4 b5 b9 k j nf:Nat} {x:Ty} {fd:Nat->Fd} {v7 v13:V} {v14:Int} {pls:List (List Int)} {w:Vc} {l:List Int} (f0:Fr AG Z0 Z) (a4:CB Z b4 x.c) (a9:CB Z b9 w.c) (hb4:¬Al v7 b4) (hb9:¬Al v7 b9) (hf:Ea Z 11 nf x.fields fun k=>(fd k).c) (hfn:∀b,Al x.fields b->¬Al v7 b) (hk:k<nf) (hj:(fd k).type=AA j) (hP:Qv Z0 Z v7 pls) (hwb:V.beq (.agg w.c) (.agg w.c)=true) (hn:pls.length<=10000) (h13:v13.live=true)
    (hE:∀Z1,Fr AG Z Z1->Gw (D 42) [.ptr p 0,.int .i64 (AA j),.agg w.c] Z1 l) :
    ∃env v' Z',AT E D Q0 UO [(0,.ptr p 0),(4,.ptr b4 0),(5,.ptr b5 0),(7,v7),(8,.int .i64 (AA k)),(9,.ptr b9 0),(13,v13),(14,.int .i64 v14),(15,.int .i64 (AA k))] Z=some (env,Z') /\
      (Go.Og.look env 0=some (.ptr p 0)/\Go.Og.look env 4=some (.ptr b4 0)/\Go.Og.look env 5=some (.ptr b5 0)/\Go.Og.look env 7=some v'/\Go.Og.look env 13=some v13/\Go.Og.look env 14=some (.int .i64 v14)/\Go.Og.look env 15=some (.int .i64 (AA k)))/\Qv Z0 Z' v' (pls++[l])/\Fr AG Z0 Z'/\v'.live=true/\Fr (Al v7) Z Z'/\(∀b,Al v' b->Z.next<=b):=by
  have ht:=f0.tidy
  have fw:Fr AG Z ⟨Z.next+13,Z.bl⟩:=⟨ht.wide 13,IU _ _,fun _ _ _=>rfl⟩
  obtain⟨u1,Z1,g1,h1,f1⟩:=hE ⟨Z.next+13,Z.bl⟩ fw
  have le1:Z.next+13<=Z1.next:=f1.le
  have f01:Fr AG Z Z1:=f1.wide
  let Zb:H:=⟨Z1.next,(Z.next+10,.cells [u1])::Z1.bl⟩
  have fb1:Fr AG Z Zb:=⟨fun c hc=>by
    have hc:Z1.next<=c:=hc
    show BC ((Z.next+10,_)::Z1.bl) c=none
    rw[Az,if_neg (by simp only[];omega)];exact f1.tidy c hc,f01.le,fun c hc _=>by
    show BC ((Z.next+10,_)::Z1.bl) c=_
    rw[Az,if_neg (by simp only[];omega)];exact f01.same c hc (fun h=>h)⟩
  have ab:CB Zb (Z.next+10) [u1]:=by
    show BC ((Z.next+10,_)::Z1.bl) _=_
    rw[Az,if_pos rfl]
  have hun:∀b,Al u1 b->Z.next+13<=b:=h1.2
  have hu:By Zb u1 l:=by
    have hs:=h1.by_
    rcases hs with h|⟨b,o,c,L,rfl,ha,hl,hm⟩
    · exact .inl h
    · have hb:Z.next+13<=b:=hun b rfl
      refine .inr ⟨b,o,c,L,rfl,?_,hl,hm⟩
      show BC ((Z.next+10,_)::Z1.bl) b=_
      rw[Az,if_neg (by simp only[];omega)];exact ha
  have v7lt:∀b,Al v7 b->b<Z.next:=fun b hb=>by
    obtain⟨pvs,hd,_⟩:=hP
    exact hd.lt ht hb
  obtain⟨v',Z2,g2,h2,f2,f2',o2,nw⟩:=(hP.fr fb1 ht).app (E:=E) (f0.trans fb1 (fun _ _ h=>h)) hu (fun b hb hb'=>by have:=hun b hb;have:=v7lt b hb';omega) ab hn
  obtain⟨fb,c,L,ef,aL,hc⟩:∃fb c L,x.fields = .sl fb 0 nf c/\CB Z fb L/\∀k,k<nf->lZ L 11 k (fd k).c:=by
    rcases hf.is with ⟨h0,_⟩|h
    · omega
    · exact h
  have nL:¬Al v7 fb:=hfn fb (by rw[ef];exact rfl)
  have gL:L[0+k*11+1]? = some (.int .i64 (AA j)):=by
    have h3:((L.drop (k*11)).take 11)[1]? = some (.int .i64 (AA j)):=by rw[(hc k hk).2,<-hj];rfl
    rw[JN,if_pos (by decide),Cc]at h3
    rw[BZ];exact h3
  have hxb:V.beq x.fields x.fields=true:=by rw[ef];cases c<;>simp[V.beq]
  have go:FM E D Z 13 0 (Al v7) Q0 UO ⟨[(0,.ptr p 0),(4,.ptr b4 0),(5,.ptr b5 0),(7,v7),(8,.int .i64 (AA k)),(9,.ptr b9 0),(13,v13),(14,.int .i64 v14),(15,.int .i64 (AA k))],Z.next+13,[Z.bl],[],0,[]⟩ _ Z2:=
    Cn v7 rfl (ER rfl (Be hP.one)) <|
    Cn (.ptr p 0) rfl rfl <|
    Cn (.ptr b4 9) rfl rfl <|
    Il x.fields (CU ht) rfl (D4 (b:=b4) (off:=9) rfl a4 rfl ht hb4 hxb) fun _ r1=>
    Cn (.int .i64 (AA k)) rfl rfl <|
    Cn (.ptr fb (0+k*11)) rfl (Jq ef rfl hk) <|
    Cn (.ptr fb (0+k*11+1)) rfl rfl <|
    Il (.int .i64 (AA j)) r1 rfl (D4 (b:=fb) (off:=0+k*11+1) rfl aL gL ht nL (CV _ rfl)) fun _ r2=>
    Il (.agg w.c) r2 rfl (Ei (b:=b9) (off:=0) (m:=6) rfl a9 rfl rfl ht hb9 hwb) fun _ r3=>
    Js u1 r3 rfl (by decide) (S':=AG) f1 (fun _ _ h=>h.elim) (fun _ h _ _=>h) (Dq (vs:=[.ptr p 0,.int .i64 (AA j),.agg w.c]) rfl rfl g1) fun _ _ _ r4=>
    YR (.sl (Z.next+10) 0 1 (.ex 1)) (.cells [u1]) 1024 r4 rfl (by decide) (by decide) (VC rfl h1.1.one) fun _ r5=>
    Js v' r5 rfl (by decide) (S':=Al v7) f2' (fun _ _ h=>h) (fun b h h1 _=>by have:=v7lt b h;omega) (OF rfl rfl g2) fun _ _ _ r6=>
    Cn v' rfl (ER rfl (Be o2)) <|
    HZ r6
  obtain⟨d1,d2⟩:=Fg (ops:=Q0) go
  exact⟨_,v',Z2,d1,⟨rfl,rfl,rfl,rfl,rfl,rfl,rfl⟩,h2,f2,Be o2,d2,fun b hb=>BP f01.le (nw b hb)⟩
theorem aw (hA:UF (D 107)) (hN':kB (D 107)) {Z0:H} {x:Ty} {nf b5 qx:Nat} {fd:Nat->Fd} {g:Nat->Vc} {l:V} {pts:Nat->Option (List Int)} (hF:∀k,k<nf->vp D Z0 p (fd k) (g k) (pts k)/\∃a b c,GY (g k).b a/\GY (g k).l b/\GY (g k).m c) (ht0:Aj Z0) (hqx:qx<Z0.next) (ax:CB Z0 qx x.c) (hf:Ea Z0 11 nf x.fields fun k=>(fd k).c) (hr:Ea Z0 6 nf l (fun k=>(g k).c)) (hnf:nf<=1000) :
  ∀(m n' k:Nat) (Z:H) (v:V) (pls:List (List Int)),k+m=nf->m<n'->pls.length<=k->Fr AG Z0 Z->Qv Z0 Z v pls ->
   ∃v' Z',UL E D (AT E D) N n' (.ptr p 0) qx 0 b5 0 v l (AA nf) (AA k) Z=Xu E D (AT E D) N qx 0 b5 0 v' Z'/\Qv Z0 Z' v' (pls++Dw pts m k)/\(pls++Dw pts m k).length<=nf/\Fr AG Z0 Z':=by
 intro m
 induction m with
 | zero=>
  intro n' k Z v pls hk hn' hp f0 hP
  obtain⟨n',rfl⟩:∃q,n'=q+1:=⟨n'-1,by omega⟩
  refine⟨v,Z,?_,by rw[show Dw pts 0 k=[] from rfl,CF];exact hP,by rw[show Dw pts 0 k=[] from rfl,CF];omega,f0⟩
  have d1:decide (k<nf)=false:=decide_eq_false (by omega)
  show PD E D (AT E D) _ _ (.ptr p 0) qx 0 b5 0 v l (AA nf) (AA k) Z=_
  unfold PD
  rw[Ej,d1,C3]
 | succ m ih=>
  intro n' k Z v pls hk hn' hp f0 hP
  obtain⟨n',rfl⟩:∃q,n'=q+1:=⟨n'-1,by omega⟩
  have hlt:k<nf:=by omega
  have ht:=f0.tidy
  have rd:∀J,AU 6 l (AA k) (fun b o=>BH E Z b o 6 J)=J (g k).c:=fun J=>(hr.fr0 f0 ht0).all hlt J
  obtain⟨Z1,e1,f1,a1,n1⟩:=Ih ht EJ
  obtain⟨Z2,g2,f2,a2,n2⟩:=E4 (n:=6) (o:=0) (v := .agg (g k).c) f1.tidy a1 (by
   show (AW 6 6&&Ag (0+6) 6&&allOne (g k).c)=true
   rw[(g k).allOne];rfl)
  have a2:CB Z2 Z.next (g k).c:=a2
  have F2:Fr AG Z Z2:=f1.trans f2 (fun b hb e=>by omega)
  have d1:decide (k<nf)=true:=decide_eq_true hlt
  obtain⟨hfe,hlen⟩:=hF k hlt
  have vlt:∀b,Al v b->b<Z.next:=fun b hb=>by obtain⟨_,hd,_⟩:=hP;exact hd.lt ht hb
  have vge:∀b,Al v b->Z0.next<=b:=by obtain⟨_,_,h,_⟩:=hP;exact h
  have n0:=f0.le
  show ∃v' Z',PD E D (AT E D) _ (T3 E D (AT E D) (UL E D (AT E D) N n')) (.ptr p 0) qx 0 b5 0 v l (AA nf) (AA k) Z=_/\_
  unfold EJ at e1
  rcases hpk:pts k with _|el
  ·rw[hpk]at hfe
   cases hfe with
   | abs h=>
    obtain⟨Z3,g3,f3⟩:=hA F2.tidy
    have F3:Fr AG Z Z3:=F2.trans f3 (fun _ _ h=>h)
    obtain⟨v',Z',g',h1,h2,h3⟩:=ih n' (k+1) Z3 v pls (by omega) (by omega) (by omega) (f0.trans F3 (fun _ _ h=>h)) (hP.fr F3 ht)
    have ep:Dw pts (m+1) k=Dw pts m (k+1):=by
     show (pts k).toList++_=_
     rw[hpk];rfl
    rw[ep]
    refine⟨v',Z',?_,h1,h2,h3⟩
    rw[<-g']
    rw[h]at rd g2 a2
    unfold Vc.c Vc.abs at rd g2 g3 a2
    unfold PD T3
    simp -implicitDefEqProofs only [↓rP,rA,AD,AF,AB,d1,↓rd,↓e1,↓g2,↓Au a2,↓g3,Bb (show k+1<=9223372036854775807 by omega)]
  ·rw[hpk]at hfe
   cases hfe with
   | @val j _ hv hj hb hE=>
    obtain⟨Z3,g3,f3⟩:=hN' (g k) F2.tidy hv hlen
    have F3:Fr AG Z Z3:=F2.trans f3 (fun _ _ h=>h)
    have F03:=f0.trans F3 (fun _ _ h=>h)
    obtain⟨ev,v',Z4,d,⟨y0,y4,y5,y7,Pw,ZJ,V5⟩,hP4,f4,vl,f34,nv4⟩:=jP (E:=E) (D:=D) (p:=p) (b5:=b5) (v13:=l) (v14:=AA nf) F03 (F03.at_ ax ht0 (fun h=>h)) (f3.at_ a2 F2.tidy (fun h=>h)) (fun e=>by have:=vge _ e;omega) (fun e=>by have:=vlt _ e;omega) (hf.fr0 F03 ht0) (fun b hb e=>by
     have:=vge b e
     rcases hf.is with ⟨h0,_⟩|⟨q,c,L,h,ha,_⟩
     ·omega
     ·rw[h]at hb
      have hb:b=q:=hb
      have:=ha.lt ht0
      omega) hlt hj (hP.fr F3 ht) hb (by omega) (Be hr.len.1) (fun Z1 f=>hE Z1 (F03.trans f (fun _ _ h=>h)))
    obtain⟨v'',Z',g',h1,h2,h3⟩:=ih n' (k+1) Z4 v' (pls++[el]) (by omega) (by omega) (by rw[AQ,Cf];omega) f4 hP4
    have ep:pls++Dw pts (m+1) k=(pls++[el])++Dw pts m (k+1):=by
     show pls++((pts k).toList++_)=_
     rw[hpk];simp
    rw[ep]
    refine⟨v'',Z',?_,h1,h2,h3⟩
    rw[<-g']
    have gd:∀J:Bz->H->AH,Ci (AT E D Q0 UO [(0,.ptr p 0),(4,.ptr qx 0),(5,.ptr b5 0),(7,v),(8,.int .i64 (AA k)),(9,.ptr Z.next 0),(13,l),(14,.int .i64 (AA nf)),(15,.int .i64 (AA k))] Z3) J=J ev Z4:=fun J=>by rw[d];rfl
    have z0:∀J:V->AH,BR ev 0 J=J (.ptr p 0):=fun J=>BU y0 rfl
    have z4:∀J:V->AH,BR ev 4 J=J (.ptr qx 0):=fun J=>BU y4 rfl
    have z5:∀J:V->AH,BR ev 5 J=J (.ptr b5 0):=fun J=>BU y5 rfl
    have z7:∀J:V->AH,BR ev 7 J=J v':=fun J=>BU y7 vl
    have z13:∀J:V->AH,BR ev 13 J=J l:=fun J=>BU Pw (Be hr.len.1)
    have z14:∀J:V->AH,BR ev 14 J=J (.int .i64 (AA nf)):=fun J=>BU ZJ rfl
    have z15:∀J:V->AH,BR ev 15 J=J (.int .i64 (AA k)):=fun J=>BU V5 rfl
    unfold Vc.c at rd g2 g3 a2
    unfold PD T3
    simp -implicitDefEqProofs only [↓rP,rA,AD,AF,AB,d1,↓rd,(g k).oneB,(g k).oneL,(g k).oneM,↓e1,↓g2,↓Au a2,↓g3,↓gd,↓z0,↓z4,↓z5,↓z7,↓z13,↓z14,↓z15,Bb (show k+1<=9223372036854775807 by omega)]
end
def XM (E:EB) (F:List V->H->AH):Prop:=∀{Z:H} {l:List (Nat × Nat)} {tv v:V} {n:Nat} {pv:Nat->V} {pl:Nat->List Int} (made:Bool),Aj Z->HR Z 2 l.length tv (lx l)->W2 l->Ea Z 1 n v (fun k=>[pv k])->(∀k,k<n->Bx E Z (pv k) (pl k))->n<=10000->(FJ pl n 0).length<50000->Gw F [tv,.bool made,v] Z (TR made l (FJ pl n 0))
theorem yD {E:EB} {F:List V->H->AH} (h:XM E F):j6 E F:=fun {Z l tv v p x} made ht hs hok hr hp hl=>by
 have:=h (n:=1) (pv:=fun _=>p) (pl:=fun _=>x) made ht hs hok hr (fun k hk=>hp) (by decide) (by simp[FJ];omega)
 have e1:FJ (fun _=>x) 1 0=x:=by simp[FJ]
 rw[e1]at this
 exact this
section
variable {E:EB} {D:Ak} {W:AI} {N:Nat}
theorem ZN (hJ:HC E (D 105)) (hE:dI E (D 106)) (hN:4<N):XM E (xH E D W N):=by
 intro Z l tv v n pv pl made ht hs hok hr hp hn9 hl
 obtain⟨N,rfl⟩:∃m,N=m+5:=⟨N-5,by omega⟩
 obtain⟨u1,Z1,g1,h1,f1⟩:=hJ (pl:=pl) ht hr hp (by omega) hn9
 obtain⟨x,ex⟩:∃x,x=FJ pl n 0:=⟨_,rfl⟩
 rw[<-ex]at h1 hl ⊢
 have one:∀(Z0:H) (u:V) (y:List Int) (t:Nat × Nat) (mk:Bool),Fr AG Z Z0->Nb Z Z0 u y->((t.1=0\/t.1=2)/\t.2<16384)->y.length<60000 ->
   ∃Z2 u3 Z3,Br Z0 (.cells [u])=Z2/\D 106 [.agg [.int .i64 (AA t.1),.int .i64 (AA t.2)],.bool mk,.sl Z0.next 0 1 (.ex 1)] Z2=some (u3,Z3)/\Nb Z Z3 u3 (YW t.1 mk t.2 y)/\Fr AG Z Z3:=fun Z0 u y t mk f0 hu htg hy=>by
  obtain⟨Z2,e2,f2,a2,n2⟩:=Pq f0.tidy [u]
  obtain⟨u3,Z3,g3,h3,f3⟩:=hE (Z:=Z2) (n:=1) (pv:=fun _=>u) (pl:=fun _=>y) mk f2.tidy htg.1 htg.2 (Zf a2) (fun k hk=>Bx.of (hu.fr f2 f0.tidy).by_ f2.tidy) (by simp[FJ];omega) (by omega)
  have f02:=f0.trans f2 (fun _ _ h=>h)
  have e:FJ (fun _=>y) 1 0=y:=by simp[FJ]
  rw[e]at h3
  exact⟨Z2,u3,Z3,e2,g3,h3.mono f02.le,f02.trans f3 (fun _ _ h=>h)⟩
 have sl:∀J:Nat->AH,A2 tv J=J l.length:=fun J=>hs.slen
 have key0:∀K,W6 E D W K tv made v Z=K tv made u1 (D6 .i64 (AA l.length) (AA 1)) Z1:=fun K=>by
  have o1:=h1.1.one
  unfold W6
  simp -implicitDefEqProofs only [↓rP,rA,AD,AF,AB,↓g1,↓Aw o1,↓sl]
 have endd:∀(R:V->Bool->V->Int->H->AH) (u:V) (Z':H),MR E D W (mj E D W) R tv made u (BQ 0) Z'=some (u,Z'):=fun R u Z'=>rfl
 obtain⟨hlen,htags⟩:=hok
 match l,hlen,hs,htags,sl,key0 with
 | [t],_,hs,htags,sl,key0=>
  obtain⟨Z2,u3,Z3,e2,g3,h3,f3⟩:=one Z1 u1 x t made f1 h1 (htags t (by simp)) (by omega)
  have rd:=Rd (E:=E) (hs.fr f1 ht (fun _ _ h=>h)) (i:=0) (t:=t) rfl (by simp)
  have o1:=h1.1.one
  have o3:=h3.1.one
  have fl1:∀J:List V->AH,D8 [(0,1,u1)] [V.nils] J=J [u1]:=fun J=>Go.Og.fill1 o1 J
  have fl3:∀J:List V->AH,D8 [(0,1,u3)] [V.nils] J=J [u3]:=fun J=>Go.Og.fill1 o3 J
  have oo1:allOne [u1]=true:=by simp[BL,Bk,o1]
  have oo3:allOne [u3]=true:=by simp[BL,Bk,o3]
  have sb:D6 .i64 (AA 1) (AA 1)=AA 0:=rfl
  have sb2:D6 .i64 (AA 0) (AA 1)=BQ 0:=rfl
  have sl:∀J:Nat->AH,A2 tv J=J 1:=sl
  have step:∀K R,MR E D W K R tv made u1 (AA 0) Z1=R tv made u3 (BQ 0) Z3:=fun K R=>by
   unfold MR
   cases made with
   | true=>simp -implicitDefEqProofs only [↓rP,rA,AD,AF,AB,↓rd,↓fl1,o1,↓e2,↓g3,↓Aw o3,sb2,AL]
   | false=>simp -implicitDefEqProofs only [↓rP,rA,AD,AF,AB,↓rd,↓sl,sb,DM,↓fl1,o1,↓e2,↓g3,↓Aw o3,sb2,AL]
  refine⟨u3,Z3,?_,h3,f3⟩
  exact(key0 _).trans ((step _ _).trans (endd _ _ _))
 | [t,s],_,hs,htags,sl,key0=>
  obtain⟨Z2,u3,Z3,e2,g3,h3,f3⟩:=one Z1 u1 x s made f1 h1 (htags s (by simp)) (by omega)
  have le:=jV s.1 made s.2 x
  obtain⟨Z4,u5,Z5,e4,g5,h5,f5⟩:=one Z3 u3 _ t true f3 h3 (htags t (by simp)) (by omega)
  have rd1:=Rd (E:=E) (hs.fr f1 ht (fun _ _ h=>h)) (i:=1) (t:=s) rfl (by simp)
  have rd0:=Rd (E:=E) (hs.fr f3 ht (fun _ _ h=>h)) (i:=0) (t:=t) rfl (by simp)
  have o1:=h1.1.one
  have o3:=h3.1.one
  have fl1:∀J:List V->AH,D8 [(0,1,u1)] [V.nils] J=J [u1]:=fun J=>Go.Og.fill1 o1 J
  have fl3:∀J:List V->AH,D8 [(0,1,u3)] [V.nils] J=J [u3]:=fun J=>Go.Og.fill1 o3 J
  have oo1:allOne [u1]=true:=by simp[BL,Bk,o1]
  have oo3:allOne [u3]=true:=by simp[BL,Bk,o3]
  have o5:=h5.1.one
  have sb:D6 .i64 (AA 2) (AA 1)=AA 1:=rfl
  have sb1:D6 .i64 (AA 1) (AA 1)=AA 0:=rfl
  have sb2:D6 .i64 (AA 0) (AA 1)=BQ 0:=rfl
  have sl:∀J:Nat->AH,A2 tv J=J 2:=sl
  have d01:decide (0<=1)=true:=rfl
  have l01:decide (0<1)=true:=rfl
  have step1:∀K R,MR E D W K R tv made u1 (AA 1) Z1=R tv made u3 (AA 0) Z3:=fun K R=>by
   unfold MR
   cases made with
   | true=>simp -implicitDefEqProofs only [↓rP,rA,AD,AF,AB,↓rd1,↓fl1,o1,↓e2,↓g3,↓Aw o3,sb1,d01]
   | false=>simp -implicitDefEqProofs only [↓rP,rA,AD,AF,AB,↓rd1,↓sl,sb,DM,↓fl1,o1,↓e2,↓g3,↓Aw o3,sb1,d01]
  have step0:∀K R,MR E D W K R tv made u3 (AA 0) Z3=R tv made u5 (BQ 0) Z5:=fun K R=>by
   unfold MR
   cases made with
   | true=>simp -implicitDefEqProofs only [↓rP,rA,AD,AF,AB,↓rd0,↓fl3,o3,↓e4,↓g5,↓Aw o5,sb2,AL]
   | false=>simp -implicitDefEqProofs only [↓rP,rA,AD,AF,AB,↓rd0,↓sl,sb,l01,↓fl3,o3,↓e4,↓g5,↓Aw o5,sb2,AL]
  refine⟨u5,Z5,?_,h5,f5⟩
  exact(key0 _).trans ((step1 _ _).trans ((step0 _ _).trans (endd _ _ _)))
end
theorem Wf (pls:List (List Int)):∀(m i:Nat),i+m=pls.length->FJ (fun k=>pls.getD k []) m i=(pls.drop i).flatten
 | 0,i,h=>by rw[List.drop_eq_nil_of_le (by omega)];rfl
 | m+1,i,h=>by
  have hi:i<pls.length:=by omega
  have e:pls.getD i []=pls[i]:=by rw[B7,Af hi];rfl
  rw[Gx hi]
  show pls.getD i []++FJ _ m (i+1)=_
  rw[e,Wf pls m (i+1) (by omega)];rfl
theorem Qv.row {Z0 Z:H} {v:V} {pls:List (List Int)} (h:Qv Z0 Z v pls):∃pv:Nat->V,Ea Z 1 pls.length v (fun k=>[pv k])/\∀k,k<pls.length->By Z (pv k) (pls.getD k []):=by
 obtain⟨pvs,h1,h2,h3⟩:=h
 have hl:pvs.length=pls.length:=by rw[h1.length,CG]
 refine⟨fun k=>pvs.getD k .nils,⟨?_⟩,fun k hk=>?_⟩
 ·have cel:∀k,k<pls.length->lZ pvs 1 k [pvs.getD k .nils]:=fun k hk=>⟨by omega,by
   rw[CG,Gx (by omega),B7,Af (by omega)];rfl⟩
  rcases h1 with (⟨h0,rfl,_⟩|⟨b,rfl,ha,_,_⟩)|⟨b,rfl,ha,_⟩
  ·exact .inl ⟨h0,rfl⟩
  ·exact .inr ⟨b,_,_,rfl,ha,cel⟩
  ·exact .inr ⟨b,_,_,rfl,ha,cel⟩
 ·obtain⟨u,q1,q2,_⟩:=h3 k _ (Af hk)
  have e1:pvs.getD k .nils=u:=by rw[B7,q1];rfl
  have e2:pls.getD k []=pls[k]:=by rw[B7,Af hk];rfl
  show By Z (pvs.getD k .nils) _
  rw[e1,e2]
  exact q2
structure RcE (D:Ak) (Z:H) (p nf:Nat) (x:Ty) (fd:Nat->Fd) (g:Nat->Vc) (l:V) (pts:Nat->Option (List Int)):Prop where
 f:∀k,k<nf->vp D Z p (fd k) (g k) (pts k)/\∃a b c,GY (g k).b a/\GY (g k).l b/\GY (g k).m c
 row:Ea Z 11 nf x.fields fun k=>(fd k).c
 val:Ea Z 6 nf l fun k=>(g k).c
 few:nf<=1000
theorem vp.fr {D:Ak} {Z Z':H} {p:Nat} {f:Fd} {v:Vc} {o:Option (List Int)} (h:vp D Z p f v o) (hf:Fr AG Z Z'):vp D Z' p f v o:=by
 cases h with
 | abs h=>exact .abs h
 | val h hj hb hE=>exact .val h hj hb fun Z1 f=>hE Z1 (hf.trans f (fun _ _ h=>h))
theorem RcE.fr {D:Ak} {Z Z':H} {p nf:Nat} {x:Ty} {fd:Nat->Fd} {g:Nat->Vc} {l:V} {pts:Nat->Option (List Int)} (h:RcE D Z p nf x fd g l pts) (f:Fr AG Z Z') (ht:Aj Z):RcE D Z' p nf x fd g l pts:=
 ⟨fun k hk=>⟨(h.f k hk).1.fr f,(h.f k hk).2⟩,h.row.fr0 f ht,h.val.fr0 f ht,h.few⟩
section
variable {E:EB} {D:Ak} {N:Nat}
end
section
variable {E:EB} {D D':Ak} {N:Nat}
theorem zO {Z:H} {i0:Nat} {nm:BS} {nv rv tv u:V} {L:List Nat} {ok:Bool} {nT:Nat} {Q:H->List V->Prop} (ht:Aj Z) (h1:nv.one=true) (h2:rv.one=true) (h3:tv.one=true) (hlen:∀J:Nat->AH,A2 tv J=J nT) (hi:i0<nT) (hu:Oc Z u L) (hL:L.length<=70000)
  (hV:∀Z1 p,Fr AG Z Z1->CB Z1 p [.bool false,.str nm,nv,rv,tv]->∃a b c d e f Z2,D 15 [.ptr p 0,.int .i64 (AA i0),u,.int .i64 (AA 1)] Z1=some (.agg [.int .i64 a,.int .i64 b,c,d,.int .i64 e,f],Z2)/\c.one=true/\d.one=true/\f.one=true/\Q Z2 [.int .i64 a,.int .i64 b,c,d,.int .i64 e,f]/\Fr AG Z1 Z2)
  (hQ:∀Z1 Z2 l,Aj Z1->Fr AG Z1 Z2->Q Z1 l->Q Z2 l)
  (hE:∀Z2 a b c d e f,Fr AG Z Z2->Q Z2 [.int .i64 a,.int .i64 b,c,d,.int .i64 e,f]->∃w er Z3,D 16 [.agg [.str nm,nv,rv,tv],.int .i64 (AA i0),.agg [.int .i64 a,.int .i64 b,c,d,.int .i64 e,f]] Z2=some (.tup [w,.int .i64 er],Z3)/\w.one=true/\Fr AG Z2 Z3 /\
   ((B4 er (AA 0)=false/\ok=false)\/(er=AA 0/\∀Z4,Fr AG Z3 Z4->D 17 [w,u] Z4=some (.bool ok,Z4)))) :
  ∃vc er Z',F9 E D (AT E D) N [.agg [.str nm,nv,rv,tv],.int .i64 (AA i0),u] Z=some (.tup [.agg vc,.int .i64 (AA er)],Z')/\Fr AG Z Z'/\(ok=true->er=0/\Q Z' vc)/\(ok=false->er=4/\vc=EJ):=by
 obtain⟨Z1,e1,f1,a1,n1⟩:=Ih ht [.str nm,nv,rv,tv]
 obtain⟨Z2,e2,f2,a2,n2⟩:=Ih f1.tidy [.bool false,.str nm,nv,rv,tv]
 have f02:=f1.trans f2 (fun _ _ h=>h)
 obtain⟨a,b,c,d,e,f,Z3,g3,oc,od,of_,q3,f3⟩:=hV Z2 Z1.next f02 a2
 have f03:=f02.trans f3 (fun _ _ h=>h)
 have a13:=f3.at_ (f2.at_ a1 f1.tidy (fun h=>h)) f2.tidy (fun h=>h)
 have a23:=f3.at_ a2 f2.tidy (fun h=>h)
 obtain⟨w,er,Z4,g4,wo,f4,hcase⟩:=hE Z3 a b c d e f f03 q3
 have f04:=f03.trans f4 (fun _ _ h=>h)
 have uo:=hu.one
 have su:=hu.slen
 have dL:decide (70000<L.length)=false:=decide_eq_false (by omega)
 have di:decide (nT<=i0)=false:=decide_eq_false (by omega)
 have d0:decide (i0<0)=false:=decide_eq_false (by omega)
 have l3:∀J:V->AH,Bc E Z1 Z.next 3 J=J tv:=fun J=>CK a1 rfl
 have l0:∀J:V->AH,Bc E Z3 Z1.next 0 J=J (.bool false):=fun J=>CK a23 rfl
 have main:∀r:Bool,(B4 er (AA 0)=false/\r=false)\/(er=AA 0/\D 17 [w,u] Z4=some (.bool r,Z4))->F9 E D (AT E D) N [.agg [.str nm,nv,rv,tv],.int .i64 (AA i0),u] Z=(match r with
   | true=>some (.tup [.agg [.int .i64 a,.int .i64 b,c,d,.int .i64 e,f],.int .i64 (AA 0)],Z4)
   | false=>some (.tup [.agg EJ,.int .i64 (AA 4)],Z4)):=by
  intro r hr
  have mid:F9 E D (AT E D) N [.agg [.str nm,nv,rv,tv],.int .i64 (AA i0),u] Z=bz E D (AT E D) nm nv rv tv (AA i0) u Z:=rfl
  rw[mid]
  rcases hr with ⟨h,rfl⟩|⟨h,hb⟩
  ·unfold bz Gn
   simp -implicitDefEqProofs only [↓rP,rA,AD,AF,AB,DC,h1,h2,h3,↓e1,d0,↓l3,↓hlen,di,↓su,dL,↓Au a1,↓e2,↓g3,oc,od,of_,↓l0,↓Au a13,↓g4,h]
   rfl
  ·subst h
   cases r with
   | true=>
    unfold bz Gn
    simp -implicitDefEqProofs only [↓rP,rA,AD,AF,AB,DC,h1,h2,h3,↓e1,d0,↓l3,↓hlen,di,↓su,dL,↓Au a1,↓e2,↓g3,oc,od,of_,↓l0,↓Au a13,↓g4,BW,decide_true,↓hb]
   | false=>
    unfold bz Gn
    simp -implicitDefEqProofs only [↓rP,rA,AD,AF,AB,DC,h1,h2,h3,↓e1,d0,↓l3,↓hlen,di,↓su,dL,↓Au a1,↓e2,↓g3,oc,od,of_,↓l0,↓Au a13,↓g4,BW,decide_true,↓hb]
    rfl
 have hm:=main ok (hcase.imp id fun h=>⟨h.1,h.2 Z4 (Fr.refl f4.tidy)⟩)
 cases ok with
 | true=>exact⟨_,0,Z4,hm,f04,fun _=>⟨rfl,hQ _ _ _ f3.tidy f4 q3⟩,fun h=>(by cases h)⟩
 | false=>exact⟨_,4,Z4,hm,f04,fun h=>(by cases h),fun _=>⟨rfl,rfl⟩⟩
end
section
variable {E:EB} {D:Ak} {W:AI} {N:Nat} {Z Z':H} {p nT:Nat} {ty:Nat->Ty} {nm:BS} {nv rv tv:V} {rest:List V}
theorem qw (ht:Aj Z) (hc:Ck Z p nT ty nm nv rv tv rest) {i:Nat} (hi:i<nT) (v:Vc) (hm:v.m = .nils) (hr:v.r=AA 0) :
  ∃Z',Sv E D W N [.ptr p 0,.int .i64 (AA i),.agg v.c] Z=some (.bool true,Z')/\Fr AG Z Z':=by
 obtain⟨Z1,e1,f1,a1,n1⟩:=CZ ht v.c
 have c1:=hc.fr f1 ht
 have rd:∀J,AU 13 tv (AA i) (fun b o=>BH E Z1 b o 13 J)=J (ty i).c:=fun J=>c1.row.all hi J
 refine⟨Z1,?_,f1⟩
 show J2 E D W _ p 0 (AA i) v.k v.n v.b v.l v.r v.m Z=_
 unfold J2
 unfold Vc.c at e1 a1
 rw[hm,hr]at e1 a1
 rw[hm,hr]
 simp -implicitDefEqProofs only [↓rP,rA,AD,AF,AB,v.oneB,v.oneL,↓e1,↓c1.types,↓rd,Ty.c,(ty i).oneT,(ty i).oneI,(ty i).oneF,↓BG a1,↓Au a1]
theorem Ze {v:Vc} {ru:Int} {q:Nat} (hq:∀Z1:H,Aj Z1->Fr AG Z Z1->∃Z2,D 41 [.agg v.c,.int .i64 ru] Z1=some (.bool true,Z2)/\Fr AG Z1 Z2) (ht:Aj Z) (ha:CB Z q [.int .i64 ru]) :
  ∃Z',xI E D W N ([]++[.agg v.c]++[.ptr q 0]) Z=some (.bool false,Z')/\Fr AG Z Z':=by
 obtain⟨Z1,e1,f1,a1,n1⟩:=CZ ht v.c
 obtain⟨Z2,g2,f2⟩:=hq Z1 f1.tidy f1
 have a2:=f1.at_ ha ht (fun h=>h)
 refine⟨Z2,?_,f1.trans f2 (fun _ _ h=>h)⟩
 unfold Vc.c at e1 a1 g2
 show cE E D W v.k v.n v.b v.l v.r v.m (.ptr q 0) Z=_
 unfold cE
 simp -implicitDefEqProofs only [↓rP,rA,AD,AF,AB,v.oneB,v.oneL,v.oneM,↓e1,↓Au a1,↓BG a2,↓g2]
theorem YQ {i:Nat} (hS:∀Z1,Aj Z1->Fr AG Z Z1->∃Z2,D 148 [.agg [.str nm,nv,rv,tv],.int .i64 (AA i)] Z1=some (.nils,Z2)/\Fr AG Z1 Z2) (hN:0<N) (ht:Aj Z) (hc:Ck Z p nT ty nm nv rv tv [.bool false]) (hi:i<nT) (v:Vc) :
  ∃Z',Vj E D W N [.ptr p 0,.int .i64 (AA i),.agg v.c] Z=some (.bool true,Z')/\Fr AG Z Z':=by
 obtain⟨N,rfl⟩:∃k,N=k+1:=⟨N-1,by omega⟩
 obtain⟨Z1,e1,f1,a1,n1⟩:=CZ ht v.c
 have c1:=hc.fr f1 ht
 have rd:∀J,AU 13 tv (AA i) (fun b o=>BH E Z1 b o 13 J)=J (ty i).c:=fun J=>c1.row.all hi J
 obtain⟨Z2,g2,f2⟩:=hS Z1 f1.tidy f1
 have pt:=c1.at_
 refine⟨Z2,?_,f1.trans f2 (fun _ _ h=>h)⟩
 unfold Vc.c at e1 a1
 simp only[Ef,Ch]at pt
 have key:∀K,J1 E D W K p 0 (AA i) v.k v.n v.b v.l v.r v.m Z=K Z.next 0 .nils (AA 0) (AA 0) (ty i).kind (ty i).tags (ty i).has (ty i).hasLow (ty i).hasHigh (ty i).conMore (ty i).low (ty i).high (ty i).items (ty i).fields (ty i).root (ty i).more (ty i).of_ Z2:=by
  intro K
  unfold J1
  simp -implicitDefEqProofs only [↓rP,rA,AD,AF,AB,c1.n1,c1.r1,c1.t1,v.oneB,v.oneL,v.oneM,↓e1,↓c1.types,↓rd,Ty.c,(ty i).oneT,(ty i).oneI,(ty i).oneF,↓Au pt,↓g2]
 show J1 E D W (PN E D W (N+1) (N+1)) p 0 (AA i) v.k v.n v.b v.l v.r v.m Z=_
 rw[key]
 show JH E D W (M7 E D W) _ _ Z.next 0 .nils (AA 0) (AA 0) _ _ _ _ _ _ _ _ _ _ _ _ _ Z2=_
 have k0:∀K3 K5,JH E D W (M7 E D W) K3 K5 Z.next 0 .nils (AA 0) (AA 0) (ty i).kind (ty i).tags (ty i).has (ty i).hasLow (ty i).hasHigh (ty i).conMore (ty i).low (ty i).high (ty i).items (ty i).fields (ty i).root (ty i).more (ty i).of_ Z2=some (.bool true,Z2):=by
  intro K3 K5
  unfold JH M7
  rw[Ej,decide_eq_false (DM 0),C3]
  all_goals rfl
 exact k0 _ _
end
def wrN (k:Nat) (v:Vc) (body:List Nat):List Nat:=match k with
 | 1=>match v.n with
  | .ofNat 1=>[255]
  | _=>[0]
 | 2=>sN v.n
 | 5=>body
 | _=>[]
def T1 (F:List V->H->AH) (a:List V) (Z:H):Prop:=∃Z',F a Z=some (.bool true,Z')/\Fr AG Z Z'
def Nl (v:Vc):Prop:=v.b = .nils/\v.l = .nils/\v.m = .nils
def j8 (F:List V->H->AH):Prop:=∀Z:H,F [.nils,.nils] Z=some (.bool true,Z)
def Vb (F:List V->H->AH) (f:V):Prop:=∀Z:H,F [.nils,.nils,f] Z=some (.bool true,Z)
def Qm (F:List V->H->AH):Prop:=∀{Z:H} (v:Vc),Aj Z->Nl v->T1 F [.agg v.c,.agg v.c] Z
def cz (F:List V->H->AH):Prop:=∀{Z:H} {l l':V} {n:Nat} {g:Nat->Vc},Aj Z->Ea Z 6 n l (fun k=>(g k).c)->Ea Z 6 n l' (fun k=>(g k).c)->(∀k,k<n->Nl (g k))->n<=1000->T1 F [l,l',.fn 11 [] []] Z
section
variable {E:EB} {D:Ak} {W:AI} {N:Nat}
theorem AFW:j8 (qP E D W N):=fun Z=>rfl
theorem yO (h:Qm (D 11)) (hN:1000<N):cz (vw E D W N):=by
 intro Z l l' n g ht h1 h2 hn h10
 have loop:∀(m n' i:Nat) (Z1:H),i+m=n->m<n'->Fr AG Z Z1->∃Z',Xs E D W N n' l l' (.fn 11 [] []) (AA i) Z1=some (.bool true,Z')/\Fr AG Z Z':=by
  intro m
  induction m with
  | zero=>
   intro n' i Z1 hi hn' f
   obtain⟨n',rfl⟩:∃q,n'=q+1:=⟨n'-1,by omega⟩
   have hi:i=n:=hi
   subst hi
   have sl:=h1.len.2
   have d1:decide (i<i)=false:=decide_eq_false (DM _)
   refine⟨Z1,?_,f⟩
   show Qj E D W (cW E D W) _ l l' (.fn 11 [] []) (AA i) Z1=_
   unfold Qj cW
   simp -implicitDefEqProofs only [↓rP,rA,AD,AF,AB,↓sl,d1]
  | succ m ih=>
   intro n' i Z1 hi hn' f
   obtain⟨n',rfl⟩:∃q,n'=q+1:=⟨n'-1,by omega⟩
   have hlt:i<n:=by omega
   have sl:=h1.len.2
   have d1:decide (i<n)=true:=decide_eq_true hlt
   have r1:∀J,AU 6 l (AA i) (fun b o=>BH E Z1 b o 6 J)=J (g i).c:=fun J=>(h1.fr0 f ht).all hlt J
   have r2:∀J,AU 6 l' (AA i) (fun b o=>BH E Z1 b o 6 J)=J (g i).c:=fun J=>(h2.fr0 f ht).all hlt J
   obtain⟨Z2,g2,f2⟩:=h (g i) f.tidy (hn i hlt)
   obtain⟨Z',g',f'⟩:=ih n' (i+1) Z2 (by omega) (by omega) (f.trans f2 (fun _ _ h=>h))
   refine⟨Z',?_,f'⟩
   rw[<-g']
   have cv:∀J,FL D (.fn 11 [] []) [.agg (g i).c,.agg (g i).c] Z1 J=J (.bool true) Z2:=fun J=>by
    show AV (D 11 ([]++[.agg (g i).c,.agg (g i).c]++[]) Z1) J=_
    rw[show ([]++[V.agg (g i).c,.agg (g i).c]++[])=[.agg (g i).c,.agg (g i).c] from rfl,g2];rfl
   unfold Vc.c at r1 r2 cv
   show Qj E D W _ _ l l' (.fn 11 [] []) (AA i) Z1=_
   unfold Qj
   simp -implicitDefEqProofs only [↓rP,rA,AD,AF,AB,↓sl,d1,↓r1,(g i).oneB,(g i).oneL,(g i).oneM,↓r2,↓cv,Bb (show i+1<=9223372036854775807 by omega)]
   all_goals rfl
 obtain⟨Z',g',f'⟩:=loop n N 0 Z (by omega) (by omega) (Fr.refl ht)
 refine⟨Z',?_,f'⟩
 have s1:=h1.len.2
 have s2:=h2.len.2
 have d:decide (n=n)=true:=decide_eq_true rfl
 rw[<-g']
 show XH E D W (Xs E D W N N) l l' (.fn 11 [] []) Z=_
 unfold XH
 simp -implicitDefEqProofs only [↓rP,rA,AD,AF,AB,↓s1,↓s2,BW,d]
theorem AFX {f:V} (hN:0<N):Vb (vv E D W N) f:=by
 intro Z
 obtain⟨N,rfl⟩:∃q,N=q+1:=⟨N-1,by omega⟩
 rfl
theorem AFN {Z:H} {v w:Vc} (ht:Aj Z) (hk:v.k=w.k) (hn:v.n=w.n) (hr:v.r=w.r) (hm:v.m = .nils) (hm':w.m = .nils)
  (hB:∀Z1,D 18 [v.b,w.b] Z1=some (.bool true,Z1)) (hL:∀Z1,Aj Z1->Fr AG Z Z1->T1 (D 19) [v.l,w.l,.fn 11 [] []] Z1) (hM:Vb (D 20) (.fn 21 [] [])):T1 (wB E D W N) [.agg v.c,.agg w.c] Z:=by
 obtain⟨Z1,e1,f1,a1,n1⟩:=Ih ht v.c
 obtain⟨Z2,e2,f2,a2,n2⟩:=Ih f1.tidy w.c
 have f02:=f1.trans f2 (fun _ _ h=>h)
 have a12:=f2.at_ a1 f1.tidy (fun h=>h)
 obtain⟨Z3,g3,f3⟩:=hL Z2 f02.tidy f02
 have a13:=f3.at_ a12 f02.tidy (fun h=>h)
 have a23:=f3.at_ a2 f02.tidy (fun h=>h)
 have gB:=hB Z2
 have gM:=hM Z3
 have o1:=v.allOne
 have o2:=w.allOne
 refine⟨Z3,?_,f02.trans f3 (fun _ _ h=>h)⟩
 have ek:B4 v.k w.k=true:=by rw[hk,Ju];simp
 have en:B4 v.n w.n=true:=by rw[hn,Ju];simp
 have er:B4 v.r w.r=true:=by rw[hr,Ju];simp
 unfold Vc.c at e1 e2 a12 a2 a13 a23
 rw[hm]at e1 a12 a13
 rw[hm']at e2 a2 a23
 show UB E D W v.k v.n v.b v.l v.r v.m w.k w.n w.b w.l w.r w.m Z=_
 rw[hm,hm']
 unfold UB
 simp -implicitDefEqProofs only [↓rP,rA,AD,AF,AB,v.oneB,v.oneL,w.oneB,w.oneL,↓e1,↓e2,↓BG a12,↓BG a2,↓BG a13,↓BG a23,ek,en,er,↓gB,↓g3,↓gM]
theorem yJ (hB:j8 (D 18)) (hL:Vb (D 19) (.fn 11 [] [])) (hM:Vb (D 20) (.fn 21 [] [])):Qm (wB E D W N):=by
 intro Z v ht ⟨h1,h2,h3⟩
 exact AFN ht rfl rfl rfl h3 h3 (fun Z1=>by rw[h1];exact hB Z1) (fun Z1 h f=>⟨Z1,by rw[h2];exact hL Z1,Fr.refl h⟩) hM
end
def kdS:Nat->Nat
 | 0=>1
 | 1=>2
 | _=>5
def elM (t:Nat) (w:List Nat):List Nat:=(128+t)::w.length::w
theorem re {x t c:Nat} {mk:Bool} {body:List Nat} (hx:x<256) (h1:x / 64=c) (h2:x % 32=t) (h3:t<31) (h4:x / 32 % 2=1↔mk=true) (hl:body.length<128) (hb:Ix body):gH (x::body.length::body) c t mk body 2/\Ix (x::body.length::body):=by
 refine⟨⟨⟨⟨x,_,rfl,h1,h4⟩,0,1,?_,?_,rfl,by simp,by omega,by omega⟩,by simp only[Ay];omega,rfl⟩,fun c hc=>?_⟩
 ·rw[<-h2];exact .short (by omega)
 ·exact .short hl
 ·rcases Ae.1 hc with rfl|hc
  ·exact hx
  ·rcases Ae.1 hc with rfl|hc
   ·omega
   ·exact hb c hc
def gS (gs:List Vc) (k:Nat):Vc:=gs.getD k Vc.abs
def fbS (t:Nat) (v:Vc):Bool:=match t with
 | 1=>!decide (v.n=5)
 | _=>true
section
variable {E:EB} {D:Ak} {W:AI} {N:Nat}
end
def Vd (E:EB) (F:List V->H->AH):Prop:=∀{Z:H} {p nT i dp:Nat} {ty:Nat->Ty} {nm:BS} {nv rv tv:V} {rest:List V} {v:Vc} {x:List Int},Aj Z->Ck Z p nT ty nm nv rv tv rest->i<nT->dp<=17->(ty i).kind=v.k->(ty i).has=false->Lf E Z v x->∃Z',F [.ptr p 0,.int .i64 (AA i),.agg v.c,.int .i64 (AA dp)] Z=some (.bool true,Z')/\Fr AG Z Z'
def nC (F:List V->H->AH):Prop:=∀{Z:H} {p nT i:Nat} {ty:Nat->Ty} {nm:BS} {nv rv tv:V} {rest:List V},Aj Z->Ck Z p nT ty nm nv rv tv rest->i<nT->∀v:Vc,v.m = .nils->v.r=AA 0->∃Z',F [.ptr p 0,.int .i64 (AA i),.agg v.c] Z=some (.bool true,Z')/\Fr AG Z Z'
def dN (F:List V->H->AH):Prop:=∀{Z:H} (v:Vc),Aj Z->v.l = .nils->∃Z',F [.agg v.c] Z=some (.int .i64 (AA 1),Z')/\Fr AG Z Z'
def dC (F:List V->H->AH):Prop:=∀{Z:H} (v:Vc) (ru:Int),Aj Z->v.l = .nils->v.r=AA 0->∃Z',F [.agg v.c,.int .i64 ru] Z=some (.bool true,Z')/\Fr AG Z Z'
def sT (F:List V->H->AH):Prop:=∀{Z:H} {q:Nat} {ru:Int} (v:Vc),Aj Z->v.l = .nils->v.r=AA 0->CB Z q [.int .i64 ru]->∃Z',F ([]++[.agg v.c]++[.ptr q 0]) Z=some (.bool false,Z')/\Fr AG Z Z'
section
variable {E:EB} {D:Ak} {W:AI} {N:Nat} {B Wi Sl:List V->H->AH} {Pt:H->Prop} {nm:BS} {nv rv tv:V} {ty:Nat->Ty} {fd:Nat->Fd}
theorem rX (hP:FB (D 99)) (hW:J5 (D 100)) (hS:XP E (D 101)):Vd E (iL E D W N):=fun ht hc hi hd hk hh hv=>jO hP hW hS ht hc hi hd hk hh hv
theorem yS:nC (Sv E D W N):=fun ht hc hi v hm hr=>qw ht hc hi v hm hr
theorem zU (hN:0<N):dN (qM E D W N):=fun v ht hl=>Wd (n:=0) (g:=fun _=>v) (by omega) (by omega) ht ⟨.inl ⟨rfl,hl⟩⟩ (fun _ k hk=>absurd hk (DL _))
theorem yW {D':Ak} (hC:dO (D 69) D'):dC (vu E D W N):=fun v ru ht hl hr=>WG (n:=0) (g:=fun _=>v) hC (by omega) (by rw[hr];rfl) ht ⟨.inl ⟨rfl,hl⟩⟩ (fun _ _ k hk=>absurd hk (DL _))
theorem AFQ (hR:dC (D 41)):sT (xI E D W N):=fun v ht hl hr ha=>Ze (fun Z1 h1 f=>hR v _ h1 hl hr) ht ha
end
def yf (t:Nat) (l:List Int) (k:Nat):Option (List Int):=match AW k t with
 | true=>some l
 | false=>none
section
variable {E:EB} {D D':Ak} {W:AI} {N:Nat} {B Wi Sl:List V->H->AH} {Pt:H->Prop} {nm:BS} {nv rv tv:V} {ty:Nat->Ty} {fd:Nat->Fd}
end
section
variable {E:EB} {D:Ak} {N M:Nat} {B Wi Sl:List V->H->AH} {Pt:H->Prop} {nm:BS} {nv rv tv:V} {ty:Nat->Ty} {fd:Nat->Fd}
end
theorem ri {Z:H} {v:Vc} {body:List Nat} (h:Dv Z 2 v body):∃n,v=Vc.int n/\EN n/\∀m,EN m->body=sN m->n=m:=by
 cases h with
 | @int n _ h h2=>exact⟨n,rfl,h,h2⟩
theorem aS {n:Int} (hn:EN n) {m:Int} (hm:EN m):sN m≠(if n<0 then 255 else 0)::sN n:=by
 intro e
 obtain⟨c,r,hc,hs⟩:=iV hn
 rw[hc]at e
 obtain⟨h1,h2⟩:=qp hm e
 by_cases h:n<0
 ·rw[if_pos h]at h2
  exact h2 ⟨rfl,by
   rcases A6 c 128 with h'|h'
   ·have:=hs.1 h';omega
   ·exact h'⟩
 ·rw[if_neg h]at h1
  exact h1 ⟨rfl,hs.2 (by omega)⟩
theorem ai {n:Int} (hn:EN n) (Z:H) (v:Vc) (h:Dv Z (kdS 1) v ((if n<0 then 255 else 0)::sN n)):(fbS 1 v&&decide (elM 1 (wrN (kdS 1) v ((if n<0 then 255 else 0)::sN n))=129::((if n<0 then 255 else 0)::sN n).length::((if n<0 then 255 else 0)::sN n)))=false:=by
 obtain⟨m,rfl,h1,h2⟩:=ri h
 have e:¬elM 1 (wrN (kdS 1) (Vc.int m) ((if n<0 then 255 else 0)::sN n))=129::((if n<0 then 255 else 0)::sN n).length::((if n<0 then 255 else 0)::sN n):=fun e=>by
  have e:129::(sN m).length::sN m=129::((if n<0 then 255 else 0)::sN n).length::((if n<0 then 255 else 0)::sN n):=e
  injection e with _ e
  injection e with _ e
  exact aS hn h1 e
 rw[decide_eq_false e,Bool.and_false]
def kA (F:List V->H->AH):Prop:=∀Z:H,Aj Z->∃Z',F [] Z=some (.bool true,Z')/\Fr AG Z Z'
section
variable {E:EB} {D:Ak} {N:Nat} {Pt:H->Prop} {nm:BS} {nv rv tv:V}
end
def Va (F:List V->H->AH):Prop:=∀{Z:H} {p nT i n:Nat} {ty:Nat->Ty} {nm:BS} {nv rv tv:V} {rest:List V},Aj Z->Ck Z p nT ty nm nv rv tv rest->i<nT->(ty i).more=false->∀v:Vc,GY v.m n->0<n->∃Z',F [.ptr p 0,.int .i64 (AA i),.agg v.c] Z=some (.bool false,Z')/\Fr AG Z Z'
def Qn (F:List V->H->AH):Prop:=∀{Z:H} {p nT i nf n K dp:Nat} {ty:Nat->Ty} {fd:Nat->Fd} {nm:BS} {nv rv tv l m:V} {hl:l.one=true} {hm:m.one=true} {r:Int} {g:Nat->Vc},Aj Z->Ck Z p nT ty nm nv rv tv [.bool false]->i<nT->(ty i).more=false->(ty i).kind=AA K->(K=7\/K=8)->Ea Z 11 nf (ty i).fields (fun k=>(fd k).c)->Ea Z 6 nf l (fun k=>(g k).c)->GY m n->0<n->dp<=17->∃Z',F [.ptr p 0,.int .i64 (AA i),.agg (Vr K l hl r m hm).c,.int .i64 (AA dp)] Z=some (.bool false,Z')/\Fr AG Z Z'
def dG (F:List V->H->AH):Prop:=∀{Z:H} {nT i nf n K:Nat} {ty:Nat->Ty} {fd:Nat->Fd} {nm:BS} {nv rv tv l m:V} {hl:l.one=true} {hm:m.one=true} {r:Int} {g:Nat->Vc},Aj Z->Ea Z 13 nT tv (fun i=>(ty i).c)->nv.one=true->rv.one=true->tv.one=true->i<nT->(ty i).more=false->(ty i).kind=AA K->(K=7\/K=8)->Ea Z 11 nf (ty i).fields (fun k=>(fd k).c)->Ea Z 6 nf l (fun k=>(g k).c)->GY m n->0<n->∃Z',F [.agg [.str nm,nv,rv,tv],.int .i64 (AA i),.agg (Vr K l hl r m hm).c] Z=some (.bool false,Z')/\Fr AG Z Z'
section
variable {E:EB} {D:Ak} {W:AI} {N:Nat}
theorem qy:Va (Sv E D W N):=by
 intro Z p nT i n ty nm nv rv tv rest ht hc hi hmo v hm h0
 obtain⟨Z1,e1,f1,a1,n1⟩:=CZ ht v.c
 have c1:=hc.fr f1 ht
 have rd:∀J,AU 13 tv (AA i) (fun b o=>BH E Z1 b o 13 J)=J (ty i).c:=fun J=>c1.row.all hi J
 refine⟨Z1,?_,f1⟩
 have sl:=hm.2
 have d0:decide (n=0)=false:=decide_eq_false (by omega)
 show J2 E D W _ p 0 (AA i) v.k v.n v.b v.l v.r v.m Z=_
 unfold J2
 unfold Vc.c at e1 a1
 have cond:(ty i).more=false:=hmo
 simp -implicitDefEqProofs only [↓rP,rA,AD,AF,AB,v.oneB,v.oneL,v.oneM,↓e1,↓c1.types,↓rd,Ty.c,(ty i).oneT,(ty i).oneI,(ty i).oneF,↓BG a1,↓Au a1,↓sl,BW,d0,cond,Dj]
theorem zK (hP:FB (D 99)) (hR:Va (D 125)):Qn (UW E D W N):=by
 intro Z p nT i nf n K dp ty fd nm nv rv tv l m hl hm r g ht hc hi hmo hk hK hf hr hml h0 hd
 obtain⟨Z1,e1,f1,a1,n1⟩:=CZ ht (Vr K l hl r m hm).c
 have c1:=hc.fr f1 ht
 have rd:∀J,AU 13 tv (AA i) (fun b o=>BH E Z1 b o 13 J)=J (ty i).c:=fun J=>c1.row.all hi J
 obtain⟨Z2,g2,f2⟩:=hP Z1 (AA 12) (AA K) (AA 0) r .nils l m 0 nf n f1.tidy GY.nils hr.len hml
 rw[show I1 (AA 12) (AA K) (AA 0) 0 nf r n=true from rfl]at g2
 have f02:=f1.trans f2 (fun _ _ h=>h)
 obtain⟨Z3,g3,f3⟩:=hR f2.tidy (hc.fr f02 ht) hi hmo (Vr K l hl r m hm) hml h0
 have f03:=f02.trans f3 (fun _ _ h=>h)
 have a2:CB Z2 Z.next [.int .i64 (AA K),.int .i64 (AA 0),.nils,l,.int .i64 r,m]:=f2.at_ a1 f1.tidy (fun h=>h)
 have hln:=hr.len.2
 have hlf:=hf.len.2
 have e1':Br Z (.cells [.int .i64 (AA K),.int .i64 (AA 0),.nils,l,.int .i64 r,m])=Z1:=e1
 have a1':CB Z1 Z.next [.int .i64 (AA K),.int .i64 (AA 0),.nils,l,.int .i64 r,m]:=a1
 have g3':D 125 [.ptr p 0,.int .i64 (AA i),.agg [.int .i64 (AA K),.int .i64 (AA 0),.nils,l,.int .i64 r,m]] Z2=some (.bool false,Z3):=g3
 unfold vc at g2
 have d1:decide (nf=nf)=true:=decide_eq_true rfl
 refine⟨Z3,?_,f03⟩
 show J3 E D W _ p 0 (AA i) (AA K) (AA 0) .nils l r m (AA dp) Z=_
 unfold J3
 simp -implicitDefEqProofs only [↓rP,rA,AD,AF,AB,hl,hm,↓e1',↓c1.types,↓rd,Ty.c,(ty i).oneT,(ty i).oneI,(ty i).oneF,↓BG a1',↓Au a1',↓g2,↓BG a2,↓Au a2,↓hln,↓hlf,d1,↓g3']
theorem zG (hF:Qn (D 103)):Qn (iL E D W N):=by
 intro Z p nT i nf n K dp ty fd nm nv rv tv l m hl hm r g ht hc hi hmo hk hK hf hr hml h0 hd
 exact WH hK ht hc hi hd hk (fun Z1 h1 f=>hF h1 (hc.fr f ht) hi hmo hk hK (hf.fr0 f ht) (hr.fr0 f ht) hml h0 hd)
theorem zH (hV:Qn (D 67)):dG (qO E D W N):=by
 intro Z nT i nf n K ty fd nm nv rv tv l m hl hm r g ht hrow h1 h2 h3 hi hmo hk hK hf hr hml h0
 obtain⟨Z1,e1,f1,a1,n1⟩:=CZ ht [.str nm,nv,rv,tv]
 obtain⟨Z2,e2,f2,a2,n2⟩:=CZ f1.tidy (Vr K l hl r m hm).c
 obtain⟨Z3,e3,f3,a3,n3⟩:=CZ f2.tidy [.str nm,nv,rv,tv,.bool false]
 have f02:=f1.trans f2 (fun _ _ h=>h)
 have f03:=f02.trans f3 (fun _ _ h=>h)
 have r3:=hrow.fr0 f03 ht
 have c3:Ck Z3 Z2.next nT ty nm nv rv tv [.bool false]:=⟨a3,h1,h2,h3,r3,fun b hb e=>by
  subst e
  have lo:=f02.le
  rcases hrow.is with ⟨_,rfl⟩|⟨b,c,L,rfl,ha,_⟩
  ·exact hb
  ·have:=ha.lt ht
   have hb:Z2.next=b:=hb
   omega⟩
 obtain⟨Z4,g4,f4⟩:=hV (dp:=1) (hl:=hl) (hm:=hm) (r:=r) f3.tidy c3 hi hmo hk hK (hf.fr0 f03 ht) (hr.fr0 f03 ht) hml h0 (by decide)
 have f04:=f03.trans f4 (fun _ _ h=>h)
 have a12:=f2.at_ a1 f1.tidy (fun h=>h)
 have a23:=f3.at_ a2 f2.tidy (fun h=>h)
 refine⟨Z4,?_,f04⟩
 unfold Vc.c Vr at e2 a2 a23 g4
 show PE E D W nm nv rv tv (AA i) (AA K) (AA 0) .nils l r m Z=_
 unfold PE
 simp -implicitDefEqProofs only [↓rP,rA,AD,AF,AB,h1,h2,h3,hl,hm,↓e1,↓e2,↓e3,↓Au a12,↓Au a23,↓g4]
end
section
variable {E:EB} {D:Ak} {W:AI} {N:Nat} {B Wi:List V->H->AH} {Pt:H->Prop} {set:Bool} {nm:BS} {nv rv tv:V} {ty:Nat->Ty} {fd:Nat->Fd}
end
section
variable {E:EB} {D:Ak} {W:AI} {N:Nat}
theorem AFK (hT:XN (D 58)):sQ (fy E D W N):=by
  intro Z u
  constructor
  · intro x hx h
    have sl:=h.slen
    have g:=hT h (fun c hc=>by rw[CE.1 hc];exact hx) (by show 1<=8;decide)
    have e:QS 0 [x]=x:=by unfold QS;simp[QS]
    rw[e]at g
    have l1:[x].length=1:=rfl
    rw[l1]at sl
    show PF E D W u Z=_
    unfold PF
    simp -implicitDefEqProofs only [↓rP,rA,AD,AF,AB,↓sl,BW,show decide (1=0)=false from rfl,show decide (8<1)=false from rfl,show decide (1<1)=false from rfl,↓g]
  · intro x y h1 hx hy h
    have sl:=h.slen
    have g:=hT h (fun c hc=>by
      rcases Ae.1 hc with rfl|hc
      · exact hx
      · rw[CE.1 hc];exact hy) (by show 2<=8;decide)
    have e:QS 0 [x,y]=x*256+y:=by unfold QS;simp[QS]
    rw[e]at g
    have l1:[x,y].length=2:=rfl
    rw[l1]at sl
    have r0:=h.get (E:=E) (k:=0) (c:=x) rfl
    have d:decide (x=0)=false:=decide_eq_false (by omega)
    show PF E D W u Z=_
    unfold PF
    simp -implicitDefEqProofs only [↓rP,rA,AD,AF,AB,↓sl,BW,show decide (2=0)=false from rfl,show decide (8<2)=false from rfl,show decide (1<2)=true from rfl,↓r0,d,↓g]
end
def bX (c:Nat) (mk:Bool):Nat:=(match c with
 | 0=>0
 | _=>128)+(match mk with
 | true=>32
 | false=>0)
def mK (k:Nat):List Nat:=match decide (127<k)with
 | true=>[128+k / 128,k % 128]
 | false=>[k]
def yI (c:Nat) (mk:Bool) (k:Nat):List Nat:=match decide (k<31)with
 | true=>[bX c mk+k]
 | false=>(bX c mk+31)::mK k
def S5 (n:Nat):List Nat:=match decide (n<128)with
 | true=>[n]
 | false=>match decide (255<n)with
  | true=>[130,n / 256,n % 256]
  | false=>[129,n]
def ZE (c:Nat) (mk:Bool) (k:Nat) (b:List Nat):List Nat:=(yI c mk k++S5 b.length)++b
theorem mF:∀(c:Fin 2) (mk:Bool) (k:Fin 32),Gq .u8 (AA (JX (2*c.val) mk)) (AA k.val)=AA (bX (2*c.val) mk+k.val):=by decide +kernel
theorem rB:∀k:Fin 128,Gq .u8 (AA k.val) (AA 128)=AA (128+k.val):=by decide +kernel
theorem zE {k:Nat} (hk:k<16384):Oq k=nI (mK k):=by
 unfold Oq mK
 cases decide (127<k)with
 | false=>rfl
 | true=>
  have:=rB ⟨k / 128,by omega⟩
  show [_,_]=[_,_]
  rw[show Gq .u8 (AA (k / 128)) (AA 128)=AA (128+k / 128)from this]
theorem yl {n:Nat} (hn:n<60000):aZ n=nI (S5 n):=by
 unfold aZ S5 Gs
 cases decide (n<128)with
 | true=>rfl
 | false=>cases h:decide (255<n)with
  | true=>
   show Gq .u8 (AA 128) (AA 2)::[AA (n / 256),AA (n % 256)]=AA 130::[AA (n / 256),AA (n % 256)]
   rw[show Gq .u8 (AA 128) (AA 2)=AA 130 by decide +kernel]
  | false=>
   show Gq .u8 (AA 128) (AA 1)::[AA n]=AA 129::[AA n]
   rw[show Gq .u8 (AA 128) (AA 1)=AA 129 by decide +kernel]
theorem bE {c:Nat} (hc:c=0\/c=2) (mk:Bool) {k:Nat} (hk:k<16384) {b:List Nat} (hb:b.length<60000):YW c mk k (nI b)=nI (ZE c mk k b):=by
 unfold YW ZE
 rw[C0,yl hb]
 have ht:ON c mk k=nI (yI c mk k):=by
  unfold ON yI
  have o:∀j,j<32->Gq .u8 (AA (JX c mk)) (AA j)=AA (bX c mk+j):=fun j hj=>by
   rcases hc with rfl|rfl
   ·exact mF 0 mk ⟨j,hj⟩
   ·exact mF 1 mk ⟨j,hj⟩
  cases hd:decide (k<31)with
  | true=>
   have:=of_decide_eq_true hd
   show [_]=[_]
   rw[o k (by omega)]
  | false=>
   show _::Oq k=_::nI (mK k)
   rw[o 31 (by decide),zE hk]
 rw[ht]
 unfold nI
 rw[G4,G4]
theorem mT {c:Nat} (hc:c=0\/c=2) (mk:Bool) {j:Nat} (hj:j<32):bX c mk+j<256/\(bX c mk+j) / 64=c/\((bX c mk+j) / 32 % 2=1↔mk=true)/\(bX c mk+j) % 32=j:=by
 rcases hc with rfl|rfl<;>cases mk<;>(show (_:Nat)+j<256/\_;unfold bX;simp only[])<;>refine⟨by omega,by omega,?_,by omega⟩<;>simp<;>omega
theorem lu {c:Nat} (hc:c=0\/c=2) (mk:Bool) {k:Nat} (hk:k<16384):∃x r,yI c mk k=x::r/\x<256/\Ix r/\x / 64=c/\(x / 32 % 2=1↔mk=true)/\r.length<=2/\∀s,eR (x::(r++s)) k r.length:=by
 unfold yI
 cases hd:decide (k<31)with
 | true=>
  have h:=of_decide_eq_true hd
  obtain⟨h1,h2,h3,h4⟩:=mT hc mk (j:=k) (by omega)
  refine⟨_,[],rfl,h1,fun _ h=>(by cases h),h2,h3,by decide,fun s=>?_⟩
  have:=eR.short (c:=bX c mk+k) (r:=s) (by omega)
  rw[h4]at this
  exact this
 | false=>
  have h:=of_decide_eq_false hd
  obtain⟨h1,h2,h3,h4⟩:=mT hc mk (j:=31) (by decide)
  refine⟨_,mK k,rfl,h1,?_,h2,h3,?_,fun s=>?_⟩
  ·intro x hx
   unfold mK at hx
   split at hx
   ·rcases Ae.1 hx with rfl|hx
    ·omega
    ·rw[CE.1 hx];omega
   ·rename_i h'
    have:=of_decide_eq_false h'
    rw[CE.1 hx];omega
  ·unfold mK;split<;>simp
  ·unfold mK
   cases hd2:decide (127<k)with
   | false=>
    have:=of_decide_eq_false hd2
    exact .one h4 (by omega) (by omega)
   | true=>
    have:=of_decide_eq_true hd2
    have key:=eR.two (c:=bX c mk+31) (q:=k / 128) (d:=k % 128) (r:=s) h4 (by omega) (by omega) (by omega)
    rw[show k / 128*128+k % 128=k by omega]at key
    exact key
theorem mH {n:Nat} (hn:n<60000):Ix (S5 n)/\1<=(S5 n).length/\(S5 n).length<=3/\∀s,P3 (S5 n++s) n (S5 n).length:=by
 unfold S5
 cases hd:decide (n<128)with
 | true=>
  have h:=of_decide_eq_true hd
  exact⟨fun x hx=>by rw[CE.1 hx];omega,by simp,by simp,fun s => .short h⟩
 | false=>
  have h:=of_decide_eq_false hd
  cases hd2:decide (255<n)with
  | true=>
   have h2:=of_decide_eq_true hd2
   refine⟨fun x hx=>?_,by simp,by simp,fun s=>?_⟩
   ·rcases Ae.1 hx with rfl|hx
    ·decide
    ·rcases Ae.1 hx with rfl|hx
     ·omega
     ·rw[CE.1 hx];omega
   ·have key:=P3.two (x:=n / 256) (y:=n % 256) (r:=s) (by omega)
    rw[show n / 256*256+n % 256=n by omega]at key
    exact key
  | false=>
   have h2:=of_decide_eq_false hd2
   refine⟨fun x hx=>?_,by simp,by simp,fun s => .one (by omega)⟩
   rcases Ae.1 hx with rfl|hx
   ·decide
   ·rw[CE.1 hx];omega
theorem mR {c:Nat} (hc:c=0\/c=2) (mk:Bool) {k:Nat} (hk:k<16384) {b:List Nat} (hb:Ix b) (hl:b.length<60000):(∃h,gH (ZE c mk k b) c k mk b h)/\Ix (ZE c mk k b)/\(ZE c mk k b).length<=b.length+6/\2<=(ZE c mk k b).length:=by
 obtain⟨x,r,e,hx,hr,h1,h2,h3,h4⟩:=lu hc mk hk
 obtain⟨l1,l2,l3,l4⟩:=mH hl
 unfold ZE
 rw[e]
 have len:((x::r++S5 b.length)++b).length=1+r.length+(S5 b.length).length+b.length:=by
  simp only[AQ,Ay];omega
 have dr:((x::r++S5 b.length)++b).drop (1+r.length)=S5 b.length++b:=by
  rw[FE,show x::r++(S5 b.length++b)=(x::r)++(S5 b.length++b)from rfl,show 1+r.length=(x::r).length by simp;omega,List.drop_left]
 refine⟨⟨1+r.length+(S5 b.length).length,⟨⟨x,_,rfl,h1,h2⟩,r.length,(S5 b.length).length,?_,?_,rfl,by rw[len];omega,by omega,by omega⟩,by rw[len],?_⟩,?_,by rw[len];omega,by rw[len];omega⟩
 ·have:=h4 (S5 b.length++b)
  rw[FE]
  exact this
 ·rw[dr];exact l4 b
 ·rw[<-IV,dr,List.drop_left]
 ·intro y hy
  rcases Ja.1 hy with hy|hy
  ·rcases Ja.1 hy with hy|hy
   ·rcases Ae.1 hy with rfl|hy
    ·exact hx
    ·exact hr y hy
   ·exact l1 y hy
  ·exact hb y hy
structure xC (B W Sl La:List V->H->AH) (Pt:H->Prop) (nm:BS) (nv rv tv:V) (ty:Nat->Ty) (fd:Nat->Fd):Prop where
 t4:iJ [.str nm,nv,rv,tv]
 ptf:∀Z Z',Aj Z->Fr AG Z Z'->Pt Z->Pt Z'
 row:∀Z,Pt Z->Ea Z 13 3 tv fun i=>(ty i).c
 frow:∀Z,Pt Z->Ea Z 11 2 (ty 0).fields fun k=>(fd k).c
 fs:∀(E:EB) Z,Pt Z->∃w,(∀J:V->AH,gK (DI 11 (ty 0).fields (some (.int .i64 (AA 1))) none none) J=J w)/\w.one=true/\(∀J:Nat->AH,A2 w J=J 1)/\(∀Z',Pt Z'->∀J:List V->AH,AU 11 w (AA 0) (fun b o=>BH E Z' b o 11 J)=J (fd 1).c)
 tg0:∀Z,Pt Z->HR Z 2 1 (ty 0).tags (lx [(0,16)])
 tg:∀Z k,Pt Z->k<2->iI Z [(2,k)] (ty (k+1)).tags
 k0:(ty 0).kind=AA 7
 itm:V.beq (ty 0).items (ty 0).items=true
 mor:(ty 0).more=true
 root:(ty 0).root=AA 1
 kd:∀k,k<2->(ty (k+1)).kind=AA 4/\(ty (k+1)).has=false
 fty:∀k,k<2->(fd k).type=AA (k+1)/\(fd k).opt=false/\(fd k).has=false/\(fd k).group=AA 0
 bw:∀k,k<2->Bw B W Pt [.str nm,nv,rv,tv] (k+1) k
 sl:∀Z,Aj Z->Pt Z->∃s s' Z',Sl [.agg [.str nm,nv,rv,tv],.int .i64 (AA 0)] Z=some (.sl s 0 1 (.op 1),Z')/\CB Z' s [.sl s' 0 1 (.ex 1)]/\CB Z' s' [.int .i64 (AA 1)]/\Fr AG Z Z'
 la:∀Z,Aj Z->Pt Z->∃Z',La [.agg (ty 0).c] Z=some (.int .i64 (AA 1),Z')/\Fr AG Z Z'
def VZ (B:List V->H->AH) (F:List V->H->AH):Prop:=∀{W:List V->H->AH} {Pt:H->Prop} {Z:H} {p cb tb j t c no nT:Nat} {nm:BS} {nv rv tv:V} {ty:Nat->Ty} {rest:List V} (f:Fd),(∀Z Z',Aj Z->Fr AG Z Z'->Pt Z->Pt Z')->iJ [.str nm,nv,rv,tv]->Aj Z->Pt Z->Ck Z p nT ty nm nv rv tv rest->CB Z cb [.ptr p 0]->CB Z tb [.int .i64 (AA c),.int .i64 (AA no)]->f.type=AA j->Bw B W Pt [.str nm,nv,rv,tv] j t ->
 ∃Z',F ([]++[.agg f.c]++[.ptr cb 0,.ptr tb 0]) Z=some (.bool (decide ((c,no)=(2,t))),Z')/\Fr AG Z Z'
def dH (Pt:H->Prop) (nm:BS) (nv rv tv:V) (ty:Nat->Ty) (F:List V->H->AH):Prop:=∀{Z:H} {p t:Nat} {u:V} {L body:List Nat} {mk:Bool} {h:Nat},Aj Z->Ck Z p 3 ty nm nv rv tv [.bool false]->Pt Z->Oc Z u L->Ix L->gH L 2 t mk body h->L.length<=100000->2<=t->∃Z',F [.ptr p 0,.int .i64 (AA 0),u] Z=some (.tup [.agg [.int .i64 (AA 2),.int .i64 (AA t)],.bool true],Z')/\Fr AG Z Z'
section
variable {E:EB} {D:Ak} {N:Nat}
theorem qj (hC:j9 (D 95)):VZ (D 96) (fu E D (AT E D) N):=by
 intro Wi Pt Z p cb tb j t c no nT nm nv rv tv ty rest f hptf h4 ht hp hc ac at_ hj hB
 obtain⟨_,_,_,_,e,o1,o2,o3,b1,b2,b3⟩:=h4.ex
 injection e with e1 e
 injection e with e2 e
 injection e with e3 e
 injection e with e4 e
 subst e2;subst e3;subst e4
 obtain⟨Z1,e1,f1,a1,n1⟩:=Ih ht f.c
 have fw:Fr AG Z1 ⟨Z1.next+11,Z1.bl⟩:=(CU (E:=E) (n:=11) (S:=AG) f1.tidy).fr
 have F1:=f1.trans fw (fun _ _ h=>h)
 obtain⟨w,Z2,g2,h2,f2⟩:=hB.b _ fw.tidy (hptf _ _ ht F1 hp)
 have F2:=F1.trans f2 (fun _ _ h=>h)
 obtain⟨Z3,g3,f3⟩:=hC (c:=c) (no:=no) f2.tidy h2
 have wo:=h2.one
 have lw:=Be wo
 have ap:=f1.at_ hc.at_ ht (fun h=>h)
 have ac1:=f1.at_ ac ht (fun h=>h)
 have at1:=f1.at_ at_ ht (fun h=>h)
 have ab:V.beq (.agg [.str nm,nv,rv,tv]) (.agg [.str nm,nv,rv,tv])=true:=by simp[V.beq,JY,b1,b2,b3]
 have at2:=(fw.trans f2 (fun _ _ h=>h)).at_ at1 f1.tidy (fun h=>h)
 have go:FM E D Z1 11 0 AG NG PS ⟨[(1,.ptr cb 0),(2,.ptr tb 0),(3,.ptr Z.next 0)],Z1.next+11,[Z1.bl],[],0,[]⟩ _ Z3:=
  Il (.ptr p 0) (CU f1.tidy) rfl (D4 (b:=cb) (off:=0) rfl ac1 rfl f1.tidy (fun h=>h) (CV _ rfl)) fun _ r1=>
  Cn (.ptr p 0) rfl rfl <|
  Cn (.ptr p 0) rfl rfl <|
  Cn (.ptr p 0) rfl rfl <|
  Il (.agg [.str nm,nv,rv,tv]) r1 rfl (Ei (b:=p) (off:=0) rfl ap rfl rfl f1.tidy (fun h=>h) ab) fun _ r2=>
  Cn (.ptr Z.next 1) rfl rfl <|
  Il (.int .i64 (AA j)) r2 rfl (D4 (b:=Z.next) (off:=1) rfl a1 (by rw[<-hj];rfl) f1.tidy (fun h=>h) (CV _ rfl)) fun _ r3=>
  Js w r3 rfl (by decide) f2 (fun _ _ h=>h) (fun _ h _ _=>h) (Dq (vs:=[.agg [.str nm,nv,rv,tv],.int .i64 (AA j)]) rfl rfl g2) fun _ _ _ r4=>
  Il (.agg [.int .i64 (AA c),.int .i64 (AA no)]) r4 rfl (Ei (b:=tb) (off:=0) rfl at1 rfl rfl f1.tidy (fun h=>h) (CV _ rfl)) fun _ r5=>
  Js (.bool (decide ((c,no)=(2,t)))) r5 rfl (by decide) f3 (fun _ _ h=>h) (fun _ h _ _=>h) (Dq (vs:=[w,.agg [.int .i64 (AA c),.int .i64 (AA no)]]) rfl (by rw[Bj,lw];rfl) g3) fun _ _ _ r6=>
  Cn (.bool (decide ((c,no)=(2,t)))) rfl rfl <|
  HZ r6
 obtain⟨ev,d,y4⟩:∃ev,AT E D NG PS [(1,.ptr cb 0),(2,.ptr tb 0),(3,.ptr Z.next 0)] Z1=some (ev,Z3)/\Go.Og.look ev 4=some (.bool (decide ((c,no)=(2,t)))):=⟨_,(Fg (ops:=NG) go).1,rfl⟩
 have gd:∀J:Bz->H->AH,Ci (AT E D NG PS [(1,.ptr cb 0),(2,.ptr tb 0),(3,.ptr Z.next 0)] Z1) J=J ev Z3:=fun J=>by rw[d];rfl
 have z4:∀J:V->AH,BR ev 4 J=J (.bool (decide ((c,no)=(2,t)))):=fun J=>BU y4 rfl
 refine⟨Z3,?_,F2.trans f3 (fun _ _ h=>h)⟩
 have ho:=f.one2
 have ho3:=f.one3
 have ho5:=f.one5
 unfold Fd.c at e1
 show VO E D (AT E D) f.name f.type f.opt f.has f.d0 f.d1 f.d2 f.d3 f.d4 f.d5 f.group (.ptr cb 0) (.ptr tb 0) Z=_
 unfold VO
 simp -implicitDefEqProofs only [↓rP,rA,AD,AF,AB,ho,ho3,ho5,↓e1,↓gd,↓z4]
end
section
variable {E:EB} {D:Ak} {N:Nat}
theorem rT (hN:2<N) {Z:H} {w:V} {f:Fd} {cb tb:Nat} (ht:Aj Z) (wl:∀J:Nat->AH,A2 w J=J 1) (wr:∀J:List V->AH,AU 11 w (AA 0) (fun b o=>BH E Z b o 11 J)=J f.c) (hc:∃Z',D 146 ([]++[.agg f.c]++[.ptr cb 0,.ptr tb 0]) Z=some (.bool false,Z')/\Fr AG Z Z') :
  ∃Z',Y1 E D (AT E D) N [w,.fn 146 [] [.ptr cb 0,.ptr tb 0]] Z=some (.int .i64 (BQ 0),Z')/\Fr AG Z Z':=by
 obtain⟨N,rfl⟩:∃q,N=q+2:=⟨N-2,by omega⟩
 obtain⟨Z1,g1,f1⟩:=hc
 refine⟨Z1,?_,f1⟩
 have cv:∀J:V->H->AH,FL D (.fn 146 [] [.ptr cb 0,.ptr tb 0]) [.agg f.c] Z J=J (.bool false) Z1:=fun J=>by
  show AV (D 146 ([]++[.agg f.c]++[.ptr cb 0,.ptr tb 0]) Z) J=_
  rw[g1];rfl
 have o2:=f.one2
 have o3:=f.one3
 have o5:=f.one5
 unfold Fd.c at wr cv
 have k1:∀K R,M2 E D (AT E D) K R w (.fn 146 [] [.ptr cb 0,.ptr tb 0]) (AA 1) (AA 0) Z=R w (.fn 146 [] [.ptr cb 0,.ptr tb 0]) (AA 1) (AA 1) Z1:=by
  intro K R
  unfold M2
  simp -implicitDefEqProofs only [↓rP,rA,AD,AF,AB,show decide (0<1)=true from rfl,↓wr,o2,o3,o5,↓cv,Bb (show 0+1<=9223372036854775807 by omega)]
 have k2:∀R,M2 E D (AT E D) (VL E D (AT E D)) R w (.fn 146 [] [.ptr cb 0,.ptr tb 0]) (AA 1) (AA 1) Z1=some (.int .i64 (BQ 0),Z1):=by
  intro R
  unfold M2 VL
  simp -implicitDefEqProofs only [↓rP,rA,AD,AF,AB,show decide (1<1)=false from rfl]
 show SL E D (AT E D) (Vf E D (AT E D) (N+2) (N+2)) w (.fn 146 [] [.ptr cb 0,.ptr tb 0]) Z=_
 unfold SL
 rw[wl]
 exact(k1 _ _).trans (k2 _)
theorem zW {D2:Ak} (hI:∀{Z:H} {w:V} {f:Fd} {cb tb:Nat},Aj Z->(∀J:Nat->AH,A2 w J=J 1)->(∀J:List V->AH,AU 11 w (AA 0) (fun b o=>BH E Z b o 11 J)=J f.c)->(∃Z',D2 146 ([]++[.agg f.c]++[.ptr cb 0,.ptr tb 0]) Z=some (.bool false,Z')/\Fr AG Z Z')->∃Z',D 160 [w,.fn 146 [] [.ptr cb 0,.ptr tb 0]] Z=some (.int .i64 (BQ 0),Z')/\Fr AG Z Z') {Z:H} {w:V} {f:Fd} {cb tb:Nat} (ht:Aj Z) (wl:∀J:Nat->AH,A2 w J=J 1) (wr:∀J:List V->AH,AU 11 w (AA 0) (fun b o=>BH E Z b o 11 J)=J f.c) (hc:∃Z',D2 146 ([]++[.agg f.c]++[.ptr cb 0,.ptr tb 0]) Z=some (.bool false,Z')/\Fr AG Z Z') :
  ∃Z',fx E D (AT E D) N [w,.fn 146 [] [.ptr cb 0,.ptr tb 0]] Z=some (.bool false,Z')/\Fr AG Z Z':=by
 obtain⟨Z1,g1,f1⟩:=hI ht wl wr hc
 refine⟨Z1,?_,f1⟩
 show VP E D (AT E D) w (.fn 146 [] [.ptr cb 0,.ptr tb 0]) Z=_
 unfold VP
 simp -implicitDefEqProofs only [↓rP,rA,AD,AF,AB,↓g1,show Hp (AA 0) (BQ 0)=false from rfl]
def nD (E:EB) (F:List V->H->AH) (C:List V->H->AH):Prop:=∀{Z:H} {w:V} {f:Fd} {cb tb:Nat},Aj Z->(∀J:Nat->AH,A2 w J=J 1)->(∀J:List V->AH,AU 11 w (AA 0) (fun b o=>BH E Z b o 11 J)=J f.c)->(∃Z',C ([]++[.agg f.c]++[.ptr cb 0,.ptr tb 0]) Z=some (.bool false,Z')/\Fr AG Z Z')->∃Z',F [w,.fn 146 [] [.ptr cb 0,.ptr tb 0]] Z=some (.bool false,Z')/\Fr AG Z Z'
theorem zI {C Sl W B:List V->H->AH} {Pt:H->Prop} {nm:BS} {nv rv tv:V} {ty:Nat->Ty} {fd:Nat->Fd} (hT:xC B W Sl (D 144) Pt nm nv rv tv ty fd) (hTk:PI (D 57)) (hCf:nD E (D 145) C) (hV:VZ B C):dH Pt nm nv rv tv ty (gC E D (AT E D) N):=by
 intro Z p t u L body mk h ht hc hp hu hb he hL h2
 obtain⟨Z1,e1,f1,a1,n1⟩:=Ih ht [.ptr p 0]
 obtain⟨w,Z2,g2,ow,nw,f2⟩:=hTk f1.tidy (hu.fr0 f1 ht) hb he.hd (by rw[he.len];omega) (by omega)
 rw[he.len]at g2
 have wo:=ow.one
 have F2:=f1.trans f2 (fun _ _ h=>h)
 obtain⟨Z3,e3,f3,a3,n3⟩:=Ih f2.tidy [.int .i64 (AA 0),.int .i64 (AA 0)]
 obtain⟨Z4,g4,f4,a4,n4⟩:=E4 (n:=2) (o:=0) (v := .agg [.int .i64 (AA 2),.int .i64 (AA t)]) f3.tidy a3 rfl
 have a4:CB Z4 Z2.next [.int .i64 (AA 2),.int .i64 (AA t)]:=a4
 have le2:=F2.le
 have F4:Fr AG Z Z4:=(F2.trans f3 (fun _ _ h=>h)).trans f4 (fun b hb e=>by omega)
 have c4:=hc.fr F4 ht
 have rd:∀J,AU 13 tv (AA 0) (fun b o=>BH E Z4 b o 13 J)=J (ty 0).c:=fun J=>c4.row.all (by decide) J
 obtain⟨Z5,g5,f5⟩:=hT.la Z4 F4.tidy (hT.ptf _ _ ht F4 hp)
 have F5:=F4.trans f5 (fun _ _ h=>h)
 obtain⟨ws,w1,w2,w3,w4⟩:=hT.fs E Z5 (hT.ptf _ _ ht F5 hp)
 have le1:=f1.le
 have lt1:Z.next<Z2.next:=by have:=f2.le;omega
 have acb:CB Z5 Z.next [.ptr p 0]:=f5.at_ (f4.at_ (f3.at_ (f2.at_ a1 f1.tidy (fun h=>h)) f2.tidy (fun h=>h)) f3.tidy (fun e=>by omega)) F4.tidy (fun h=>h)
 have atb:=f5.at_ a4 F4.tidy (fun h=>h)
 obtain⟨Zv,gv,fv⟩:=hV (fd 1) hT.ptf hT.t4 F5.tidy (hT.ptf _ _ ht F5 hp) (hc.fr F5 ht) acb atb (hT.fty 1 (by decide)).1 (hT.bw 1 (by decide))
 have dn:decide ((2,t)=((2,1):Nat × Nat))=false:=decide_eq_false (fun e=>by injection e with _ e;omega)
 rw[dn]at gv
 obtain⟨Z6,g6,f6⟩:=hCf F5.tidy w3 (w4 Z5 (hT.ptf _ _ ht F5 hp)) ⟨Zv,gv,fv⟩
 have a6:=f6.at_ atb F5.tidy (fun h=>h)
 refine⟨Z6,?_,F5.trans f6 (fun _ _ h=>h)⟩
 have e1':Br Z (.cells [V.ptr p 0])=Z1:=e1
 have su:=hu.slen
 have l1:∀J:V->AH,Bc E Z4 Z.next 0 J=J (.ptr p 0):=fun J=>CK (f4.at_ (f3.at_ (f2.at_ a1 f1.tidy (fun h=>h)) f2.tidy (fun h=>h)) f3.tidy (fun e=>by omega)) rfl
 have l3:∀J:V->AH,Bc E Z4 p (Ap 0 3) J=J tv:=fun J=>CK c4.at_ rfl
 have rd6:∀J:List V->AH,BH E Z6 Z2.next 0 2 J=J [.int .i64 (AA 2),.int .i64 (AA t)]:=fun J=>by rw[Au a6];rfl
 have hk0:=hT.k0
 have hT1:=(ty 0).oneT
 have hT2:=(ty 0).oneI
 have hT3:=(ty 0).oneF
 have g5':D 144 [.agg (ty 0).c] Z4=some (.int .i64 (AA 1),Z5):=g5
 unfold Ty.c at rd g5'
 rw[hk0]at rd g5'
 have key:∀K,SP E D (AT E D) K (.ptr p 0) (AA 0) u Z=K Z.next 0 Z2.next 0 (AA 1) (AA 0) (AA 0) (AA 7) (ty 0).tags (ty 0).has (ty 0).hasLow (ty 0).hasHigh (ty 0).conMore (ty 0).low (ty 0).high (ty 0).items (ty 0).fields (ty 0).root (ty 0).more (ty 0).of_ Z5:=by
  intro K
  unfold SP Gn
  rw[show V.cells (.ptr p 0)=[.ptr p 0] from rfl]
  simp -implicitDefEqProofs only [↓rP,rA,AD,AF,AB,DC,↓e1',↓g2,wo,↓e3,↓g4,BW,decide_true,Bt,↓su,↓l1,↓l3,↓rd,hT1,hT2,hT3,↓g5']
 show SP E D (AT E D) (VT E D (AT E D)) (.ptr p 0) (AA 0) u Z=_
 rw[key]
 unfold VT
 simp -implicitDefEqProofs only [↓rP,rA,AD,AF,AB,↓w1,↓g6,↓rd6,Dj]
end
def Qu (Z:H) (m:V) (ES:List (List Nat)):Prop:=∃bs:Nat->V,Ea Z 2 ES.length m (fun i=>[.int .i64 (AA 0),bs i])/\∀(i:Nat) (e:List Nat),ES[i]? = some e->Oc Z (bs i) e
theorem Qu.fr0 {Z Z':H} {m:V} {ES:List (List Nat)} (h:Qu Z m ES) (f:Fr AG Z Z') (ht:Aj Z):Qu Z' m ES:=by
 obtain⟨bs,h1,h2⟩:=h
 exact⟨bs,h1.fr0 f ht,fun i e hi=>(h2 i e hi).fr0 f ht⟩
theorem WC:∀(bs:List V) (k:Nat),k<bs.length->lZ (WE bs) 2 k [.int .i64 (AA 0),bs.getD k .nils]
 | [],_,h=>by simp at h
 | b::bs,0,_=>⟨by show 0*2+2<=_;simp[WE],rfl⟩
 | b::bs,k+1,h=>by
  obtain⟨h1,h2⟩:=WC bs k (by simpa using h)
  refine⟨?_,?_⟩
  ·show (k+1)*2+2<=([V.int .i64 (AA 0),b]++WE bs).length
   rw[AQ]
   show (k+1)*2+2<=2+(WE bs).length
   omega
  ·show (([V.int .i64 (AA 0),b]++WE bs).drop ((k+1)*2)).take 2=_
   rw[show (k+1)*2=2+k*2 by omega,<-IV]
   exact h2
theorem Qu.of {Z:H} {m:V} {ES:List (List Nat)} {bs:List V} (h:Hr Z 2 ES.length m (WE bs)) (hl:bs.length=ES.length) (hb:∀(i:Nat) (e:List Nat),ES[i]? = some e->∃b,bs[i]? = some b/\Oc Z b e):Qu Z m ES:=by
 refine⟨fun i=>bs.getD i .nils,⟨?_⟩,fun i e hi=>?_⟩
 ·have cel:∀k,k<ES.length->lZ (WE bs) 2 k [.int .i64 (AA 0),bs.getD k .nils]:=fun k hk=>WC bs k (by omega)
  rcases h with (⟨h0,rfl,_⟩|⟨b,rfl,ha,_,_⟩)|⟨b,rfl,ha,_⟩
  ·exact .inl ⟨h0,rfl⟩
  ·exact .inr ⟨b,_,_,rfl,ha,cel⟩
  ·exact .inr ⟨b,_,_,rfl,ha,cel⟩
 ·obtain⟨b,q1,q2⟩:=hb i e hi
  have e1:bs.getD i .nils=b:=by rw[B7,q1];rfl
  show Oc Z (bs.getD i .nils) e
  rw[e1];exact q2
theorem JZ.rwR {Z0 Z:H} {m:V} {ES:List (List Nat)} (h:JZ Z0 Z m ES):Qu Z m ES:=by
 obtain⟨bs,h1,h2,_,h4⟩:=h
 exact Qu.of h1 h2 fun i e hi=>by obtain⟨b,q1,q2,_⟩:=h4 i e hi;exact⟨b,q1,q2⟩
theorem Qu.len {Z:H} {m:V} {ES:List (List Nat)} (h:Qu Z m ES):GY m ES.length:=by obtain⟨_,h,_⟩:=h;exact h.len
def xE (e:List Nat):Prop:=∃t mk body h,gH e 2 t mk body h/\2<=t/\Ix e/\e.length<=100000
def nB (Pt:H->Prop) (nm:BS) (nv rv tv:V) (ty:Nat->Ty) (F:List V->H->AH):Prop:=∀{Z:H} {p K:Nat} {l m:V} {hl:l.one=true} {hm:m.one=true} {ES:List (List Nat)},Aj Z->Ck Z p 3 ty nm nv rv tv [.bool false]->Pt Z->Qu Z m ES->ES≠[]->ES.length<=1000->(∀e∈ES,xE e)->∃Z',F [.ptr p 0,.int .i64 (AA 0),.agg (Vr K l hl (AA 1) m hm).c] Z=some (.bool true,Z')/\Fr AG Z Z'
section
variable {E:EB} {D:Ak} {W:AI} {N:Nat}
theorem yR {B Wi La:List V->H->AH} {Pt:H->Prop} {nm:BS} {nv rv tv:V} {ty:Nat->Ty} {fd:Nat->Fd} (hT:xC B Wi (D 148) La Pt nm nv rv tv ty fd) (hF:dH Pt nm nv rv tv ty (D 121)) (hN:1000<N):nB Pt nm nv rv tv ty (Sv E D W N):=by
 intro Z p K l m hl hm ES ht hc hp hr hne hES hE
 obtain⟨Z1,e1,f1,a1,n1⟩:=Ih ht (Vr K l hl (AA 1) m hm).c
 have c1:=hc.fr f1 ht
 have rd:∀J,AU 13 tv (AA 0) (fun b o=>BH E Z1 b o 13 J)=J (ty 0).c:=fun J=>c1.row.all (by decide) J
 obtain⟨s,s',Z2,g2,q1,q2,f2⟩:=hT.sl Z1 f1.tidy (hT.ptf _ _ ht f1 hp)
 have F2:=f1.trans f2 (fun _ _ h=>h)
 have a2:=f2.at_ a1 f1.tidy (fun h=>h)
 obtain⟨bs,row,hbs⟩:=hr
 have sl:=row.len.2
 have hk0:=hT.k0
 have hmo:=hT.mor
 have loop:∀(q n' i:Nat) (x y:Int) (Z3:H),i+q=ES.length->q<n'->Fr AG Z2 Z3->∃Z',Sn E D W N n' p 0 (AA 0) Z.next 0 (AA 1) m (AA ES.length) (AA i) (AA 7) (ty 0).tags (ty 0).has (ty 0).hasLow (ty 0).hasHigh (ty 0).conMore (ty 0).low (ty 0).high (ty 0).items (ty 0).fields (ty 0).root (ty 0).more (ty 0).of_ x y Z3=some (.bool true,Z')/\Fr AG Z2 Z':=by
  intro q
  induction q with
  | zero=>
   intro n' i x y Z3 hi hn' f
   obtain⟨n',rfl⟩:∃k,n'=k+1:=⟨n'-1,by omega⟩
   have hi:i=ES.length:=by omega
   subst hi
   have d1:decide (ES.length<ES.length)=false:=decide_eq_false (DM _)
   refine⟨Z3,?_,f⟩
   have key:∀K3,M8 E D W (VS E D W) K3 p 0 (AA 0) Z.next 0 (AA 1) m (AA ES.length) (AA ES.length) (AA 7) (ty 0).tags (ty 0).has (ty 0).hasLow (ty 0).hasHigh (ty 0).conMore (ty 0).low (ty 0).high (ty 0).items (ty 0).fields (ty 0).root (ty 0).more (ty 0).of_ x y Z3=some (.bool true,Z3):=by
    intro K3
    unfold M8 VS
    simp -implicitDefEqProofs only [↓rP,rA,AD,AF,AB,d1]
   exact key _
  | succ q ih=>
   intro n' i x y Z3 hi hn' f
   obtain⟨n',rfl⟩:∃k,n'=k+1:=⟨n'-1,by omega⟩
   have hlt:i<ES.length:=by omega
   have F3:Fr AG Z Z3:=F2.trans f (fun _ _ h=>h)
   obtain⟨t,mk,body,h,he,h2,hb,hle⟩:=hE ES[i] (List.getElem_mem hlt)
   have ob:=(hbs i ES[i] (Af hlt)).fr0 F3 ht
   obtain⟨Z4,g4,f4⟩:=hF F3.tidy (hc.fr F3 ht) (hT.ptf _ _ ht F3 hp) ob hb he hle h2
   obtain⟨Z',g',f'⟩:=ih n' (i+1) (AA 2) (AA t) Z4 (by omega) (by omega) (f.trans f4 (fun _ _ h=>h))
   refine⟨Z',?_,f'⟩
   rw[<-g']
   have d1:decide (i<ES.length)=true:=decide_eq_true hlt
   have r1:∀J,AU 2 m (AA i) (fun b o=>BH E Z3 b o 2 J)=J [.int .i64 (AA 0),bs i]:=fun J=>(row.fr0 F3 ht).all hlt J
   have bo:=ob.one
   have a3:=f.at_ a2 F2.tidy (fun h=>h)
   have l4:∀J:V->AH,Bc E Z3 Z.next (Ap 0 4) J=J (.int .i64 (AA 1)):=fun J=>CK a3 rfl
   have ho:allOne [V.int .i64 (AA 0),bs i]=true:=by simp[BL,Bk,bo,Df]
   have key:∀K1 K3,M8 E D W K1 K3 p 0 (AA 0) Z.next 0 (AA 1) m (AA ES.length) (AA i) (AA 7) (ty 0).tags (ty 0).has (ty 0).hasLow (ty 0).hasHigh (ty 0).conMore (ty 0).low (ty 0).high (ty 0).items (ty 0).fields (ty 0).root (ty 0).more (ty 0).of_ x y Z3=K3 p 0 (AA 0) Z.next 0 (AA 1) m (AA ES.length) (AA i) (AA 7) (ty 0).tags (ty 0).has (ty 0).hasLow (ty 0).hasHigh (ty 0).conMore (ty 0).low (ty 0).high (ty 0).items (ty 0).fields (ty 0).root (ty 0).more (ty 0).of_ (AA 2) (AA t) Z4:=by
    intro K1 K3
    unfold M8
    simp -implicitDefEqProofs only [↓rP,rA,AD,AF,AB,DC,d1,↓r1,ho,↓l4,BW,show decide (1=2)=false from rfl,↓g4,Bt,decide_true,show decide (7=8)=false from rfl]
   refine(key _ _).trans ?_
   show SO E D W (Sn E D W N n') p 0 (AA 0) Z.next 0 (AA 1) m (AA ES.length) (AA i) (AA 7) (ty 0).tags (ty 0).has (ty 0).hasLow (ty 0).hasHigh (ty 0).conMore (ty 0).low (ty 0).high (ty 0).items (ty 0).fields (ty 0).root (ty 0).more (ty 0).of_ (AA 2) (AA t) Z4=_
   unfold SO
   rw[Bb (show i+1<=9223372036854775807 by omega)]
 obtain⟨Z',g,f⟩:=loop ES.length N 0 (AA 0) (AA 0) Z2 (by omega) (by omega) (Fr.refl f2.tidy)
 refine⟨Z',?_,F2.trans f (fun _ _ h=>h)⟩
 rw[<-g]
 have hpos:0<ES.length:=List.length_pos_iff.2 hne
 have d0:decide (ES.length=0)=false:=decide_eq_false (by omega)
 have pt:=c1.at_
 simp only[Ef,Ch]at pt
 unfold Vc.c Vr at e1 a1 a2
 have hT1:=(ty 0).oneT
 have hT2:=(ty 0).oneI
 have hT3:=(ty 0).oneF
 unfold Ty.c at rd
 rw[hk0]at rd
 have key:∀K2,J2 E D W K2 p 0 (AA 0) (AA K) (AA 0) .nils l (AA 1) m Z=K2 p 0 (AA 0) Z.next 0 (AA 1) m (AA ES.length) (AA 0) (AA 7) (ty 0).tags (ty 0).has (ty 0).hasLow (ty 0).hasHigh (ty 0).conMore (ty 0).low (ty 0).high (ty 0).items (ty 0).fields (ty 0).root (ty 0).more (ty 0).of_ (AA 0) (AA 0) Z2:=by
  intro K2
  unfold J2 Gn
  simp -implicitDefEqProofs only [↓rP,rA,AD,AF,AB,DC,hl,hm,↓e1,↓c1.types,↓rd,hT1,hT2,hT3,↓BG a1,↓Au a1,↓sl,BW,d0,hmo,Bt,decide_true,↓Au pt,c1.n1,c1.r1,c1.t1,↓g2,↓BG a2]
 exact key _
theorem mG {Z:H} {v:V} {L:List Nat} (h:Oc Z v L) (J:BS->AH):IM E Z v J=J (BS.ofList ((nI L).map fun c=>UInt8.ofNat c.toNat)):=by
 have e:IM E Z v J=srcK E Z 1 v fun _ l=>match E9 l with
  | some s=>J (BS.ofList s)
  | none=>none:=by
  rcases h with ⟨_,rfl|⟨b,o,k,rfl⟩⟩|⟨b,o,c,M,rfl,_⟩<;>rfl
 rw[e,h.srcK]
 show (match E9 (Ho (nI L))with
  | some s=>J (BS.ofList s)
  | none=>none)=_
 rw[Mh]
def sW (F:List V->H->AH):Prop:=∀{Z:H} {u v:V} {L:List Nat},Oc Z u L->Oc Z v L->F [u,v] Z=some (.bool true,Z)
theorem AFb:sW (qP E D W N):=by
 intro Z u v L h k
 show cX E D W u v Z=_
 unfold cX
 rw[mG h,mG k,BS.beq_nats,decide_eq_true rfl]
def sV (F:List V->H->AH):Prop:=∀{Z:H} {u v:V} {L:List Nat},Aj Z->Oc Z u L->Oc Z v L->∃Z',F [.agg [.int .i64 (AA 0),u],.agg [.int .i64 (AA 0),v]] Z=some (.bool true,Z')/\Fr AG Z Z'
theorem AFa (hB:sW (D 18)):sV (F21 E D W N):=by
 intro Z u v L ht hu hv
 obtain⟨Z1,e1,f1,a1,n1⟩:=Ih ht [.int .i64 (AA 0),u]
 obtain⟨Z2,e2,f2,a2,n2⟩:=Ih f1.tidy [.int .i64 (AA 0),v]
 have F2:=f1.trans f2 (fun _ _ h=>h)
 have a12:=f2.at_ a1 f1.tidy (fun h=>h)
 have g:=hB (hu.fr0 F2 ht) (hv.fr0 F2 ht)
 have uo:=hu.one
 have vo:=hv.one
 refine⟨Z2,?_,F2⟩
 show cU E D W (AA 0) u (AA 0) v Z=_
 unfold cU
 simp -implicitDefEqProofs only [↓rP,rA,AD,AF,AB,uo,vo,↓e1,↓e2,↓BG a12,↓BG a2,BW,decide_true,↓g]
def dF (F:List V->H->AH):Prop:=∀{Z:H} {m m':V} {ES:List (List Nat)},Aj Z->Qu Z m ES->Qu Z m' ES->ES.length<=1000->∃Z',F [m,m',.fn 21 [] []] Z=some (.bool true,Z')/\Fr AG Z Z'
theorem zB (h:sV (D 21)) (hN:1000<N):dF (vv E D W N):=by
 intro Z m m' ES ht h1 h2 h10
 obtain⟨bs,r1,o1⟩:=h1
 obtain⟨bs',r2,o2⟩:=h2
 have loop:∀(q n' i:Nat) (Z1:H),i+q=ES.length->q<n'->Fr AG Z Z1->∃Z',Xr E D W N n' m m' (.fn 21 [] []) (AA i) Z1=some (.bool true,Z')/\Fr AG Z Z':=by
  intro q
  induction q with
  | zero=>
   intro n' i Z1 hi hn' f
   obtain⟨n',rfl⟩:∃q,n'=q+1:=⟨n'-1,by omega⟩
   have hi:i=ES.length:=hi
   subst hi
   have sl:=r1.len.2
   have d1:decide (ES.length<ES.length)=false:=decide_eq_false (DM _)
   refine⟨Z1,?_,f⟩
   show Qi E D W (cV E D W) _ m m' (.fn 21 [] []) (AA ES.length) Z1=_
   unfold Qi cV
   simp -implicitDefEqProofs only [↓rP,rA,AD,AF,AB,↓sl,d1]
  | succ q ih=>
   intro n' i Z1 hi hn' f
   obtain⟨n',rfl⟩:∃q,n'=q+1:=⟨n'-1,by omega⟩
   have hlt:i<ES.length:=by omega
   have sl:=r1.len.2
   have d1:decide (i<ES.length)=true:=decide_eq_true hlt
   have q1:∀J,AU 2 m (AA i) (fun b o=>BH E Z1 b o 2 J)=J [.int .i64 (AA 0),bs i]:=fun J=>(r1.fr0 f ht).all hlt J
   have q2:∀J,AU 2 m' (AA i) (fun b o=>BH E Z1 b o 2 J)=J [.int .i64 (AA 0),bs' i]:=fun J=>(r2.fr0 f ht).all hlt J
   have oa:=(o1 i _ (Af hlt)).fr0 f ht
   have ob:=(o2 i _ (Af hlt)).fr0 f ht
   have ua:=oa.one
   have ub:=ob.one
   obtain⟨Z2,g2,f2⟩:=h f.tidy oa ob
   obtain⟨Z',g',f'⟩:=ih n' (i+1) Z2 (by omega) (by omega) (f.trans f2 (fun _ _ h=>h))
   refine⟨Z',?_,f'⟩
   rw[<-g']
   have cv:∀J,FL D (.fn 21 [] []) [.agg [.int .i64 (AA 0),bs i],.agg [.int .i64 (AA 0),bs' i]] Z1 J=J (.bool true) Z2:=fun J=>by
    show AV (D 21 ([]++[.agg [.int .i64 (AA 0),bs i],.agg [.int .i64 (AA 0),bs' i]]++[]) Z1) J=_
    rw[show ([]++[V.agg [.int .i64 (AA 0),bs i],.agg [.int .i64 (AA 0),bs' i]]++[])=[.agg [.int .i64 (AA 0),bs i],.agg [.int .i64 (AA 0),bs' i]] from rfl,g2];rfl
   show Qi E D W _ _ m m' (.fn 21 [] []) (AA i) Z1=_
   unfold Qi
   simp -implicitDefEqProofs only [↓rP,rA,AD,AF,AB,↓sl,d1,↓q1,↓q2,ua,ub,↓cv,Bb (show i+1<=9223372036854775807 by omega),Bt]
   all_goals rfl
 obtain⟨Z',g',f'⟩:=loop ES.length N 0 Z (by omega) (by omega) (Fr.refl ht)
 refine⟨Z',?_,f'⟩
 have s1:=r1.len.2
 have s2:=r2.len.2
 have d:decide (ES.length=ES.length)=true:=decide_eq_true rfl
 rw[<-g']
 show XG E D W (Xr E D W N N) m m' (.fn 21 [] []) Z=_
 unfold XG
 simp -implicitDefEqProofs only [↓rP,rA,AD,AF,AB,↓s1,↓s2,BW,d,Bt]
def UC (F:List V->H->AH):Prop:=∀{Z:H} {l l' m m':V} {hl:l.one=true} {hl':l'.one=true} {hm:m.one=true} {hm':m'.one=true} {K n:Nat} {r:Int} {g:Nat->Vc} {ES:List (List Nat)},Aj Z->Ea Z 6 n l (fun k=>(g k).c)->Ea Z 6 n l' (fun k=>(g k).c)->(∀k,k<n->Nl (g k))->n<=1000->Qu Z m ES->Qu Z m' ES->ES.length<=1000->T1 F [.agg (Vr K l hl r m hm).c,.agg (Vr K l' hl' r m' hm').c] Z
theorem yK (hB:j8 (D 18)) (hL:cz (D 19)) (hM:dF (D 20)):UC (wB E D W N):=by
 intro Z l l' m m' hl hl' hm hm' K n r g ES ht h1 h2 hn h10 hr hr' hES
 obtain⟨Z1,e1,f1,a1,n1⟩:=Ih ht (Vr K l hl r m hm).c
 obtain⟨Z2,e2,f2,a2,n2⟩:=Ih f1.tidy (Vr K l' hl' r m' hm').c
 have f02:=f1.trans f2 (fun _ _ h=>h)
 have a12:=f2.at_ a1 f1.tidy (fun h=>h)
 obtain⟨Z3,g3,f3⟩:=hL (Z:=Z2) f02.tidy (h1.fr0 f02 ht) (h2.fr0 f02 ht) hn h10
 have F3:=f02.trans f3 (fun _ _ h=>h)
 have a13:=f3.at_ a12 f02.tidy (fun h=>h)
 have a23:=f3.at_ a2 f02.tidy (fun h=>h)
 obtain⟨Z4,g4,f4⟩:=hM F3.tidy (hr.fr0 F3 ht) (hr'.fr0 F3 ht) hES
 have gB:=hB Z2
 refine⟨Z4,?_,F3.trans f4 (fun _ _ h=>h)⟩
 have er:B4 r r=true:=by rw[Ju];simp
 unfold Vc.c Vr at e1 e2 a12 a2 a13 a23
 show UB E D W (AA K) (AA 0) .nils l r m (AA K) (AA 0) .nils l' r m' Z=_
 unfold UB
 simp -implicitDefEqProofs only [↓rP,rA,AD,AF,AB,hl,hm,hl',hm',↓e1,↓e2,↓BG a12,↓BG a2,↓BG a13,↓BG a23,BW,decide_true,er,↓gB,↓g3,↓g4]
end
structure ZF (B W:List V->H->AH) (Pt:H->Prop) (nf:Nat) (nm:BS) (nv rv tv:V) (ty:Nat->Ty) (fd:Nat->Fd):Prop where
 nf12:nf=1\/nf=2
 t4:iJ [.str nm,nv,rv,tv]
 ptf:∀Z Z',Aj Z->Fr AG Z Z'->Pt Z->Pt Z'
 row:∀Z,Pt Z->Ea Z 13 (nf+1) tv fun i=>(ty i).c
 frow:∀Z,Pt Z->Ea Z 11 nf (ty 0).fields fun k=>(fd k).c
 tg0:∀Z,Pt Z->HR Z 2 1 (ty 0).tags (lx [(0,16)])
 tg:∀Z k,Pt Z->k<nf->iI Z [(2,k)] (ty (k+1)).tags
 k0:(ty 0).kind=AA 7
 itm:V.beq (ty 0).items (ty 0).items=true
 root:(ty 0).root=AA 1
 kd:∀k,k<nf->(ty (k+1)).kind=AA 4/\(ty (k+1)).has=false
 fty:∀k,k<nf->(fd k).type=AA (k+1)/\(fd k).has=false
 bw:∀k,k<nf->Bw B W Pt [.str nm,nv,rv,tv] (k+1) k
def NZ:Nat->List Vc
 | 1=>[vB 4 0]
 | _=>[vB 4 0,Vc.abs]
theorem WZ {nf:Nat} (h:nf=1\/nf=2):(NZ nf).length=nf:=by rcases h with rfl | rfl<;>rfl
theorem OB {nf:Nat} (h:nf=1\/nf=2) (k:Nat) (hk:k<nf):(k=0/\gS (NZ nf) k=vB 4 0)\/(0<k/\gS (NZ nf) k=Vc.abs):=by
 rcases h with rfl|rfl
 ·obtain rfl:k=0:=by omega
  exact .inl ⟨rfl,rfl⟩
 ·have:k=0\/k=1:=by omega
  rcases this with rfl|rfl
  ·exact .inl ⟨rfl,rfl⟩
  ·exact .inr ⟨by decide,rfl⟩
theorem Uv {nf:Nat} (h:nf=1\/nf=2) (k:Nat) (hk:k<nf):Nl (gS (NZ nf) k):=by
 rcases OB h k hk with ⟨_,e⟩|⟨_,e⟩<;>rw[e]<;>exact⟨rfl,rfl,rfl⟩
theorem Rk {Z:H} {q nf:Nat} {c:Ud} (hn:nf=1\/nf=2) (h:CB Z q (Ll (NZ nf))):Ea Z 6 nf (.sl q 0 nf c) fun k=>(gS (NZ nf) k).c:=
 ⟨.inr ⟨q,_,_,rfl,h,fun k hk=>⟨by rw[RX,WZ hn];omega,by
  have:(NZ nf)[k]? = some (gS (NZ nf) k):=by unfold gS;rw[B7,Af (by rw[WZ hn];exact hk)];rfl
  exact V8 _ k _ this⟩⟩⟩
structure iK (Z:H) (m:V) (r:Nat) (ES:List (List Nat)):Prop where
 rw:Qu Z m ES
 no:ES=[]->m = .nils/\r=0
 yes:ES≠[]->r=1
theorem iK.fr0 {Z Z':H} {m:V} {r:Nat} {ES:List (List Nat)} (h:iK Z m r ES) (f:Fr AG Z Z') (ht:Aj Z):iK Z' m r ES:=⟨h.rw.fr0 f ht,h.no,h.yes⟩
structure kE (P:List (List Nat)->Prop) (Z:H) (nf q:Nat) (m:V) (r:Nat) (ES:List (List Nat)):Prop where
 at_:CB Z q (Ll (NZ nf))
 rv:iK Z m r ES
 fre:∀e∈ES,xE e
 few:ES.length<=1000
 p:P ES
theorem kE.fr0 {P:List (List Nat)->Prop} {Z Z':H} {nf q:Nat} {m:V} {r:Nat} {ES:List (List Nat)} (h:kE P Z nf q m r ES) (f:Fr AG Z Z') (ht:Aj Z):kE P Z' nf q m r ES:=⟨f.at_ h.at_ ht (fun h=>h),h.rv.fr0 f ht,h.fre,h.few,h.p⟩
def vQ (nf q:Nat) (r:Nat) (m:V) (hm:m.one=true):Vc:=Vr 7 (.sl q 0 nf (.ex nf)) rfl (AA r) m hm
def XQ (Pt:H->Prop) (nf:Nat) (nm:BS) (nv rv tv:V) (ty:Nat->Ty) (F:List V->H->AH):Prop:=∀{Z:H} {p:Nat},Aj Z->Ck Z p (nf+1) ty nm nv rv tv [.bool false]->Pt Z->∀v:Vc,∃Z',F [.ptr p 0,.int .i64 (AA 0),.agg v.c] Z=some (.bool true,Z')/\Fr AG Z Z'
def dA (P:List (List Nat)->Prop) (Pt:H->Prop) (nf:Nat) (nm:BS) (nv rv tv:V) (ty:Nat->Ty) (F:List V->H->AH):Prop:=∀{Z:H} {p q r:Nat} {m:V} {hm:m.one=true} {ES:List (List Nat)},Aj Z->Ck Z p (nf+1) ty nm nv rv tv [.bool false]->Pt Z->kE P Z nf q m r ES->∃Z',F [.ptr p 0,.int .i64 (AA 0),.agg (vQ nf q r m hm).c] Z=some (.bool true,Z')/\Fr AG Z Z'
def Nn (P:List (List Nat)->Prop) (Pt:H->Prop) (nf:Nat) (nm:BS) (nv rv tv:V) (ty:Nat->Ty) (F:List V->H->AH):Prop:=∀{Z:H} {p q r dp:Nat} {m:V} {hm:m.one=true} {ES:List (List Nat)},Aj Z->Ck Z p (nf+1) ty nm nv rv tv [.bool false]->Pt Z->kE P Z nf q m r ES->dp<=16->∃Z',F [.ptr p 0,.int .i64 (AA 0),.agg (vQ nf q r m hm).c,.int .i64 (AA dp)] Z=some (.bool true,Z')/\Fr AG Z Z'
def XR (P:List (List Nat)->Prop) (Pt:H->Prop) (nf:Nat) (nm:BS) (nv rv tv:V) (F:List V->H->AH):Prop:=∀{Z:H} {q r:Nat} {m:V} {hm:m.one=true} {ES:List (List Nat)},Aj Z->Pt Z->kE P Z nf q m r ES->∃Z',F [.agg [.str nm,nv,rv,tv],.int .i64 (AA 0),.agg (vQ nf q r m hm).c] Z=some (.bool true,Z')/\Fr AG Z Z'
def dM (P:List (List Nat)->Prop) (nf:Nat) (F:List V->H->AH):Prop:=∀{Z:H} {q r:Nat} {m:V} {hm:m.one=true} {ES:List (List Nat)},Aj Z->kE P Z nf q m r ES->∃Z',F [.agg (vQ nf q r m hm).c] Z=some (.int .i64 (AA (1+nf)),Z')/\Fr AG Z Z'
def dB (P:List (List Nat)->Prop) (nf:Nat) (F:List V->H->AH):Prop:=∀{Z:H} {q r:Nat} {m:V} {hm:m.one=true} {ES:List (List Nat)},Aj Z->kE P Z nf q m r ES->∃Z',F [.agg (vQ nf q r m hm).c,.int .i64 (AA 1)] Z=some (.bool true,Z')/\Fr AG Z Z'
section
variable {E:EB} {D:Ak} {W:AI} {N:Nat} {B Wi:List V->H->AH} {Pt:H->Prop} {nf:Nat} {nm:BS} {nv rv tv:V} {ty:Nat->Ty} {fd:Nat->Fd} {P:List (List Nat)->Prop}
theorem xC.q {Sl La:List V->H->AH} (h:xC B Wi Sl La Pt nm nv rv tv ty fd):ZF B Wi Pt 2 nm nv rv tv ty fd:=⟨.inr rfl,h.t4,h.ptf,h.row,h.frow,h.tg0,h.tg,h.k0,h.itm,h.root,h.kd,fun k hk=>⟨(h.fty k hk).1,(h.fty k hk).2.2.1⟩,h.bw⟩
theorem ZF.ones (hT:ZF B Wi Pt nf nm nv rv tv ty fd):nv.one=true/\rv.one=true/\tv.one=true:=by
 obtain⟨_,_,_,_,e,o1,o2,o3,_,_,_⟩:=hT.t4.ex
 injection e with e1 e
 injection e with e2 e
 injection e with e3 e
 injection e with e4 e
 subst e2;subst e3;subst e4
 exact⟨o1,o2,o3⟩
theorem zD {La:List V->H->AH} (hT:xC B Wi (D 148) La Pt nm nv rv tv ty fd) (hN:2<N):XQ Pt 2 nm nv rv tv ty (Vj E D W N):=by
 intro Z p ht hc hp v
 obtain⟨N,rfl⟩:∃k,N=k+2:=⟨N-2,by omega⟩
 obtain⟨Z1,e1,f1,a1,n1⟩:=CZ ht v.c
 have c1:=hc.fr f1 ht
 have rd:∀J,AU 13 tv (AA 0) (fun b o=>BH E Z1 b o 13 J)=J (ty 0).c:=fun J=>c1.row.all (by decide) J
 obtain⟨s,s',Z2,g2,q1,q2,f2⟩:=hT.sl Z1 f1.tidy (hT.ptf _ _ ht f1 hp)
 have F2:=f1.trans f2 (fun _ _ h=>h)
 have pt:=c1.at_
 refine⟨Z2,?_,F2⟩
 have hT1:=(ty 0).oneT
 have hT2:=(ty 0).oneI
 have hT3:=(ty 0).oneF
 unfold Vc.c at e1 a1
 unfold Ty.c at rd
 simp only[Ef,Ch]at pt
 have key:∀K,J1 E D W K p 0 (AA 0) v.k v.n v.b v.l v.r v.m Z=K Z.next 0 (.sl s 0 1 (.op 1)) (AA 1) (AA 0) (ty 0).kind (ty 0).tags (ty 0).has (ty 0).hasLow (ty 0).hasHigh (ty 0).conMore (ty 0).low (ty 0).high (ty 0).items (ty 0).fields (ty 0).root (ty 0).more (ty 0).of_ Z2:=by
  intro K
  unfold J1
  simp -implicitDefEqProofs only [↓rP,rA,AD,AF,AB,c1.n1,c1.r1,c1.t1,v.oneB,v.oneL,v.oneM,↓e1,↓c1.types,↓rd,hT1,hT2,hT3,↓Au pt,↓g2]
 have r1:∀J:V->AH,AU 1 (.sl s 0 1 (.op 1)) (AA 0) (fun b o=>Bc E Z2 b o J)=J (.sl s' 0 1 (.ex 1)):=fun J=>by
  rw[DJ (by decide)]
  exact CK q1 rfl
 have r2:∀J:V->AH,AU 1 (.sl s' 0 1 (.ex 1)) (AA 0) (fun b o=>Bc E Z2 b o J)=J (.int .i64 (AA 1)):=fun J=>by
  rw[DJ (by decide)]
  exact CK q2 rfl
 have r3:∀J:V->AH,AU 11 (ty 0).fields (AA 1) (fun b o=>Bc E Z2 b (Ap o 10) J)=J (.int .i64 (AA 0)):=fun J=>(hT.frow Z2 (hT.ptf _ _ ht F2 hp)).one (k:=1) (j:=10) (by decide) (by rw[<-(hT.fty 1 (by decide)).2.2.2];rfl) J
 have k1:∀K1 K3 K5,JH E D W K1 K3 K5 Z.next 0 (.sl s 0 1 (.op 1)) (AA 1) (AA 0) (ty 0).kind (ty 0).tags (ty 0).has (ty 0).hasLow (ty 0).hasHigh (ty 0).conMore (ty 0).low (ty 0).high (ty 0).items (ty 0).fields (ty 0).root (ty 0).more (ty 0).of_ Z2=K3 Z.next 0 (.sl s 0 1 (.op 1)) (AA 1) (AA 0) (ty 0).kind (ty 0).tags (ty 0).has (ty 0).hasLow (ty 0).hasHigh (ty 0).conMore (ty 0).low (ty 0).high (ty 0).items (ty 0).fields (ty 0).root (ty 0).more (ty 0).of_ Z2:=by
  intro K1 K3 K5
  unfold JH
  simp -implicitDefEqProofs only [↓rP,rA,AD,AF,AB,show decide (0<1)=true from rfl,↓r1,↓r2,↓r3,BW,decide_true]
 have k2:∀K3 K5,JH E D W (M7 E D W) K3 K5 Z.next 0 (.sl s 0 1 (.op 1)) (AA 1) (AA 1) (ty 0).kind (ty 0).tags (ty 0).has (ty 0).hasLow (ty 0).hasHigh (ty 0).conMore (ty 0).low (ty 0).high (ty 0).items (ty 0).fields (ty 0).root (ty 0).more (ty 0).of_ Z2=some (.bool true,Z2):=by
  intro K3 K5
  unfold JH M7
  simp -implicitDefEqProofs only [↓rP,rA,AD,AF,AB,show decide (1<1)=false from rfl]
 show J1 E D W (PN E D W (N+2) (N+2)) p 0 (AA 0) v.k v.n v.b v.l v.r v.m Z=_
 rw[key]
 refine(k1 _ _ _).trans ?_
 show SN E D W (PN E D W (N+2) (N+1)) Z.next 0 (.sl s 0 1 (.op 1)) (AA 1) (AA 0) (ty 0).kind (ty 0).tags (ty 0).has (ty 0).hasLow (ty 0).hasHigh (ty 0).conMore (ty 0).low (ty 0).high (ty 0).items (ty 0).fields (ty 0).root (ty 0).more (ty 0).of_ Z2=_
 unfold SN
 rw[Bb (show 0+1<=9223372036854775807 by omega)]
 exact k2 _ _
theorem mP (hT:ZF B Wi Pt nf nm nv rv tv ty fd) (hP:FB (D 99)) (hA:UF (D 107)) (hL:Yx (D 126)) (hV:Vd E (D 67)) (hR:dA P Pt nf nm nv rv tv ty (D 125)) (hG:XQ Pt nf nm nv rv tv ty (D 128)) (hN:100<N):Nn P Pt nf nm nv rv tv ty (UW E D W N):=by
 intro Z p q r dp m hm ES ht hc hp hr hd
 have h12:=hT.nf12
 have key:=TC (E:=E) (W:=W) (N:=N) (K:=7) (l := .sl q 0 nf (.ex nf)) (hl:=rfl) (r:=AA r) (mv:=m) (hm:=hm) (ok:=fun _=>true) (rb:=true) (g:=gS (NZ nf)) (fd:=fd) (Z:=Z) (p:=p) (i:=0) (dp:=dp) hP hA hL (fun k hk=>by
  rcases OB h12 k hk with ⟨rfl,e⟩|⟨h0,e⟩
  ·rw[e]
   refine .val rfl (hT.fty 0 hk).1 (fun Z1 p1 dp1 nm1 nv1 rv1 tv1 rest1 h1 f hc1 hd1=>hV h1 hc1 (by omega) hd1 (by rw[(hT.kd 0 hk).1];rfl) (hT.kd 0 hk).2 .nul) (hT.fty 0 hk).2
  ·refine .abs e ?_
   rw[hT.root]
   have:Hp (AA 1) (AA k)=true:=by rw[MA];exact decide_eq_true (by omega)
   rw[this,Bool.or_true]) hd (by omega) (by omega) (by omega) hr.rv.rw.len
  (fun Z1 h1 f=>hR h1 (hc.fr f ht) (hT.ptf _ _ ht f hp) (hr.fr0 f ht))
  (fun Z1 h1 f=>hG h1 (hc.fr f ht) (hT.ptf _ _ ht f hp) (vQ nf q r m hm)) ht hc (hT.frow Z hp) (Rk h12 hr.at_)
 have ea:Yt (fun _=>true) nf 0=true:=by rcases h12 with rfl | rfl<;>rfl
 rw[ea,Eu]at key
 exact key
theorem mM (hT:ZF B Wi Pt nf nm nv rv tv ty fd) (hF:Nn P Pt nf nm nv rv tv ty (D 103)):Nn P Pt nf nm nv rv tv ty (iL E D W N):=by
 intro Z p q r dp m hm ES ht hc hp hr hd
 exact WH (K:=7) (.inl rfl) ht hc (by omega) (by omega) hT.k0 (fun Z1 h1 f=>hF h1 (hc.fr f ht) (hT.ptf _ _ ht f hp) (hr.fr0 f ht) hd)
theorem zT (h12:nf=1\/nf=2) (hC:dN (D 68)) (hN:100<N):dM P nf (qM E D W N):=by
 intro Z q r m hm ES ht hr
 exact Wd (v:=vQ nf q r m hm) (n:=nf) (g:=gS (NZ nf)) (by omega) (by omega) ht (Rk h12 hr.at_) (fun Z1 k hk f=>hC (gS (NZ nf) k) f.tidy (Uv h12 k hk).2.1)
theorem mN (hT:ZF B Wi Pt nf nm nv rv tv ty fd) (hV:Nn P Pt nf nm nv rv tv ty (D 67)) (hC:dM P nf (D 68)):XR P Pt nf nm nv rv tv (qO E D W N):=by
 intro Z q r m hm ES ht hp hr
 obtain⟨o1,o2,o3⟩:=hT.ones
 have h12:=hT.nf12
 exact lR (n:=1+nf) (by omega) ht (hT.row Z hp) o1 o2 o3 (fun Z1 p h1 f hc=>hV h1 hc (hT.ptf _ _ ht f hp) (hr.fr0 f ht) (by decide)) (fun Z1 h1 f=>hC h1 (hr.fr0 f ht))
theorem yV {D':Ak} (h12:nf=1\/nf=2) (hC:dO (D 69) D') (h1:sT (D' 70)):dB P nf (vu E D W N):=by
 intro Z q r m hm ES ht hr
 have hv:(B4 (AA r) (AA 0) || B4 (AA r) (AA 1))=true:=by
  by_cases he:ES=[]
  ·rw[(hr.rv.no he).2];rfl
  ·rw[hr.rv.yes he];rfl
 exact WG hC (v:=vQ nf q r m hm) (n:=nf) (g:=gS (NZ nf)) (by omega) hv ht (Rk h12 hr.at_) (fun Z1 q1 k hk f ha=>h1 (gS (NZ nf) k) f.tidy (Uv h12 k hk).2.1 (by
  rcases OB h12 k hk with ⟨_,e⟩|⟨_,e⟩<;>rw[e]<;>rfl) ha)
end
theorem Oc.by {Z:H} {v:V} {L:List Nat} (h:Oc Z v L) (h0:0<L.length):By Z v (nI L):=by
 rcases h with ⟨rfl,_⟩|⟨b,o,c,M,rfl,_,ha,h2,h3⟩
 ·simp at h0
 ·refine .inr ⟨b,o,c,M,by rw[C0],ha,by rw[C0];omega,?_⟩
  rw[C0,CG];exact h3.symm
def dJ (F:List V->H->AH) (D:Ak):Prop:=∀{Z:H} {p nf:Nat} {x:Ty} {fd:Nat->Fd} {g:Nat->Vc} {l m:V} {hl:l.one=true} {hm:m.one=true} {r:Int} {pts:Nat->Option (List Int)} {ES:List (List Nat)},Aj Z->x.kind=AA 7->RcE D Z p nf x fd g l pts->Qu Z m ES->ES.length<=1000->(∀e∈ES,0<e.length) ->
 ∃u Z',F [.ptr p 0,.agg x.c,.agg (Vr 7 l hl r m hm).c] Z=some (u,Z')/\Qv Z Z' u (Dw pts nf 0++ES.map nI)/\(Dw pts nf 0).length<=nf/\Fr AG Z Z'
section
variable {E:EB} {D:Ak} {N:Nat}
theorem Zg {Za:H} {qx:Nat} {x:Ty} {m:V} {ES:List (List Nat)} (hta:Aj Za) (hqx:qx<Za.next) (ax:CB Za qx x.c) (hk:x.kind=AA 7) (hr:Qu Za m ES) (hES:ES.length<=1000) (h0:∀e∈ES,0<e.length) :
  ∀(q n' i:Nat) (Z:H) (v:V) (pls:List (List Int)),i+q=ES.length->q<n'->pls.length<=2000+i->Fr AG Za Z->Qv Za Z v pls ->
   ∃v' Z',eS E D (AT E D) N n' qx 0 v m (AA ES.length) (AA i) Z=some (v',Z')/\Qv Za Z' v' (pls++(ES.drop i).map nI)/\Fr AG Za Z':=by
 obtain⟨bs,row,hbs⟩:=hr
 intro q
 induction q with
 | zero=>
  intro n' i Z v pls hi hn' hpl f hP
  obtain⟨n',rfl⟩:∃k,n'=k+1:=⟨n'-1,by omega⟩
  have hi:i=ES.length:=by omega
  subst hi
  refine⟨v,Z,?_,by rw[List.drop_length,Mc,CF];exact hP,f⟩
  have a3:=f.at_ ax hta (fun h=>h)
  have l0:∀J:V->AH,Bc E Z qx 0 J=J (.int .i64 (AA 7)):=fun J=>CK a3 (by rw[<-hk];rfl)
  have d1:decide (ES.length<ES.length)=false:=decide_eq_false (DM _)
  have key:∀R,QW E D (AT E D) (W4 E D (AT E D) (cD E D (AT E D))) R qx 0 v m (AA ES.length) (AA ES.length) Z=some (v,Z):=by
   intro R
   unfold QW W4 cD
   simp -implicitDefEqProofs only [↓rP,rA,AD,AF,AB,d1,↓l0,BW,show decide (7=8)=false from rfl]
  exact key _
 | succ q ih=>
  intro n' i Z v pls hi hn' hpl f hP
  obtain⟨n',rfl⟩:∃k,n'=k+1:=⟨n'-1,by omega⟩
  have hlt:i<ES.length:=by omega
  have ht:=f.tidy
  have ob:=hbs i ES[i] (Af hlt)
  have blt:∀b,Al (bs i) b->b<Za.next:=fun b hb=>ob.lt hta b hb
  have bo:=ob.one
  have by1:=(ob.fr0 f hta).by (h0 _ (List.getElem_mem hlt))
  obtain⟨Z1,e1,f1,a1,n1⟩:=Ih ht [bs i]
  have F1:=f.trans f1 (fun _ _ h=>h)
  have vge:∀b,Al v b->Za.next<=b:=fun b hb=>by obtain⟨_,_,h2,_⟩:=hP;exact h2 b hb
  obtain⟨v',Z2,g2,h2,f2,_,vo,_⟩:=(hP.fr f1 ht).app (E:=E) F1 (by1.fr f1 ht) (fun b hb hb'=>by have:=blt b hb;have:=vge b hb';omega) a1 (by omega)
  obtain⟨v'',Z',g',h',f'⟩:=ih n' (i+1) Z2 v' (pls++[nI ES[i]]) (by omega) (by omega) (by rw[AQ,Cf];omega) f2 h2
  refine⟨v'',Z',?_,by
   rw[FE]at h'
   rw[Gx hlt,CP]
   exact h',f'⟩
  rw[<-g']
  have d1:decide (i<ES.length)=true:=decide_eq_true hlt
  have r1:∀J,AU 2 m (AA i) (fun b o=>BH E Z b o 2 J)=J [.int .i64 (AA 0),bs i]:=fun J=>(row.fr0 f hta).all hlt J
  have ho:allOne [V.int .i64 (AA 0),bs i]=true:=by simp[BL,Bk,bo,Df]
  have ho1:allOne [bs i]=true:=by simp[BL,Bk,bo]
  have key:∀K R,QW E D (AT E D) K R qx 0 v m (AA ES.length) (AA i) Z=R qx 0 v' m (AA ES.length) (AA (i+1)) Z2:=by
   intro K R
   unfold QW
   simp -implicitDefEqProofs only [↓rP,rA,AD,AF,AB,DC,d1,↓r1,ho,↓fill1 bo,ho1,↓e1,↓g2,↓Aw vo,Bb (show i+1<=9223372036854775807 by omega)]
  exact key _ _
theorem zN (hA:UF (D 107)) (hN':kB (D 107)) (hN:1000<N):dJ (xG E D (AT E D) N) D:=by
 intro Z p nf x fd g l m hl hm r pts ES ht hk hR hrw hES hne
 obtain⟨Z1,e1,f1,a1,n1⟩:=Ih ht x.c
 obtain⟨Z2,e2,f2,a2,n2⟩:=Ih f1.tidy (Vr 7 l hl r m hm).c
 have f02:=f1.trans f2 (fun _ _ h=>h)
 have hR2:=hR.fr f02 ht
 have a12:=f2.at_ a1 f1.tidy (fun h=>h)
 have few:=hR.few
 obtain⟨v',Z3,g3,h1,h2,f3⟩:=aw (E:=E) (N:=N) (b5:=Z1.next) (qx:=Z.next) hA hN' hR2.f f02.tidy (by omega) a12 hR2.row hR2.val few nf N 0 Z2 .nils [] (by omega) (by omega) (HE _) (Fr.refl f02.tidy) (Qv.nil _ _)
 rw[Ch]at h1 h2
 have a23:CB Z3 Z1.next (Vr 7 l hl r m hm).c:=f3.at_ a2 f2.tidy (fun h=>h)
 have le2:=f02.le
 obtain⟨u,Z4,g4,h4,f4⟩:=Zg (E:=E) (D:=D) (N:=N) f02.tidy (show Z.next<Z2.next by omega) a12 hk (hrw.fr0 f02 ht) hES hne ES.length N 0 Z3 v' (Dw pts nf 0) (by omega) (by omega) (by omega) f3 h1
 rw[Ca]at h4
 refine⟨u,Z4,?_,?_,h2,f02.trans f4 (fun _ _ h=>h)⟩
 ·have sl:=hR.val.len.2
  have sm:=hrw.len.2
  have l3:∀J:V->AH,Bc E Z2 Z1.next 3 J=J l:=fun J=>CK a2 rfl
  have l5:∀J:V->AH,Bc E Z3 Z1.next (Ap 0 5) J=J m:=fun J=>CK a23 rfl
  have t1:Xu E D (AT E D) N Z.next 0 Z1.next 0 v' Z3=some (u,Z4):=by
   rw[<-g4]
   show W5 E D (AT E D) _ Z.next 0 Z1.next 0 v' Z3=_
   unfold W5
   simp -implicitDefEqProofs only [↓rP,rA,AD,AF,AB,↓l5,↓sm]
   all_goals rfl
  rw[<-t1,<-g3]
  unfold Vc.c Vr at e2
  unfold Ty.c at e1
  show T4 E D (AT E D) (UL E D (AT E D) N N) (.ptr p 0) x.kind x.tags x.has x.hasLow x.hasHigh x.conMore x.low x.high x.items x.fields x.root x.more x.of_ (AA 7) (AA 0) .nils l r m Z=_
  have key:∀K,T4 E D (AT E D) K (.ptr p 0) x.kind x.tags x.has x.hasLow x.hasHigh x.conMore x.low x.high x.items x.fields x.root x.more x.of_ (AA 7) (AA 0) .nils l r m Z=K (.ptr p 0) Z.next 0 Z1.next 0 .nils l (AA nf) (AA 0) Z2:=by
   intro K
   unfold T4 Gn
   simp -implicitDefEqProofs only [↓rP,rA,AD,AF,AB,DC,hl,hm,x.oneT,x.oneI,x.oneF,↓e1,↓e2,↓l3,↓sl]
  exact key _
 ·obtain⟨pvs,q1,q2,q3⟩:=h4
  exact⟨pvs,q1,fun b hb=>by have:=q2 b hb;omega,q3⟩
def dK (D':Ak) (F:List V->H->AH):Prop:=∀{Z:H} {p nT i nf:Nat} {ty:Nat->Ty} {nm:BS} {nv rv tv l m:V} {hl:l.one=true} {hm:m.one=true} {r:Int} {fd:Nat->Fd} {g:Nat->Vc} {pts:Nat->Option (List Int)} {ES:List (List Nat)},Aj Z->Ck Z p nT ty nm nv rv tv []->i<nT->(ty i).kind=AA 7->HR Z 2 1 (ty i).tags (lx [(0,16)])->V.beq (ty i).items (ty i).items=true->RcE D' Z p nf (ty i) fd g l pts->Qu Z m ES->ES.length<=1000->(∀e∈ES,0<e.length)->0<nf->(Dw pts nf 0++ES.map nI).flatten.length<50000 ->
 Gw F [.ptr p 0,.int .i64 (AA i),.agg (Vr 7 l hl r m hm).c] Z (YW 0 true 16 (Dw pts nf 0++ES.map nI).flatten)
theorem bR {D':Ak} (hF:dJ (D 72) D') (hW:XM E (D 71)):dK D' (vr E D (AT E D) N):=by
  intro Z p nT i nf ty nm nv rv tv l m hl hm r fd g pts ES ht hc hi hk htg hitm hR hrw hES hne h0 hlen
  obtain⟨Z1,e1,f1,a1,n1⟩:=Ih ht (Vr 7 l hl r m hm).c
  have c1:=hc.fr f1 ht
  have rd:∀J,AU 13 tv (AA i) (fun b o=>BH E Z1 b o 13 J)=J (ty i).c:=fun J=>c1.row.all hi J
  obtain⟨Z2,e2,f2,a2,n2⟩:=Ih f1.tidy Lm
  obtain⟨Z3,g3,f3,a3,n3⟩:=E4 (n:=13) (o:=0) (v := .agg (ty i).c) f2.tidy a2 (by unfold Ty.c;simp[Lm,En,BL,Bk,Df,Fb,(ty i).oneT,(ty i).oneI,(ty i).oneF])
  have a3:CB Z3 Z1.next (ty i).c:=a3
  have f02:=f1.trans f2 (fun _ _ h=>h)
  have le1:=f1.le
  have f03:Fr AG Z Z3:=f02.trans f3 (fun c hc h=>by omega)
  have a13:CB Z3 Z.next (Vr 7 l hl r m hm).c:=f3.at_ (f2.at_ a1 f1.tidy (fun h=>h)) f2.tidy (fun e=>by omega)
  have ttp:=fun J=>c1.types (E:=E) (J:=J)
  have hT3:=htg.fr f03 ht (fun _ _ h=>h)
  have fw:Fr AG Z3 ⟨Z3.next+8,Z3.bl⟩:=(CU (E:=E) (n:=8) (S:=AG) f3.tidy).fr
  have Fw:=f03.trans fw (fun _ _ h=>h)
  obtain⟨fv,Z4,g4,hP,hPl,f4⟩:=hF (hl:=hl) (hm:=hm) (r:=r) fw.tidy hk (hR.fr Fw ht) (hrw.fr0 Fw ht) hES hne
  have few:=hR.few
  have le4:Z3.next+8<=Z4.next:=f4.le
  have f34:Fr AG Z3 Z4:=fw.trans f4 (fun _ _ h=>h)
  obtain⟨pv,hrow,hby⟩:=hP.row
  have ec:FJ (fun k=>(Dw pts nf 0++ES.map nI).getD k []) (Dw pts nf 0++ES.map nI).length 0=(Dw pts nf 0++ES.map nI).flatten:=by
    rw[Wf _ _ 0 (by omega),Ca]
  obtain⟨u,Z5,g5,h5,f5⟩:=hW (Z:=Z4) (l:=[(0,16)]) (pv:=pv) (pl:=fun k=>(Dw pts nf 0++ES.map nI).getD k []) true f4.tidy (hT3.fr f34 f3.tidy (fun _ _ h=>h)) ⟨.inl rfl,fun t h=>by
    rw[CE.1 h];exact⟨.inl rfl,by decide⟩⟩ hrow (fun k hk=>Bx.of (hby k hk) f4.tidy) (by rw[AQ,CY];omega) (by rw[ec];exact hlen)
  rw[ec]at h5
  have h5:Nb Z4 Z5 u (YW 0 true 16 (Dw pts nf 0++ES.map nI).flatten):=h5
  refine⟨u,Z5,?_,h5.mono (BP f03.le f34.le),(f03.trans f34 (fun _ _ h=>h)).trans f5 (fun _ _ h=>h)⟩
  have bC:V.beq (.agg (ty i).c) (.agg (ty i).c)=true:=by
    have b1:V.beq (ty i).tags (ty i).tags=true:=by
      rcases htg with ⟨h,_,_⟩|⟨b,o,c,M',h,_⟩
      · omega
      · rw[h];cases c<;>simp[V.beq]
    have b3:V.beq (ty i).fields (ty i).fields=true:=by
      rcases hR.row.is with ⟨_,h⟩|⟨b,c,M',h,_⟩
      · rw[h];rfl
      · rw[h];cases c<;>simp[V.beq]
    unfold Ty.c
    simp[V.beq,JY,b1,b3,hitm]
  have bV:V.beq (.agg (Vr 7 l hl r m hm).c) (.agg (Vr 7 l hl r m hm).c)=true:=by
    have b1:V.beq l l=true:=by
      rcases hR.val.is with ⟨_,e⟩|⟨b,c,L,e,_⟩
      · rw[e];rfl
      · rw[e];cases c<;>simp[V.beq]
    have b2:V.beq m m=true:=by
      obtain⟨_,hrow,_⟩:=hrw
      rcases hrow.is with ⟨_,e⟩|⟨b,c,L,e,_⟩
      · rw[e];rfl
      · rw[e];cases c<;>simp[V.beq]
    unfold Vc.c Vr
    simp[V.beq,JY,b1,b2]
  have oT:=(ty i).oneT
  have tbq:V.beq (ty i).tags (ty i).tags=true:=by
    rcases htg with ⟨h,_,_⟩|⟨b,o,c,M',h,_⟩
    · omega
    · rw[h];cases c<;>simp[V.beq]
  have fo:fv.one=true:=hP.one
  have go:FM E D Z3 8 0 AG Q2 UP ⟨[(0,.ptr p 0),(5,.ptr Z.next 0),(7,.ptr Z1.next 0)],Z3.next+8,[Z3.bl],[],0,[]⟩ _ Z5:=
    Cn (.ptr Z1.next 1) rfl rfl <|
    Il (ty i).tags (CU f3.tidy) rfl (D4 (b:=Z1.next) (off:=1) rfl a3 rfl f3.tidy (fun h=>h) tbq) fun _ r1=>
    Cn (.ptr p 0) rfl rfl <|
    Il (.agg (ty i).c) r1 rfl (Ei (b:=Z1.next) (off:=0) rfl a3 rfl rfl f3.tidy (fun h=>h) bC) fun _ r2=>
    Il (.agg (Vr 7 l hl r m hm).c) r2 rfl (Ei (b:=Z.next) (off:=0) rfl a13 rfl rfl f3.tidy (fun h=>h) bV) fun _ r3=>
    Js fv r3 rfl (by decide) f4 (fun _ _ h=>h) (fun _ h _ _=>h) (Dq (vs:=[.ptr p 0,.agg (ty i).c,.agg (Vr 7 l hl r m hm).c]) rfl rfl g4) fun _ _ _ r4=>
    Js u r4 rfl (by decide) f5 (fun _ _ h=>h) (fun _ h _ _=>h) (Dq (vs:=[(ty i).tags,.bool true,fv]) rfl (by rw[Bj,Be oT];show (true&&(true&&(fv.live&&true)))=true;rw[Be fo];rfl) g5) fun _ _ _ r5=>
    Cn u rfl (ER rfl (Be h5.1.one)) <|
    HZ r5
  obtain⟨d1,d2⟩:=Fg (ops:=Q2) go
  obtain⟨env,d1,l6⟩:∃env,AT E D Q2 UP [(0,.ptr p 0),(5,.ptr Z.next 0),(7,.ptr Z1.next 0)] Z3=some (env,Z5)/\Go.Og.look env 6=some u:=⟨_,d1,rfl⟩
  have gd:∀J:Bz->H->AH,Ci (AT E D Q2 UP [(0,.ptr p 0),(5,.ptr Z.next 0),(7,.ptr Z1.next 0)] Z3) J=J env Z5:=fun J=>by rw[d1];rfl
  have m6:∀J:V->AH,BR env 6 J=J u:=fun J=>BU l6 (Be h5.1.one)
  unfold Vc.c Vr at e1 a13
  unfold Lm at e2
  have l0:∀J:V->AH,Bc E Z3 Z1.next 0 J=J (.int .i64 (AA 7)):=fun J=>CK a3 (by rw[<-hk];rfl)
  unfold Ty.c at rd g3
  have key:∀K,H3 E D (AT E D) K p 0 (AA i) (AA 7) (AA 0) .nils l r m Z=K p 0 Z.next 0 Z1.next 0 (AA 7) false Z3:=fun K=>by
    unfold H3
    simp -implicitDefEqProofs only [↓rP,rA,AD,AF,AB,hl,hm,↓e1,↓ttp,↓rd,(ty i).oneT,(ty i).oneI,(ty i).oneF,↓e2,↓g3,↓l0,BW,show decide (7=1)=false from rfl,show decide (7=2)=false from rfl,show decide (7=3)=false from rfl]
  show H3 E D (AT E D) (Xv E D (AT E D) N) p 0 (AA i) (AA 7) (AA 0) .nils l r m Z=some (u,Z5)
  refine(key _).trans ?_
  show Km E D (AT E D) _ (Ni E D (AT E D) (Qb E D (AT E D))) p 0 Z.next 0 Z1.next 0 (AA 7) false Z3=_
  unfold Km Ni
  simp -implicitDefEqProofs only [↓rP,rA,AD,AF,AB,BW,show decide (7=10)=false from rfl,show decide (7=9)=false from rfl,decide_true,↓gd,↓m6]
end
def EC (ES:List (List Nat)):List Nat:=128::0::ES.flatten
def Mk (e:List Nat):List Nat:=ZE 0 true 16 e
def SW (P:List (List Nat)->Prop) (Pt:H->Prop) (nf:Nat) (nm:BS) (nv rv tv:V) (F:List V->H->AH):Prop:=∀{Z:H} {q r:Nat} {m:V} {hm:m.one=true} {ES:List (List Nat)},Aj Z->Pt Z->kE P Z nf q m r ES->ES.flatten.length<=10000->∃w Z',F [.agg [.str nm,nv,rv,tv],.int .i64 (AA 0),.agg (vQ nf q r m hm).c] Z=some (.tup [w,.int .i64 (AA 0)],Z')/\w.one=true/\Oc Z' w (Mk (EC ES))/\Fr AG Z Z'
section
variable {E:EB} {D D':Ak} {W:AI} {N:Nat} {B Wi:List V->H->AH} {Pt:H->Prop} {nf:Nat} {nm:BS} {nv rv tv:V} {ty:Nat->Ty} {fd:Nat->Fd} {P:List (List Nat)->Prop}
theorem xE.pos {e:List Nat} (h:xE e):0<e.length:=by
 obtain⟨t,mk,body,k,h,_⟩:=h
 obtain⟨x,r,rfl,_⟩:=h.hd.c
 simp
theorem iu (h12:nf=1\/nf=2) (l:List Int):Dw (yf 0 l) nf 0=[l]:=by rcases h12 with rfl | rfl<;>rfl
theorem aV (ES:List (List Nat)):(ES.map nI).flatten=nI ES.flatten:=by
 unfold nI;rw[List.map_flatten]
theorem bA (hT:ZF B Wi Pt nf nm nv rv tv ty fd) (hFi:XR P Pt nf nm nv rv tv (D 40)) (hRu:dB P nf (D 41)) (hE:dK D' (D 42)) (hL:sX E (D' 42)):SW P Pt nf nm nv rv tv (vx E D W N):=by
 intro Z q r m hm ES ht hp hr hlen
 obtain⟨o1,o2,o3⟩:=hT.ones
 have h12:=hT.nf12
 have pe:(Dw (yf 0 (nI [128,0])) nf 0++ES.map nI).flatten=nI (EC ES):=by
  rw[iu h12,IL,S1,aV]
  unfold EC nI;rw[<-G4];rfl
 have cl:(EC ES).length=ES.flatten.length+2:=by unfold EC;simp
 have eE:YW 0 true 16 (nI (EC ES))=nI (Mk (EC ES)):=bE (.inl rfl) true (by decide) (by omega)
 have rl:(Mk (EC ES)).length<=(EC ES).length+6:=by
  unfold Mk ZE
  obtain⟨x,r',e,_,_,_,_,h3,_⟩:=lu (c:=0) (.inl rfl) true (k:=16) (by decide)
  obtain⟨_,_,l3,_⟩:=mH (n:=(EC ES).length) (by omega)
  rw[e]
  simp only[AQ,Ay];omega
 obtain⟨w,e,Z',g,wo,f,q1,q2⟩:=bB (E:=E) (D:=D) (W:=W) (N:=N) (v:=vQ nf q r m hm) (O:=nI (Mk (EC ES))) (fb:=true) (i:=0) (nm:=nm) ht (hT.row Z hp) o1 o2 o3 (fun Z1 h1 f=>hFi h1 (hT.ptf _ _ ht f hp) (hr.fr0 f ht)) (fun _ Z1 h1 f=>hRu h1 (hr.fr0 f ht)) (fun _=>⟨by rw[C0];omega,fun Z1 p f hc=>by
   have hr1:=hr.fr0 f ht
   have hp1:=hT.ptf _ _ ht f hp
   have ht1:=f.tidy
   have key:=hE (Z:=Z1) (hl:=rfl) (hm:=hm) (r:=AA r) (l := .sl q 0 nf (.ex nf)) (g:=gS (NZ nf)) (fd:=fd) (pts:=yf 0 (nI [128,0])) ht1 hc (by omega) hT.k0 (hT.tg0 Z1 hp1) hT.itm ⟨fun k hk=>by
     rcases OB h12 k hk with ⟨rfl,e⟩|⟨h0,e⟩
     ·rw[e]
      refine⟨.val rfl (hT.fty 0 hk).1 rfl fun Z2 f2=>?_,_,0,0,GY.nils,GY.nils,GY.nils⟩
      have:=hL f2.tidy (hc.fr f2 ht1) (i:=1) (v:=vB 4 0) (x:=[]) (tl:=[(2,0)]) (by omega) (hT.kd 0 hk).1 (hT.tg Z2 0 (hT.ptf _ _ ht1 f2 hp1) hk) ⟨.inl rfl,fun t ht=>by rw[CE.1 ht];exact⟨.inr rfl,by decide⟩⟩ .nul
      exact this
     ·rw[e]
      have:yf 0 (nI [128,0]) k=none:=by
       unfold yf
       rw[show AW k 0=false from by rw[<-IX,AS];omega]
      rw[this]
      exact⟨.abs rfl,0,0,0,GY.nils,GY.nils,GY.nils⟩,hT.frow Z1 hp1,Rk h12 hr1.at_,by omega⟩ hr1.rv.rw hr1.few (fun e he=>(hr1.fre e he).pos) (by omega) (by rw[pe,C0];omega)
   rw[pe,eE]at key
   exact key⟩)
 obtain⟨e0,hn⟩:=q1 rfl
 rw[e0]at g
 exact⟨w,Z',g,wo,Oc.of_dst (by
  have:=hn.1
  rw[C0]at this
  exact this),f⟩
end
def L6 (add:Bool):Nat:=match add with
 | true=>2
 | false=>1
theorem aQ (add:Bool):L6 add=1\/L6 add=2:=by cases add;exact .inl rfl;exact .inr rfl
def tsK (add:Bool):List Nat:=match add with
 | true=>[0,1]
 | false=>[0]
def qQ (x:El):Prop:=P4 x/\x.2.1=2/\2<=x.2.2
theorem qQ.fre {x:El} (h:qQ x):xE x.1:=by
 obtain⟨⟨h1,h2,mk,body,k,h3⟩,h4,h5⟩:=h
 rw[h4]at h3
 exact⟨x.2.2,mk,body,k,h3,h5,h1,h2⟩
def S4:El:=([128,0],(2,0))
theorem qh:P4 S4:=by
 obtain⟨a,b⟩:=re (x:=128) (t:=0) (c:=2) (mk:=false) (body:=[]) (by decide) rfl rfl (by decide) (by decide) (by decide) (by decide)
 exact⟨b,by decide,false,[],2,a⟩
theorem yz:∀(XS:List El) (i:Nat),(∀x∈XS,qQ x)->iG 1 XS i=none
 | [],_,_=>rfl
 | x::XS,i,h=>by
  have hx:=h x Av
  unfold iG
  rw[if_neg (fun e=>by have:=hx.2.2;rw[e]at this;omega)]
  exact yz XS (i+1) fun y hy=>h y (Cu _ hy)
theorem yg (add:Bool) {XS:List El} (h:∀x∈XS,qQ x):NW true (tsK add) (S4::XS)=((match add with
  | true=>[some S4,none]
  | false=>[some S4]),XS):=by
 have e0:pk true 0 (S4::XS)=(some S4,XS):=rfl
 have e1:pk true 1 XS=(none,XS):=by
  unfold pk;rw[yz XS 0 h]
 cases add with
 | true=>
  show ((pk true 0 (S4::XS)).1::(NW true [1] (pk true 0 (S4::XS)).2).1,(NW true [1] (pk true 0 (S4::XS)).2).2)=_
  rw[e0]
  show (some S4::((pk true 1 XS).1::(NW true [] (pk true 1 XS).2).1),(NW true [] (pk true 1 XS).2).2)=_
  rw[e1];rfl
 | false=>
  show ((pk true 0 (S4::XS)).1::(NW true [] (pk true 0 (S4::XS)).2).1,(NW true [] (pk true 0 (S4::XS)).2).2)=_
  rw[e0];rfl
theorem AFc {add:Bool} {Zb Z':H} {gs:List Vc} (hg:gs.length=L6 add) (h:∀i,i<L6 add->∃x v,(match add with
  | true=>[some S4,none]
  | false=>[some S4])[i]? = some x/\gs[i]? = some v/\Gd Zb Z' i 4 x v):gs=NZ (L6 add):=by
 have g0:∃v,gs[0]? = some v/\v=vB 4 0:=by
  obtain⟨x,v,h1,h2,h3⟩:=h 0 (by cases add<;>decide)
  have hx:x=some S4:=by cases add<;>(cases h1;rfl)
  subst hx
  obtain⟨_,_,_,_,_,_,hd,_⟩:=h3
  cases hd
  exact⟨_,h2,rfl⟩
 obtain⟨v,e,rfl⟩:=g0
 cases add with
 | false=>
  match gs,hg with
  | [a],_=>simp at e;rw[e];rfl
 | true=>
  obtain⟨x,w,h1,h2,h3⟩:=h 1 (by decide)
  cases h1
  have h3:w=Vc.abs:=h3
  match gs,hg with
  | [a,b],_=>
   simp at e h2
   rw[e,h2,h3];rfl
def SX (Pt:H->Prop) (nf:Nat) (nm:BS) (nv rv tv:V) (F:List V->H->AH):Prop:=∀{Z:H} {q n r:Nat} {m:V} (hm:m.one=true),Aj Z->Pt Z->CB Z q (Ll (NZ nf))->GY m n->0<n->∃w Z',F [.agg [.str nm,nv,rv,tv],.int .i64 (AA 0),.agg (vQ nf q r m hm).c] Z=some (.tup [w,.int .i64 (AA 13)],Z')/\w.one=true/\Fr AG Z Z'
def iv (add:Bool) (XS:List El):Bool:=add || XS.isEmpty
def Qp (add:Bool) (Pt:H->Prop) (nm:BS) (nv rv tv:V) (F:List V->H->AH):Prop:=∀{Z:H} {u:V} {XS:List El},Aj Z->Pt Z->Oc Z u (Mk (EC (XS.map (·.1))))->(∀x∈XS,qQ x)->XS.length<=100->(XS.map (·.1)).flatten.length<=10000 ->
 ∃vc er Z',F [.agg [.str nm,nv,rv,tv],.int .i64 (AA 0),u] Z=some (.tup [.agg vc,.int .i64 (AA er)],Z')/\Fr AG Z Z'/\(iv add XS=true->er=0/\∃(q r:Nat) (m:V) (hm:m.one=true),vc=(vQ (L6 add) q r m hm).c/\CB Z' q (Ll (NZ (L6 add)))/\iK Z' m r (XS.map (·.1)))/\(iv add XS=false->er=4/\vc=EJ)
section
variable {E:EB} {D:Ak} {W:AI} {N M:Nat} {B Wi:List V->H->AH} {Pt:H->Prop} {add:Bool} {nm:BS} {nv rv tv:V} {ty:Nat->Ty} {fd:Nat->Fd}
theorem jT (hT:ZF B Wi Pt 1 nm nv rv tv ty fd) (hmo:(ty 0).more=false) (hFi:dG (D 40)):SX Pt 1 nm nv rv tv (vx E D W N):=by
 intro Z q n r m hm ht hp ha hml h0
 obtain⟨o1,o2,o3⟩:=hT.ones
 obtain⟨w,e,Z',g1,wo,f,_,h⟩:=bB (E:=E) (D:=D) (W:=W) (N:=N) (v:=vQ 1 q r m hm) (O:=[]) (fb:=false) (i:=0) (nm:=nm) ht (hT.row Z hp) o1 o2 o3 (fun Z1 h1 f=>hFi h1 (hT.row Z1 (hT.ptf _ _ ht f hp)) o1 o2 o3 (by decide) hmo hT.k0 (.inl rfl) (hT.frow Z1 (hT.ptf _ _ ht f hp)) ((Rk (.inl rfl) ha).fr0 f ht) hml h0) (fun h=>by cases h) (fun h=>by cases h)
 rw[h rfl]at g1
 exact⟨w,Z',g1,wo,f⟩
theorem ZF.fty' (hT:ZF B Wi Pt (L6 add) nm nv rv tv ty fd) {Z:H} {p:Nat} (hp:Pt Z) (hd:CB Z p [.bool false,.str nm,nv,rv,tv]):lS B Wi Pt Z p (L6 add+1) ty [.str nm,nv,rv,tv] tv (ty 0) (L6 add) fd (fun k=>k+1) (fun k=>k) (fun _=>4):=
 ⟨hT.frow Z hp,fun k hk=>⟨(hT.fty k hk).1,(hT.kd k hk).1,.inr (.inr (.inl rfl)),⟨⟨nm,nv,rv,rfl⟩,hd,hT.row Z hp,by omega,(hT.tg Z k hp hk).s⟩,hT.bw k hk⟩,hT.t4,hp,hT.ptf,hd,hT.itm⟩
theorem bS (hT:ZF B Wi Pt (L6 add) nm nv rv tv ty fd) (hVr:sP B Wi M (D 15)) (hM:200<M) (hEy:SW (fun ES=>add=true\/ES=[]) Pt (L6 add) nm nv rv tv (D 16)) (hEn:add=false->SX Pt (L6 add) nm nv rv tv (D 16)) (hB:XU E (D 17)):Qp add Pt nm nv rv tv (F9 E D (AT E D) N):=by
  intro Z u XS ht hp hu hX hl hfl
  obtain⟨o1,o2,o3⟩:=hT.ones
  obtain⟨ES,hES⟩:∃ES,ES=XS.map (·.1):=⟨_,rfl⟩
  have lE:ES.length=XS.length:=by rw[hES,CY]
  rw[<-hES]at hu hfl ⊢
  have fre:∀e∈ES,xE e:=fun e he=>by
    rw[hES]at he
    obtain⟨x,hx,rfl⟩:=EF.1 he
    exact(hX x hx).fre
  have cb:Ix (EC ES):=fun c hc=>by
    unfold EC at hc
    rcases Ae.1 hc with rfl|hc
    · decide
    · rcases Ae.1 hc with rfl | hc
      · decide
      · obtain⟨e,he,hce⟩:=List.mem_flatten.1 hc
        obtain⟨_,_,_,_,_,_,hb,_⟩:=fre e he
        exact hb c hce
  have cl:(EC ES).length=ES.flatten.length+2:=by unfold EC;simp
  obtain⟨⟨hh,rm⟩,rb,rl,rl2⟩:=mR (c:=0) (.inl rfl) true (k:=16) (by decide) cb (by omega)
  have rm:gH (Mk (EC ES)) 0 16 true (EC ES) hh:=rm
  have rb:Ix (Mk (EC ES)):=rb
  have rl:(Mk (EC ES)).length<=(EC ES).length+6:=rl
  have rl2:2<=(Mk (EC ES)).length:=rl2
  have hpk:=yg add hX
  have hfX:((S4::XS).map (·.1)).flatten=EC ES:=by
    rw[hES];rfl
  refine zO (E:=E) (D:=D) (N:=N) (nT:=L6 add+1) (Q:=fun Z vc=>∃(q r:Nat) (m:V) (hm:m.one=true),vc=(vQ (L6 add) q r m hm).c/\CB Z q (Ll (NZ (L6 add)))/\iK Z m r ES) (L:=Mk (EC ES)) (i0:=0) (nm:=nm) (ok:=iv add XS) ht o1 o2 o3 (hT.row Z hp).len.2 (by omega) hu (by omega) (fun Z1 p f hd=>?_) (fun Z1 Z2 l h1 f ⟨q,r,m,hm,hv,hat,hr⟩=>⟨q,r,m,hm,hv,f.at_ hat h1 (fun h=>h),hr.fr0 f h1⟩) (fun Z2 a b c d e f' f hq=>?_)
  · have hp1:=hT.ptf _ _ ht f hp
    obtain⟨Zb,Z',q,gs,m,g,hg,hat,hgd,hrw,hmn,f'⟩:=hVr (X:=S4::XS) (ts:=tsK add) (K:=7) (un:=16) (i0:=0) (dp:=1) (nf:=L6 add) (L:=Mk (EC ES)) (mk:=true) (h:=hh) f.tidy (hT.fty' hp1 hd) ⟨nm,nv,rv,rfl⟩ (hT.row Z1 hp1) (by omega) hT.k0 (.inl rfl) (hT.tg0 Z1 hp1) (hu.fr0 f ht) rb (by rw[hfX];exact rm) (by omega) (by have:=aQ add;omega) (by have:=aQ add;omega) (by decide) (fun y hy=>by
        rcases Ae.1 hy with rfl|hy
        · exact qh
        · exact(hX y hy).1) (by simp only[Ay];omega) (by simp only[Ay];omega) (by cases add<;>rfl) (fun i t' hi=>by
        cases add with
        | true=>
          match i,hi with
          | 0,hi=>cases hi;rfl
          | 1,hi=>cases hi;rfl
          | i+2,hi=>simp[tsK]at hi
        | false=>
          match i,hi with
          | 0,hi=>cases hi;rfl
          | i+1,hi=>simp[tsK]at hi)
    have e7:decide (7=7)=true:=rfl
    rw[e7,hpk]at g hgd hrw hmn
    have g:D 15 [.ptr p 0,.int .i64 (AA 0),u,.int .i64 (AA 1)] Z1=some (.agg [.int .i64 (AA 7),.int .i64 (AA 0),.nils,.sl q 0 (L6 add) (.ex (L6 add)),.int .i64 (AA (mB (XS.map (·.1)))),m],Z'):=g
    have hrw:JZ Zb Z' m (XS.map (·.1)):=hrw
    have hmn:XS=[]->m = .nils:=hmn
    rw[<-hES]at g hrw
    have hmo:m.one=true:=hrw.one
    refine⟨AA 7,AA 0,.nils,.sl q 0 (L6 add) (.ex (L6 add)),_,m,Z',g,rfl,rfl,hmo,⟨q,mB ES,m,hmo,rfl,?_,hrw.rwR,fun e=>⟨hmn ?_,by rw[e];rfl⟩,fun e=>?_⟩,f'⟩
    · rw[<-AFc hg hgd];exact hat
    · rw[e]at hES
      exact List.map_eq_nil_iff.1 hES.symm
    · cases ES with
      | nil=>exact absurd rfl e
      | cons a r=>rfl
  · obtain⟨q,r,m,hm,hv,hat,hr⟩:=hq
    rw[hv]
    have hp2:=hT.ptf _ _ ht f hp
    cases hok:iv add XS with
    | true=>
      have hP:add=true\/ES=[]:=by
        unfold iv at hok
        rw[BN]at hok
        rcases hok with h|h
        · exact .inl h
        · exact .inr (by rw[hES,List.isEmpty_iff.1 h];rfl)
      obtain⟨w,Z3,g,wo,ow,f3⟩:=hEy (hm:=hm) f.tidy hp2 ⟨hat,hr,fre,by omega,hP⟩ hfl
      refine⟨w,_,Z3,g,wo,f3,.inr ⟨rfl,fun Z4 f4=>?_⟩⟩
      have:=hB (ow.fr0 f4 f3.tidy) ((hu.fr0 (f.trans f3 (fun _ _ h=>h)) ht).fr0 f4 f3.tidy) rb rb (by omega) (by omega)
      rw[this,decide_eq_true rfl]
    | false=>
      unfold iv at hok
      rw[BJ]at hok
      have hne:ES≠[]:=fun e=>by
        rw[e]at hES
        rw[List.map_eq_nil_iff.1 hES.symm]at hok
        cases hok.2
      obtain⟨w,Z3,g,ow,f3⟩:=hEn hok.1 hm (r:=r) f.tidy hp2 hat hr.rw.len (List.length_pos_iff.2 hne)
      exact⟨w,_,Z3,g,ow,f3,.inl ⟨rfl,rfl⟩⟩
end
structure WtK (Z:H) (wb nf:Nat) (ES:List (List Nat)) (l m:V) (r:Nat):Prop where
 at_:CB Z wb [.int .i64 (AA 7),.int .i64 (AA 0),.nils,l,.int .i64 (AA r),m]
 ol:l.one=true
 om:m.one=true
 row:Ea Z 6 nf l fun k=>(gS (NZ nf) k).c
 rv:iK Z m r ES
theorem iK.r {Z Z':H} {m m':V} {r r':Nat} {ES:List (List Nat)} (h:iK Z m r ES) (k:iK Z' m' r' ES):r=r':=by
 by_cases e:ES=[]
 ·rw[(h.no e).2,(k.no e).2]
 ·rw[h.yes e,k.yes e]
section
variable {E:EB} {D:Ak} {N:Nat} {Pt:H->Prop} {add:Bool} {nm:BS} {nv rv tv:V}
theorem yn (hEl:Qo E (D 8)) (hDc:Qp add Pt nm nv rv tv (D 9)) (hAw:kA (D 10)) (hZ:Qm (D 11)) (hV:UC (D 11)) (hptf:∀Z Z',Aj Z->Fr AG Z Z'->Pt Z->Pt Z') (h4:iJ [.str nm,nv,rv,tv])
    {Z:H} {bv a lv mv:V} {tb wb r n:Nat} {XS:List El} (ht:Aj Z) (hp:Pt Z) (atb:CB Z tb [.str nm,nv,rv,tv]) (hb:By Z bv (nI (EC (XS.map (·.1))))) (hw:WtK Z wb (L6 add) (XS.map (·.1)) lv mv r) (oa:a.one=true) (sla:∀J:Nat->AH,A2 a J=J n) (hn:n=XS.length)
    (hk:∀x∈XS,qQ x) (hl:XS.length<=100) (hfl:(XS.map (·.1)).flatten.length<=10000) :
    ∃Z',j5 E D (AT E D) a add tb 0 true bv wb 0 Z=some (.bool true,Z'):=by
  obtain⟨_,_,_,_,e,o1,o2,o3,b1,b2,b3⟩:=h4.ex
  injection e with e1 e
  injection e with e2 e
  injection e with e3 e
  injection e with e4 e
  subst e2;subst e3;subst e4
  have cl:(EC (XS.map (·.1))).length=(XS.map (·.1)).flatten.length+2:=by unfold EC;simp
  have la:=Be oa
  have fw:Fr AG Z ⟨Z.next+11,Z.bl⟩:=(CU (E:=E) (n:=11) (S:=AG) ht).fr
  obtain⟨u1,Z1,g1,h1,f1⟩:=hEl (c:=0) (k:=16) (l:=nI (EC (XS.map (·.1)))) true fw.tidy (.inl rfl) (by decide) (by rw[C0];omega) (Bx.of (hb.fr fw ht) fw.tidy)
  rw[bE (.inl rfl) true (by decide) (by omega)]at h1
  have F1:Fr AG Z Z1:=fw.trans f1 (fun _ _ h=>h)
  have ou:Oc Z1 u1 (Mk (EC (XS.map (·.1)))):=Oc.of_dst (by
    have:=h1.1
    rw[C0]at this
    exact this)
  obtain⟨vc,er,Z2,g2,f2,k1,k2⟩:=hDc F1.tidy (hptf _ _ ht F1 hp) ou hk hl hfl
  have F2:Fr AG Z Z2:=F1.trans f2 (fun _ _ h=>h)
  have n1:Z.next+11<=Z1.next:=f1.le
  have n2:Z1.next<=Z2.next:=f2.le
  obtain⟨good,hgd⟩:∃b,b=iv add XS:=⟨_,rfl⟩
  rw[<-hgd]at k1 k2
  have hvc:vc.length=6/\allOne vc=true:=by
    cases good with
    | true=>
      obtain⟨_,q,r',m,hm,rfl,_⟩:=k1 rfl
      exact⟨rfl,Vc.allOne _⟩
    | false=>
      obtain⟨_,rfl⟩:=k2 rfl
      exact⟨rfl,rfl⟩
  obtain⟨vl,vo⟩:=hvc
  let Z3:H:=⟨Z2.next,(Z.next+8,.cells EJ)::Z2.bl⟩
  have F3:Fr AG Z Z3:=⟨fun c hc=>by
    have hc:Z2.next<=c:=hc
    show BC ((Z.next+8,_)::Z2.bl) c=none
    rw[Az,if_neg (by simp only[];omega)];exact f2.tidy c hc,F2.le,fun c hc _=>by
    show BC ((Z.next+8,_)::Z2.bl) c=_
    rw[Az,if_neg (by simp only[];omega)];exact F2.same c hc (fun h=>h)⟩
  have a3:CB Z3 (Z.next+8) EJ:=by
    show BC ((Z.next+8,_)::Z2.bl) _=_
    rw[Az,if_pos rfl]
  obtain⟨Z4,g4,f4,a4⟩:∃Z4,Dp E D (.store 6 (.tmp 14) (.tmp 85)) [(14,.ptr (Z.next+8) 0),(85,.agg vc)] Z3=some (.dead,Z4)/\Fr (fun b=>b=Z.next+8) Z3 Z4/\CB Z4 (Z.next+8) vc:=by
    obtain⟨Z4,r1,r2,r3⟩:=Kv (E:=E) (D:=D) (n:=6) (x := .tmp 14) (y := .tmp 85) (e:=[(14,.ptr (Z.next+8) 0),(85,.agg vc)]) F3.tidy a3 rfl (show (CI [(14,.ptr (Z.next+8) 0),(85,.agg vc)] (.tmp 85)).cells=vc from rfl) (by rw[vl,vo];rfl)
    have:HK EJ 0 vc=vc:=by
      match vc,vl with
      | [a,b,c,d,e,f],_=>rfl
    rw[this]at r3
    exact⟨Z4,r1,r2,r3⟩
  have bo:=hb.one
  have ab:V.beq (.agg [.str nm,nv,rv,tv]) (.agg [.str nm,nv,rv,tv])=true:=by simp[V.beq,JY,b1,b2,b3]
  have go:FM E D Z 11 0 AG Y0 ft ⟨[(0,a),(2,.bool add),(8,.ptr tb 0),(9,.bool true),(10,bv),(11,.ptr wb 0)],Z.next+11,[Z.bl],[],0,[]⟩ _ Z4:=
    Il (.agg [.str nm,nv,rv,tv]) (CU ht) rfl (Ei (b:=tb) (off:=0) (m:=4) rfl atb rfl rfl ht (fun h=>h) ab) fun _ r1=>
    Cn (.agg [.int .i64 (AA 0),.int .i64 (AA 16)]) rfl rfl <|
    Cn bv rfl (ER rfl (Be bo)) <|
    Js u1 r1 rfl (by decide) f1 (fun _ _ h=>h) (fun _ h _ _=>h) (Dq (vs:=[.agg [.int .i64 (AA 0),.int .i64 (AA 16)],.bool true,bv]) rfl (by rw[Bj,Bj,Bj,Be bo];rfl) g1) fun _ _ _ r2=>
    Js (.tup [.agg vc,.int .i64 (AA er)]) r2 rfl (by decide) f2 (fun _ _ h=>h) (fun _ h _ _=>h) (Dq (vs:=[.agg [.str nm,nv,rv,tv],.int .i64 (AA 0),u1]) rfl (by rw[Bj,Bj,Bj,Be h1.1.one];rfl) g2) fun _ _ _ r3=>
    Cn (.tup [.agg vc,.int .i64 (AA er)]) rfl rfl <|
    Cn (.agg vc) rfl rfl <|
    Cn (.int .i64 (AA er)) rfl rfl <|
    YR (.ptr (Z.next+8) 0) (.cells EJ) 256 r3 rfl (by decide) (by decide) rfl fun _ r4=>
    mL .dead r4 rfl (by decide) f4 (fun b h e=>by omega) (fun b e h1 h2=>by subst e;rw[FC];decide) g4 fun _ _ _ r5=>
    Cn (.int .i64 (AA er)) rfl rfl <|
    HZ r5
  obtain⟨ev,d,y0,y2,y9,lq,ZJ,V5⟩:∃ev,AT E D Y0 ft [(0,a),(2,.bool add),(8,.ptr tb 0),(9,.bool true),(10,bv),(11,.ptr wb 0)] Z=some (ev,Z4)/\Go.Og.look ev 0=some a/\Go.Og.look ev 2=some (.bool add)/\Go.Og.look ev 9=some (.bool true)/\Go.Og.look ev 11=some (.ptr wb 0)/\Go.Og.look ev 14=some (.ptr (Z.next+8) 0)/\Go.Og.look ev 15=some (.int .i64 (AA er)):=⟨_,(Fg (ops:=Y0) go).1,rfl,rfl,rfl,rfl,rfl,rfl⟩
  have F4:Fr AG Z Z4:=F3.trans f4 (fun b hb e=>by omega)
  have gd:∀J:Bz->H->AH,Ci (AT E D Y0 ft [(0,a),(2,.bool add),(8,.ptr tb 0),(9,.bool true),(10,bv),(11,.ptr wb 0)] Z) J=J ev Z4:=fun J=>by rw[d];rfl
  have z0:∀J:V->AH,BR ev 0 J=J a:=fun J=>BU y0 la
  have z2:∀J:V->AH,BR ev 2 J=J (.bool add):=fun J=>BU y2 rfl
  have z9:∀J:V->AH,BR ev 9 J=J (.bool true):=fun J=>BU y9 rfl
  have z11:∀J:V->AH,BR ev 11 J=J (.ptr wb 0):=fun J=>BU lq rfl
  have z14:∀J:V->AH,BR ev 14 J=J (.ptr (Z.next+8) 0):=fun J=>BU ZJ rfl
  have z15:∀J:V->AH,BR ev 15 J=J (.int .i64 (AA er)):=fun J=>BU V5 rfl
  obtain⟨Z5,g5,f5⟩:=hAw Z4 F4.tidy
  have F5:Fr AG Z Z5:=F4.trans f5 (fun _ _ h=>h)
  have a5:=f5.at_ a4 F4.tidy (fun h=>h)
  have ld:∀J:List V->AH,BH E Z5 (Z.next+8) 0 6 J=J vc:=fun J=>by
    rw[Au a5,Hs (by omega),Ca,<-vl,DU]
  cases good with
  | false=>
    obtain⟨rfl,rfl⟩:=k2 rfl
    obtain⟨Z6,g6,f6⟩:=hZ (Z:=Z5) Vc.abs F5.tidy ⟨rfl,rfl,rfl⟩
    refine⟨Z6,?_⟩
    unfold iv at hgd
    have hgd:=hgd.symm
    rw[BJ]at hgd
    obtain⟨ha,he⟩:=hgd
    have dn:decide (0<n)=true:=decide_eq_true (by
      cases XS with
      | nil=>cases he
      | cons x r=>rw[hn];simp)
    subst ha
    unfold Vc.c Vc.abs at g6
    unfold EJ at ld
    unfold j5
    simp -implicitDefEqProofs only [↓rP,rA,AD,AF,AB,↓gd,↓z0,↓z2,↓z9,↓z11,↓z14,↓z15,↓sla,dn,↓g5,BW,decide_true,↓ld,↓g6,Dj]
  | true=>
    obtain⟨rfl,q,r',m,hm,rfl,hat,hrv⟩:=k1 rfl
    have er:r'=r:=hrv.r hw.rv
    subst er
    have qlt:q<Z2.next:=hat.lt f2.tidy
    have n8:BC Z2.bl (Z.next+8)=none:=by
      have e1:BC Z2.bl (Z.next+8)=BC Z1.bl (Z.next+8):=f2.same _ (by omega) (fun h=>h)
      have e2:BC Z1.bl (Z.next+8)=BC Z.bl (Z.next+8):=f1.same _ (by show Z.next+8<Z.next+11;omega) (fun h=>h)
      rw[e1,e2]
      exact ht _ (by omega)
    have f25:Fr (fun b=>b=Z.next+8) Z2 Z3:=⟨F3.tidy,AL _,fun b hb hn=>by
      show BC ((Z.next+8,_)::Z2.bl) b=_
      rw[Az,if_neg (fun e=>hn e.symm)]⟩
    have f24:Fr (fun b=>b=Z.next+8) Z2 Z4:=f25.trans f4 (fun _ _ h=>h)
    have ne8:∀{b:Nat} {c:List V},CB Z2 b c->b≠Z.next+8:=fun {b c} h e=>by
      have:BC Z2.bl b=some (.cells c):=h
      rw[e,n8]at this
      cases this
    have aq5:CB Z5 q (Ll (NZ (L6 add))):=f5.at_ (f24.at_ hat f2.tidy (ne8 hat)) F4.tidy (fun h=>h)
    have rw5:Qu Z5 m (XS.map (·.1)):=by
      obtain⟨bs,q1,q2⟩:=hrv.rw
      refine⟨bs,(q1.fr f24 f2.tidy (fun b hb=>?_)).fr0 f5 F4.tidy,fun i e hi=>((q2 i e hi).fr f24 f2.tidy (fun b hb=>?_)).fr0 f5 F4.tidy⟩
      · rcases q1.is with ⟨_,e⟩ | ⟨b',c,L,e,ha,_⟩
        · rw[e]at hb;exact hb.elim
        · rw[e]at hb;cases hb;exact ne8 ha
      · rcases q2 i e hi with ⟨_,hem⟩ | ⟨b',o,c,M,e',_,ha,_⟩
        · exact absurd hb (hem.p.2.2.2.2.2 b)
        · rw[e']at hb;cases hb;exact ne8 ha
    have aw5:=F5.at_ hw.at_ ht (fun h=>h)
    have h12:=aQ add
    obtain⟨Z6,g6,f6⟩:=hV (Z:=Z5) (l := .sl q 0 (L6 add) (.ex (L6 add))) (l':=lv) (m:=m) (m':=mv) (hl:=rfl) (hl':=hw.ol) (hm:=hm) (hm':=hw.om) (K:=7) (r:=AA r') (g:=gS (NZ (L6 add))) F5.tidy (Rk h12 aq5) (hw.row.fr0 F5 ht) (Uv h12) (by omega) rw5 (hw.rv.rw.fr0 F5 ht) (by rw[CY];omega)
    refine⟨Z6,?_⟩
    have ldw:∀J:List V->AH,BH E Z5 wb 0 6 J=J [.int .i64 (AA 7),.int .i64 (AA 0),.nils,lv,.int .i64 (AA r'),mv]:=fun J=>by rw[Au aw5];rfl
    have om:=hw.om
    have ol:=hw.ol
    unfold Vc.c Vr at g6
    unfold vQ Vc.c Vr at ld
    unfold iv at hgd
    have hgd:=hgd.symm
    unfold j5
    cases add with
    | true=>simp -implicitDefEqProofs only [↓rP,rA,AD,AF,AB,↓gd,↓z0,↓z2,↓z9,↓z11,↓z14,↓z15,↓sla,↓g5,BW,decide_true,↓ld,↓ldw,↓g6,Bt]
    | false=>
      rw[DN]at hgd
      have dn:decide (0<n)=false:=decide_eq_false (by
        rw[hn,List.isEmpty_iff.1 hgd];simp)
      simp -implicitDefEqProofs only [↓rP,rA,AD,AF,AB,↓gd,↓z0,↓z2,↓z9,↓z11,↓z14,↓z15,↓sla,dn,↓g5,BW,decide_true,↓ld,↓ldw,↓g6,Dj]
end
structure xQ (E:EB) (v:V) (n:Nat) (f:Nat->Int):Prop where
 len:∀J:Nat->AH,A2 v J=J n
 rd:∀(Z:H) (i:Nat) (J:V->AH),i<n->BC Z.bl 50=none->AU 1 v (AA i) (fun b o=>Bc E Z b o J)=J (.int .i64 (f i))
def kK (f:Nat->Int) (i:Nat):Nat:=2+(E3 (An .u64 (f i)) (AA 5000)).toNat
def rI (f:Nat->Int) (i:Nat):Bool:=B4 (Eo .i64 (f i) (AA 1)) (AA 0)
theorem yt (f:Nat->Int) (i:Nat):CR .i64 (AA 2) (An .i64 (E3 (An .u64 (f i)) (AA 5000)))=AA (kK f i)/\2<=kK f i/\kK f i<16384:=by
 obtain⟨k,hk⟩:∃k:Nat,An .u64 (f i)=AA k:=by
  rw[OL]
  exact Int.eq_ofNat_of_zero_le (Int.emod_nonneg _ (by decide))
 have e:E3 (An .u64 (f i)) (AA 5000)=AA (k % 5000):=by rw[hk];rfl
 have h:=wj k (show 0<5000 by decide)
 have e2:kK f i=2+k % 5000:=by unfold kK;rw[e];rfl
 rw[e,e2,BV (show k % 5000<=9223372036854775807 by omega)]
 exact⟨Bb (by omega),by omega,by omega⟩
def rh (f:Nat->Int) (c:List Nat) (i:Nat):El:=(ZE 2 (rI f i) (kK f i) c,(2,kK f i))
def W1 (f:Nat->Int) (c:List Nat) (i:Nat):List El:=(Cz i).map (rh f c)
theorem T2 (f:Nat->Int) (c:List Nat) (i:Nat):W1 f c (i+1)=W1 f c i++[rh f c i]:=by
 unfold W1;rw[List.range_succ,G4];rfl
theorem SK (f:Nat->Int) (c:List Nat) (i:Nat):(W1 f c i).length=i:=by unfold W1;rw[CY,List.length_range]
theorem Uy (f:Nat->Int) {c:List Nat} (hc:Ix c) (hl:c.length<=200) (i:Nat):qQ (rh f c i)/\(rh f c i).1.length<=206:=by
 obtain⟨_,h1,h2⟩:=yt f i
 obtain⟨⟨h,he⟩,hb,hle,_⟩:=mR (c:=2) (.inr rfl) (rI f i) h2 hc (by omega)
 exact⟨⟨⟨hb,by show (ZE 2 (rI f i) (kK f i) c).length<=100000;omega,_,c,h,he⟩,rfl,h1⟩,by show (ZE 2 (rI f i) (kK f i) c).length<=206;omega⟩
theorem r9 (f:Nat->Int) {c:List Nat} (hc:Ix c) (hl:c.length<=200) (i:Nat):∀x∈W1 f c i,qQ x:=by
 intro x hx
 unfold W1 at hx
 obtain⟨j,_,rfl⟩:=EF.1 hx
 exact(Uy f hc hl j).1
theorem VJ (f:Nat->Int) {c:List Nat} (hc:Ix c) (hl:c.length<=200):∀i,((W1 f c i).map (·.1)).flatten.length<=206*i
 | 0=>AL _
 | i+1=>by
  have ih:=VJ f hc hl i
  have:=(Uy f hc hl i).2
  rw[T2,G4,IL,AQ]
  show _+([(rh f c i).1]).flatten.length<=_
  rw[S1];omega
structure Lk (Z1 Z:H) (wb tb nf:Nat) (Fz:List V) (ES:List (List Nat)) (h l m:V) (r:Nat):Prop where
 f1:Fr AG Z1 Z
 dst:Hr Z 1 (nI (EC ES)).length h (Ho (nI (EC ES)))
 hge:∀b,Al h b->Z1.next<=b
 mge:∀b,Al m b->Z1.next<=b
 at_:CB Z wb [.int .i64 (AA 7),.int .i64 (AA 0),.nils,l,.int .i64 (AA r),m]
 ol:l.one=true
 row:Ea Z 6 nf l fun k=>(gS (NZ nf) k).c
 raw:∃bs:List V,Hr Z 2 ES.length m (WE bs)/\bs.length=ES.length/\∀(i:Nat) (e:List Nat),ES[i]? = some e->∃b,bs[i]? = some b/\Oc Z b e/\∀c,Al b c->¬Al h c/\¬Al m c/\c≠wb
 no:ES=[]->m = .nils/\r=0
 yes:ES≠[]->r=1
 tbl:CB Z tb Fz
 hw:¬Al h wb
 mw:¬Al m wb
 lw:¬Al l wb
 hm:∀b,Al h b->¬Al m b
 hl:∀b,Al h b->¬Al l b
 ml:∀b,Al m b->¬Al l b
 tw:tb≠wb
 th:¬Al h tb
 tm:¬Al m tb
theorem Ea.names {Z:H} {esz n:Nat} {v:V} {g:Nat->List V} (h:Ea Z esz n v g) (ht:Aj Z):∀b,Al v b->b<Z.next:=by
 intro b hb
 rcases h.is with ⟨_,rfl⟩|⟨b',c,L,rfl,ha,_⟩
 ·exact hb.elim
 ·cases hb;exact ha.lt ht
section
variable {E:EB} {D:Ak} {N:Nat}
theorem YI (hEl:Qo E (D 8)) {Z1 Z:H} {wb tb nf n r:Nat} {Fz:List V} {a cv h l m:V} {f:Nat->Int} {c:List Nat} {i:Nat} (add:Bool) (h100:100<=Z1.next) (h50:BC Z1.bl 50=none) (ha:xQ E a n f) (hi:i<n) (hn:n<=6) (hc:Ix c) (hcl:c.length<=200) (hcv:Bx E Z1 cv (nI c)) (hwb:Z1.next<=wb)
    (hs:Lk Z1 Z wb tb nf Fz ((W1 f c i).map (·.1)) h l m r) :
    ∃h' m' Z',(∀K3 R4,Yv E D (AT E D) K3 R4 a cv add tb 0 true h wb 0 (AA i) Z=R4 a cv add tb 0 true h' wb 0 (AA (i+1)) Z')/\Lk Z1 Z' wb tb nf Fz ((W1 f c (i+1)).map (·.1)) h' l m' 1:=by
  have ht:=hs.f1.tidy
  obtain⟨ek,k2,k3⟩:=yt f i
  have cfl:=VJ f hc hcl i
  have eok:=Uy f hc hcl i
  obtain⟨ES,hES⟩:∃ES,ES=(W1 f c i).map (·.1):=⟨_,rfl⟩
  have hES1:(W1 f c (i+1)).map (·.1)=ES++[(rh f c i).1]:=by rw[T2,G4,hES];rfl
  have lES:ES.length=i:=by rw[hES,CY,SK]
  rw[<-hES]at hs cfl
  rw[hES1]
  have cl:(EC ES).length=ES.flatten.length+2:=by unfold EC;simp
  obtain⟨e,he⟩:∃e,e=(rh f c i).1:=⟨_,rfl⟩
  have hle:e.length<=206:=by rw[he];exact eok.2
  obtain⟨u,Z2,g2,h2,f2⟩:=hEl (c:=2) (k:=kK f i) (l:=nI c) (rI f i) ht (.inr rfl) k3 (by rw[C0];omega) (hcv.fr hs.f1)
  rw[bE (.inr rfl) (rI f i) k3 (by omega)]at h2
  have h2:Nb Z Z2 u (nI e):=by rw[he];exact h2
  have d2:=hs.dst.fr f2 ht (fun _ _ h=>h)
  obtain⟨h',Z3,g3,d3,nm3,f3⟩:=SJ (E:=E) (bytes:=1) d2 f2.tidy h2.by_ (Lp _) (by
    unfold CT
    rw[C0,C0]
    simp only[CG,AJ,BF];omega)
  have lt_h:∀b,Al h b->b<Z.next:=fun b hb=>hs.dst.lt ht hb
  obtain⟨bs,r1,r2,r3⟩:=hs.raw
  have lt_m:∀b,Al m b->b<Z.next:=fun b hb=>r1.lt ht hb
  have lt_w:=hs.at_.lt ht
  have lt_t:=hs.tbl.lt ht
  have lt_l:=hs.row.names ht
  have le2:=f2.le
  have le3:=f3.le
  have w3:=f3.at_ (f2.at_ hs.at_ ht (fun h=>h)) f2.tidy hs.hw
  obtain⟨Z4,g4,f4,w4,n4⟩:=E4 (n:=1) (o:=4) (v := .int .i64 (AA 1)) f3.tidy w3 rfl
  have w4:CB Z4 wb [.int .i64 (AA 7),.int .i64 (AA 0),.nils,l,.int .i64 (AA 1),m]:=w4
  have le4:=f4.le
  have uo:=h2.1.one
  obtain⟨Z5,e5,f5,a5,n5⟩:=Ih f4.tidy [.int .i64 (AA 0),u]
  have Fh:Fr (fun b=>Al h b\/b=wb) Z Z5:=(((Fr.to_any f2).trans f3 (fun b hb e => .inl e)).trans f4 (fun b hb e => .inr e)).trans f5 (fun b hb e=>e.elim)
  have m5:Hr Z5 2 ES.length m (WE bs):=r1.fr Fh ht (fun b hb e=>by
    rcases e with e|e
    · exact hs.hm b e hb
    · subst e;exact hs.mw hb)
  have om:=r1.one
  have le5:=f5.le
  obtain⟨m',Z6,g6,d6,nm6,f6⟩:=SJ (E:=E) (bytes:=32) (n:=1) m5 f5.tidy (x := .sl Z4.next 0 1 (.ex 1)) (m:=[.int .i64 (AA 0),u]) (.inr ⟨Z4.next,0,_,_,rfl,a5,by simp,rfl⟩) (by simp[BL,Bk,uo,Df]) (by
    unfold CT
    simp only[AJ,BF];omega)
  have d6:Hr Z6 2 (ES.length+1) m' (WE (bs++[u])):=by rw[WD];exact d6
  have mo':=d6.one
  have le6:=f6.le
  have ne4:Z4.next≠wb:=by omega
  have w6:CB Z6 wb [.int .i64 (AA 7),.int .i64 (AA 0),.nils,l,.int .i64 (AA 1),m]:=f6.at_ (f5.at_ w4 f4.tidy (fun h=>h)) f5.tidy hs.mw
  obtain⟨Z7,g7,f7,w7,n7⟩:=E4 (n:=1) (o:=5) (v:=m') f6.tidy w6 (by
    show (AW m'.cells.length 1&&Ag (Ap 5 1) 6&&allOne m'.cells)=true
    rw[HO mo',BL,mo'];rfl)
  have w7:CB Z7 wb [.int .i64 (AA 7),.int .i64 (AA 0),.nils,l,.int .i64 (AA 1),m']:=by
    have e:HK [V.int .i64 (AA 7),.int .i64 (AA 0),.nils,l,.int .i64 (AA 1),m] 5 m'.cells=[.int .i64 (AA 7),.int .i64 (AA 0),.nils,l,.int .i64 (AA 1),m']:=by
      rw[HO mo'];rfl
    rw[<-e];exact w7
  have le7:=f7.le
  have F47:Fr (fun b=>b=wb\/Al m b) Z3 Z7:=(((f4.mono fun b _ e => .inl e).trans f5 (fun b hb e=>e.elim)).trans f6 (fun b hb e => .inr e)).trans f7 (fun b hb e => .inl e)
  have FA:Fr (fun b=>Al h b\/b=wb\/Al m b) Z Z7:=((Fr.to_any f2).trans f3 (fun b hb e => .inl e)).trans F47 (fun b hb e => .inr e)
  have lT:Fr AG Z1 Z7:=hs.f1.trans FA (fun b hb e=>by
    rcases e with e|e|e
    · have:=hs.hge b e;omega
    · omega
    · have:=hs.mge b e;omega)
  have hn':∀b,Al h' b->Al h b\/Z2.next<=b:=nm3
  have mn':∀b,Al m' b->Al m b\/Z5.next<=b:=nm6
  have un:∀b,Al u b->Z.next<=b/\b<Z2.next:=fun b hb=>⟨h2.2 b hb,HR.lt h2.by_ f2.tidy hb⟩
  have lt_h':∀b,Al h' b->b<Z3.next:=fun b hb=>d3.lt f3.tidy hb
  refine⟨h',m',Z7,fun K3 R4=>?_,⟨lT,?_,fun b hb=>?_,fun b hb=>?_,w7,hs.ol,?_,⟨bs++[u],?_,by rw[AQ,AQ,r2];rfl,fun j x hj=>?_⟩,fun e=>by simp at e,fun _=>rfl,?_,fun e=>?_,fun e=>?_,hs.lw,fun b hb hb'=>?_,fun b hb=>?_,fun b hb=>?_,hs.tw,fun e=>?_,fun e=>?_⟩⟩
  · have r50:BC Z.bl 50=none:=by rw[hs.f1.same 50 (by omega) (fun h=>h)];exact h50
    have q1:∀J,AU 1 a (AA i) (fun b o=>Bc E Z b o J)=J (.int .i64 (f i)):=fun J=>ha.rd Z i J hi r50
    have sl:=ha.len
    have d1:decide (i<n)=true:=decide_eq_true hi
    have ho':=d3.one
    have l5:∀J:V->AH,Bc E Z4 wb (Ap 0 5) J=J m:=fun J=>CK w4 rfl
    have fl2:∀J:List V->AH,D8 [(1,1,u)] [.int .i64 (AA 0),.nils] J=J [.int .i64 (AA 0),u]:=fun J=>by
      have h12:u.live=true/\u.cells=[u]:=HX uo
      unfold D8 EW
      rw[h12.1,h12.2];rfl
    have ho2:allOne [V.int .i64 (AA 0),u]=true:=by simp[BL,Bk,uo,Df]
    have g4':∀J:H->AH,FW 1 wb (Ap 0 4) (.int .i64 (AA 1)) Z3 J=J Z4:=g4
    have g7':∀J:H->AH,FW 1 wb (Ap 0 5) m' Z6 J=J Z7:=g7
    have emk:B4 (Eo .i64 (f i) (AA 1)) (AA 0)=rI f i:=rfl
    unfold Yv
    simp -implicitDefEqProofs only [↓rP,rA,AD,AF,AB,DC,↓sl,d1,↓q1,ek,emk,↓g2,↓Aw uo,↓g3,↓Aw ho',↓g4',↓l5,↓fl2,uo,ho2,↓e5,↓g6,↓Aw mo',↓g7',Bb (show i+1<=9223372036854775807 by omega)]
  · have ee:nI (EC (ES++[e]))=nI (EC ES)++nI e:=by
      unfold EC nI
      rw[IL,S1]
      show AA 128::AA 0::List.map AA (ES.flatten++e)=_
      rw[G4];rfl
    rw[<-he,ee,RY,AQ]
    refine d3.fr F47 f3.tidy (fun b hb e=>?_)
    rcases hn' b hb with hb|hb
    · rcases e with e | e
      · subst e;exact hs.hw hb
      · exact hs.hm b hb e
    · rcases e with e | e
      · omega
      · have:=lt_m b e;omega
  · rcases hn' b hb with hb | hb
    · exact hs.hge b hb
    · have:=hs.f1.le;omega
  · rcases mn' b hb with hb | hb
    · exact hs.mge b hb
    · have:=hs.f1.le;omega
  · exact hs.row.fr FA ht (fun b hb e=>by
      rcases e with e|e|e
      · exact hs.hl b e hb
      · subst e;exact hs.lw hb
      · exact hs.ml b e hb)
  · rw[AQ,Cf]
    refine d6.fr f7 f6.tidy (fun b hb e=>?_)
    subst e
    rcases mn' _ hb with hb|hb
    · exact hs.mw hb
    · omega
  · by_cases hj':j<ES.length
    · rw[Bh hj']at hj
      obtain⟨b,q1,q2,q3⟩:=r3 j x hj
      refine⟨b,by rw[Bh (by omega)];exact q1,q2.fr FA ht (fun z hz e=>?_),fun z hz=>?_⟩
      · obtain⟨p1,p2,p3⟩:=q3 z hz
        rcases e with e|e|e
        · exact p1 e
        · exact p3 e
        · exact p2 e
      · obtain⟨p1,p2,p3⟩:=q3 z hz
        have lz:=q2.lt ht z hz
        refine⟨fun e=>?_,fun e=>?_,p3⟩
        · rcases hn' z e with e | e
          · exact p1 e
          · omega
        · rcases mn' z e with e | e
          · exact p2 e
          · omega
    · have hlt:=(A0.1 hj).1
      rw[AQ,Cf]at hlt
      have hj2:j=ES.length:=by omega
      subst hj2
      rw[BB (AL _)]at hj
      simp at hj
      rw[<-hj,<-he]
      have ou:Oc Z2 u e:=Oc.of_dst (by
        have:=h2.1
        rw[C0]at this
        exact this)
      have o3:Oc Z7 u e:=(ou.fr f3 f2.tidy (fun z hz e=>by have:=lt_h z e;have:=(un z hz).1;omega)).fr F47 f3.tidy (fun z hz e=>by
        have:=(un z hz).1
        rcases e with e|e
        · omega
        · have:=lt_m z e;omega)
      refine⟨u,by rw[BB (by omega)];simp[r2],o3,fun z hz=>?_⟩
      obtain⟨z1,z2⟩:=un z hz
      refine⟨fun e=>?_,fun e=>?_,by omega⟩
      · rcases hn' z e with e | e
        · have:=lt_h z e;omega
        · omega
      · rcases mn' z e with e | e
        · have:=lt_m z e;omega
        · omega
  · exact FA.at_ hs.tbl ht (fun e=>by
      rcases e with e|e|e
      · exact hs.th e
      · exact hs.tw e
      · exact hs.tm e)
  · rcases hn' _ e with e | e
    · exact hs.hw e
    · omega
  · rcases mn' _ e with e | e
    · exact hs.mw e
    · omega
  · rcases hn' b hb with h1 | h1
    · rcases mn' b hb' with h2 | h2
      · exact hs.hm b h1 h2
      · have:=lt_h b h1;omega
    · rcases mn' b hb' with h2 | h2
      · have:=lt_m b h2;omega
      · have:=lt_h' b hb;omega
  · rcases hn' b hb with h1 | h1
    · exact hs.hl b h1
    · intro e;have:=lt_l b e;omega
  · rcases mn' b hb with h1 | h1
    · exact hs.ml b h1
    · intro e;have:=lt_l b e;omega
  · rcases hn' _ e with e | e
    · exact hs.th e
    · omega
  · rcases mn' _ e with e | e
    · exact hs.tm e
    · omega
end
def tK (add:Bool):BS:=match add with
 | true=>BS.mk 88 22456092957308576441117186767132839884859680906446900681738215192362408533302380072765643348343618641514592174182695845989023266537740288147218596709781892233287593435445514270119116070024525523694291961201827917
 | false=>BS.mk 71 257783304813050659469296144679137635046406314175057730064663280607057049966712123544972719141345910110663135670059597936469810624706020090853094094178144790278078852243533
def wK (add:Bool):BS:=match add with
 | true=>BS.mk 17 25962924143496044348805328506428802867244
 | false=>BS.mk 0 0
theorem zY (add:Bool) (J:BS->AH):(P2 (BS.mk 65 1022991297978550918763531518100076596597439128229847856144595860105991981592474693566084643732619912364361758549582870352320423856401045820393126642766323789) (wK add) fun t=>P2 t (BS.mk 6 75102957894944) J)=J (tK add):=by
 cases add<;>kernel_rfl
def nA (D:Ak) (F:List V->H->AH) (add:Bool):Prop:=∀Z:H,Aj Z->∃Pt nm nv rv tv Z',F [.str (tK add)] Z=some (.tup [.agg [.str nm,nv,rv,tv],.bool true],Z')/\Fr AG Z Z'/\Pt Z'/\(∀Z Z',Aj Z->Fr AG Z Z'->Pt Z->Pt Z')/\iJ [.str nm,nv,rv,tv]/\Qp add Pt nm nv rv tv (D 9)
theorem Lk.wt {Z1 Z:H} {wb tb nf:Nat} {Fz:List V} {ES:List (List Nat)} {h l m:V} {r:Nat} (k:Lk Z1 Z wb tb nf Fz ES h l m r):WtK Z wb nf ES l m r:=by
 obtain⟨bs,r1,r2,r3⟩:=k.raw
 exact⟨k.at_,k.ol,r1.one,k.row,⟨Qu.of r1 r2 (fun i e hi=>by obtain⟨b,q1,q2,_⟩:=r3 i e hi;exact⟨b,q1,q2⟩),k.no,k.yes⟩⟩
section
variable {E:EB} {D:Ak} {N:Nat}
theorem YJ {Pt:H->Prop} {nm:BS} {nv rv tv:V} {add:Bool} (hEl:Qo E (D 8)) (hDc:Qp add Pt nm nv rv tv (D 9)) (hAw:kA (D 10)) (hZ:Qm (D 11)) (hV:UC (D 11)) (hptf:∀Z Z',Aj Z->Fr AG Z Z'->Pt Z->Pt Z') (h4:iJ [.str nm,nv,rv,tv])
  {Z1:H} {wb tb n:Nat} {a cv l:V} {f:Nat->Int} {c:List Nat} (ht1:Aj Z1) (hp1:Pt Z1) (h100:100<=Z1.next) (h50:BC Z1.bl 50=none) (ha:xQ E a n f) (oa:a.one=true) (hn:n<=6) (hc:Ix c) (hcl:c.length<=200) (hcv:Bx E Z1 cv (nI c)) (hwb:Z1.next<=wb) :
  ∀(q i n':Nat) (Z:H) (h m:V) (r:Nat),i+q=n->q<n'->Lk Z1 Z wb tb (L6 add) [.str nm,nv,rv,tv] ((W1 f c i).map (·.1)) h l m r ->
   ∃Z',uO E D (AT E D) N n' a cv add tb 0 true h wb 0 (AA i) Z=some (.bool true,Z'):=by
 intro q
 induction q with
 | zero=>
  intro i n' Z h m r hi hn' hs
  obtain⟨n',rfl⟩:∃k,n'=k+1:=⟨n'-1,by omega⟩
  have hi:i=n:=by omega
  subst hi
  have fl:=VJ f hc hcl i
  obtain⟨Z',g⟩:=yn (E:=E) (D:=D) (XS:=W1 f c i) (n:=i) (a:=a) hEl hDc hAw hZ hV hptf h4 hs.f1.tidy (hptf _ _ ht1 hs.f1 hp1) hs.tbl hs.dst.src hs.wt oa ha.len (SK f c i).symm (r9 f hc hcl i) (by rw[SK];omega) (by omega)
  refine⟨Z',?_⟩
  rw[<-g]
  have sl:=ha.len
  have d1:decide (i<i)=false:=decide_eq_false (DM _)
  have key:∀K3 R4,Yv E D (AT E D) K3 R4 a cv add tb 0 true h wb 0 (AA i) Z=K3 a add tb 0 true h wb 0 Z:=by
   intro K3 R4
   unfold Yv
   simp -implicitDefEqProofs only [↓rP,rA,AD,AF,AB,↓sl,d1]
  exact key _ _
 | succ q ih=>
  intro i n' Z h m r hi hn' hs
  obtain⟨n',rfl⟩:∃k,n'=k+1:=⟨n'-1,by omega⟩
  obtain⟨h',m',Z2,step,hs2⟩:=YI (E:=E) (D:=D) (cv:=cv) hEl add h100 h50 ha (by omega) hn hc hcl hcv hwb hs
  obtain⟨Z',g⟩:=ih (i+1) n' Z2 h' m' 1 (by omega) (by omega) hs2
  exact⟨Z',(step _ _).trans g⟩
theorem rR (hTb:∀add,nA D (D 6) add) (hEl:Qo E (D 8)) (hAw:kA (D 10)) (hZ:Qm (D 11)) (hV:UC (D 11)) (hN:8<N) {Z:H} (ht:Aj Z) (h100:100<=Z.next) (h50:BC Z.bl 50=none) {a cv:V} {n:Nat} {f:Nat->Int} {c:List Nat} (ha:xQ E a n f) (oa:a.one=true) (hc:Ix c) (hcv:Bx E Z cv (nI c)) (add:Bool) :
  ∃Z',F5 E D (AT E D) N [a,cv,.bool add] Z=some (.bool true,Z'):=by
 have sl:=ha.len
 have scv:∀J:Nat->AH,A2 cv J=J c.length:=fun J=>by
  have:=hcv.s J
  rwa [C0]at this
 by_cases hbig:6<n\/200<c.length
 ·obtain⟨Z',g,_⟩:=hAw Z ht
  refine⟨Z',?_⟩
  show VK E D (AT E D) (Yz E D (AT E D) N) a cv add Z=_
  unfold VK
  cases h6:decide (6<n)with
  | true=>simp -implicitDefEqProofs only [↓rP,rA,AD,AF,AB,↓sl,h6,↓g]
  | false=>
   have h6:=h6
   have d2:decide (200<c.length)=true:=decide_eq_true (by
    have:=of_decide_eq_false h6
    omega)
   simp -implicitDefEqProofs only [↓rP,rA,AD,AF,AB,↓sl,h6,↓scv,d2,↓g]
 ·have d6:decide (6<n)=false:=decide_eq_false (by omega)
  have d2:decide (200<c.length)=false:=decide_eq_false (by omega)
  obtain⟨Pt,nm,nv,rv,tv,Z1,g1,f1,hp1,hptf,h4,hDc⟩:=hTb add Z ht
  obtain⟨_,_,_,_,e,o1,o2,o3,b1,b2,b3⟩:=h4.ex
  injection e with e1 e
  injection e with e2 e
  injection e with e3 e
  injection e with e4 e
  subst e2;subst e3;subst e4
  obtain⟨Z2,e2,f2,a2,n2⟩:=Ih f1.tidy [.str ⟨0,0⟩,.nils,.nils,.nils]
  obtain⟨Z3,g3,f3,a3,n3⟩:=E4 (n:=4) (o:=0) (v := .agg [.str nm,nv,rv,tv]) f2.tidy a2 (by
   show (AW 4 4&&Ag (0+4) 4&&allOne [.str nm,nv,rv,tv])=true
   simp[BL,Bk,o1,o2,o3,KP])
  have a3:CB Z3 Z1.next [.str nm,nv,rv,tv]:=a3
  obtain⟨u,Z4,g4,h4',f4⟩:=hEl (Z:=Z3) (c:=2) (k:=0) (l:=[]) false f3.tidy (.inr rfl) (by decide) (by decide) (N9 E Z3)
  have h4':Nb Z3 Z4 u (nI [128,0]):=h4'
  have uo:=h4'.1.one
  obtain⟨Z5,e5,f5,a5,n5⟩:=Ih f4.tidy [.int .i64 (AA 4),.int .i64 (AA 0),.nils,.nils,.int .i64 (AA 0),.nils]
  obtain⟨Z6,e6,f6,a6,n6⟩:=Ih f5.tidy EJ
  obtain⟨Z7,g7,f7,a7,n7⟩:=E4 (n:=6) (o:=0) (v := .agg [.int .i64 (AA 7),.int .i64 (AA 0),.nils,.sl Z4.next 0 1 (.ex 1),.int .i64 (AA 0),.nils]) f6.tidy a6 rfl
  have a7:CB Z7 Z5.next [.int .i64 (AA 7),.int .i64 (AA 0),.nils,.sl Z4.next 0 1 (.ex 1),.int .i64 (AA 0),.nils]:=a7
  have l3:=f3.le
  have l4:=f4.le
  have l7:=f7.le
  have n3':Z3.next=Z1.next+1:=by omega
  have f47:Fr (fun b=>b=Z5.next) Z4 Z7:=((Fr.to_any f5).trans f6 (fun b hb e=>e.elim)).trans f7 (fun b hb e=>e)
  have w7:CB Z7 Z4.next (vB 4 0).c:=f7.at_ (f6.at_ a5 f5.tidy (fun h=>h)) f6.tidy (fun e=>by omega)
  have t7:CB Z7 Z1.next [.str nm,nv,rv,tv]:=f47.at_ (f4.at_ a3 f3.tidy (fun h=>h)) f4.tidy (fun e=>by omega)
  have F13:Fr AG Z1 Z3:=f2.trans f3 (fun b hb e=>by omega)
  have vz:Fr AG Z1 Z4:=F13.trans f4 (fun _ _ h=>h)
  have lT:Fr AG Z1 Z7:=vz.trans f47 (fun b hb e=>by omega)
  have un:∀b,Al u b->Z3.next<=b/\b<Z4.next:=fun b hb=>⟨h4'.2 b hb,HR.lt h4'.by_ f4.tidy hb⟩
  have d7:Hr Z7 1 (nI (EC [])).length u (Ho (nI (EC []))):=h4'.1.fr f47 f4.tidy (fun b hb e=>by have:=(un b hb).2;omega)
  obtain⟨l,Z8,g8,f8,w8,ol,row,ln⟩:∃l Z8,(∀J:H->AH,(match add with
    | true=>Bc E Z7 Z5.next 3 fun v=>DD E 6 96 v (.sl Z7.next 0 1 (.ex 1)) (Br Z7 (.cells EJ)) fun u' s=>Ba u' (FW 1 Z5.next 3 u' s J)
    | false=>J Z7)=J Z8)/\Fr (fun b=>b=Z5.next\/b=Z4.next) Z7 Z8/\CB Z8 Z5.next [.int .i64 (AA 7),.int .i64 (AA 0),.nils,l,.int .i64 (AA 0),.nils]/\l.one=true/\Ea Z8 6 (L6 add) l (fun k=>(gS (NZ (L6 add)) k).c)/\∀b,Al l b->b=Z4.next\/Z7.next<=b:=by
   cases add with
   | false=>exact⟨_,Z7,fun J=>rfl,Fr.refl f7.tidy,a7,rfl,Rk (.inl rfl) w7,fun b hb => .inl hb⟩
   | true=>
    obtain⟨Z8,e8,f8,a8,n8⟩:=Ih f7.tidy EJ
    have dl:Hr Z8 6 1 (.sl Z4.next 0 1 (.ex 1)) (vB 4 0).c := .inr ⟨Z4.next,rfl,f8.at_ w7 f7.tidy (fun h=>h),rfl⟩
    obtain⟨l,Z9,g9,d9,nm9,f9⟩:=SJ (E:=E) (bytes:=96) (n:=1) dl f8.tidy (x := .sl Z7.next 0 1 (.ex 1)) (m:=EJ) (.inr ⟨Z7.next,0,_,_,rfl,a8,by show 0+1*6<=6;decide,rfl⟩) rfl rfl
    have lo:=d9.one
    have w9:=f9.at_ (f8.at_ a7 f7.tidy (fun h=>h)) f8.tidy (fun e=>by have e:Z5.next=Z4.next:=e;omega)
    obtain⟨Z10,g10,f10,a10,n10⟩:=E4 (n:=1) (o:=3) (v:=l) f9.tidy w9 (by
     show (AW l.cells.length 1&&Ag (Ap 3 1) 6&&allOne l.cells)=true
     rw[HO lo,BL,lo];rfl)
    have a10:CB Z10 Z5.next [.int .i64 (AA 7),.int .i64 (AA 0),.nils,l,.int .i64 (AA 0),.nils]:=by
     have e:HK [V.int .i64 (AA 7),.int .i64 (AA 0),.nils,.sl Z4.next 0 1 (.ex 1),.int .i64 (AA 0),.nils] 3 l.cells=[.int .i64 (AA 7),.int .i64 (AA 0),.nils,l,.int .i64 (AA 0),.nils]:=by
      rw[HO lo];rfl
     rw[<-e];exact a10
    have nl:∀b,Al l b->b=Z4.next\/Z7.next<=b:=fun b hb=>by
     rcases nm9 b hb with h|h
     ·exact .inl h
     ·exact .inr (by omega)
    have d10:Hr Z10 6 2 l (Ll (NZ 2)):=d9.fr f10 f9.tidy (fun b hb e=>by
     rcases nl b hb with h|h<;>omega)
    have row:Ea Z10 6 2 l fun k=>(gS (NZ 2) k).c:=by
     rcases d10 with (⟨h0,_,_⟩|⟨b,rfl,hb,_,_⟩)|⟨b,rfl,hb,_⟩
     ·cases h0
     ·exact Rk (.inr rfl) hb
     ·exact Rk (.inr rfl) hb
    have l3':∀J:V->AH,Bc E Z7 Z5.next 3 J=J (.sl Z4.next 0 1 (.ex 1)):=fun J=>CK a7 rfl
    refine⟨l,Z10,fun J=>?_,((Fr.to_any f8).trans f9 (fun b hb e => .inr e)).trans f10 (fun b hb e => .inl e),a10,lo,row,nl⟩
    show (Bc E Z7 Z5.next 3 fun v=>DD E 6 96 v (.sl Z7.next 0 1 (.ex 1)) (Br Z7 (.cells EJ)) fun u' s=>Ba u' (FW 1 Z5.next 3 u' s J))=_
    rw[l3',e8,g9,Aw lo,g10]
  have le8:=f8.le
  have qP:Fr AG Z1 Z8:=lT.trans f8 (fun b hb e=>by omega)
  have t8:=f8.at_ t7 f7.tidy (fun e=>by omega)
  have d8:Hr Z8 1 (nI (EC [])).length u (Ho (nI (EC []))):=d7.fr f8 f7.tidy (fun b hb e=>by have:=un b hb;omega)
  have lf1:=f1.le
  have hcv1:=hcv.fr f1
  obtain⟨Z',g⟩:=YJ (E:=E) (D:=D) (N:=N) (add:=add) (Z1:=Z1) (wb:=Z5.next) (tb:=Z1.next) (l:=l) (f:=f) hEl hDc hAw hZ hV hptf h4 f1.tidy hp1 (by omega) (by rw[f1.same 50 (by omega) (fun h=>h)];exact h50) ha oa (by omega) hc (by omega) hcv1 (by omega) n 0 N Z8 u .nils 0 (by omega) (by omega)
   ⟨qP,d8,fun b hb=>by have:=un b hb;omega,fun b hb=>hb.elim,w8,ol,row,⟨[],Hr.nil Z8 2,rfl,fun i e h=>by cases h⟩,fun _=>⟨rfl,rfl⟩,fun h=>absurd rfl h,t8,fun e=>by have:=un _ e;omega,fun e=>e.elim,fun e=>by have:=ln _ e;omega,fun b _ hb=>hb.elim,fun b hb e=>by have:=un _ hb;have:=ln _ e;omega,fun b hb=>hb.elim,by omega,fun e=>by have:=un _ e;omega,fun e=>e.elim⟩
  refine⟨Z',?_⟩
  rw[<-g]
  unfold EJ at e6 g8
  have key1:VK E D (AT E D) (Yz E D (AT E D) N) a cv add Z=Yz E D (AT E D) N a cv add (wK add) Z:=by
   unfold VK
   cases add with
   | true=>
    simp -implicitDefEqProofs only [↓rP,rA,AD,AF,AB,↓sl,d6,↓scv,d2]
    all_goals rfl
   | false=>
    simp -implicitDefEqProofs only [↓rP,rA,AD,AF,AB,↓sl,d6,↓scv,d2]
    all_goals rfl
  have key2:∀K,cK E D (AT E D) K a cv add (wK add) Z=K a cv add Z1.next 0 true u Z5.next 0 Z8:=by
   intro K
   unfold cK
   rw[zY add]
   cases add with
   | true=>
    have g8:∀J:H->AH,(Bc E Z7 Z5.next 3 fun v=>DD E 6 96 v (.sl Z7.next 0 1 (.ex 1)) (Br Z7 (.cells [.int .i64 (AA 0),.int .i64 (AA 0),.nils,.nils,.int .i64 (AA 0),.nils])) fun u' s=>Ba u' (FW 1 Z5.next 3 u' s J))=J Z8:=g8
    simp -implicitDefEqProofs only [↓rP,rA,AD,AF,AB,↓g1,o1,o2,o3,↓e2,↓g3,↓g4,↓Aw uo,↓e5,↓e6,↓g7,↓g8]
    all_goals exact g8 _
   | false=>
    have g8:∀J:H->AH,J Z7=J Z8:=g8
    simp -implicitDefEqProofs only [↓rP,rA,AD,AF,AB,↓g1,o1,o2,o3,↓e2,↓g3,↓g4,↓Aw uo,↓e5,↓e6,↓g7]
    exact g8 _
  show VK E D (AT E D) (Yz E D (AT E D) N) a cv add Z=_
  rw[key1]
  show cK E D (AT E D) (vi E D (AT E D) N) a cv add (wK add) Z=_
  rw[key2]
  rfl
end
end
end Go.Proofs.YtoengnbdallegaaGreatDoor
namespace Go.Proofs.YtoengnbdallegaaGreatDoor
open Go Go.Og Go.Proofs Go.Shelf
def EP:Go.Shelf.Ren:=⟨fun | 45=>65 | n=>n,fun | 22=>104 | 23=>29 | 3=>3 | 4=>4 | 0=>0 | n=>n,fun | n=>n⟩
theorem iP:Go.Proofs.SlLaysE.n45 Tryz.prog EP:={
  mixed:=by kernel_rfl
  f45:=⟨Tryz.f65.name,by decide,Tryz.func65.trans (congrArg some (by kernel_rfl))⟩
  t0:=Tryz.underlying0
  a0:=Tryz.isAgg0
  z0:=Tryz.sizeOf0
  v0:=Tryz.zeroValue0
  t3:=Tryz.underlying3
  a3:=Tryz.isAgg3
  z3:=Tryz.sizeOf3
  v3:=Tryz.zeroValue3
  t4:=Tryz.underlying4
  a4:=Tryz.isAgg4
  z4:=Tryz.sizeOf4
  v4:=Tryz.zeroValue4
  t22:=Tryz.underlying104
  a22:=Tryz.isAgg104
  z22:=Tryz.sizeOf104
  v22:=Tryz.zeroValue104
  a23:=Tryz.isAgg29
  z23:=Tryz.sizeOf29 }
theorem zS:EP.f 45=65:=by kernel_rfl
theorem zQ:(Tryz.prog.info? (EP.t 23)).map (fun i=>i.size)=some 1:=by kernel_rfl
theorem zR:∃i0:TypeInfo,Tryz.prog.info? (EP.t 23)=some i0/\i0.size=1:=by
 have h:=zQ
 cases hi:Tryz.prog.info? (EP.t 23)with
 | none=>rw[hi]at h;cases h
 | some i0=>
  rw[hi]at h
  exact⟨i0,rfl,AM.inj h⟩
theorem rq:Hf Tryz.prog (EP.f 45)=true:=by kernel_rfl
theorem zP:∀w,(zeroValue (EP.t 23)).run Tryz.prog w = .ok (.slice none 0 0) w:=by intro w;kernel_rfl
theorem Yi (E:EB):CN Tryz.prog E glob 65 U7:=by
 obtain⟨i0,h1,h2⟩:=zR
 have:=rp (E:=E) (G:=glob) iP zP h1 h2 rq
 rw[zS]at this
 exact this
set_option maxHeartbeats 0
noncomputable section
def t0:BS:=⟨71,257783304813050659469296144679137635046406314175057730064663280607057049966712123544972719141345910110663135670059597936469810624706020090853094094178144790278078852243533⟩
def t1:BS:=⟨88,22456092957308576441117186767132839884859680906446900681738215192362408533302380072765643348343618641514592174182695845989023266537740288147218596709781892233287593435445514270119116070024525523694291961201827917⟩
def xB:DZ:=⟨100,[],
 [],
 .bool true,407,
 []⟩
theorem Yb:xB.right 2 ((DT [] 100000 60) 10)=true:=by kernel_rfl
theorem Ya:xB.shape=true:=by kernel_rfl
def Nf:DZ:=⟨100,[.str t0],
 [],
 .tup [.agg [.str ⟨1,77⟩,.sl 451 0 1 (.op 1),.sl 537 0 1 (.op 1),.sl 516 0 2 (.op 13)],.bool true],550,
 [(451,.cells [.str ⟨1,65⟩]),
 (469,.cells [.int .i64 (AA 0),.int .i64 (AA 16)]),
 (516,.cells [.int .i64 (AA 7),.sl 469 0 1 (.ex 1),.bool false,.bool false,.bool false,.bool false,.int .i64 (AA 0),.int .i64 (AA 0),.nils,.sl 519 0 1 (.op 11),.int .i64 (AA 1),.bool false,.int .i64 (AA 0),.int .i64 (AA 4),.sl 517 0 1 (.ex 1),.bool false,.bool false,.bool false,.bool false,.int .i64 (AA 0),.int .i64 (AA 0),.nils,.nils,.int .i64 (AA 0),.bool false,.int .i64 (AA 0)]),
 (517,.cells [.int .i64 (AA 2),.int .i64 (AA 0)]),
 (519,.cells [.str ⟨1,97⟩,.int .i64 (AA 1),.bool false,.bool false,.int .i64 (AA 0),.int .i64 (AA 0),.nils,.nils,.int .i64 (AA 0),.nils,.int .i64 (AA 0)]),
 (537,.cells [.int .i64 (AA 0)])]⟩
theorem YY:Nf.right 2 ((DT [] 100000 60) 6)=true:=by kernel_rfl
theorem Mv:Nf.shape=true:=by kernel_rfl
def Kf:DZ:=⟨100,[.str t1],
 [],
 .tup [.agg [.str ⟨1,77⟩,.sl 538 0 1 (.op 1),.sl 750 0 1 (.op 1),.sl 649 0 3 (.op 13)],.bool true],763,
 [(538,.cells [.str ⟨1,65⟩]),
 (556,.cells [.int .i64 (AA 0),.int .i64 (AA 16)]),
 (620,.cells [.int .i64 (AA 2),.int .i64 (AA 0)]),
 (649,.cells [.int .i64 (AA 7),.sl 556 0 1 (.ex 1),.bool false,.bool false,.bool false,.bool false,.int .i64 (AA 0),.int .i64 (AA 0),.nils,.sl 652 0 2 (.op 11),.int .i64 (AA 1),.bool true,.int .i64 (AA 0),.int .i64 (AA 4),.sl 620 0 1 (.ex 1),.bool false,.bool false,.bool false,.bool false,.int .i64 (AA 0),.int .i64 (AA 0),.nils,.nils,.int .i64 (AA 0),.bool false,.int .i64 (AA 0),.int .i64 (AA 4),.sl 650 0 1 (.ex 1),.bool false,.bool false,.bool false,.bool false,.int .i64 (AA 0),.int .i64 (AA 0),.nils,.nils,.int .i64 (AA 0),.bool false,.int .i64 (AA 0)]),
 (650,.cells [.int .i64 (AA 2),.int .i64 (AA 1)]),
 (652,.cells [.str ⟨1,97⟩,.int .i64 (AA 1),.bool false,.bool false,.int .i64 (AA 0),.int .i64 (AA 0),.nils,.nils,.int .i64 (AA 0),.nils,.int .i64 (AA 0),.str ⟨1,122⟩,.int .i64 (AA 2),.bool false,.bool false,.int .i64 (AA 0),.int .i64 (AA 0),.nils,.nils,.int .i64 (AA 0),.nils,.int .i64 (AA 0)]),
 (750,.cells [.int .i64 (AA 0)])]⟩
theorem YX:Kf.right 2 ((DT [] 100000 60) 6)=true:=by kernel_rfl
theorem Mu:Kf.shape=true:=by kernel_rfl
def JB:DZ:=⟨550,[.agg [.str ⟨1,77⟩,.sl 451 0 1 (.op 1),.sl 537 0 1 (.op 1),.sl 516 0 2 (.op 13)],.int .i64 (AA 1)],
 [(451,.cells [.str ⟨1,65⟩]),
 (469,.cells [.int .i64 (AA 0),.int .i64 (AA 16)]),
 (516,.cells [.int .i64 (AA 7),.sl 469 0 1 (.ex 1),.bool false,.bool false,.bool false,.bool false,.int .i64 (AA 0),.int .i64 (AA 0),.nils,.sl 519 0 1 (.op 11),.int .i64 (AA 1),.bool false,.int .i64 (AA 0),.int .i64 (AA 4),.sl 517 0 1 (.ex 1),.bool false,.bool false,.bool false,.bool false,.int .i64 (AA 0),.int .i64 (AA 0),.nils,.nils,.int .i64 (AA 0),.bool false,.int .i64 (AA 0)]),
 (517,.cells [.int .i64 (AA 2),.int .i64 (AA 0)]),
 (519,.cells [.str ⟨1,97⟩,.int .i64 (AA 1),.bool false,.bool false,.int .i64 (AA 0),.int .i64 (AA 0),.nils,.nils,.int .i64 (AA 0),.nils,.int .i64 (AA 0)]),
 (537,.cells [.int .i64 (AA 0)])],
 .sl 564 0 1 (.op 2),565,
 [(451,.cells [.str ⟨1,65⟩]),
 (469,.cells [.int .i64 (AA 0),.int .i64 (AA 16)]),
 (516,.cells [.int .i64 (AA 7),.sl 469 0 1 (.ex 1),.bool false,.bool false,.bool false,.bool false,.int .i64 (AA 0),.int .i64 (AA 0),.nils,.sl 519 0 1 (.op 11),.int .i64 (AA 1),.bool false,.int .i64 (AA 0),.int .i64 (AA 4),.sl 517 0 1 (.ex 1),.bool false,.bool false,.bool false,.bool false,.int .i64 (AA 0),.int .i64 (AA 0),.nils,.nils,.int .i64 (AA 0),.bool false,.int .i64 (AA 0)]),
 (517,.cells [.int .i64 (AA 2),.int .i64 (AA 0)]),
 (519,.cells [.str ⟨1,97⟩,.int .i64 (AA 1),.bool false,.bool false,.int .i64 (AA 0),.int .i64 (AA 0),.nils,.nils,.int .i64 (AA 0),.nils,.int .i64 (AA 0)]),
 (537,.cells [.int .i64 (AA 0)]),
 (564,.cells [.int .i64 (AA 2),.int .i64 (AA 0)])]⟩
theorem SF:JB.right 2 ((DT [] 100000 60) 96)=true:=by kernel_rfl
theorem HA:JB.shape=true:=by kernel_rfl
def I8:DZ:=⟨550,[.agg [.str ⟨1,77⟩,.sl 451 0 1 (.op 1),.sl 537 0 1 (.op 1),.sl 516 0 2 (.op 13)],.int .i64 (AA 1)],
 [(451,.cells [.str ⟨1,65⟩]),
 (469,.cells [.int .i64 (AA 0),.int .i64 (AA 16)]),
 (516,.cells [.int .i64 (AA 7),.sl 469 0 1 (.ex 1),.bool false,.bool false,.bool false,.bool false,.int .i64 (AA 0),.int .i64 (AA 0),.nils,.sl 519 0 1 (.op 11),.int .i64 (AA 1),.bool false,.int .i64 (AA 0),.int .i64 (AA 4),.sl 517 0 1 (.ex 1),.bool false,.bool false,.bool false,.bool false,.int .i64 (AA 0),.int .i64 (AA 0),.nils,.nils,.int .i64 (AA 0),.bool false,.int .i64 (AA 0)]),
 (517,.cells [.int .i64 (AA 2),.int .i64 (AA 0)]),
 (519,.cells [.str ⟨1,97⟩,.int .i64 (AA 1),.bool false,.bool false,.int .i64 (AA 0),.int .i64 (AA 0),.nils,.nils,.int .i64 (AA 0),.nils,.int .i64 (AA 0)]),
 (537,.cells [.int .i64 (AA 0)])],
 .bool false,556,
 [(451,.cells [.str ⟨1,65⟩]),
 (469,.cells [.int .i64 (AA 0),.int .i64 (AA 16)]),
 (516,.cells [.int .i64 (AA 7),.sl 469 0 1 (.ex 1),.bool false,.bool false,.bool false,.bool false,.int .i64 (AA 0),.int .i64 (AA 0),.nils,.sl 519 0 1 (.op 11),.int .i64 (AA 1),.bool false,.int .i64 (AA 0),.int .i64 (AA 4),.sl 517 0 1 (.ex 1),.bool false,.bool false,.bool false,.bool false,.int .i64 (AA 0),.int .i64 (AA 0),.nils,.nils,.int .i64 (AA 0),.bool false,.int .i64 (AA 0)]),
 (517,.cells [.int .i64 (AA 2),.int .i64 (AA 0)]),
 (519,.cells [.str ⟨1,97⟩,.int .i64 (AA 1),.bool false,.bool false,.int .i64 (AA 0),.int .i64 (AA 0),.nils,.nils,.int .i64 (AA 0),.nils,.int .i64 (AA 0)]),
 (537,.cells [.int .i64 (AA 0)])]⟩
theorem SC:I8.right 2 ((DT [] 100000 60) 97)=true:=by kernel_rfl
theorem MI:I8.shape=true:=by kernel_rfl
def Th:DZ:=⟨550,[.agg [.str ⟨1,77⟩,.sl 451 0 1 (.op 1),.sl 537 0 1 (.op 1),.sl 516 0 2 (.op 13)],.int .i64 (AA 0)],
 [(451,.cells [.str ⟨1,65⟩]),
 (469,.cells [.int .i64 (AA 0),.int .i64 (AA 16)]),
 (516,.cells [.int .i64 (AA 7),.sl 469 0 1 (.ex 1),.bool false,.bool false,.bool false,.bool false,.int .i64 (AA 0),.int .i64 (AA 0),.nils,.sl 519 0 1 (.op 11),.int .i64 (AA 1),.bool false,.int .i64 (AA 0),.int .i64 (AA 4),.sl 517 0 1 (.ex 1),.bool false,.bool false,.bool false,.bool false,.int .i64 (AA 0),.int .i64 (AA 0),.nils,.nils,.int .i64 (AA 0),.bool false,.int .i64 (AA 0)]),
 (517,.cells [.int .i64 (AA 2),.int .i64 (AA 0)]),
 (519,.cells [.str ⟨1,97⟩,.int .i64 (AA 1),.bool false,.bool false,.int .i64 (AA 0),.int .i64 (AA 0),.nils,.nils,.int .i64 (AA 0),.nils,.int .i64 (AA 0)]),
 (537,.cells [.int .i64 (AA 0)])],
 .nils,554,
 [(451,.cells [.str ⟨1,65⟩]),
 (469,.cells [.int .i64 (AA 0),.int .i64 (AA 16)]),
 (516,.cells [.int .i64 (AA 7),.sl 469 0 1 (.ex 1),.bool false,.bool false,.bool false,.bool false,.int .i64 (AA 0),.int .i64 (AA 0),.nils,.sl 519 0 1 (.op 11),.int .i64 (AA 1),.bool false,.int .i64 (AA 0),.int .i64 (AA 4),.sl 517 0 1 (.ex 1),.bool false,.bool false,.bool false,.bool false,.int .i64 (AA 0),.int .i64 (AA 0),.nils,.nils,.int .i64 (AA 0),.bool false,.int .i64 (AA 0)]),
 (517,.cells [.int .i64 (AA 2),.int .i64 (AA 0)]),
 (519,.cells [.str ⟨1,97⟩,.int .i64 (AA 1),.bool false,.bool false,.int .i64 (AA 0),.int .i64 (AA 0),.nils,.nils,.int .i64 (AA 0),.nils,.int .i64 (AA 0)]),
 (537,.cells [.int .i64 (AA 0)])]⟩
theorem U1:Th.right 2 ((DT [] 100000 60) 148)=true:=by kernel_rfl
theorem U0:Th.shape=true:=by kernel_rfl
def JA:DZ:=⟨763,[.agg [.str ⟨1,77⟩,.sl 538 0 1 (.op 1),.sl 750 0 1 (.op 1),.sl 649 0 3 (.op 13)],.int .i64 (AA 1)],
 [(538,.cells [.str ⟨1,65⟩]),
 (556,.cells [.int .i64 (AA 0),.int .i64 (AA 16)]),
 (620,.cells [.int .i64 (AA 2),.int .i64 (AA 0)]),
 (649,.cells [.int .i64 (AA 7),.sl 556 0 1 (.ex 1),.bool false,.bool false,.bool false,.bool false,.int .i64 (AA 0),.int .i64 (AA 0),.nils,.sl 652 0 2 (.op 11),.int .i64 (AA 1),.bool true,.int .i64 (AA 0),.int .i64 (AA 4),.sl 620 0 1 (.ex 1),.bool false,.bool false,.bool false,.bool false,.int .i64 (AA 0),.int .i64 (AA 0),.nils,.nils,.int .i64 (AA 0),.bool false,.int .i64 (AA 0),.int .i64 (AA 4),.sl 650 0 1 (.ex 1),.bool false,.bool false,.bool false,.bool false,.int .i64 (AA 0),.int .i64 (AA 0),.nils,.nils,.int .i64 (AA 0),.bool false,.int .i64 (AA 0)]),
 (650,.cells [.int .i64 (AA 2),.int .i64 (AA 1)]),
 (652,.cells [.str ⟨1,97⟩,.int .i64 (AA 1),.bool false,.bool false,.int .i64 (AA 0),.int .i64 (AA 0),.nils,.nils,.int .i64 (AA 0),.nils,.int .i64 (AA 0),.str ⟨1,122⟩,.int .i64 (AA 2),.bool false,.bool false,.int .i64 (AA 0),.int .i64 (AA 0),.nils,.nils,.int .i64 (AA 0),.nils,.int .i64 (AA 0)]),
 (750,.cells [.int .i64 (AA 0)])],
 .sl 777 0 1 (.op 2),778,
 [(538,.cells [.str ⟨1,65⟩]),
 (556,.cells [.int .i64 (AA 0),.int .i64 (AA 16)]),
 (620,.cells [.int .i64 (AA 2),.int .i64 (AA 0)]),
 (649,.cells [.int .i64 (AA 7),.sl 556 0 1 (.ex 1),.bool false,.bool false,.bool false,.bool false,.int .i64 (AA 0),.int .i64 (AA 0),.nils,.sl 652 0 2 (.op 11),.int .i64 (AA 1),.bool true,.int .i64 (AA 0),.int .i64 (AA 4),.sl 620 0 1 (.ex 1),.bool false,.bool false,.bool false,.bool false,.int .i64 (AA 0),.int .i64 (AA 0),.nils,.nils,.int .i64 (AA 0),.bool false,.int .i64 (AA 0),.int .i64 (AA 4),.sl 650 0 1 (.ex 1),.bool false,.bool false,.bool false,.bool false,.int .i64 (AA 0),.int .i64 (AA 0),.nils,.nils,.int .i64 (AA 0),.bool false,.int .i64 (AA 0)]),
 (650,.cells [.int .i64 (AA 2),.int .i64 (AA 1)]),
 (652,.cells [.str ⟨1,97⟩,.int .i64 (AA 1),.bool false,.bool false,.int .i64 (AA 0),.int .i64 (AA 0),.nils,.nils,.int .i64 (AA 0),.nils,.int .i64 (AA 0),.str ⟨1,122⟩,.int .i64 (AA 2),.bool false,.bool false,.int .i64 (AA 0),.int .i64 (AA 0),.nils,.nils,.int .i64 (AA 0),.nils,.int .i64 (AA 0)]),
 (750,.cells [.int .i64 (AA 0)]),
 (777,.cells [.int .i64 (AA 2),.int .i64 (AA 0)])]⟩
theorem SE:JA.right 2 ((DT [] 100000 60) 96)=true:=by kernel_rfl
theorem G9:JA.shape=true:=by kernel_rfl
def I7:DZ:=⟨763,[.agg [.str ⟨1,77⟩,.sl 538 0 1 (.op 1),.sl 750 0 1 (.op 1),.sl 649 0 3 (.op 13)],.int .i64 (AA 1)],
 [(538,.cells [.str ⟨1,65⟩]),
 (556,.cells [.int .i64 (AA 0),.int .i64 (AA 16)]),
 (620,.cells [.int .i64 (AA 2),.int .i64 (AA 0)]),
 (649,.cells [.int .i64 (AA 7),.sl 556 0 1 (.ex 1),.bool false,.bool false,.bool false,.bool false,.int .i64 (AA 0),.int .i64 (AA 0),.nils,.sl 652 0 2 (.op 11),.int .i64 (AA 1),.bool true,.int .i64 (AA 0),.int .i64 (AA 4),.sl 620 0 1 (.ex 1),.bool false,.bool false,.bool false,.bool false,.int .i64 (AA 0),.int .i64 (AA 0),.nils,.nils,.int .i64 (AA 0),.bool false,.int .i64 (AA 0),.int .i64 (AA 4),.sl 650 0 1 (.ex 1),.bool false,.bool false,.bool false,.bool false,.int .i64 (AA 0),.int .i64 (AA 0),.nils,.nils,.int .i64 (AA 0),.bool false,.int .i64 (AA 0)]),
 (650,.cells [.int .i64 (AA 2),.int .i64 (AA 1)]),
 (652,.cells [.str ⟨1,97⟩,.int .i64 (AA 1),.bool false,.bool false,.int .i64 (AA 0),.int .i64 (AA 0),.nils,.nils,.int .i64 (AA 0),.nils,.int .i64 (AA 0),.str ⟨1,122⟩,.int .i64 (AA 2),.bool false,.bool false,.int .i64 (AA 0),.int .i64 (AA 0),.nils,.nils,.int .i64 (AA 0),.nils,.int .i64 (AA 0)]),
 (750,.cells [.int .i64 (AA 0)])],
 .bool false,769,
 [(538,.cells [.str ⟨1,65⟩]),
 (556,.cells [.int .i64 (AA 0),.int .i64 (AA 16)]),
 (620,.cells [.int .i64 (AA 2),.int .i64 (AA 0)]),
 (649,.cells [.int .i64 (AA 7),.sl 556 0 1 (.ex 1),.bool false,.bool false,.bool false,.bool false,.int .i64 (AA 0),.int .i64 (AA 0),.nils,.sl 652 0 2 (.op 11),.int .i64 (AA 1),.bool true,.int .i64 (AA 0),.int .i64 (AA 4),.sl 620 0 1 (.ex 1),.bool false,.bool false,.bool false,.bool false,.int .i64 (AA 0),.int .i64 (AA 0),.nils,.nils,.int .i64 (AA 0),.bool false,.int .i64 (AA 0),.int .i64 (AA 4),.sl 650 0 1 (.ex 1),.bool false,.bool false,.bool false,.bool false,.int .i64 (AA 0),.int .i64 (AA 0),.nils,.nils,.int .i64 (AA 0),.bool false,.int .i64 (AA 0)]),
 (650,.cells [.int .i64 (AA 2),.int .i64 (AA 1)]),
 (652,.cells [.str ⟨1,97⟩,.int .i64 (AA 1),.bool false,.bool false,.int .i64 (AA 0),.int .i64 (AA 0),.nils,.nils,.int .i64 (AA 0),.nils,.int .i64 (AA 0),.str ⟨1,122⟩,.int .i64 (AA 2),.bool false,.bool false,.int .i64 (AA 0),.int .i64 (AA 0),.nils,.nils,.int .i64 (AA 0),.nils,.int .i64 (AA 0)]),
 (750,.cells [.int .i64 (AA 0)])]⟩
theorem SB:I7.right 2 ((DT [] 100000 60) 97)=true:=by kernel_rfl
theorem MH:I7.shape=true:=by kernel_rfl
def I9:DZ:=⟨763,[.agg [.str ⟨1,77⟩,.sl 538 0 1 (.op 1),.sl 750 0 1 (.op 1),.sl 649 0 3 (.op 13)],.int .i64 (AA 2)],
 [(538,.cells [.str ⟨1,65⟩]),
 (556,.cells [.int .i64 (AA 0),.int .i64 (AA 16)]),
 (620,.cells [.int .i64 (AA 2),.int .i64 (AA 0)]),
 (649,.cells [.int .i64 (AA 7),.sl 556 0 1 (.ex 1),.bool false,.bool false,.bool false,.bool false,.int .i64 (AA 0),.int .i64 (AA 0),.nils,.sl 652 0 2 (.op 11),.int .i64 (AA 1),.bool true,.int .i64 (AA 0),.int .i64 (AA 4),.sl 620 0 1 (.ex 1),.bool false,.bool false,.bool false,.bool false,.int .i64 (AA 0),.int .i64 (AA 0),.nils,.nils,.int .i64 (AA 0),.bool false,.int .i64 (AA 0),.int .i64 (AA 4),.sl 650 0 1 (.ex 1),.bool false,.bool false,.bool false,.bool false,.int .i64 (AA 0),.int .i64 (AA 0),.nils,.nils,.int .i64 (AA 0),.bool false,.int .i64 (AA 0)]),
 (650,.cells [.int .i64 (AA 2),.int .i64 (AA 1)]),
 (652,.cells [.str ⟨1,97⟩,.int .i64 (AA 1),.bool false,.bool false,.int .i64 (AA 0),.int .i64 (AA 0),.nils,.nils,.int .i64 (AA 0),.nils,.int .i64 (AA 0),.str ⟨1,122⟩,.int .i64 (AA 2),.bool false,.bool false,.int .i64 (AA 0),.int .i64 (AA 0),.nils,.nils,.int .i64 (AA 0),.nils,.int .i64 (AA 0)]),
 (750,.cells [.int .i64 (AA 0)])],
 .sl 777 0 1 (.op 2),778,
 [(538,.cells [.str ⟨1,65⟩]),
 (556,.cells [.int .i64 (AA 0),.int .i64 (AA 16)]),
 (620,.cells [.int .i64 (AA 2),.int .i64 (AA 0)]),
 (649,.cells [.int .i64 (AA 7),.sl 556 0 1 (.ex 1),.bool false,.bool false,.bool false,.bool false,.int .i64 (AA 0),.int .i64 (AA 0),.nils,.sl 652 0 2 (.op 11),.int .i64 (AA 1),.bool true,.int .i64 (AA 0),.int .i64 (AA 4),.sl 620 0 1 (.ex 1),.bool false,.bool false,.bool false,.bool false,.int .i64 (AA 0),.int .i64 (AA 0),.nils,.nils,.int .i64 (AA 0),.bool false,.int .i64 (AA 0),.int .i64 (AA 4),.sl 650 0 1 (.ex 1),.bool false,.bool false,.bool false,.bool false,.int .i64 (AA 0),.int .i64 (AA 0),.nils,.nils,.int .i64 (AA 0),.bool false,.int .i64 (AA 0)]),
 (650,.cells [.int .i64 (AA 2),.int .i64 (AA 1)]),
 (652,.cells [.str ⟨1,97⟩,.int .i64 (AA 1),.bool false,.bool false,.int .i64 (AA 0),.int .i64 (AA 0),.nils,.nils,.int .i64 (AA 0),.nils,.int .i64 (AA 0),.str ⟨1,122⟩,.int .i64 (AA 2),.bool false,.bool false,.int .i64 (AA 0),.int .i64 (AA 0),.nils,.nils,.int .i64 (AA 0),.nils,.int .i64 (AA 0)]),
 (750,.cells [.int .i64 (AA 0)]),
 (777,.cells [.int .i64 (AA 2),.int .i64 (AA 1)])]⟩
theorem SD:I9.right 2 ((DT [] 100000 60) 96)=true:=by kernel_rfl
theorem MJ:I9.shape=true:=by kernel_rfl
def I6:DZ:=⟨763,[.agg [.str ⟨1,77⟩,.sl 538 0 1 (.op 1),.sl 750 0 1 (.op 1),.sl 649 0 3 (.op 13)],.int .i64 (AA 2)],
 [(538,.cells [.str ⟨1,65⟩]),
 (556,.cells [.int .i64 (AA 0),.int .i64 (AA 16)]),
 (620,.cells [.int .i64 (AA 2),.int .i64 (AA 0)]),
 (649,.cells [.int .i64 (AA 7),.sl 556 0 1 (.ex 1),.bool false,.bool false,.bool false,.bool false,.int .i64 (AA 0),.int .i64 (AA 0),.nils,.sl 652 0 2 (.op 11),.int .i64 (AA 1),.bool true,.int .i64 (AA 0),.int .i64 (AA 4),.sl 620 0 1 (.ex 1),.bool false,.bool false,.bool false,.bool false,.int .i64 (AA 0),.int .i64 (AA 0),.nils,.nils,.int .i64 (AA 0),.bool false,.int .i64 (AA 0),.int .i64 (AA 4),.sl 650 0 1 (.ex 1),.bool false,.bool false,.bool false,.bool false,.int .i64 (AA 0),.int .i64 (AA 0),.nils,.nils,.int .i64 (AA 0),.bool false,.int .i64 (AA 0)]),
 (650,.cells [.int .i64 (AA 2),.int .i64 (AA 1)]),
 (652,.cells [.str ⟨1,97⟩,.int .i64 (AA 1),.bool false,.bool false,.int .i64 (AA 0),.int .i64 (AA 0),.nils,.nils,.int .i64 (AA 0),.nils,.int .i64 (AA 0),.str ⟨1,122⟩,.int .i64 (AA 2),.bool false,.bool false,.int .i64 (AA 0),.int .i64 (AA 0),.nils,.nils,.int .i64 (AA 0),.nils,.int .i64 (AA 0)]),
 (750,.cells [.int .i64 (AA 0)])],
 .bool false,769,
 [(538,.cells [.str ⟨1,65⟩]),
 (556,.cells [.int .i64 (AA 0),.int .i64 (AA 16)]),
 (620,.cells [.int .i64 (AA 2),.int .i64 (AA 0)]),
 (649,.cells [.int .i64 (AA 7),.sl 556 0 1 (.ex 1),.bool false,.bool false,.bool false,.bool false,.int .i64 (AA 0),.int .i64 (AA 0),.nils,.sl 652 0 2 (.op 11),.int .i64 (AA 1),.bool true,.int .i64 (AA 0),.int .i64 (AA 4),.sl 620 0 1 (.ex 1),.bool false,.bool false,.bool false,.bool false,.int .i64 (AA 0),.int .i64 (AA 0),.nils,.nils,.int .i64 (AA 0),.bool false,.int .i64 (AA 0),.int .i64 (AA 4),.sl 650 0 1 (.ex 1),.bool false,.bool false,.bool false,.bool false,.int .i64 (AA 0),.int .i64 (AA 0),.nils,.nils,.int .i64 (AA 0),.bool false,.int .i64 (AA 0)]),
 (650,.cells [.int .i64 (AA 2),.int .i64 (AA 1)]),
 (652,.cells [.str ⟨1,97⟩,.int .i64 (AA 1),.bool false,.bool false,.int .i64 (AA 0),.int .i64 (AA 0),.nils,.nils,.int .i64 (AA 0),.nils,.int .i64 (AA 0),.str ⟨1,122⟩,.int .i64 (AA 2),.bool false,.bool false,.int .i64 (AA 0),.int .i64 (AA 0),.nils,.nils,.int .i64 (AA 0),.nils,.int .i64 (AA 0)]),
 (750,.cells [.int .i64 (AA 0)])]⟩
theorem SA:I6.right 2 ((DT [] 100000 60) 97)=true:=by kernel_rfl
theorem R9:I6.shape=true:=by kernel_rfl
def Tg:DZ:=⟨763,[.agg [.str ⟨1,77⟩,.sl 538 0 1 (.op 1),.sl 750 0 1 (.op 1),.sl 649 0 3 (.op 13)],.int .i64 (AA 0)],
 [(538,.cells [.str ⟨1,65⟩]),
 (556,.cells [.int .i64 (AA 0),.int .i64 (AA 16)]),
 (620,.cells [.int .i64 (AA 2),.int .i64 (AA 0)]),
 (649,.cells [.int .i64 (AA 7),.sl 556 0 1 (.ex 1),.bool false,.bool false,.bool false,.bool false,.int .i64 (AA 0),.int .i64 (AA 0),.nils,.sl 652 0 2 (.op 11),.int .i64 (AA 1),.bool true,.int .i64 (AA 0),.int .i64 (AA 4),.sl 620 0 1 (.ex 1),.bool false,.bool false,.bool false,.bool false,.int .i64 (AA 0),.int .i64 (AA 0),.nils,.nils,.int .i64 (AA 0),.bool false,.int .i64 (AA 0),.int .i64 (AA 4),.sl 650 0 1 (.ex 1),.bool false,.bool false,.bool false,.bool false,.int .i64 (AA 0),.int .i64 (AA 0),.nils,.nils,.int .i64 (AA 0),.bool false,.int .i64 (AA 0)]),
 (650,.cells [.int .i64 (AA 2),.int .i64 (AA 1)]),
 (652,.cells [.str ⟨1,97⟩,.int .i64 (AA 1),.bool false,.bool false,.int .i64 (AA 0),.int .i64 (AA 0),.nils,.nils,.int .i64 (AA 0),.nils,.int .i64 (AA 0),.str ⟨1,122⟩,.int .i64 (AA 2),.bool false,.bool false,.int .i64 (AA 0),.int .i64 (AA 0),.nils,.nils,.int .i64 (AA 0),.nils,.int .i64 (AA 0)]),
 (750,.cells [.int .i64 (AA 0)])],
 .sl 771 0 1 (.op 1),772,
 [(538,.cells [.str ⟨1,65⟩]),
 (556,.cells [.int .i64 (AA 0),.int .i64 (AA 16)]),
 (620,.cells [.int .i64 (AA 2),.int .i64 (AA 0)]),
 (649,.cells [.int .i64 (AA 7),.sl 556 0 1 (.ex 1),.bool false,.bool false,.bool false,.bool false,.int .i64 (AA 0),.int .i64 (AA 0),.nils,.sl 652 0 2 (.op 11),.int .i64 (AA 1),.bool true,.int .i64 (AA 0),.int .i64 (AA 4),.sl 620 0 1 (.ex 1),.bool false,.bool false,.bool false,.bool false,.int .i64 (AA 0),.int .i64 (AA 0),.nils,.nils,.int .i64 (AA 0),.bool false,.int .i64 (AA 0),.int .i64 (AA 4),.sl 650 0 1 (.ex 1),.bool false,.bool false,.bool false,.bool false,.int .i64 (AA 0),.int .i64 (AA 0),.nils,.nils,.int .i64 (AA 0),.bool false,.int .i64 (AA 0)]),
 (650,.cells [.int .i64 (AA 2),.int .i64 (AA 1)]),
 (652,.cells [.str ⟨1,97⟩,.int .i64 (AA 1),.bool false,.bool false,.int .i64 (AA 0),.int .i64 (AA 0),.nils,.nils,.int .i64 (AA 0),.nils,.int .i64 (AA 0),.str ⟨1,122⟩,.int .i64 (AA 2),.bool false,.bool false,.int .i64 (AA 0),.int .i64 (AA 0),.nils,.nils,.int .i64 (AA 0),.nils,.int .i64 (AA 0)]),
 (750,.cells [.int .i64 (AA 0)]),
 (769,.cells [.int .i64 (AA 1)]),
 (771,.cells [.sl 769 0 1 (.ex 1)])]⟩
theorem Uz:Tg.right 2 ((DT [] 100000 60) 148)=true:=by kernel_rfl
theorem LK:Tg.shape=true:=by kernel_rfl
def Ti:DZ:=⟨763,[.agg [.int .i64 (AA 7),.sl 556 0 1 (.ex 1),.bool false,.bool false,.bool false,.bool false,.int .i64 (AA 0),.int .i64 (AA 0),.nils,.sl 652 0 2 (.op 11),.int .i64 (AA 1),.bool true,.int .i64 (AA 0)]],
 [(556,.cells [.int .i64 (AA 0),.int .i64 (AA 16)]),
 (652,.cells [.str ⟨1,97⟩,.int .i64 (AA 1),.bool false,.bool false,.int .i64 (AA 0),.int .i64 (AA 0),.nils,.nils,.int .i64 (AA 0),.nils,.int .i64 (AA 0),.str ⟨1,122⟩,.int .i64 (AA 2),.bool false,.bool false,.int .i64 (AA 0),.int .i64 (AA 0),.nils,.nils,.int .i64 (AA 0),.nils,.int .i64 (AA 0)])],
 .int .i64 (AA 1),765,
 [(556,.cells [.int .i64 (AA 0),.int .i64 (AA 16)]),
 (652,.cells [.str ⟨1,97⟩,.int .i64 (AA 1),.bool false,.bool false,.int .i64 (AA 0),.int .i64 (AA 0),.nils,.nils,.int .i64 (AA 0),.nils,.int .i64 (AA 0),.str ⟨1,122⟩,.int .i64 (AA 2),.bool false,.bool false,.int .i64 (AA 0),.int .i64 (AA 0),.nils,.nils,.int .i64 (AA 0),.nils,.int .i64 (AA 0)])]⟩
theorem U3:Ti.right 2 ((DT [] 100000 60) 144)=true:=by kernel_rfl
theorem U2:Ti.shape=true:=by kernel_rfl
def kn:List (Nat × List DZ):=[(10,[xB]),(6,[Nf,Kf]),(96,[JB,JA,I9]),(97,[I8,I7,I6]),(148,[Th,Tg]),(144,[Ti])]
def TW (E:EB) (d:Nat):Ak:=Nat.rec (fun _ _ _=>none) (fun _ ih f=>match AW f 65 with
 | true=>U7
 | false=>match BC kn f with
  | some l=>Mp l (BD E 600000 ih f)
  | none=>BD E 600000 ih f) d
theorem ag:∀p∈kn,∀e∈p.2,e.right 2 (DT [] 100000 60 p.1)=true:=by
 unfold kn
 simp only[ZC,Cl,false_implies,implies_true,and_true]
 exact⟨Yb,⟨YY,YX⟩,⟨SF,SE,SD⟩,⟨SC,SB,SA⟩,⟨U1,Uz⟩,U3⟩
theorem zb (E:EB):∀(d:Nat) (f:FuncId),CN Tryz.prog E glob f (TW E d f):=by
 intro d
 induction d with
 | zero=>intro f C _ _ R Z w args xs v Z' h;cases h
 | succ d ih=>
  intro f
  show CN Tryz.prog E glob f (match AW f 65 with
   | true=>U7
   | false=>match BC kn f with
    | some l=>Mp l (BD E 600000 (TW E d) f)
    | none=>BD E 600000 (TW E d) f)
  split
  ·rename_i h65
   rw[BK h65]
   exact Yi E
  ·split
   ·rename_i l hl
    rw[As]at hl
    exact jG (iB E 600000 (TW E d) ih f) (ADF [] 100000 60 f) LD (ag _ (Ff hl))
   ·exact iB E 600000 (TW E d) ih f
abbrev tw (E:EB) (d:Nat) (F:EB->Ak->AI->Nat->List V->H->AH):List V->H->AH:=F E (TW E d) (AT E (TW E d)) 600000
section
variable (E:EB) (d:Nat)
theorem DE8:TW E (d+1) 8=tw E d F8:=by kernel_rfl
theorem DE9:TW E (d+1) 9=tw E d F9:=by kernel_rfl
theorem ADb:TW E (d+1) 11=tw E d wB:=by kernel_rfl
theorem AIJ:TW E (d+1) 14=tw E d vz:=by kernel_rfl
theorem ADP:TW E (d+1) 15=tw E d vy:=by kernel_rfl
theorem wF:TW E (d+1) 16=tw E d vx:=by kernel_rfl
theorem AII:TW E (d+1) 17=tw E d lT:=by kernel_rfl
theorem ADL:TW E (d+1) 18=tw E d qP:=by kernel_rfl
theorem ADK:TW E (d+1) 19=tw E d vw:=by kernel_rfl
theorem ADJ:TW E (d+1) 20=tw E d vv:=by kernel_rfl
theorem AIH:TW E (d+1) 21=tw E d F21:=by kernel_rfl
theorem AIF:TW E (d+1) 31=tw E d xP:=by kernel_rfl
theorem AIE:TW E (d+1) 32=tw E d xO:=by kernel_rfl
theorem AID:TW E (d+1) 33=tw E d xN:=by kernel_rfl
theorem AIC:TW E (d+1) 34=tw E d F34:=by kernel_rfl
theorem AIB:TW E (d+1) 36=tw E d F36:=by kernel_rfl
theorem AIA:TW E (d+1) 38=tw E d xM:=by kernel_rfl
theorem AH9:TW E (d+1) 39=tw E d xL:=by kernel_rfl
theorem wE:TW E (d+1) 40=tw E d qO:=by kernel_rfl
theorem ADI:TW E (d+1) 41=tw E d vu:=by kernel_rfl
theorem ADH:TW E (d+1) 42=tw E d vr:=by kernel_rfl
theorem AH8:TW E (d+1) 57=tw E d F57:=by kernel_rfl
theorem AH7:TW E (d+1) 58=tw E d xK:=by kernel_rfl
theorem AH6:TW E (d+1) 59=tw E d qN:=by kernel_rfl
theorem AH5:TW E (d+1) 62=tw E d F62:=by kernel_rfl
theorem AH4:TW E (d+1) 63=tw E d xJ:=by kernel_rfl
theorem AH3:TW E (d+1) 64=tw E d F64:=by kernel_rfl
theorem AH1:TW E (d+1) 66=tw E d F66:=by kernel_rfl
theorem lY:TW E (d+1) 67=tw E d iL:=by kernel_rfl
theorem ADG:TW E (d+1) 68=tw E d qM:=by kernel_rfl
theorem AH0:TW E (d+1) 69=tw E d F69:=by kernel_rfl
theorem AHz:TW E (d+1) 70=tw E d xI:=by kernel_rfl
theorem AHy:TW E (d+1) 71=tw E d xH:=by kernel_rfl
theorem AHx:TW E (d+1) 72=tw E d xG:=by kernel_rfl
theorem AHw:TW E (d+1) 93=tw E d F93:=by kernel_rfl
theorem AHv:TW E (d+1) 94=tw E d vq:=by kernel_rfl
theorem AHu:TW E (d+1) 95=tw E d F95:=by kernel_rfl
theorem AHt:TW E (d+1) 99=tw E d F99:=by kernel_rfl
theorem ADg:TW E (d+1) 100=tw E d gG:=by kernel_rfl
theorem ADf:TW E (d+1) 101=tw E d gF:=by kernel_rfl
theorem gQ:TW E (d+1) 103=tw E d UW:=by kernel_rfl
theorem ADe:TW E (d+1) 104=tw E d Y8:=by kernel_rfl
theorem ADd:TW E (d+1) 105=tw E d Y7:=by kernel_rfl
theorem ADc:TW E (d+1) 106=tw E d gE:=by kernel_rfl
theorem qT:TW E (d+1) 107=tw E d Vk:=by kernel_rfl
theorem ADa:TW E (d+1) 116=tw E d Y6:=by kernel_rfl
theorem ADZ:TW E (d+1) 117=tw E d gD:=by kernel_rfl
theorem ADY:TW E (d+1) 118=tw E d Y5:=by kernel_rfl
theorem ADX:TW E (d+1) 121=tw E d gC:=by kernel_rfl
theorem gP:TW E (d+1) 125=tw E d Sv:=by kernel_rfl
theorem ADW:TW E (d+1) 126=tw E d Y4:=by kernel_rfl
theorem qS:TW E (d+1) 128=tw E d Vj:=by kernel_rfl
theorem ADV:TW E (d+1) 129=tw E d fz:=by kernel_rfl
theorem ADU:TW E (d+1) 139=tw E d Y3:=by kernel_rfl
theorem ADT:TW E (d+1) 140=tw E d fy:=by kernel_rfl
theorem ADR:TW E (d+1) 145=tw E d fx:=by kernel_rfl
theorem ADQ:TW E (d+1) 146=tw E d fu:=by kernel_rfl
theorem ADO:TW E (d+1) 152=tw E d Y2:=by kernel_rfl
theorem ADN:TW E (d+1) 153=tw E d Vi:=by kernel_rfl
theorem ADM:TW E (d+1) 160=tw E d Y1:=by kernel_rfl
theorem AH2:TW E (d+1) 65=U7:=by kernel_rfl
end
theorem AIK (E:EB) (d:Nat):TW E (d+1) 10=Mp [xB] (BD E 600000 (TW E d) 10):=by kernel_rfl
theorem DE6 (E:EB) (d:Nat):TW E (d+1) 6=Mp [Nf,Kf] (BD E 600000 (TW E d) 6):=by kernel_rfl
theorem gN (E:EB) (d:Nat):TW E (d+1) 96=Mp [JB,JA,I9] (BD E 600000 (TW E d) 96):=by kernel_rfl
theorem gJ (E:EB) (d:Nat):TW E (d+1) 97=Mp [I8,I7,I6] (BD E 600000 (TW E d) 97):=by kernel_rfl
theorem qR (E:EB) (d:Nat):TW E (d+1) 148=Mp [Th,Tg] (BD E 600000 (TW E d) 148):=by kernel_rfl
theorem ADS (E:EB) (d:Nat):TW E (d+1) 144=Mp [Ti] (BD E 600000 (TW E d) 144):=by kernel_rfl
theorem yk {E:EB} {D:Ak} {W:AI} {N:Nat} {f:V} (hN:0<N):Vb (vw E D W N) f:=by
 intro Z
 obtain⟨N,rfl⟩:∃q,N=q+1:=⟨N-1,by omega⟩
 rfl
section
variable {E:EB}
theorem xV (d:Nat):XN (TW E (d+1) 58):=by rw[AH7];exact yF (by decide)
theorem xO8 (d:Nat):j7 (TW E (d+1) 94):=by rw[AHv];exact AFT (by decide)
theorem xY (d:Nat):J6 (TW E (d+2) 59):=by rw[AH6];exact yP (xO8 d) (by decide)
theorem AEl (d:Nat):LU (TW E (d+2) 153):=by rw[ADN];exact yE (xO8 d) (by decide)
theorem qg (d:Nat):XU E (TW E (d+1) 17):=by rw[AII];exact zZ
theorem xTs (d:Nat):sR (TW E (d+3) 34):=by rw[AIC];exact AFL (xV (d+1)) (xY d) (qg (d+1))
theorem yC (d:Nat):Qq (TW E (d+1) 36):=by rw[AIB];exact za
theorem xTg (d:Nat):sS (TW E (d+1) 139):=by rw[ADU];exact AFM (by decide)
theorem xTu (d:Nat):sQ (TW E (d+2) 140):=by rw[ADT];exact AFK (xV d)
theorem xNo (d:Nat):sU (TW E (d+2) 116):=by rw[ADa];exact AFV (xTg d)
theorem AE4 (d:Nat):dE (TW E (d+3) 117):=by rw[ADZ];exact ym (xTu d)
theorem xW (d:Nat):XO (TW E (d+4) 93):=by rw[AHw];exact yG (xNo (d+1)) (AE4 d)
theorem ZK (d:Nat):PI (TW E (d+5) 57):=by rw[AH8];exact ql (xW d)
theorem xk (d:Nat):MT (TW E (d+6) 33):=by rw[AID];exact ah (ZK d) (by decide)
theorem AEp (d:Nat):SV 600000 (TW E (d+6) 38):=by rw[AIA];exact iT (ZK d)
theorem xCx (d:Nat):sY (TW E (d+1) 118):=by rw[ADY];exact AFe (by decide)
theorem xCt (d:Nat):j9 (TW E (d+2) 95):=by rw[AHu];exact AFf (xCx d)
theorem xLv (d:Nat):Yw E (TW E (d+7) 15):=by rw[ADP];exact rN (xk d) (xTs (d+3)) (yC (d+5))
theorem Ku (d:Nat):FB (TW E (d+1) 99):=by rw[AHt];exact ir
theorem V6 (d:Nat):J5 (TW E (d+1) 100):=by rw[ADg];exact(fun Z h hl hh mo lo hi v ht=>ZO ht h hl hh mo lo hi v)
theorem AEo (d:Nat):XP E (TW E (d+2) 101):=by rw[ADf];exact yL (Ku d) (V6 d)
theorem lr (d:Nat):Vd E (TW E (d+3) 67):=by rw[lY];exact rX (Ku (d+1)) (V6 (d+1)) (AEo d)
theorem xAb (d:Nat):UF (TW E (d+2) 107):=by rw[qT];exact AFi (Ku d)
theorem xAn (d:Nat):kB (TW E (d+2) 107):=by rw[qT];exact AFh (Ku d)
theorem xLs (d:Nat):Yx (TW E (d+1) 126):=by rw[ADW];exact AFY
theorem xd (d:Nat):nC (TW E (d+1) 125):=by rw[gP];exact yS
theorem AFE (d:Nat):dN (TW E (d+1) 68):=by rw[ADG];exact zU (by decide)
theorem AE1 (d:Nat):Nm (TW E (d+1) 152):=by rw[ADO];exact rF (by decide)
theorem ZM (d:Nat):HC E (TW E (d+1) 105):=by rw[ADd];exact jK (by decide)
theorem xHn (d:Nat):j8 (TW E (d+1) 18):=by rw[ADL];exact AFW
theorem xHb (d:Nat):sW (TW E (d+1) 18):=by rw[ADL];exact AFb
theorem xHr (d:Nat):sV (TW E (d+2) 21):=by rw[AIH];exact AFa (xHb d)
theorem AE7 (d:Nat):dF (TW E (d+3) 20):=by rw[ADJ];exact zB (xHr d) (by decide)
theorem xH3 (d:Nat):Vb (TW E (d+1) 19) (.fn 11 [] []):=by rw[ADK];exact yk (by decide)
theorem xH4 (d:Nat):Vb (TW E (d+1) 20) (.fn 21 [] []):=by rw[ADJ];exact AFX (by decide)
theorem xX (d:Nat):Qm (TW E (d+2) 11):=by rw[ADb];exact yJ (xHn d) (xH3 d) (xH4 d)
theorem AEq (d:Nat):cz (TW E (d+3) 19):=by rw[ADK];exact yO (xX d) (by decide)
theorem AEn (d:Nat):UC (TW E (d+4) 11):=by rw[ADb];exact yK (xHn (d+2)) (AEq d) (AE7 d)
theorem AEz (d:Nat):UD (TW E (d+2) 153):=rE (AEl d)
theorem AE0 (d:Nat):Yy (TW E (d+3) 129):=by rw[ADV];exact iw (ZM (d+1)) (AE1 (d+1)) (AEz d)
theorem AE2 (d:Nat):dI E (TW E (d+4) 106):=by rw[ADc];exact yh (ZM (d+2)) (AE0 d)
theorem xT (d:Nat):XM E (TW E (d+5) 71):=by rw[AHy];exact ZN (ZM (d+3)) (AE2 d) (by decide)
theorem xWi (d:Nat):j6 E (TW E (d+5) 71):=yD (xT d)
theorem xDe (d:Nat):sX E (TW E (d+6) 42):=by rw[ADH];exact jZ (xY (d+3)) (xWi d)
theorem AFD (d:Nat):dJ (TW E (d+3) 72) (TW E (d+2)):=by rw[AHx];exact zN (xAb d) (xAn d) (by decide)
theorem xy (d:Nat):dK (TW E (d+6)) (TW E (d+8) 42):=by rw[ADH];exact bR (AFD (d+4)) (xT (d+2))
theorem AEx (d:Nat):Nm (TW E (d+1) 31):=by rw[AIF];exact qu (by decide)
theorem AEu (d:Nat):UD (TW E (d+1) 32):=by rw[AIE];exact qt (by decide)
theorem AEw (d:Nat):Yy (TW E (d+2) 14):=by rw[AIJ];exact iZ (AEx d) (AEu d)
theorem AEy (d:Nat):Qo E (TW E (d+3) 8):=by rw[DE8];exact ic (AEw d)
theorem xIx (d:Nat):AAJ (TW E (d+1) 104) (TW E d):=by rw[ADe];exact fun ht hr hq hn=>yy ht hr hq (by omega) (by omega)
theorem xCf (d:Nat):dO (TW E (d+2) 69) (TW E d):=by rw[AH0];exact zX (xIx d)
theorem AEv (d:Nat):dC (TW E (d+3) 41):=by rw[ADI];exact yW (xCf d)
theorem xR1 (d:Nat):sT (TW E (d+4) 70):=by rw[AHz];exact AFQ (AEv d)
theorem xe {P:List (List Nat)->Prop} {nf:Nat} (h12:nf=1\/nf=2) (d:Nat):dB P nf (TW E (d+7) 41):=by rw[ADI];exact yV h12 (xCf (d+4)) (xR1 d)
theorem yB {P:List (List Nat)->Prop} {nf:Nat} (h12:nf=1\/nf=2) (d:Nat):dM P nf (TW E (d+2) 68):=by rw[ADG];exact zT h12 (AFE d) (by decide)
theorem qX (d:Nat):SU (TW E (d+4) 96) (TW E (d+4) 97) (TW E (d+5) 62):=by rw[AH5];exact iQ (xW d) (xCt (d+2))
theorem AFF (d:Nat):XT (TW E (d+4) 96) (TW E (d+4) 97) (TW E (d+6) 64):=fun hPt h4 ht hp hP hu hx hB ac aq hj=>by rw[AH3];exact zV (qX d) hPt h4 ht hp hP hu hx hB ac aq hj
theorem AE6 (d:Nat):UE 600000 (TW E (d+6) 64) (TW E (d+7) 63):=by rw[AH4];exact yx
theorem xj (d:Nat):PJ (TW E (d+1) 66) (TW E (d+1) 65):=by rw[AH1,AH2];exact q9
theorem AE3 (d:Nat):dD (TW E (d+4) 96) (TW E (d+4) 97) 600000 (TW E (d+8) 39):=by rw[AH9];exact yi (xLv d) (AFF d) (AE6 d) (xj (d+6)) (yC (d+6)) (by decide)
theorem xg (d:Nat):sP (TW E (d+4) 96) (TW E (d+4) 97) 600000 (TW E (d+9) 15):=by rw[ADP];exact yX (xk (d+2)) (AEp (d+2)) (AL _) (AE3 d)
theorem xi (d:Nat):Va (TW E (d+1) 125):=by rw[gP];exact qy
theorem AFC (d:Nat):Qn (TW E (d+2) 103):=by rw[gQ];exact zK (Ku d) (xi d)
theorem AE8 (d:Nat):Qn (TW E (d+3) 67):=by rw[lY];exact zG (AFC d)
theorem AE9 (d:Nat):dG (TW E (d+4) 40):=by rw[wE];exact zH (AE8 d)
theorem xU (d:Nat):VZ (TW E (d+2) 96) (TW E (d+3) 146):=by rw[ADQ];exact qj (xCt d)
theorem AFG (d:Nat):nD E (TW E (d+5) 145) (TW E (d+3) 146):=by
 intro Z w f cb tb ht wl wr hc
 rw[ADR]
 exact zW (D2:=TW E (d+3)) (fun ht wl wr hc=>by rw[ADM];exact rT (by decide) ht wl wr hc) ht wl wr hc
end
theorem zC {e:DZ} {F:List V->H->AH} {args:List V} {Z:H} {ρ:Nat->Nat} (hm:e.Fits ρ args Z):∃ρ',e.Fits ρ' args Z/\Mp [e] F args Z=some (e.ans ρ' Z):=by
 obtain⟨e',ρ',he,hf,hr⟩:=ET (F:=F) (l:=[e]) (CE.2 rfl) hm
 have:=CE.1 he
 subst this
 exact⟨ρ',hf,hr⟩
def Yn:List V->Nat
 | [_,.int _ (.ofNat k)]=>k
 | _=>0
theorem ZG.nil {ρ:Nat->Nat} {Z:H}:ZG [] ρ Z:=fun id b h=>by cases h
theorem qH.nil {ρ:Nat->Nat}:qH [] ρ:=fun id id' h=>by cases h
def yr:List V->Nat
 | .agg [_,_,_,.sl _ _ n _]::_=>n
 | _=>0
def Pt (T:DZ) (τ:Nat->Nat) (Z:H):Prop:=qH T.bl1 τ/\ZG T.bl1 τ Z
section
variable {E:EB} {τ:Nat->Nat} {T:DZ}
theorem aD (Z Z':H) (ht:Aj Z) (f:Fr AG Z Z') (h:Pt T τ Z):Pt T τ Z':=⟨h.1,h.2.fr f ht fun _ _ h=>h⟩
theorem Ro {Z:H} {q:Nat} {cp:Ud} {l:List V} (h:ZG T.bl1 τ Z) (hq:Go.Og.look T.bl1 q=some (.cells l)) (hl:Pp τ l=l) (h2:l.length=2):HR Z 2 1 (.sl (τ q) 0 1 cp) l:=
 .inr ⟨τ q,0,cp,Pp τ l,rfl,h q _ hq,by rw[hl,h2];decide,by rw[hl,Ca];exact(Cy (by rw[h2];decide)).symm⟩
def S7 (τ:Nat->Nat):Nat->Ty
 | 0=>⟨AA 7,(.sl (τ 469) 0 1 (.ex 1)),false,false,false,false,AA 0,AA 0,.nils,(.sl (τ 519) 0 1 (.op 11)),AA 1,false,AA 0,rfl,rfl,rfl⟩
 | _=>⟨AA 4,(.sl (τ 517) 0 1 (.ex 1)),false,false,false,false,AA 0,AA 0,.nils,.nils,AA 0,false,AA 0,rfl,rfl,rfl⟩
def zL (τ:Nat->Nat):Nat->Fd
 | _=>⟨⟨1,97⟩,AA 1,false,false,AA 0,AA 0,.nils,.nils,AA 0,.nils,AA 0,rfl,rfl,rfl⟩
theorem iq {Z:H} (h:Pt Nf τ Z):Ea Z 13 2 (.sl (τ 516) 0 2 (.op 13)) fun i=>(S7 τ i).c:=
 ⟨.inr ⟨τ 516,_,_,rfl,h.2 516 _ rfl,fun k hk=>by
  have:k=0\/k=1:=by omega
  rcases this with rfl|rfl<;>exact⟨Bu rfl,rfl⟩⟩⟩
theorem aC {Z:H} (h:Pt Nf τ Z):Ea Z 11 1 (S7 τ 0).fields fun k=>(zL τ k).c:=
 ⟨.inr ⟨τ 519,_,_,rfl,h.2 519 _ rfl,fun k hk=>by
  obtain rfl:k=0:=by omega
  exact⟨Bu rfl,rfl⟩⟩⟩
theorem q7 {Z:H} (h:Pt Nf τ Z) (k:Nat) (hk:k<1):iI Z [(2,k)] (S7 τ (k+1)).tags:=by
 obtain rfl:k=0:=by omega
 exact⟨Ro h.2 rfl rfl rfl,fun _=>⟨_,rfl⟩⟩
theorem qf (a b:Nat):Bw (TW E (a+1) 96) (TW E (b+1) 97) (Pt Nf τ) [.str ⟨1,77⟩,(.sl (τ 451) 0 1 (.op 1)),(.sl (τ 537) 0 1 (.op 1)),(.sl (τ 516) 0 2 (.op 13))] 1 0:=by
 refine⟨fun Z ht hP=>?_,fun Z ht hP=>?_⟩
 ·obtain⟨e,ρ,he,hf,hr⟩:=ET (e:=JB) (l:=[JB,JA,I9]) (F:=BD E 600000 (TW E a) 96) (by simp) (E8 (e:=JB) (ρ:=τ) (args:=[.agg [.str ⟨1,77⟩,(.sl (τ 451) 0 1 (.op 1)),(.sl (τ 537) 0 1 (.op 1)),(.sl (τ 516) 0 2 (.op 13))],.int .i64 (AA 1)]) rfl hP.2 hP.1)
  simp only[Ae,Cl,or_false]at he
  have ha:=congrArg Yn hf.args
  rcases he with rfl|rfl|rfl
  ·refine⟨_,_,by rw[gN,hr],?_,DZ.fr0 HA (by kernel_rfl) hf ht⟩
   exact .inr ⟨_,0,_,_,rfl,DZ.has HA hf ht 564 _ rfl,Bu rfl,rfl⟩
  ·refine⟨_,_,by rw[gN,hr],?_,DZ.fr0 G9 (by kernel_rfl) hf ht⟩
   exact .inr ⟨_,0,_,_,rfl,DZ.has G9 hf ht 777 _ rfl,Bu rfl,rfl⟩
  ·exact Cm (show false=true from(congrArg (AW 2) ha).trans rfl)
 ·obtain⟨e,ρ,he,hf,hr⟩:=ET (e:=I8) (l:=[I8,I7,I6]) (F:=BD E 600000 (TW E b) 97) (by simp) (E8 (e:=I8) (ρ:=τ) (args:=[.agg [.str ⟨1,77⟩,(.sl (τ 451) 0 1 (.op 1)),(.sl (τ 537) 0 1 (.op 1)),(.sl (τ 516) 0 2 (.op 13))],.int .i64 (AA 1)]) rfl hP.2 hP.1)
  simp only[Ae,Cl,or_false]at he
  have ha:=congrArg Yn hf.args
  rcases he with rfl|rfl|rfl
  ·exact⟨_,by rw[gJ,hr];rfl,DZ.fr0 MI (by kernel_rfl) hf ht⟩
  ·exact⟨_,by rw[gJ,hr];rfl,DZ.fr0 MH (by kernel_rfl) hf ht⟩
  ·exact Cm (show false=true from(congrArg (AW 2) ha).trans rfl)
theorem AEs (c:Nat) {Z:H} (ht:Aj Z) (hP:Pt Nf τ Z):∃Z',TW E (c+1) 148 [.agg [.str ⟨1,77⟩,(.sl (τ 451) 0 1 (.op 1)),(.sl (τ 537) 0 1 (.op 1)),(.sl (τ 516) 0 2 (.op 13))],.int .i64 (AA 0)] Z=some (.nils,Z')/\Fr AG Z Z':=by
 obtain⟨e,ρ,he,hf,hr⟩:=ET (e:=Th) (l:=[Th,Tg]) (F:=BD E 600000 (TW E c) 148) (by simp) (E8 (e:=Th) (ρ:=τ) (args:=[.agg [.str ⟨1,77⟩,(.sl (τ 451) 0 1 (.op 1)),(.sl (τ 537) 0 1 (.op 1)),(.sl (τ 516) 0 2 (.op 13))],.int .i64 (AA 0)]) rfl hP.2 hP.1)
 simp only[Ae,Cl,or_false]at he
 have ha:=congrArg yr hf.args
 rcases he with rfl|rfl
 ·exact⟨_,by rw[qR,hr];rfl,DZ.fr0 U0 (by kernel_rfl) hf ht⟩
 ·exact Cm (show false=true from(congrArg (AW 3) ha).trans rfl)
theorem OJ (a b:Nat):ZF (TW E (a+1) 96) (TW E (b+1) 97) (Pt Nf τ) 1 ⟨1,77⟩ (.sl (τ 451) 0 1 (.op 1)) (.sl (τ 537) 0 1 (.op 1)) (.sl (τ 516) 0 2 (.op 13)) (S7 τ) (zL τ) where
 nf12 := .inl rfl
 t4:=⟨⟨_,_,_,_,rfl,rfl,rfl,rfl,CV _ rfl,CV _ rfl,CV _ rfl⟩⟩
 ptf:=aD
 row:=fun Z h=>iq h
 frow:=fun Z h=>aC h
 tg0:=fun Z h=>Ro h.2 rfl rfl rfl
 tg:=fun Z k h hk=>q7 h k hk
 k0:=rfl
 itm:=rfl
 root:=rfl
 kd:=fun k hk=>by
  obtain rfl:k=0:=by omega
  exact⟨rfl,rfl⟩
 fty:=fun k hk=>by
  obtain rfl:k=0:=by omega
  exact⟨rfl,rfl⟩
 bw:=fun k hk=>by
  obtain rfl:k=0:=by omega
  exact qf a b
def Mi (τ:Nat->Nat):Nat->Ty
 | 0=>⟨AA 7,(.sl (τ 556) 0 1 (.ex 1)),false,false,false,false,AA 0,AA 0,.nils,(.sl (τ 652) 0 2 (.op 11)),AA 1,true,AA 0,rfl,rfl,rfl⟩
 | 1=>⟨AA 4,(.sl (τ 620) 0 1 (.ex 1)),false,false,false,false,AA 0,AA 0,.nils,.nils,AA 0,false,AA 0,rfl,rfl,rfl⟩
 | _=>⟨AA 4,(.sl (τ 650) 0 1 (.ex 1)),false,false,false,false,AA 0,AA 0,.nils,.nils,AA 0,false,AA 0,rfl,rfl,rfl⟩
def rY (τ:Nat->Nat):Nat->Fd
 | 0=>⟨⟨1,97⟩,AA 1,false,false,AA 0,AA 0,.nils,.nils,AA 0,.nils,AA 0,rfl,rfl,rfl⟩
 | _=>⟨⟨1,122⟩,AA 2,false,false,AA 0,AA 0,.nils,.nils,AA 0,.nils,AA 0,rfl,rfl,rfl⟩
theorem im {Z:H} (h:Pt Kf τ Z):Ea Z 13 3 (.sl (τ 649) 0 3 (.op 13)) fun i=>(Mi τ i).c:=
 ⟨.inr ⟨τ 649,_,_,rfl,h.2 649 _ rfl,fun k hk=>by
  have:k=0\/k=1\/k=2:=by omega
  rcases this with rfl|rfl|rfl<;>exact⟨Bu rfl,rfl⟩⟩⟩
theorem aB {Z:H} (h:Pt Kf τ Z):Ea Z 11 2 (Mi τ 0).fields fun k=>(rY τ k).c:=
 ⟨.inr ⟨τ 652,_,_,rfl,h.2 652 _ rfl,fun k hk=>by
  have:k=0\/k=1:=by omega
  rcases this with rfl|rfl<;>exact⟨Bu rfl,rfl⟩⟩⟩
theorem q0 {Z:H} (h:Pt Kf τ Z) (k:Nat) (hk:k<2):iI Z [(2,k)] (Mi τ (k+1)).tags:=by
 have:k=0\/k=1:=by omega
 rcases this with rfl|rfl<;>exact⟨Ro h.2 rfl rfl rfl,fun _=>⟨_,rfl⟩⟩
theorem qe (a b:Nat):Bw (TW E (a+1) 96) (TW E (b+1) 97) (Pt Kf τ) [.str ⟨1,77⟩,(.sl (τ 538) 0 1 (.op 1)),(.sl (τ 750) 0 1 (.op 1)),(.sl (τ 649) 0 3 (.op 13))] 1 0:=by
 refine⟨fun Z ht hP=>?_,fun Z ht hP=>?_⟩
 ·obtain⟨e,ρ,he,hf,hr⟩:=ET (e:=JA) (l:=[JB,JA,I9]) (F:=BD E 600000 (TW E a) 96) (by simp) (E8 (e:=JA) (ρ:=τ) (args:=[.agg [.str ⟨1,77⟩,(.sl (τ 538) 0 1 (.op 1)),(.sl (τ 750) 0 1 (.op 1)),(.sl (τ 649) 0 3 (.op 13))],.int .i64 (AA 1)]) rfl hP.2 hP.1)
  simp only[Ae,Cl,or_false]at he
  have ha:=congrArg Yn hf.args
  rcases he with rfl|rfl|rfl
  ·refine⟨_,_,by rw[gN,hr],?_,DZ.fr0 HA (by kernel_rfl) hf ht⟩
   exact .inr ⟨_,0,_,_,rfl,DZ.has HA hf ht 564 _ rfl,Bu rfl,rfl⟩
  ·refine⟨_,_,by rw[gN,hr],?_,DZ.fr0 G9 (by kernel_rfl) hf ht⟩
   exact .inr ⟨_,0,_,_,rfl,DZ.has G9 hf ht 777 _ rfl,Bu rfl,rfl⟩
  ·exact Cm (show false=true from(congrArg (AW 2) ha).trans rfl)
 ·obtain⟨e,ρ,he,hf,hr⟩:=ET (e:=I7) (l:=[I8,I7,I6]) (F:=BD E 600000 (TW E b) 97) (by simp) (E8 (e:=I7) (ρ:=τ) (args:=[.agg [.str ⟨1,77⟩,(.sl (τ 538) 0 1 (.op 1)),(.sl (τ 750) 0 1 (.op 1)),(.sl (τ 649) 0 3 (.op 13))],.int .i64 (AA 1)]) rfl hP.2 hP.1)
  simp only[Ae,Cl,or_false]at he
  have ha:=congrArg Yn hf.args
  rcases he with rfl|rfl|rfl
  ·exact⟨_,by rw[gJ,hr];rfl,DZ.fr0 MI (by kernel_rfl) hf ht⟩
  ·exact⟨_,by rw[gJ,hr];rfl,DZ.fr0 MH (by kernel_rfl) hf ht⟩
  ·exact Cm (show false=true from(congrArg (AW 2) ha).trans rfl)
theorem qd (a b:Nat):Bw (TW E (a+1) 96) (TW E (b+1) 97) (Pt Kf τ) [.str ⟨1,77⟩,(.sl (τ 538) 0 1 (.op 1)),(.sl (τ 750) 0 1 (.op 1)),(.sl (τ 649) 0 3 (.op 13))] 2 1:=by
 refine⟨fun Z ht hP=>?_,fun Z ht hP=>?_⟩
 ·obtain⟨e,ρ,he,hf,hr⟩:=ET (e:=I9) (l:=[JB,JA,I9]) (F:=BD E 600000 (TW E a) 96) (by simp) (E8 (e:=I9) (ρ:=τ) (args:=[.agg [.str ⟨1,77⟩,(.sl (τ 538) 0 1 (.op 1)),(.sl (τ 750) 0 1 (.op 1)),(.sl (τ 649) 0 3 (.op 13))],.int .i64 (AA 2)]) rfl hP.2 hP.1)
  simp only[Ae,Cl,or_false]at he
  have ha:=congrArg Yn hf.args
  rcases he with rfl|rfl|rfl
  ·exact Cm (show false=true from(congrArg (AW 1) ha).trans rfl)
  ·exact Cm (show false=true from(congrArg (AW 1) ha).trans rfl)
  ·refine⟨_,_,by rw[gN,hr],?_,DZ.fr0 MJ (by kernel_rfl) hf ht⟩
   exact .inr ⟨_,0,_,_,rfl,DZ.has MJ hf ht 777 _ rfl,Bu rfl,rfl⟩
 ·obtain⟨e,ρ,he,hf,hr⟩:=ET (e:=I6) (l:=[I8,I7,I6]) (F:=BD E 600000 (TW E b) 97) (by simp) (E8 (e:=I6) (ρ:=τ) (args:=[.agg [.str ⟨1,77⟩,(.sl (τ 538) 0 1 (.op 1)),(.sl (τ 750) 0 1 (.op 1)),(.sl (τ 649) 0 3 (.op 13))],.int .i64 (AA 2)]) rfl hP.2 hP.1)
  simp only[Ae,Cl,or_false]at he
  have ha:=congrArg Yn hf.args
  rcases he with rfl|rfl|rfl
  ·exact Cm (show false=true from(congrArg (AW 1) ha).trans rfl)
  ·exact Cm (show false=true from(congrArg (AW 1) ha).trans rfl)
  ·exact⟨_,by rw[gJ,hr];rfl,DZ.fr0 R9 (by kernel_rfl) hf ht⟩
theorem AEr (c:Nat) (Z:H) (ht:Aj Z) (hP:Pt Kf τ Z):∃s s' Z',TW E (c+1) 148 [.agg [.str ⟨1,77⟩,(.sl (τ 538) 0 1 (.op 1)),(.sl (τ 750) 0 1 (.op 1)),(.sl (τ 649) 0 3 (.op 13))],.int .i64 (AA 0)] Z=some (.sl s 0 1 (.op 1),Z')/\CB Z' s [.sl s' 0 1 (.ex 1)]/\CB Z' s' [.int .i64 (AA 1)]/\Fr AG Z Z':=by
 obtain⟨e,ρ,he,hf,hr⟩:=ET (e:=Tg) (l:=[Th,Tg]) (F:=BD E 600000 (TW E c) 148) (by simp) (E8 (e:=Tg) (ρ:=τ) (args:=[.agg [.str ⟨1,77⟩,(.sl (τ 538) 0 1 (.op 1)),(.sl (τ 750) 0 1 (.op 1)),(.sl (τ 649) 0 3 (.op 13))],.int .i64 (AA 0)]) rfl hP.2 hP.1)
 simp only[Ae,Cl,or_false]at he
 have ha:=congrArg yr hf.args
 rcases he with rfl|rfl
 ·exact Cm (show false=true from(congrArg (AW 2) ha).trans rfl)
 ·exact⟨_,_,_,by rw[qR,hr];rfl,DZ.has LK hf ht 771 _ rfl,DZ.has LK hf ht 769 _ rfl,DZ.fr0 LK (by kernel_rfl) hf ht⟩
theorem AE5 (e:Nat) (Z:H) (ht:Aj Z) (hP:Pt Kf τ Z):∃Z',TW E (e+1) 144 [.agg (Mi τ 0).c] Z=some (.int .i64 (AA 1),Z')/\Fr AG Z Z':=by
 have sub:∀id b,Go.Og.look Ti.bl0 id=some b->Go.Og.look Kf.bl1 id=some b:=fun id b h=>by
  have hi:Uu Ti.bl0 Kf.bl1=true:=by kernel_rfl
  exact MD hi (id,b) (Ff h)
 obtain⟨ρ,hf,hr⟩:=zC (e:=Ti) (F:=BD E 600000 (TW E e) 144) (E8 (e:=Ti) (ρ:=τ) (args:=[.agg (Mi τ 0).c]) rfl (fun id b h=>hP.2 id b (sub id b h)) (fun i j hi hj h=>by
  obtain⟨b,hb⟩:=Ce.1 hi
  obtain⟨b',hb'⟩:=Ce.1 hj
  exact hP.1 i j (Ce.2 ⟨_,sub i b hb⟩) (Ce.2 ⟨_,sub j b' hb'⟩) h))
 exact⟨_,by rw[ADS,hr];rfl,DZ.fr0 U2 (by kernel_rfl) hf ht⟩
theorem AFA (E:EB) (Z:H) (hP:Pt Kf τ Z):∃w,(∀J:V->AH,gK (DI 11 (Mi τ 0).fields (some (.int .i64 (AA 1))) none none) J=J w)/\w.one=true/\(∀J:Nat->AH,A2 w J=J 1)/\(∀Z',Pt Kf τ Z'->∀J:List V->AH,AU 11 w (AA 0) (fun b o=>BH E Z' b o 11 J)=J (rY τ 1).c):=by
 refine⟨.sl (τ 652) 11 1 (.op 11),fun J=>rfl,rfl,fun J=>rfl,fun Z' hP' J=>?_⟩
 rw[DJ (by decide)]
 show BH E Z' (τ 652) (11+0*11) 11 J=_
 rw[Au (hP'.2 652 _ rfl)]
 exact Hs (Bu rfl)
theorem RU (a b c e:Nat):xC (TW E (a+1) 96) (TW E (b+1) 97) (TW E (c+1) 148) (TW E (e+1) 144) (Pt Kf τ) ⟨1,77⟩ (.sl (τ 538) 0 1 (.op 1)) (.sl (τ 750) 0 1 (.op 1)) (.sl (τ 649) 0 3 (.op 13)) (Mi τ) (rY τ) where
 t4:=⟨⟨_,_,_,_,rfl,rfl,rfl,rfl,CV _ rfl,CV _ rfl,CV _ rfl⟩⟩
 ptf:=aD
 row:=fun Z h=>im h
 frow:=fun Z h=>aB h
 fs:=fun E Z h=>AFA E Z h
 tg0:=fun Z h=>Ro h.2 rfl rfl rfl
 tg:=fun Z k h hk=>q0 h k hk
 k0:=rfl
 itm:=rfl
 mor:=rfl
 root:=rfl
 kd:=fun k hk=>by
  have:k=0\/k=1:=by omega
  rcases this with rfl|rfl<;>exact⟨rfl,rfl⟩
 fty:=fun k hk=>by
  have:k=0\/k=1:=by omega
  rcases this with rfl|rfl<;>exact⟨rfl,rfl,rfl,rfl⟩
 bw:=fun k hk=>by
  have:k=0\/k=1:=by omega
  rcases this with rfl|rfl
  ·exact qe a b
  ·exact qd a b
 sl:=fun Z ht hP=>AEr c Z ht hP
 la:=fun Z ht hP=>AE5 e Z ht hP
theorem AFB (d:Nat):dH (Pt Kf τ) ⟨1,77⟩ (.sl (τ 538) 0 1 (.op 1)) (.sl (τ 750) 0 1 (.op 1)) (.sl (τ 649) 0 3 (.op 13)) (Mi τ) (TW E (d+6) 121):=by rw[ADX];exact zI (RU (E:=E) (τ:=τ) (d+1) 0 0 (d+4)) (ZK d) (AFG d) (xU d)
theorem AEt (d:Nat):nB (Pt Kf τ) ⟨1,77⟩ (.sl (τ 538) 0 1 (.op 1)) (.sl (τ 750) 0 1 (.op 1)) (.sl (τ 649) 0 3 (.op 13)) (Mi τ) (TW E (d+7) 125):=by rw[gP];exact yR (RU (E:=E) (τ:=τ) 0 0 (d+5) 0) (AFB d) (by decide)
theorem xZ (d:Nat):dA (fun ES:List (List Nat)=>(true:Bool)=true\/ES=[]) (Pt Kf τ) 2 ⟨1,77⟩ (.sl (τ 538) 0 1 (.op 1)) (.sl (τ 750) 0 1 (.op 1)) (.sl (τ 649) 0 3 (.op 13)) (Mi τ) (TW E (d+7) 125):=by
 intro Z p q r m hm ES ht hc hp hr
 by_cases he:ES=[]
 ·obtain⟨rfl,rfl⟩:=hr.rv.no he
  exact xd (d+6) ht hc (by decide) (vQ 2 q 0 .nils hm) rfl rfl
 ·have:=hr.rv.yes he
  subst this
  exact AEt (τ:=τ) d (hm:=hm) ht hc hp hr.rv.rw he hr.few hr.fre
theorem xa (d:Nat):dA (fun ES:List (List Nat)=>(false:Bool)=true\/ES=[]) (Pt Nf τ) 1 ⟨1,77⟩ (.sl (τ 451) 0 1 (.op 1)) (.sl (τ 537) 0 1 (.op 1)) (.sl (τ 516) 0 2 (.op 13)) (S7 τ) (TW E (d+7) 125):=by
 intro Z p q r m hm ES ht hc hp hr
 have he:ES=[]:=hr.p.resolve_left (fun h=>by cases h)
 obtain⟨rfl,rfl⟩:=hr.rv.no he
 exact xd (d+6) ht hc (by decide) (vQ 1 q 0 .nils hm) rfl rfl
theorem xm (d:Nat):XQ (Pt Kf τ) 2 ⟨1,77⟩ (.sl (τ 538) 0 1 (.op 1)) (.sl (τ 750) 0 1 (.op 1)) (.sl (τ 649) 0 3 (.op 13)) (Mi τ) (TW E (d+2) 128):=by rw[qS];exact zD (RU (E:=E) (τ:=τ) 0 0 d 0) (by decide)
theorem xn (d:Nat):XQ (Pt Nf τ) 1 ⟨1,77⟩ (.sl (τ 451) 0 1 (.op 1)) (.sl (τ 537) 0 1 (.op 1)) (.sl (τ 516) 0 2 (.op 13)) (S7 τ) (TW E (d+2) 128):=by
 intro Z p ht hc hp v
 rw[qS]
 exact YQ (fun Z1 h1 f=>AEs d h1 (aD _ _ ht f hp)) (by decide) ht hc (by decide) v
theorem xu (d:Nat):Nn (fun ES:List (List Nat)=>(true:Bool)=true\/ES=[]) (Pt Kf τ) 2 ⟨1,77⟩ (.sl (τ 538) 0 1 (.op 1)) (.sl (τ 750) 0 1 (.op 1)) (.sl (τ 649) 0 3 (.op 13)) (Mi τ) (TW E (d+8) 103):=by rw[gQ];exact mP (RU (E:=E) (τ:=τ) 0 0 0 0).q (Ku (d+6)) (xAb (d+5)) (xLs (d+6)) (lr (d+4)) (xZ d) (xm (d+5)) (by decide)
theorem xp (d:Nat):Nn (fun ES:List (List Nat)=>(true:Bool)=true\/ES=[]) (Pt Kf τ) 2 ⟨1,77⟩ (.sl (τ 538) 0 1 (.op 1)) (.sl (τ 750) 0 1 (.op 1)) (.sl (τ 649) 0 3 (.op 13)) (Mi τ) (TW E (d+9) 67):=by rw[lY];exact mM (RU (E:=E) (τ:=τ) 0 0 0 0).q (xu d)
theorem xr (d:Nat):XR (fun ES:List (List Nat)=>(true:Bool)=true\/ES=[]) (Pt Kf τ) 2 ⟨1,77⟩ (.sl (τ 538) 0 1 (.op 1)) (.sl (τ 750) 0 1 (.op 1)) (.sl (τ 649) 0 3 (.op 13)) (TW E (d+10) 40):=by rw[wE];exact mN (RU (E:=E) (τ:=τ) 0 0 0 0).q (xp d) (yB (.inr rfl) (d+7))
theorem qY (d:Nat):SW (fun ES:List (List Nat)=>(true:Bool)=true\/ES=[]) (Pt Kf τ) 2 ⟨1,77⟩ (.sl (τ 538) 0 1 (.op 1)) (.sl (τ 750) 0 1 (.op 1)) (.sl (τ 649) 0 3 (.op 13)) (TW E (d+11) 16):=by rw[wF];exact bA (RU (E:=E) (τ:=τ) 0 0 0 0).q (xr d) (xe (.inr rfl) (d+3)) (xy (d+2)) (xDe (d+2))
theorem xz (d:Nat):Qp true (Pt Kf τ) ⟨1,77⟩ (.sl (τ 538) 0 1 (.op 1)) (.sl (τ 750) 0 1 (.op 1)) (.sl (τ 649) 0 3 (.op 13)) (TW E (d+12) 9):=by
 rw[DE9]
 exact bS (add:=true) (RU (E:=E) (τ:=τ) (d+5) (d+5) 0 0).q (xg (d+2)) (by decide) (qY d) (fun h=>by cases h) (qg (d+10))
theorem qc (d:Nat):SX (Pt Nf τ) 1 ⟨1,77⟩ (.sl (τ 451) 0 1 (.op 1)) (.sl (τ 537) 0 1 (.op 1)) (.sl (τ 516) 0 2 (.op 13)) (TW E (d+5) 16):=by rw[wF];exact jT (OJ (E:=E) (τ:=τ) 0 0) rfl (AE9 d)
theorem xw (d:Nat):Nn (fun ES:List (List Nat)=>(false:Bool)=true\/ES=[]) (Pt Nf τ) 1 ⟨1,77⟩ (.sl (τ 451) 0 1 (.op 1)) (.sl (τ 537) 0 1 (.op 1)) (.sl (τ 516) 0 2 (.op 13)) (S7 τ) (TW E (d+8) 103):=by rw[gQ];exact mP (OJ (E:=E) (τ:=τ) 0 0) (Ku (d+6)) (xAb (d+5)) (xLs (d+6)) (lr (d+4)) (xa d) (xn (d+5)) (by decide)
theorem xq (d:Nat):Nn (fun ES:List (List Nat)=>(false:Bool)=true\/ES=[]) (Pt Nf τ) 1 ⟨1,77⟩ (.sl (τ 451) 0 1 (.op 1)) (.sl (τ 537) 0 1 (.op 1)) (.sl (τ 516) 0 2 (.op 13)) (S7 τ) (TW E (d+9) 67):=by rw[lY];exact mM (OJ (E:=E) (τ:=τ) 0 0) (xw d)
theorem xt (d:Nat):XR (fun ES:List (List Nat)=>(false:Bool)=true\/ES=[]) (Pt Nf τ) 1 ⟨1,77⟩ (.sl (τ 451) 0 1 (.op 1)) (.sl (τ 537) 0 1 (.op 1)) (.sl (τ 516) 0 2 (.op 13)) (TW E (d+10) 40):=by rw[wE];exact mN (OJ (E:=E) (τ:=τ) 0 0) (xq d) (yB (.inl rfl) (d+7))
theorem qZ (d:Nat):SW (fun ES:List (List Nat)=>(false:Bool)=true\/ES=[]) (Pt Nf τ) 1 ⟨1,77⟩ (.sl (τ 451) 0 1 (.op 1)) (.sl (τ 537) 0 1 (.op 1)) (.sl (τ 516) 0 2 (.op 13)) (TW E (d+11) 16):=by rw[wF];exact bA (OJ (E:=E) (τ:=τ) 0 0) (xt d) (xe (.inl rfl) (d+3)) (xy (d+2)) (xDe (d+2))
theorem yA (d:Nat):Qp false (Pt Nf τ) ⟨1,77⟩ (.sl (τ 451) 0 1 (.op 1)) (.sl (τ 537) 0 1 (.op 1)) (.sl (τ 516) 0 2 (.op 13)) (TW E (d+12) 9):=by
 rw[DE9]
 exact bS (add:=false) (OJ (E:=E) (τ:=τ) (d+5) (d+5)) (xg (d+2)) (by decide) (qZ d) (fun _=>qc (d+6)) (qg (d+10))
end
section
variable {E:EB}
theorem AEm (d:Nat) (add:Bool):nA (TW E (d+12)) (TW E (d+12) 6) add:=by
 intro Z ht
 cases add with
 | false=>
  have hne:¬t0=t1:=fun e=>by
   have:AW t0.len t1.len=true:=by rw[e];exact Sy _
   exact Cm (show false=true from this)
  obtain⟨e,ρ,he,hf,hr⟩:=ET (e:=Nf) (l:=[Nf,Kf]) (F:=BD E 600000 (TW E (d+11)) 6) (by simp) (E8 (e:=Nf) (ρ:=fun x=>x) (args:=[.str t0]) (Z:=Z) rfl ZG.nil qH.nil)
  have hee:e=Nf:=by
   simp only[Ae,Cl,or_false]at he
   rcases he with rfl|rfl
   ·rfl
   ·exfalso;have hx:[V.str t0]=[.str t1]:=hf.args;injection hx with hx _;injection hx with hx;exact hne hx
  subst hee
  have ht0:tK false=t0:=by kernel_rfl
  exact⟨Pt Nf (Nf.to ρ Z),_,_,_,_,_,by rw[show d+12=(d+11)+1 from rfl,DE6,ht0,hr];rfl,DZ.fr0 Mv (by kernel_rfl) hf ht,⟨DZ.to_inj Mv hf ht,DZ.has Mv hf ht⟩,aD,(OJ (E:=E) (τ:=Nf.to ρ Z) 0 0).t4,yA d⟩
 | true=>
  have hne:¬t1=t0:=fun e=>by
   have:AW t1.len t0.len=true:=by rw[e];exact Sy _
   exact Cm (show false=true from this)
  obtain⟨e,ρ,he,hf,hr⟩:=ET (e:=Kf) (l:=[Nf,Kf]) (F:=BD E 600000 (TW E (d+11)) 6) (by simp) (E8 (e:=Kf) (ρ:=fun x=>x) (args:=[.str t1]) (Z:=Z) rfl ZG.nil qH.nil)
  have hee:e=Kf:=by
   simp only[Ae,Cl,or_false]at he
   rcases he with rfl|rfl
   ·exfalso;have hx:[V.str t1]=[.str t0]:=hf.args;injection hx with hx _;injection hx with hx;exact hne hx
   ·rfl
  subst hee
  have ht0:tK true=t1:=by kernel_rfl
  exact⟨Pt Kf (Kf.to ρ Z),_,_,_,_,_,by rw[show d+12=(d+11)+1 from rfl,DE6,ht0,hr];rfl,DZ.fr0 Mu (by kernel_rfl) hf ht,⟨DZ.to_inj Mu hf ht,DZ.has Mu hf ht⟩,aD,(RU (E:=E) (τ:=Kf.to ρ Z) 0 0 0 0).t4,xz d⟩
theorem xAw (d:Nat):kA (TW E (d+1) 10):=by
 intro Z ht
 obtain⟨ρ,hf,hr⟩:=zC (e:=xB) (F:=BD E 600000 (TW E d) 10) (E8 (e:=xB) (ρ:=fun x=>x) (args:=[]) (Z:=Z) rfl ZG.nil qH.nil)
 exact⟨_,by rw[AIK,hr];rfl,DZ.fr0 Ya (by kernel_rfl) hf ht⟩
theorem Mw {a cv:V} {n:Nat} {f:Nat->Int} {c:List Nat} (ha:xQ E a n f) (oa:a.one=true) (hc:Ix c) (hcv:Bx E ⟨100,[]⟩ cv (nI c)) (add:Bool):okB (F5 E (TW E 59) (AT E (TW E 59)) 600000 [a,cv,.bool add] ⟨100,[]⟩)=true:=by
 have ht:Aj ⟨100,[]⟩:=fun _ _=>rfl
 obtain⟨Z',h⟩:=rR (E:=E) (D:=TW E 59) (N:=600000) (fun s=>AEm 47 s) (AEy 56) (xAw 58) (xX 57) (AEn 55) (by decide) ht (AL _) rfl ha oa hc hcv add
 rw[h];rfl
end
end
end Go.Proofs.YtoengnbdallegaaGreatDoor
namespace Go.Proofs.YtoengnbdallegaaGreatDoor.derinKeeps
open Go
theorem YK:(Rows.derinKeepsRow.inPlace==Tryz.pinned.checked.prog.inPlace 5)=true:=by kernel_rfl
theorem Ry:(Rows.derinKeepsRow.unfollowed==Tryz.pinned.checked.prog.unfollowed 5)=true:=by kernel_rfl
theorem Ut:(Rows.derinKeepsRow.recurses==Tryz.pinned.checked.prog.recurses 5)=true:=by kernel_rfl
theorem TV:(Rows.derinKeepsRow.named==Tryz.pinned.checked.prog.varsNamed 5)=true:=by kernel_rfl
end Go.Proofs.YtoengnbdallegaaGreatDoor.derinKeeps
