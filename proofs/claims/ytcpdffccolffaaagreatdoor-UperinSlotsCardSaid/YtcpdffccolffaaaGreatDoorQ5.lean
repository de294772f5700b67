/- What the last text leans on, part 6 of 7: merged out of smaller texts. No condition. -/
import Derived.KernelRfl
import Derived.Test.YtcpdffccolffaaaGreatDoorQ4
open Int renaming ofNat -> AA,negSucc -> FM,natCast_nonneg -> Rf
open Nat renaming reduceLeDiff -> AB,reduceEqDiff -> AD,reduceLT -> AG,le_refl -> AN,add -> Ac,le_trans -> Ae,lt_or_ge -> Al,ble_eq -> BC,mod_eq_of_lt -> Bw,lt_succ_self -> Bz,lt_irrefl -> CD,zero_le -> CH,zero_add -> CJ,mul_one -> C8,add_zero -> ES,le_succ -> Ec,add_assoc -> GI,min_eq_left -> HD,add_sub_cancel_left -> IL,sub_self -> M6,le_add_right -> M7,not_lt_zero -> PM
open Bool renaming and_eq_true -> AK,not_true -> Cn,false_or -> DL,and_true -> EN,not_false -> FN,true_and -> Hz,or_false -> Jj,not_eq_true -> M9
open List renaming length_append -> AL,getElem?_eq_getElem -> AZ,getElem?_eq_none -> Aa,append_assoc -> Ab,getD_eq_getElem?_getD -> Ad,length_cons -> Aj,append_nil -> Am,mem_cons -> BJ,getElem?_map -> BM,replicate -> Bj,drop_eq_getElem_cons -> B4,length_nil -> CA,drop_zero -> CO,getElem?_append_right -> CY,length_singleton -> Cc,nil_append -> Cy,getElem?_drop -> DC,drop_eq_nil_of_le -> DD,length_map -> DH,getElem_mem -> DK,getElem?_append_left -> Dl,getElem?_eq_some_iff -> Eo,getElem?_take -> Ey,cons_append -> Ez,mem_map -> FA,mem_append -> Fe,length_take -> IM,getElem?_cons_zero -> IN,drop_drop -> IP,take_length -> M8,replicate_succ -> OM,map_append -> PN
set_option linter.all false
set_option maxRecDepth 100000
namespace Go.Proofs.YtcpdffccolffaaaGreatDoor
open Go Go.Og
noncomputable section
structure Vc where
 k:Int
 n:Int
 b:V
 l:V
 r:Int
 m:V
 oneB:b.one=true
 oneL:l.one=true
 oneM:m.one=true
def Vc.c (x:Vc):List V:=[.int .i64 x.k,.int .i64 x.n,x.b,x.l,.int .i64 x.r,x.m]
def Vc.abs:Vc:=⟨AA 0,AA 0,.nils,.nils,AA 0,.nils,rfl,rfl,rfl⟩
def Vc.sq (l:V) (h:l.one=true) (r:Int) (m:V) (hm:m.one=true):Vc:=⟨AA 7,AA 0,.nils,l,r,m,rfl,h,hm⟩
def OT (p:Nat->Bool):Nat->Nat->Int
 | 0,_=>FM 0
 | m+1,i=>if p i=true then AA i else OT p m (i+1)
def bN (p:Nat->Bool):Nat->Nat->Bool
 | 0,_=>false
 | m+1,i=>p i || bN p m (i+1)
theorem VM (p:Nat->Bool):∀m i,Hk (AA 0) (OT p m i)=bN p m i
 | 0,i=>rfl
 | m+1,i=>by
  unfold OT bN
  by_cases h:p i=true
  ·rw[if_pos h,h];simp only[HN,CH,decide_true,Bool.true_or]
  ·rw[if_neg h,VM p m (i+1)];simp only[M9]at h;rw[h,DL]
theorem Vh {p:Nat->Bool}:∀{m i:Nat},(∀k,i<=k->k<i+m->p k=false)->bN p m i=false
 | 0,i,_=>rfl
 | m+1,i,h=>by
  unfold bN
  rw[h i (AN _) (by omega),Vh (fun k h1 h2=>h k (by omega) (by omega))];rfl
section
variable {E:EB} {D:Az} {W:AM} {N:Nat} {J J':H} {p nT:Nat} {ty:Nat->Ty} {nm:BS} {nv rv tv:V} {rest:List V}
def yd (D:Az) (J:H) (f:Nat) (caps:List V) (n:Nat) (g:Nat->Vc) (q:Nat->Bool):Prop:=∀(J1:H) (k:Nat),k<n->Fr AJ J J1->∃J2,D f ([]++[.agg (g k).c]++caps) J1=some (.bool (q k),J2)/\Fr AJ J1 J2
theorem AAE {v:V} {n:Nat} {g:Nat->Vc} {f:Nat} {caps:List V} {q:Nat->Bool} (ht:Af J) (hr:GO J 6 n v fun k=>(g k).c) (hq:yd D J f caps n g q) (hN:n<N) (hn:n<=1000000) :
  ∃J',bh E D W N [v,.fn f [] caps] J=some (.int .i64 (OT q n 0),J')/\Fr AJ J J':=by
 have loop:∀(m n' i:Nat) (J1:H),i+m=n->m<n'->Fr AJ J J1->∃J2,RM E D W N n' v (.fn f [] caps) (AA n) (AA i) J1=some (.int .i64 (OT q m i),J2)/\Fr AJ J J2:=by
  intro m
  induction m with
  | zero=>
   intro n' i J1 hi hn' f1
   obtain⟨n',rfl⟩:∃k,n'=k+1:=⟨n'-1,by omega⟩
   refine⟨J1,?_,f1⟩
   show Nc E D W _ _ v (.fn f [] caps) (AA n) (AA i) J1=_
   unfold Nc
   rw[Ek,decide_eq_false (by omega),Co];rfl
  | succ m ih=>
   intro n' i J1 hi hn' f1
   obtain⟨n',rfl⟩:∃k,n'=k+1:=⟨n'-1,by omega⟩
   have hlt:i<n:=by omega
   have r1:=hr.fr0 f1 ht
   have rd:∀U,AT 6 v (AA i) (fun b o=>BQ E J1 b o 6 U)=U (g i).c:=fun U=>r1.all hlt U
   obtain⟨J2,g2,f2⟩:=hq J1 i hlt f1
   have f12:=f1.trans f2 (fun _ _ h=>h)
   show ∃J',Nc E D W _ (RM E D W N n') v (.fn f [] caps) (AA n) (AA i) J1=_/\_
   unfold Nc
   have cv:∀U,Ed D (.fn f [] caps) [.agg (g i).c] J1 U=U (.bool (q i)) J2:=fun U=>by
    show AW (D f ([]++[.agg (g i).c]++caps) J1) U=_
    rw[g2];rfl
   unfold Vc.c at rd cv
   have d1:decide (i<n)=true:=decide_eq_true hlt
   simp -implicitDefEqProofs only [↓rP,rA,AD,AG,AB,d1,↓rd,(g i).oneB,(g i).oneL,(g i).oneM,↓cv]
   unfold OT
   by_cases hqi:q i=true
   ·rw[hqi,I0,if_pos rfl]
    exact⟨J2,rfl,f12⟩
   ·rw[M9]at hqi
    rw[hqi,Co,if_neg (by simp),BX (by omega)]
    exact ih n' (i+1) J2 (by omega) (by omega) f12
 obtain⟨J2,h1,h2⟩:=loop n N 0 J (by omega) hN (Fr.refl ht)
 refine⟨J2,?_,h2⟩
 show Tu E D W (RM E D W N N) v (.fn f [] caps) J=_
 unfold Tu
 rw[hr.len.2]
 exact h1
def AAn (F:List V->H->AH) (D:Az):Prop:=∀{J:H} {v:V} {n:Nat} {g:Nat->Vc} {f:Nat} {caps:List V} {q:Nat->Bool},Af J->GO J 6 n v (fun k=>(g k).c)->yd D J f caps n g q->n<=10000 ->
  ∃J',F [v,.fn f [] caps] J=some (.int .i64 (OT q n 0),J')/\Fr AJ J J'
def iF (F:List V->H->AH) (D:Az):Prop:=∀{J:H} {v:V} {n:Nat} {g:Nat->Vc} {f:Nat} {caps:List V} {q:Nat->Bool},Af J->GO J 6 n v (fun k=>(g k).c)->yd D J f caps n g q->n<=10000 ->
  ∃J',F [v,.fn f [] caps] J=some (.bool (bN q n 0),J')/\Fr AJ J J'
theorem AAd {D':Az} (hI:AAn (D 192) D'):iF (kP E D W N) D':=by
 intro J v n g f caps q ht hr hq hn
 obtain⟨J2,h1,h2⟩:=hI ht hr hq hn
 refine⟨J2,?_,h2⟩
 show Xa E D W v (.fn f [] caps) J=_
 unfold Xa
 rw[h1]
 show some (V.bool (Hk (AA 0) (OT q n 0)),J2)=_
 rw[VM]
end
section
variable {E:EB} {D:Az} {W:AM} {N:Nat} {J J':H} {p nT:Nat} {ty:Nat->Ty} {nm:BS} {nv rv tv:V} {rest:List V}
structure Iq (J:H) (x:Ty) (nf:Nat) (fd:Nat->Fd):Prop where
 kind:x.kind=AA 7
 row:GO J 11 nf x.fields fun k=>(fd k).c
 small:nf<=1000
theorem Iq.fr {x:Ty} {nf:Nat} {fd:Nat->Fd} (h:Iq J x nf fd) (f:Fr AJ J J') (ht:Af J):Iq J' x nf fd:=⟨h.kind,h.row.fr0 f ht,h.small⟩
structure JT (J:H) (sv:V) (S:List Nat) (bl:Nat->Nat):Prop where
 row:GO J 1 S.length sv fun j=>[.sl (bl j) 0 1 (.ex 1)]
 at_:∀j k,S[j]? = some k->B8 J (bl j) [.int .i64 (AA k)]
 one:sv.one=true
theorem JT.fr {sv:V} {S:List Nat} {bl:Nat->Nat} (h:JT J sv S bl) (f:Fr AJ J J') (ht:Af J):JT J' sv S bl:=⟨h.row.fr0 f ht,fun j k hk=>f.at_ (h.at_ j k hk) ht (fun h=>h),h.one⟩
theorem JT.rd {sv:V} {S:List Nat} {bl:Nat->Nat} (h:JT J sv S bl) {j k:Nat} (hj:S[j]? = some k) (U:V->AH):AT 1 sv (AA j) (fun b o=>BL E J b o U)=U (.sl (bl j) 0 1 (.ex 1)):=by
 have hlt:j<S.length:=by
  rcases Al j S.length with h|h
  ·exact h
  ·rw[Aa h]at hj;cases hj
 have:=h.row.one (E:=E) hlt (j:=0) rfl U
 exact this
def PE (P:H->Prop) (S:List Nat) (i:Nat) (nm:BS) (nv rv tv:V) (F:List V->H->AH):Prop:=∀(J:H),Af J->P J->∃sv bl J',F [.agg [.str nm,nv,rv,tv],.int .i64 (AA i)] J=some (sv,J')/\JT J' sv S bl/\Fr AJ J J'/\(∀b,Ai sv b->J.next<=b)/\∀j,j<S.length->J.next<=bl j
theorem dy {P:H->Prop} (hPf:∀J J',Af J->Fr AJ J J'->P J->P J') {S:List Nat} {i:Nat} (hS:PE P S i nm nv rv tv (D 176)) (hN:S.length<N) (hNS:S.length<=1000) (ht:Af J) (hP:P J) (hc:Ck J p nT ty nm nv rv tv [.bool false]) (hi:i<nT) {nf:Nat} {fd:Nat->Fd} (hs:Iq J (ty i) nf fd)
  (hf:∀k∈S,k<nf) (hg:∀k∈S,(fd k).group=AA 0) (v:Vc) :
  ∃J',YJ E D W N [.ptr p 0,.int .i64 (AA i),.agg v.c] J=some (.bool true,J')/\Fr AJ J J':=by
 obtain⟨J1,e1,f1,a1,n1⟩:=Ay ht v.c
 have c1:=hc.fr f1 ht
 have rd:∀U,AT 13 tv (AA i) (fun b o=>BQ E J1 b o 13 U)=U (ty i).c:=fun U=>c1.row.all hi U
 obtain⟨sv,bl,J2,g2,sl,f2,_⟩:=hS J1 f1.tidy (hPf _ _ ht f1 hP)
 have f02:=f1.trans f2 (fun _ _ h=>h)
 have hs2:=hs.fr f02 ht
 have pt:=c1.at_
 refine⟨J2,?_,f02⟩
 unfold Vc.c at e1 a1
 simp only[Ez,Cy]at pt
 have lsv:=sl.row.len.2
 have key:∀K,Tv E D W K p 0 (AA i) v.k v.n v.b v.l v.r v.m J=K J.next 0 sv (AA S.length) (AA 0) (ty i).kind (ty i).tags (ty i).has (ty i).hasLow (ty i).hasHigh (ty i).conMore (ty i).low (ty i).high (ty i).items (ty i).fields (ty i).root (ty i).more (ty i).of_ J2:=by
  intro K
  unfold Tv
  simp -implicitDefEqProofs only [↓rP,rA,AD,AG,AB,c1.n1,c1.r1,c1.t1,v.oneB,v.oneL,v.oneM,↓e1,↓c1.types,↓rd,Ty.c,(ty i).oneT,(ty i).oneI,(ty i).oneF,↓BT pt,↓g2,↓CM sl.one,↓lsv]
 have loop:∀(m n' j:Nat),j+m=S.length->m<n'->Ub E D W N n' J.next 0 sv (AA S.length) (AA j) (ty i).kind (ty i).tags (ty i).has (ty i).hasLow (ty i).hasHigh (ty i).conMore (ty i).low (ty i).high (ty i).items (ty i).fields (ty i).root (ty i).more (ty i).of_ J2=some (.bool true,J2):=by
  intro m
  induction m with
  | zero=>
   intro n' j hj hn'
   obtain⟨n',rfl⟩:∃k,n'=k+1:=⟨n'-1,by omega⟩
   show Lw E D W (gY E D W) _ _ J.next 0 sv (AA S.length) (AA j) _ _ _ _ _ _ _ _ _ _ _ _ _ J2=_
   have k0:∀K1 K3 K5,Lw E D W K1 K3 K5 J.next 0 sv (AA S.length) (AA j) (ty i).kind (ty i).tags (ty i).has (ty i).hasLow (ty i).hasHigh (ty i).conMore (ty i).low (ty i).high (ty i).items (ty i).fields (ty i).root (ty i).more (ty i).of_ J2=K1 J2:=by
    intro K1 K3 K5
    unfold Lw
    rw[Ek,decide_eq_false (by omega),Co]
   rw[k0];rfl
  | succ m ih=>
   intro n' j hj hn'
   obtain⟨n',rfl⟩:∃k,n'=k+1:=⟨n'-1,by omega⟩
   have hlt:j<S.length:=by omega
   have hk:S[j]? = some S[j]:=AZ hlt
   have hm:S[j]∈S:=DK hlt
   have ab:=sl.at_ j _ hk
   have r1:∀U,AT 1 sv (AA j) (fun b o=>BL E J2 b o U)=U (.sl (bl j) 0 1 (.ex 1)):=fun U=>sl.rd hk U
   have ia:∀U:Nat->Nat->AH,AT 1 (.sl (bl j) 0 1 (.ex 1)) (AA 0) U=U (bl j) 0:=fun U=>CR (Bz 0)
   have rg:∀U,AT 11 (ty i).fields (AA S[j]) (fun b o=>BL E J2 b (Ac o 10) U)=U (.int .i64 (AA 0)):=fun U=>by
    have:=hs2.row.one (E:=E) (hf _ hm) (j:=10) (u := .int .i64 (fd S[j]).group) rfl U
    rw[hg _ hm]at this
    exact this
   have d1:decide (j<S.length)=true:=decide_eq_true hlt
   have k1:∀K1 K3 K5,Lw E D W K1 K3 K5 J.next 0 sv (AA S.length) (AA j) (ty i).kind (ty i).tags (ty i).has (ty i).hasLow (ty i).hasHigh (ty i).conMore (ty i).low (ty i).high (ty i).items (ty i).fields (ty i).root (ty i).more (ty i).of_ J2=K3 J.next 0 sv (AA S.length) (AA j) (ty i).kind (ty i).tags (ty i).has (ty i).hasLow (ty i).hasHigh (ty i).conMore (ty i).low (ty i).high (ty i).items (ty i).fields (ty i).root (ty i).more (ty i).of_ J2:=by
    intro K1 K3 K5
    unfold Lw
    simp -implicitDefEqProofs only [↓Kj,↓Kk,↓GR,↓Sb,Ek,DY,d1,↓r1,↓ia,↓AY ab,↓rg,decide_true]
   refine(k1 _ _ _).trans ?_
   show Ub E D W N n' J.next 0 sv (AA S.length) (CU .i64 (AA j) (AA 1)) _ _ _ _ _ _ _ _ _ _ _ _ _ J2=_
   rw[BX (by omega)]
   exact ih n' (j+1) (by omega) (by omega)
 exact(key _).trans (loop S.length N 0 (by omega) hN)
end
section
variable {E:EB} {D:Az} {W:AM} {N:Nat} {J J':H} {p nT:Nat} {ty:Nat->Ty} {nm:BS} {nv rv tv:V} {rest:List V}
end
section
variable {E:EB} {D:Az} {W:AM} {N:Nat} {J J':H} {p nT:Nat} {ty:Nat->Ty} {nm:BS} {nv rv tv:V} {rest:List V}
theorem ZC {v:Vc} {n:Nat} {g:Nat->Vc} (hN:n<N) (hn:n<=10000) (ht:Af J) (hr:GO J 6 n v.l fun k=>(g k).c)
  (hq:∀(J1:H) (k:Nat),k<n->Fr AJ J J1->∃J2,D 60 [.agg (g k).c] J1=some (.int .i64 (AA 1),J2)/\Fr AJ J1 J2) :
  ∃J',sW E D W N [.agg v.c] J=some (.int .i64 (AA (1+n)),J')/\Fr AJ J J':=by
 have loop:∀(m n' i:Nat) (J1:H),i+m=n->m<n'->Fr AJ J J1->∃J2,jC E D W N n' (AA (1+i)) v.l (AA n) (AA i) J1=some (.int .i64 (AA (1+n)),J2)/\Fr AJ J J2:=by
  intro m
  induction m with
  | zero=>
   intro n' i J1 hi hn' f1
   obtain⟨n',rfl⟩:∃k,n'=k+1:=⟨n'-1,by omega⟩
   refine⟨J1,?_,f1⟩
   show Si E D W _ _ (AA (1+i)) v.l (AA n) (AA i) J1=_
   unfold Si
   rw[Ek,decide_eq_false (by omega),Co]
   obtain rfl:i=n:=by omega
   rfl
  | succ m ih=>
   intro n' i J1 hi hn' f1
   obtain⟨n',rfl⟩:∃k,n'=k+1:=⟨n'-1,by omega⟩
   have hlt:i<n:=by omega
   have rd:∀U,AT 6 v.l (AA i) (fun b o=>BQ E J1 b o 6 U)=U (g i).c:=fun U=>(hr.fr0 f1 ht).all hlt U
   obtain⟨J2,g2,f2⟩:=hq J1 i hlt f1
   obtain⟨J3,g3,f3⟩:=ih n' (i+1) J2 (by omega) (by omega) (f1.trans f2 (fun _ _ h=>h))
   refine⟨J3,?_,f3⟩
   unfold Vc.c at rd g2
   have d1:decide (i<n)=true:=decide_eq_true hlt
   have key:∀K1 K2,Si E D W K1 K2 (AA (1+i)) v.l (AA n) (AA i) J1=K2 (AA (1+(i+1))) v.l (AA n) (AA (i+1)) J2:=by
    intro K1 K2
    unfold Si
    simp -implicitDefEqProofs only [↓rP,rA,AD,AG,AB,d1,↓rd,(g i).oneB,(g i).oneL,(g i).oneM,↓g2,BX (show 1+i+1<=9223372036854775807 by omega),BX (show i+1<=9223372036854775807 by omega),GI]
   exact(key _ _).trans g3
 obtain⟨J1,e1,f1,a1,n1⟩:=Ay ht v.c
 obtain⟨J2,h1,h2⟩:=loop n N 0 J1 (by omega) hN f1
 refine⟨J2,?_,h2⟩
 unfold Vc.c at e1 a1
 have hln:=hr.len.2
 have key:∀K,ZW E D W K v.k v.n v.b v.l v.r v.m J=K (AA 1) v.l (AA n) (AA 0) J1:=by
  intro K
  unfold ZW
  simp -implicitDefEqProofs only [↓rP,rA,AD,AG,AB,v.oneB,v.oneL,v.oneM,↓e1,↓hln,↓AY a1]
 exact(key _).trans h1
theorem Ys {D':Az} (hC:iF (D 116) D') {v:Vc} {n:Nat} {g:Nat->Vc} {ru:Int} (hn:n<=10000) (hv:(Cu v.r (AA 0) || Cu v.r ru)=true) (ht:Af J) (hr:GO J 6 n v.l fun k=>(g k).c)
  (hq:∀(J1:H) (q k:Nat),k<n->Fr AJ J J1->B8 J1 q [.int .i64 ru]->∃J2,D' 117 ([]++[.agg (g k).c]++[.ptr q 0]) J1=some (.bool false,J2)/\Fr AJ J1 J2) :
  ∃J',xe E D W N [.agg v.c,.int .i64 ru] J=some (.bool true,J')/\Fr AJ J J':=by
 obtain⟨J1,e1,f1,a1,n1⟩:=Ay ht v.c
 obtain⟨J2,e2,f2,a2,n2⟩:=Ay f1.tidy [.int .i64 ru]
 have f02:=f1.trans f2 (fun _ _ h=>h)
 have a12:=f2.at_ a1 f1.tidy (fun h=>h)
 obtain⟨J3,g3,f3⟩:=hC (J:=J2) (caps:=[.ptr J1.next 0]) (f:=117) (q:=fun _=>false) f02.tidy (hr.fr0 f02 ht) (fun J9 k hk f9=>hq J9 J1.next k hk (f02.trans f9 (fun _ _ h=>h)) (f9.at_ a2 f02.tidy (fun h=>h))) hn
 rw[Vh (fun _ _ _=>rfl)]at g3
 refine⟨J3,?_,f02.trans f3 (fun _ _ h=>h)⟩
 unfold Vc.c at e1 a12
 show fh E D W v.k v.n v.b v.l v.r v.m ru J=_
 unfold fh
 cases h0:Cu v.r (AA 0)with
 | true=>simp -implicitDefEqProofs only [↓rP,rS,Ek,HN,v.oneB,v.oneL,v.oneM,↓e1,↓e2,↓AY a12,↓AY a2,h0,↓g3]
 | false=>
  rw[h0,DL]at hv
  simp -implicitDefEqProofs only [↓rP,rS,Ek,HN,v.oneB,v.oneL,v.oneM,↓e1,↓e2,↓AY a12,↓AY a2,h0,hv,↓g3]
theorem cf {v:Vc} {ru:Int} {q:Nat} (hq:∀J1:H,Af J1->Fr AJ J J1->∃J2,D 61 [.agg v.c,.int .i64 ru] J1=some (.bool true,J2)/\Fr AJ J1 J2) (ht:Af J) (ha:B8 J q [.int .i64 ru]) :
  ∃J',bq E D W N ([]++[.agg v.c]++[.ptr q 0]) J=some (.bool false,J')/\Fr AJ J J':=by
 obtain⟨J1,e1,f1,a1,n1⟩:=Ay ht v.c
 obtain⟨J2,g2,f2⟩:=hq J1 f1.tidy f1
 have a2:=f1.at_ ha ht (fun h=>h)
 refine⟨J2,?_,f1.trans f2 (fun _ _ h=>h)⟩
 unfold Vc.c at e1 a1 g2
 show XZ E D W v.k v.n v.b v.l v.r v.m (.ptr q 0) J=_
 unfold XZ
 simp -implicitDefEqProofs only [↓rP,rA,AD,AG,AB,v.oneB,v.oneL,v.oneM,↓e1,↓BT a1,↓AY a2,↓g2]
theorem xa {i n:Nat} {v:Vc} (hn:n<=5000) (ht:Af J) (hr:GO J 13 nT tv fun i=>(ty i).c) (h1:nv.one=true) (h2:rv.one=true) (h3:tv.one=true)
  (hF:∀(J1:H) (p:Nat),Af J1->Fr AJ J J1->Ck J1 p nT ty nm nv rv tv [.bool false]->∃J2,D 59 [.ptr p 0,.int .i64 (AA i),.agg v.c,.int .i64 (AA 1)] J1=some (.bool true,J2)/\Fr AJ J1 J2)
  (hC:∀J1:H,Af J1->Fr AJ J J1->∃J2,D 60 [.agg v.c] J1=some (.int .i64 (AA n),J2)/\Fr AJ J1 J2) :
  ∃J',xj E D W N [.agg [.str nm,nv,rv,tv],.int .i64 (AA i),.agg v.c] J=some (.bool true,J')/\Fr AJ J J':=by
 obtain⟨J1,e1,f1,a1,n1⟩:=Ay ht [.str nm,nv,rv,tv]
 obtain⟨J2,e2,f2,a2,n2⟩:=Ay f1.tidy v.c
 obtain⟨J3,e3,f3,a3,n3⟩:=Ay f2.tidy [.str nm,nv,rv,tv,.bool false]
 have f02:=f1.trans f2 (fun _ _ h=>h)
 have f03:=f02.trans f3 (fun _ _ h=>h)
 have r3:=hr.fr0 f03 ht
 have c3:Ck J3 J2.next nT ty nm nv rv tv [.bool false]:=⟨a3,h1,h2,h3,r3,fun b hb e=>by
  subst e
  have lo:=f02.le
  rcases hr.is with ⟨_,rfl⟩|⟨b,c,L,rfl,ha,_⟩
  ·exact hb
  ·have:=ha.lt ht
   have hb:J2.next=b:=hb
   omega⟩
 obtain⟨J4,g4,f4⟩:=hF J3 J2.next f3.tidy f03 c3
 have f04:=f03.trans f4 (fun _ _ h=>h)
 obtain⟨J5,g5,f5⟩:=hC J4 f4.tidy f04
 have a12:=f2.at_ a1 f1.tidy (fun h=>h)
 have a23:=f3.at_ a2 f2.tidy (fun h=>h)
 have a24:=f4.at_ a23 f3.tidy (fun h=>h)
 have d1:decide (n<=5000)=true:=decide_eq_true hn
 refine⟨J5,?_,f04.trans f5 (fun _ _ h=>h)⟩
 unfold Vc.c at e2 a2 a23 a24 g4 g5
 show Vw E D W nm nv rv tv (AA i) v.k v.n v.b v.l v.r v.m J=_
 unfold Vw
 simp -implicitDefEqProofs only [↓rP,rA,AD,AG,AB,h1,h2,h3,v.oneB,v.oneL,v.oneM,↓e1,↓e2,↓e3,↓BT a12,↓BT a23,↓BT a24,↓g4,↓g5,d1]
end
structure Wk (J0 J:H) (eb w:Nat) (u:V) (cs:List V) (L:List Nat):Prop where
 pw:Pw J w u L
 f:Fr AJ J0 J
 lo:∀b,Ht w u b->J0.next<=b
 e:B8 J eb (.ptr w 0::cs)
 eo:E4 J w u eb
structure Tb (J:H) (nT:Nat) (ty:Nat->Ty) (nv rv tv:V):Prop where
 row:GO J 13 nT tv fun i=>(ty i).c
 n1:nv.one=true
 r1:rv.one=true
 t1:tv.one=true
section
variable {J0 J J1:H} {eb w:Nat} {u u1:V} {cs:List V} {L L1:List Nat} {nT:Nat} {ty:Nat->Ty} {nm:BS} {nv rv tv:V}
theorem Tb.fr (h:Tb J nT ty nv rv tv) (f:Fr AJ J J1) (ht:Af J):Tb J1 nT ty nv rv tv:=⟨h.row.fr0 f ht,h.n1,h.r1,h.t1⟩
theorem Wk.tidy (k:Wk J0 J eb w u cs L):Af J:=k.f.tidy
theorem Wk.step (k:Wk J0 J eb w u cs L) (s:D1 J w u J1 u1 L1):Wk J0 J1 eb w u1 cs L1:=by
 refine⟨s.wr,k.f.trans s.f (fun b hb hn=>?_),fun b hb=>?_,s.at_ k.tidy k.eo k.e,s.off k.eo⟩
 ·have:=k.lo b hn;omega
 ·rcases hb with hb|hb
  ·exact k.lo b (.inl hb)
  ·rcases s.g b hb with h|h
   ·exact k.lo b (.inr h)
   ·exact Ae k.f.le h
theorem Wk.fr (k:Wk J0 J eb w u cs L) (f:Fr AJ J J1):Wk J0 J1 eb w u cs L:=
 ⟨k.pw.fr f k.tidy,k.f.trans f (fun _ _ h=>h),k.lo,f.at_ k.e k.tidy (fun h=>h),k.eo.fr f⟩
theorem Wk.enc {E:EB} (k:Wk J0 J eb w u cs L) (U:V->AH):BL E J eb 0 U=U (.ptr w 0):=(AY k.e).trans rfl
end
section
variable {E:EB} {D:Az} {W:AM} {N:Nat}
def So (F:List V->H->AH) (nT:Nat) (ty:Nat->Ty) (i:Nat) (v:Vc) (X:List Nat):Prop:=∀(J0 J:H) (eb w:Nat) (u:V) (L:List Nat) (nm:BS) (nv rv tv:V),Af J0->Tb J0 nT ty nv rv tv->Wk J0 J eb w u [.str nm,nv,rv,tv] L->L.length<1000000 ->
 ∃u' J',F [.ptr eb 0,.int .i64 (AA i),.agg v.c] J=some (.tup [],J')/\D1 J w u J' u' (L++X)
end
def RC (F:List V->H->AH) (n:Nat) (g:Nat->Vc) (ab:Nat->Bool):Prop:=∀(J:H) (k:Nat),k<n->Af J->∃J',F [.agg (g k).c] J=some (.bool (ab k),J')/\Fr AJ J J'
def bI (l:List Bool):List V:=l.map V.bool
def eC:List Bool->Nat->Int
 | [],_=>FM 0
 | true::_,i=>AA i
 | false::l,i=>eC l (i+1)
theorem VL:∀(l:List Bool) (i:Nat),Hk (AA 0) (eC l i)=l.any id
 | [],_=>rfl
 | true::_,i=>by show Hk (AA 0) (AA i)=true;rw[HN];exact decide_eq_true (CH _)
 | false::l,i=>VL l (i+1)
section
variable {E:EB} {D:Az} {W:AM} {N:Nat}
theorem AAG {J:H} {v:V} {B:List Bool} (hx:EY J 1 B.length v (bI B)) (hN:B.length<N) (hb:B.length<=1000000) :
  bX E D W N [v,.bool true] J=some (.int .i64 (eC B 0),J):=by
 have loop:∀(m n' j:Nat),j+m=B.length->m<n'->UY E D W N n' v true (AA B.length) (AA j) J=some (.int .i64 (eC (B.drop j) j),J):=by
  intro m
  induction m with
  | zero=>
   intro n' j hj hn'
   obtain⟨n',rfl⟩:∃k,n'=k+1:=⟨n'-1,by omega⟩
   show I7 E D W (gJ E D W) _ v true (AA B.length) (AA j) J=_
   have k0:∀K1 R,I7 E D W K1 R v true (AA B.length) (AA j) J=K1 J:=by
    intro K1 R
    unfold I7
    rw[Ek,decide_eq_false (by omega),Co]
   rw[k0,DD (by omega)];rfl
  | succ m ih=>
   intro n' j hj hn'
   obtain⟨n',rfl⟩:∃k,n'=k+1:=⟨n'-1,by omega⟩
   have hlt:j<B.length:=by omega
   have d1:decide (j<B.length)=true:=decide_eq_true hlt
   have rd:∀U,AT 1 v (AA j) (fun b o=>BL E J b o U)=U (.bool B[j]):=fun U=>Jm hx (by unfold bI;rw[BM,AZ hlt];rfl) U
   rw[B4 hlt]
   cases hB:B[j]with
   | true=>
    rw[hB]at rd
    have k1:∀K1 R,I7 E D W K1 R v true (AA B.length) (AA j) J=some (.int .i64 (AA j),J):=by
     intro K1 R
     unfold I7
     simp -implicitDefEqProofs only [↓rP,rA,AD,AG,AB,d1,↓rd]
     rfl
    exact k1 _ _
   | false=>
    rw[hB]at rd
    have k1:∀K1 R,I7 E D W K1 R v true (AA B.length) (AA j) J=R v true (AA B.length) (AA (j+1)) J:=by
     intro K1 R
     unfold I7
     simp -implicitDefEqProofs only [↓rP,rA,AD,AG,AB,d1,↓rd,BX (show j+1<=9223372036854775807 by omega)]
     rfl
    exact(k1 _ _).trans (ih n' (j+1) (by omega) (by omega))
 have h0:=hx.slen (U:=fun n=>UY E D W N N v true (AA n) (AA 0) J)
 have:=loop B.length N 0 (by omega) hN
 rw[CO]at this
 exact h0.trans this
def rO (F:List V->H->AH):Prop:=∀(J:H) (v:V) (B:List Bool),EY J 1 B.length v (bI B)->B.length<=1000->F [v,.bool true] J=some (.int .i64 (eC B 0),J)
def oO (F:List V->H->AH):Prop:=∀(J:H) (v:V) (B:List Bool),EY J 1 B.length v (bI B)->B.length<=1000->F [v,.bool true] J=some (.bool (B.any id),J)
theorem AGB (h:rO (D 235)):oO (kC E D W N):=by
 intro J v B hx hb
 have g:=h J v B hx hb
 show XF E D W v true J=_
 unfold XF
 simp -implicitDefEqProofs only [↓rP,rS,↓g]
 rw[VL]
def V3 (F:List V->H->AH) (D:Az):Prop:=∀(J:H) (b k f:Nat) (caps:List V) (r:Bool),B8 J b [.int .i64 (AA k)]->(∃J',D f ([]++[.int .i64 (AA k)]++caps) J=some (.bool r,J')/\Fr AJ J J') ->
 ∃J',F [.sl b 0 1 (.ex 1),.fn f [] caps] J=some (.bool r,J')/\Fr AJ J J'
def gw (F:List V->H->AH) (D:Az):Prop:=∀(J:H) (b k f:Nat) (caps:List V) (r:Bool),B8 J b [.int .i64 (AA k)]->(∃J',D f ([]++[.int .i64 (AA k)]++caps) J=some (.bool r,J')/\Fr AJ J J') ->
 ∃J',F [.sl b 0 1 (.ex 1),.fn f [] caps] J=some (.int .i64 (if r=true then AA 0 else FM 0),J')/\Fr AJ J J'
theorem AAF (hN:3<N):gw (bY E D W N) D:=by
 intro J b k f caps r ab ⟨J1,g1,f1⟩
 obtain⟨M,rfl⟩:∃k,N=k+2:=⟨N-2,by omega⟩
 refine⟨J1,?_,f1⟩
 have ia:∀U:Nat->Nat->AH,AT 1 (.sl b 0 1 (.ex 1)) (AA 0) U=U b 0:=fun U=>CR (Bz 0)
 have cv:∀U:V->H->AH,Ed D (.fn f [] caps) [.int .i64 (AA k)] J U=U (.bool r) J1:=fun U=>by
  show AW (D f ([]++[.int .i64 (AA k)]++caps) J) U=_
  rw[g1];rfl
 show KJ E D W (XA E D W) (KJ E D W (XA E D W) (X7 E D W (M+2) M)) (.sl b 0 1 (.ex 1)) (.fn f [] caps) (AA 1) (AA 0) J=_
 have k1:∀K R,KJ E D W K R (.sl b 0 1 (.ex 1)) (.fn f [] caps) (AA 1) (AA 0) J=AS r (some (.int .i64 (AA 0),J1)) (R (.sl b 0 1 (.ex 1)) (.fn f [] caps) (AA 1) (AA 1) J1):=by
  intro K R
  unfold KJ
  simp -implicitDefEqProofs only [↓rP,rA,AD,AG,AB,↓ia,↓AY ab,↓cv,BX (show 0+1<=9223372036854775807 by omega)]
 have k2:∀K R,KJ E D W K R (.sl b 0 1 (.ex 1)) (.fn f [] caps) (AA 1) (AA 1) J1=K J1:=by
  intro K R
  unfold KJ
  simp -implicitDefEqProofs only [↓rP,rA,AD,AG,AB,CD]
 rw[k1,k2]
 cases r<;>rfl
theorem AAe {D':Az} (h:gw (D 234) D'):V3 (kD E D W N) D':=by
 intro J b k f caps r ab hr
 obtain⟨J1,g1,f1⟩:=h J b k f caps r ab hr
 refine⟨J1,?_,f1⟩
 show XH E D W _ _ J=_
 unfold XH
 simp -implicitDefEqProofs only [↓rP,rS,↓g1]
 cases r<;>rfl
theorem Wm {g:Nat->Vc} {ab:Nat->Bool} {n:Nat} (hA:RC (D 188) n g ab) {J:H} (ht:Af J) {q k:Nat} {l:V} {hl:l.one=true} {r:Int} {mv:V} {hm:mv.one=true} (hr:GO J 6 n l fun k=>(g k).c) (hk:k<n) (aq:B8 J q (Vc.sq l hl r mv hm).c) :
  ∃J',be E D W N ([]++[.int .i64 (AA k)]++[.ptr q 0]) J=some (.bool (!ab k),J')/\Fr AJ J J':=by
 obtain⟨J1,g1,f1⟩:=hA J k hk ht
 refine⟨J1,?_,f1⟩
 have rd:∀U,AT 6 l (AA k) (fun b o=>BQ E J b o 6 U)=U (g k).c:=fun U=>hr.all hk U
 unfold Vc.c at rd g1
 unfold Vc.sq Vc.c at aq
 show XG E D W (AA k) (.ptr q 0) J=_
 unfold XG
 simp -implicitDefEqProofs only [↓rP,rS,↓AY aq,↓rd,(g k).oneB,(g k).oneL,(g k).oneM,↓g1]
end
structure Kp (J:H) (w:Nat) (u:V) (q:Nat) (l:List V):Prop where
 a:B8 J q l
 o:E4 J w u q
section
variable {J0 J J1:H} {w q:Nat} {u u1:V} {l:List V} {L L1:List Nat}
theorem Kp.step (h:Kp J w u q l) (s:D1 J w u J1 u1 L1) (ht:Af J):Kp J1 w u1 q l:=⟨s.at_ ht h.o h.a,s.off h.o⟩
theorem Kp.fr (h:Kp J w u q l) (f:Fr AJ J J1) (ht:Af J):Kp J1 w u q l:=⟨f.at_ h.a ht (fun h=>h),h.o.fr f⟩
theorem Kp.new (h:Pw J w u L) (ht:Af J) (hq:J.next<=q) (ht1:Af J1) (a:B8 J1 q l):Kp J1 w u q l:=⟨a,E4.pw h ht hq (a.lt ht1)⟩
end
def Po (op ab:Nat->Bool):List Nat->List Nat
 | []=>[]
 | k::K=>(if op k=true then [if(!ab k)=true then 1 else 0] else [])++Po op ab K
def KE (ab:Nat->Bool) (X:Nat->List Nat):List Nat->List Nat
 | []=>[]
 | k::K=>(if ab k=true then [] else X k)++KE ab X K
theorem Pn (op ab:Nat->Bool):∀K,(Po op ab K).length<=K.length
 | []=>AN _
 | k::K=>by
  have:=Pn op ab K
  rw[Po,AL,Aj]
  split<;>simp only[Aj,CA]<;>omega
theorem Sd {ab:Nat->Bool} {X:Nat->List Nat} (h:∀k,(X k).length<=1000):∀K,(KE ab X K).length<=1000*K.length
 | []=>AN _
 | k::K=>by
  have:=Sd (ab:=ab) h K
  have:=h k
  rw[KE,AL,Aj]
  split
  ·rw[CA];omega
  ·omega
structure Ks (J:H) (w:Nat) (u lv:V) (K:List Nat):Prop where
 s:EY J 1 K.length lv (Ig K)
 o:∀b,Ai lv b->E4 J w u b
theorem Ks.step {J J1:H} {w:Nat} {u u1 lv:V} {K L1:List Nat} (h:Ks J w u lv K) (s:D1 J w u J1 u1 L1) (ht:Af J):Ks J1 w u1 lv K:=⟨s.row ht h.o h.s,fun b hb=>s.off (h.o b hb)⟩
theorem Ks.fr {J J1:H} {w:Nat} {u lv:V} {K:List Nat} (h:Ks J w u lv K) (f:Fr AJ J J1) (ht:Af J):Ks J1 w u lv K:=⟨h.s.fr f ht (fun _ _ h=>h),fun b hb=>(h.o b hb).fr f⟩
structure Fds (F:List V->H->AH) (nT:Nat) (ty:Nat->Ty) (nf:Nat) (fd:Nat->Fd) (g:Nat->Vc) (ab:Nat->Bool) (X:Nat->List Nat):Prop where
 val:∀k,k<nf->ab k=false->∃j,(fd k).type=AA j/\So F nT ty j (g k) (X k)
 few:∀k,(X k).length<=1000
section
variable {E:EB} {D:Az} {W:AM} {N:Nat} {nT:Nat} {ty:Nat->Ty} {nm:BS} {nv rv tv:V} {nf:Nat} {fd:Nat->Fd} {g:Nat->Vc} {ab:Nat->Bool} {X:Nat->List Nat} {x:Ty} {l lv:V} {K:List Nat}
def Fd.op (f:Fd):Bool:=f.opt || f.has
theorem zk (hA:RC (D 188) nf g ab) (hF:Gq (D 118)) {J0:H} (ht0:Af J0) (hs:Iq J0 x nf fd) (hr:GO J0 6 nf l fun k=>(g k).c) (hKn:∀k∈K,k<nf) {eb w qx qv:Nat} {cs:List V} {v0:Vc} (hv0:v0.l=l) :
  ∀(m n' i:Nat) (u:V) (J:H) (L:List Nat),i+m=K.length->m<n'->Wk J0 J eb w u cs L->Kp J w u qx x.c->Kp J w u qv v0.c->Ks J w u lv K->L.length+m<1000000->K.length<100000 ->
   ∃u' J',RK E D W N n' (.ptr eb 0) lv qx 0 qv 0 lv (AA K.length) (AA i) J=YD E D W N (.ptr eb 0) lv qx 0 qv 0 J'/\D1 J w u J' u' (L++Po (fun k=>(fd k).op) ab (K.drop i)):=by
 intro m
 induction m with
 | zero=>
  intro n' i u J L hi hn' wk kx kv hK hl hk
  obtain⟨n',rfl⟩:∃k,n'=k+1:=⟨n'-1,by omega⟩
  refine⟨u,J,?_,?_⟩
  ·have k0:∀K1 K3,Lv E D W K1 K3 (.ptr eb 0) lv qx 0 qv 0 lv (AA K.length) (AA i) J=K1 (.ptr eb 0) lv qx 0 qv 0 J:=by
    intro K1 K3
    unfold Lv
    rw[Ek,decide_eq_false (by omega),Co]
   exact k0 _ _
  ·rw[DD (by omega),show Po _ ab []=[] from rfl,Am];exact D1.refl wk.pw wk.tidy
 | succ m ih=>
  intro n' i u J L hi hn' wk kx kv hK hl hk
  obtain⟨n',rfl⟩:∃k,n'=k+1:=⟨n'-1,by omega⟩
  have hlt:i<K.length:=by omega
  have hki:K[i]? = some K[i]:=AZ hlt
  have hkn:=hKn K[i] (DK hlt)
  have d1:decide (i<K.length)=true:=decide_eq_true hlt
  have f0:=wk.f
  have r1:∀U,AT 1 lv (AA i) (fun b o=>BL E J b o U)=U (.int .i64 (AA K[i])):=fun U=>Jm hK.s (by unfold Ig;rw[BM,hki];rfl) U
  have row:=hs.row.fr0 f0 ht0
  have ro:∀U,AT 11 x.fields (AA K[i]) (fun b o=>BL E J b (Ac o 2) U)=U (.bool (fd K[i]).opt):=fun U=>row.one hkn (j:=2) rfl U
  have rh:∀U,AT 11 x.fields (AA K[i]) (fun b o=>BL E J b (Ac o 3) U)=U (.bool (fd K[i]).has):=fun U=>row.one hkn (j:=3) rfl U
  have rg:∀U,AT 6 l (AA K[i]) (fun b o=>BQ E J b o 6 U)=U (g K[i]).c:=fun U=>(hr.fr0 f0 ht0).all hkn U
  have ax:=kx.a
  have av:=kv.a
  obtain⟨u2,J2,g2,s2⟩:∃u2 J2,(∀K1 K3,Lv E D W K1 K3 (.ptr eb 0) lv qx 0 qv 0 lv (AA K.length) (AA i) J=K3 (.ptr eb 0) lv qx 0 qv 0 lv (AA K.length) (AA i) J2)/\D1 J w u J2 u2 (L++(if(fd K[i]).op=true then [if(!ab K[i])=true then 1 else 0] else [])):=by
   by_cases ho:(fd K[i]).op=true
   ·obtain⟨J1,g1,f1⟩:=hA J K[i] hkn wk.tidy
    have w1:=wk.fr f1
    obtain⟨u2,J2,g2,s2⟩:=hF J1 eb w u L (!ab K[i]) cs w1.e w1.pw w1.tidy (by omega)
    rw[if_pos ho]
    refine⟨u2,J2,fun K1 K3=>?_,D1.behind f1 s2⟩
    unfold Vc.c at rg g1 av
    rw[hv0]at av
    unfold Ty.c at ax
    unfold Lv
    unfold Fd.op at ho
    cases h1:(fd K[i]).opt with
    | true=>
     rw[h1]at ro
     simp -implicitDefEqProofs only [↓rP,rA,AD,AG,AB,d1,↓r1,↓AY ax,↓ro,↓AY av,↓rg,(g K[i]).oneB,(g K[i]).oneL,(g K[i]).oneM,↓g1,↓g2]
    | false=>
     rw[h1,DL]at ho
     rw[h1]at ro
     rw[ho]at rh
     simp -implicitDefEqProofs only [↓rP,rA,AD,AG,AB,d1,↓r1,↓AY ax,↓ro,↓rh,↓AY av,↓rg,(g K[i]).oneB,(g K[i]).oneL,(g K[i]).oneM,↓g1,↓g2]
   ·rw[if_neg ho,Am]
    refine⟨u,J,fun K1 K3=>?_,D1.refl wk.pw wk.tidy⟩
    unfold Fd.op at ho
    have h1:(fd K[i]).opt=false:=by cases h:(fd K[i]).opt<;>simp_all
    have h2:(fd K[i]).has=false:=by cases h:(fd K[i]).has<;>simp_all
    rw[h1]at ro
    rw[h2]at rh
    unfold Ty.c at ax
    unfold Lv
    simp -implicitDefEqProofs only [↓rP,rA,AD,AG,AB,d1,↓r1,↓AY ax,↓ro,↓rh]
  have hlen:(L++(if(fd K[i]).op=true then [if(!ab K[i])=true then 1 else 0] else [])).length<=L.length+1:=by
   rw[AL];split<;>simp
  obtain⟨u3,J3,g3,s3⟩:=ih n' (i+1) u2 J2 _ (by omega) (by omega) (wk.step s2) (kx.step s2 wk.tidy) (kv.step s2 wk.tidy) (hK.step s2 wk.tidy) (by omega) hk
  refine⟨u3,J3,?_,?_⟩
  ·refine(g2 _ _).trans ?_
   show RK E D W N n' (.ptr eb 0) lv qx 0 qv 0 lv (AA K.length) (CU .i64 (AA i) (AA 1)) J2=_
   rw[BX (by omega)]
   exact g3
  ·have:=s2.trans s3
   rw[Ab]at this
   rw[B4 hlt,Po]
   exact this
theorem zj (hA:RC (D 188) nf g ab) (hV:Fds (D 62) nT ty nf fd g ab X) {J0:H} (ht0:Af J0) (T:Tb J0 nT ty nv rv tv) (hs:Iq J0 x nf fd) (hr:GO J0 6 nf l fun k=>(g k).c) (hKn:∀k∈K,k<nf) {eb w qx qv:Nat} {v0:Vc} (hv0:v0.l=l) :
  ∀(m n' i:Nat) (u:V) (J:H) (L:List Nat),i+m=K.length->m<n'->Wk J0 J eb w u [.str nm,nv,rv,tv] L->Kp J w u qx x.c->Kp J w u qv v0.c->Ks J w u lv K->L.length+1000*m<1000000->K.length<100000 ->
   ∃u' J',RJ E D W N n' (.ptr eb 0) qx 0 qv 0 lv (AA K.length) (AA i) J=some (.tup [],J')/\D1 J w u J' u' (L++KE ab X (K.drop i)):=by
 intro m
 induction m with
 | zero=>
  intro n' i u J L hi hn' wk kx kv hK hl hk
  obtain⟨n',rfl⟩:∃k,n'=k+1:=⟨n'-1,by omega⟩
  refine⟨u,J,?_,?_⟩
  ·have k0:∀K5,Lu E D W K5 (.ptr eb 0) qx 0 qv 0 lv (AA K.length) (AA i) J=some (.tup [],J):=by
    intro K5
    unfold Lu
    rw[Ek,decide_eq_false (by omega),Co]
   exact k0 _
  ·rw[DD (by omega),show KE ab X []=[] from rfl,Am];exact D1.refl wk.pw wk.tidy
 | succ m ih=>
  intro n' i u J L hi hn' wk kx kv hK hl hk
  obtain⟨n',rfl⟩:∃k,n'=k+1:=⟨n'-1,by omega⟩
  have hlt:i<K.length:=by omega
  have hki:K[i]? = some K[i]:=AZ hlt
  have hkn:=hKn K[i] (DK hlt)
  have d1:decide (i<K.length)=true:=decide_eq_true hlt
  have f0:=wk.f
  have r1:∀U,AT 1 lv (AA i) (fun b o=>BL E J b o U)=U (.int .i64 (AA K[i])):=fun U=>Jm hK.s (by unfold Ig;rw[BM,hki];rfl) U
  have rg:∀U,AT 6 l (AA K[i]) (fun b o=>BQ E J b o 6 U)=U (g K[i]).c:=fun U=>(hr.fr0 f0 ht0).all hkn U
  obtain⟨J1,g1,f1⟩:=hA J K[i] hkn wk.tidy
  have w1:=wk.fr f1
  have rt:∀U,AT 11 x.fields (AA K[i]) (fun b o=>BL E J1 b (Ac o 1) U)=U (.int .i64 (fd K[i]).type):=fun U=>(hs.row.fr0 w1.f ht0).one hkn (j:=1) rfl U
  have rg1:∀U,AT 6 l (AA K[i]) (fun b o=>BQ E J1 b o 6 U)=U (g K[i]).c:=fun U=>(hr.fr0 w1.f ht0).all hkn U
  have av:=kv.a
  have ax1:=(kx.fr f1 wk.tidy).a
  have av1:=(kv.fr f1 wk.tidy).a
  obtain⟨u2,J2,g2,s2⟩:∃u2 J2,(∀K5,Lu E D W K5 (.ptr eb 0) qx 0 qv 0 lv (AA K.length) (AA i) J=K5 (.ptr eb 0) qx 0 qv 0 lv (AA K.length) (AA i) J2)/\D1 J w u J2 u2 (L++(if ab K[i]=true then [] else X K[i])):=by
   unfold Vc.c at rg rg1 g1 av av1
   rw[hv0]at av av1
   unfold Ty.c at ax1
   cases ha:ab K[i]with
   | true=>
    rw[ha]at g1
    refine⟨u,J1,fun K5=>?_,by rw[if_pos rfl,Am];exact D1.behind f1 (D1.refl w1.pw w1.tidy)⟩
    unfold Lu
    simp -implicitDefEqProofs only [↓rP,rA,AD,AG,AB,d1,↓r1,↓AY av,↓rg,(g K[i]).oneB,(g K[i]).oneL,(g K[i]).oneM,↓g1]
   | false=>
    rw[ha]at g1
    obtain⟨j,hj,hval⟩:=hV.val K[i] hkn ha
    rw[hj]at rt
    obtain⟨u2,J2,g2,s2⟩:=hval J0 J1 eb w u L nm nv rv tv ht0 T w1 (by omega)
    refine⟨u2,J2,fun K5=>?_,by rw[if_neg (by decide)];exact D1.behind f1 s2⟩
    unfold Vc.c at g2
    unfold Lu
    simp -implicitDefEqProofs only [↓rP,rA,AD,AG,AB,d1,↓r1,↓AY av,↓rg,(g K[i]).oneB,(g K[i]).oneL,(g K[i]).oneM,↓g1,↓AY ax1,↓rt,↓AY av1,↓rg1,↓g2]
  have hx:=hV.few K[i]
  have hlen:(L++(if ab K[i]=true then [] else X K[i])).length<=L.length+1000:=by
   rw[AL];split<;>simp<;>omega
  obtain⟨u3,J3,g3,s3⟩:=ih n' (i+1) u2 J2 _ (by omega) (by omega) (wk.step s2) (kx.step s2 wk.tidy) (kv.step s2 wk.tidy) (hK.step s2 wk.tidy) (by omega) hk
  refine⟨u3,J3,?_,?_⟩
  ·refine(g2 _).trans ?_
   show RJ E D W N n' (.ptr eb 0) qx 0 qv 0 lv (AA K.length) (CU .i64 (AA i) (AA 1)) J2=_
   rw[BX (by omega)]
   exact g3
  ·have:=s2.trans s3
   rw[Ab]at this
   rw[B4 hlt,KE]
   exact this
def Mv (F:List V->H->AH) (nT:Nat) (ty:Nat->Ty) (nf:Nat) (fd:Nat->Fd) (g:Nat->Vc) (ab:Nat->Bool) (X:Nat->List Nat):Prop:=∀{J0:H} {x:Ty} {l lv:V} {K:List Nat} {eb w:Nat} {v0:Vc} {u:V} {J:H} {L:List Nat} {nm:BS} {nv rv tv:V},
 Af J0->Tb J0 nT ty nv rv tv->Iq J0 x nf fd->GO J0 6 nf l (fun k=>(g k).c)->(∀k∈K,k<nf)->v0.l=l->Wk J0 J eb w u [.str nm,nv,rv,tv] L->Ks J w u lv K->L.length<500000->K.length<400 ->
 ∃u' J',F [.ptr eb 0,.agg x.c,.agg v0.c,lv] J=some (.tup [],J')/\D1 J w u J' u' (L++(Po (fun k=>(fd k).op) ab K++KE ab X K))
theorem tY (hA:RC (D 188) nf g ab) (hF:Gq (D 118)) (hV:Fds (D 62) nT ty nf fd g ab X) {J0:H} (ht0:Af J0) (T:Tb J0 nT ty nv rv tv) (hs:Iq J0 x nf fd) (hr:GO J0 6 nf l fun k=>(g k).c) (hKn:∀k∈K,k<nf) {eb w:Nat} {v0:Vc} (hv0:v0.l=l)
  {u:V} {J:H} {L:List Nat} (wk:Wk J0 J eb w u [.str nm,nv,rv,tv] L) (hK:Ks J w u lv K) (hl:L.length<500000) (hk:K.length<400) (hN:1000<N) :
  ∃u' J',YG E D W N [.ptr eb 0,.agg x.c,.agg v0.c,lv] J=some (.tup [],J')/\D1 J w u J' u' (L++(Po (fun k=>(fd k).op) ab K++KE ab X K)):=by
 obtain⟨J1,e1,f1,a1,n1⟩:=Ay wk.tidy x.c
 obtain⟨J2,e2,f2,a2,n2⟩:=Ay f1.tidy v0.c
 have f02:=f1.trans f2 (fun _ _ h=>h)
 have w2:=wk.fr f02
 have a12:=f2.at_ a1 f1.tidy (fun h=>h)
 have l1:=f1.le
 have kx:Kp J2 w u J.next x.c:=Kp.new wk.pw wk.tidy (AN _) f2.tidy a12
 have kv:Kp J2 w u J1.next v0.c:=Kp.new wk.pw wk.tidy l1 f2.tidy a2
 have hp:=Pn (fun k=>(fd k).op) ab K
 obtain⟨u3,J3,g3,s3⟩:=zk (W:=W) (N:=N) hA hF ht0 hs hr hKn hv0 K.length N 0 u J2 L (by omega) (by omega) w2 kx kv (hK.fr f02 wk.tidy) (by omega) (by omega)
 rw[CO]at s3
 obtain⟨u4,J4,g4,s4⟩:=zj (W:=W) (N:=N) hA hV ht0 T hs hr hKn hv0 K.length N 0 u3 J3 _ (by omega) (by omega) (w2.step s3) (kx.step s3 w2.tidy) (kv.step s3 w2.tidy) ((hK.fr f02 wk.tidy).step s3 w2.tidy) (by rw[AL];omega) (by omega)
 rw[CO,Ab]at s4
 refine⟨u4,J4,?_,D1.behind f02 (s3.trans s4)⟩
 have sk:∀U:Nat->AH,BA lv U=U K.length:=fun U=>hK.s.slen
 unfold Ty.c at e1
 unfold Vc.c at e2
 show Qx E D W (RK E D W N N) (.ptr eb 0) x.kind x.tags x.has x.hasLow x.hasHigh x.conMore x.low x.high x.items x.fields x.root x.more x.of_ v0.k v0.n v0.b v0.l v0.r v0.m lv J=_
 have k0:∀K2,Qx E D W K2 (.ptr eb 0) x.kind x.tags x.has x.hasLow x.hasHigh x.conMore x.low x.high x.items x.fields x.root x.more x.of_ v0.k v0.n v0.b v0.l v0.r v0.m lv J=K2 (.ptr eb 0) lv J.next 0 J1.next 0 lv (AA K.length) (AA 0) J2:=by
  intro K2
  unfold Qx
  simp -implicitDefEqProofs only [↓rP,rS,x.oneT,x.oneI,x.oneF,v0.oneB,v0.oneL,v0.oneM,↓e1,↓e2,↓sk]
 refine(k0 _).trans (g3.trans ?_)
 show Tt E D W (RJ E D W N N) (.ptr eb 0) lv J.next 0 J1.next 0 J3=_
 unfold Tt
 exact(sk _).trans g4
end
structure Sk (J:H) (w:Nat) (u sv:V) (S:List Nat) (bl:Nat->Nat):Prop where
 s:JT J sv S bl
 o:∀b,Ai sv b->E4 J w u b
 p:∀j,j<S.length->E4 J w u (bl j)
structure Bk (J:H) (w:Nat) (u bv:V) (B:List Bool):Prop where
 d:GH J 1 B.length bv (bI B)
 o:∀b,Ai bv b->E4 J w u b
section
variable {J J1:H} {w:Nat} {u u1 sv bv:V} {S L1:List Nat} {bl:Nat->Nat} {B:List Bool}
theorem Sk.step (h:Sk J w u sv S bl) (s:D1 J w u J1 u1 L1) (ht:Af J):Sk J1 w u1 sv S bl:=
  ⟨⟨h.s.row.fr s.f ht fun b hb=>(h.o b hb).not,fun j k hk=>s.at_ ht (h.p j (by
    rcases Al j S.length with h'|h'
    · exact h'
    · rw[Aa h']at hk;cases hk)) (h.s.at_ j k hk),h.s.one⟩,fun b hb=>s.off (h.o b hb),fun j hj=>s.off (h.p j hj)⟩
theorem Sk.fr (h:Sk J w u sv S bl) (f:Fr AJ J J1) (ht:Af J):Sk J1 w u sv S bl:=⟨h.s.fr f ht,fun b hb=>(h.o b hb).fr f,fun j hj=>(h.p j hj).fr f⟩
theorem Bk.step (h:Bk J w u bv B) (s:D1 J w u J1 u1 L1) (ht:Af J):Bk J1 w u1 bv B:=⟨h.d.fr s.f ht fun b hb=>(h.o b hb).not,fun b hb=>s.off (h.o b hb)⟩
theorem Bk.fr (h:Bk J w u bv B) (f:Fr AJ J J1) (ht:Af J):Bk J1 w u bv B:=⟨h.d.fr f ht (fun _ _ h=>h),fun b hb=>(h.o b hb).fr f⟩
end
def Zd (P:H->Prop) (i:Nat) (nm:BS) (nv rv tv:V) (root:Int) (K:List Nat) (F:List V->H->AH):Prop:=∀(J:H),Af J->P J->∃fv lv J',F [.agg [.str nm,nv,rv,tv],.int .i64 (AA i)] J=some (fv,J') /\
 fv.one=true/\lv.one=true/\CP 1 fv none (some (.int .i64 root)) none=some lv/\EY J' 1 K.length lv (Ig K)/\(∀b,Ai lv b->J.next<=b)/\Fr AJ J J'
section
variable {E:EB} {D:Az} {N:Nat} {nT:Nat} {ty:Nat->Ty} {nm:BS} {nv rv tv:V} {nf:Nat} {fd:Nat->Fd} {g:Nat->Vc} {ab:Nat->Bool} {X:Nat->List Nat} {x:Ty} {K:List Nat}
theorem LH {v:V} (h:v.one=true):v.live=true:=DI h
theorem Wg {P:H->Prop} (hPf:∀J J',Af J->Fr AJ J J'->P J->P J') {i:Nat} (hOF:Zd P i nm nv rv tv x.root K (D 103)) (hS:Mv (D 207) nT ty nf fd g ab X)
  {J0 J:H} (ht0:Af J0) (hP:P J0) (T:Tb J0 nT ty nv rv tv) (hs:Iq J0 x nf fd) {v0:Vc} (hr:GO J0 6 nf v0.l fun k=>(g k).c) (hKn:∀k∈K,k<nf) (hKl:K.length<400) {eb w q5 q6:Nat} {u sv bv:V} {later:Bool} {L:List Nat}
  (wk:Wk J0 J eb w u [.str nm,nv,rv,tv] L) (kx:Kp J w u q6 x.c) (kv:Kp J w u q5 v0.c) (hl:L.length<500000) (hxb:V.beq (.agg x.c) (.agg x.c)=true) (hvb:V.beq (.agg v0.c) (.agg v0.c)=true) (htb:V.beq (.agg [.str nm,nv,rv,tv]) (.agg [.str nm,nv,rv,tv])=true) :
  ∃e' u' J',Ao E D N1 RU [(0,.ptr eb 0),(1,.int .i64 (AA i)),(5,.ptr q5 0),(6,.ptr q6 0),(7,sv),(8,bv),(11,.bool later)] J=some (e',J') /\
   Go.Og.look e' 0=some (.ptr eb 0)/\Go.Og.look e' 5=some (.ptr q5 0)/\Go.Og.look e' 6=some (.ptr q6 0)/\Go.Og.look e' 7=some sv/\Go.Og.look e' 8=some bv/\Go.Og.look e' 11=some (.bool later) /\
   D1 J w u J' u' (L++(Po (fun k=>(fd k).op) ab K++KE ab X K)):=by
 have ht:=wk.tidy
 have fw:Fr AJ J ⟨J.next+13,J.bl⟩:=(CN (E:=E) (n:=13) (S:=AJ) ht).fr
 obtain⟨fv,lv,J1,g1,o1,o2,hsl,hK,hnew,f1⟩:=hOF ⟨J.next+13,J.bl⟩ fw.tidy (hPf _ _ ht fw (hPf _ _ ht0 wk.f hP))
 have f01:=fw.trans f1 (fun _ _ h=>h)
 have w1:=wk.fr f01
 have le1:J.next<=(⟨J.next+13,J.bl⟩:H).next:=M7 _ _
 have k1:Ks J1 w u lv K:=⟨hK,fun b hb=>E4.pw wk.pw ht (Ae le1 (hnew b hb)) (hK.lt f1.tidy hb)⟩
 obtain⟨u2,J2,g2,s2⟩:=hS ht0 T hs hr hKn rfl w1 k1 hl hKl
 have ax:=kx.a
 have av:=kv.a
 have ae:=wk.e
 have lw:∀b,Ht w u b->b<J.next:=fun b hb=>by
  rcases hb with hb|hb
  ·subst hb;exact wk.pw.at_.lt ht
  ·exact wk.pw.d.lt ht hb
 have lx:V.live (.agg x.c)=true:=by
  simp[Ty.c,LH x.oneT,LH x.oneI,LH x.oneF,V.live]
 have lv0:V.live (.agg v0.c)=true:=by
  simp[Vc.c,LH v0.oneB,LH v0.oneL,LH v0.oneM,V.live]
 have ltb:V.live (.agg [.str nm,nv,rv,tv])=true:=by
  simp[LH T.n1,LH T.r1,LH T.t1,V.live]
 have go:Fo E D J 13 0 (Ht w u) N1 RU ⟨[(0,.ptr eb 0),(1,.int .i64 (AA i)),(5,.ptr q5 0),(6,.ptr q6 0),(7,sv),(8,bv),(11,.bool later)],J.next+13,[J.bl],[],0,[]⟩ _ J2:=
   B5 (.ptr eb 0) rfl rfl <|
   D0 (.agg x.c) (CN ht) rfl (HI (b:=q6) (off:=0) rfl ax rfl rfl ht kx.o.not hxb) fun _ r1=>
   D0 (.agg v0.c) r1 rfl (HI (b:=q5) (off:=0) rfl av rfl rfl ht kv.o.not hvb) fun _ r2=>
   B5 (.ptr eb 0) rfl rfl <|
   B5 (.ptr eb 0) rfl rfl <|
   B5 (.ptr eb 1) rfl rfl <|
   D0 (.agg [.str nm,nv,rv,tv]) r2 rfl (HI (b:=eb) (off:=1) rfl ae rfl rfl ht wk.eo.not htb) fun _ r3=>
   B5 (.int .i64 (AA i)) rfl rfl <|
   IE fv r3 rfl (by decide) (S':=AJ) f1 (fun _ _ h=>h.elim) (fun _ h _ _=>h) (DO (vs:=[.agg [.str nm,nv,rv,tv],.int .i64 (AA i)]) rfl (by show (V.live (.agg [.str nm,nv,rv,tv])&&(V.live (.int .i64 (AA i))&&true))=true;rw[ltb];rfl) g1) fun _ _ _ r4=>
   B5 (.ptr q6 10) rfl rfl <|
   D0 (.int .i64 x.root) r4 rfl (Bb (b:=q6) (off:=10) rfl ax rfl ht kx.o.not (As _ rfl)) fun _ r5=>
   B5 lv rfl hsl <|
   IE (.tup []) r5 rfl (by decide) (S':=Ht w u) s2.f (fun _ _ h=>h) (fun b h h1 _=>by have:=lw b h;omega) (DO (vs:=[.ptr eb 0,.agg x.c,.agg v0.c,lv]) rfl (by show (V.live (.ptr eb 0)&&(V.live (.agg x.c)&&(V.live (.agg v0.c)&&(V.live lv&&true))))=true;rw[lx,lv0,LH o2];rfl) g2) fun _ _ _ r6=>
   Fv r6
 obtain⟨d1,d2⟩:=El (ops:=N1) go
 exact⟨_,u2,J2,d1,rfl,rfl,rfl,rfl,rfl,rfl,D1.behind f01 s2⟩
end
def W0 (c:Bool):Nat:=if c=true then 1 else 0
section
variable {E:EB} {D D':Az} {N:Nat} {nT:Nat} {ty:Nat->Ty} {nm:BS} {nv rv tv:V} {nf:Nat} {fd:Nat->Fd} {g:Nat->Vc} {ab:Nat->Bool} {X:Nat->List Nat} {K S:List Nat}
theorem WM (hA:RC (D 188) nf g ab) (hC:V3 (D 204) D') (hq:∀(J:H) (q k:Nat) (l:V) (hl:l.one=true) (r:Int) (mv:V) (hm:mv.one=true),Af J->GO J 6 nf l (fun k=>(g k).c)->k<nf->B8 J q (Vc.sq l hl r mv hm).c->∃J',D' 205 ([]++[.int .i64 (AA k)]++[.ptr q 0]) J=some (.bool (!ab k),J')/\Fr AJ J J')
  (hS:∀k∈S,k<nf) (hSl:S.length<=1000) {W:AM} {i eb q5 q6:Nat} {sv l:V} {hl:l.one=true} {r:Int} {mv:V} {hm:mv.one=true} {bl:Nat->Nat} {J0:H} (ht0:Af J0) (hr:GO J0 6 nf l fun k=>(g k).c) (a5:B8 J0 q5 (Vc.sq l hl r mv hm).c) (sl:JT J0 sv S bl) :
  ∀(m n' j:Nat) (bv:V) (J:H),j+m=S.length->m<n'->Fr AJ J0 J->Nw J0 J 1 j bv (bI ((S.take j).map fun k=>!ab k)) ->
   ∃bv' J',Ud E D W N n' eb 0 (AA i) q5 0 q6 0 sv bv sv (AA S.length) (AA j) J=YF E D W N eb 0 (AA i) q5 0 q6 0 sv bv' J'/\Fr AJ J0 J'/\Nw J0 J' 1 S.length bv' (bI (S.map fun k=>!ab k)):=by
 intro m
 induction m with
 | zero=>
  intro n' j bv J hj hn' f0 hn
  obtain⟨n',rfl⟩:∃k,n'=k+1:=⟨n'-1,by omega⟩
  obtain rfl:j=S.length:=by omega
  rw[M8]at hn
  refine⟨bv,J,?_,f0,hn⟩
  have k0:∀K1 R,Nj E D W K1 R eb 0 (AA i) q5 0 q6 0 sv bv sv (AA S.length) (AA S.length) J=K1 eb 0 (AA i) q5 0 q6 0 sv bv J:=by
   intro K1 R
   unfold Nj
   rw[Ek,decide_eq_false (by omega),Co]
  exact k0 _ _
 | succ m ih=>
  intro n' j bv J hj hn' f0 hn
  obtain⟨n',rfl⟩:∃k,n'=k+1:=⟨n'-1,by omega⟩
  have hlt:j<S.length:=by omega
  have hk:S[j]? = some S[j]:=AZ hlt
  have hm':S[j]∈S:=DK hlt
  have d1:decide (j<S.length)=true:=decide_eq_true hlt
  have s1:=sl.fr f0 ht0
  have r1:∀U,AT 1 sv (AA j) (fun b o=>BL E J b o U)=U (.sl (bl j) 0 1 (.ex 1)):=fun U=>s1.rd hk U
  obtain⟨J1,g1,f1⟩:=hC J (bl j) S[j] 205 [.ptr q5 0] (!ab S[j]) (s1.at_ j _ hk) (hq J q5 S[j] l hl r mv hm f0.tidy (hr.fr0 f0 ht0) (hS _ hm') (f0.at_ a5 ht0 (fun h=>h)))
  have f01:=f0.trans f1 (fun _ _ h=>h)
  obtain⟨J2,e2,f2,a2,n2⟩:=Ay f1.tidy [.bool (!ab S[j])]
  have f02:=f01.trans f2 (fun _ _ h=>h)
  have xs:EY J2 1 1 (V.sl J1.next 0 1 (.ex 1)) [.bool (!ab S[j])] := .inr ⟨_,_,_,_,rfl,a2,AN _,rfl⟩
  obtain⟨bv3,J3,g3,h3,f03⟩:=Wa (E:=E) (bytes:=1) ((hn.fr f1 f0.tidy).fr f2 f1.tidy) f02 xs rfl (by unfold CV;simp only[C8,AK,BC];omega)
  have et:bI ((S.take j).map fun k=>!ab k)++[.bool (!ab S[j])]=bI ((S.take (j+1)).map fun k=>!ab k):=by
   have h:S.take (j+1)=S.take j++[S[j]]:=by rw[List.take_succ,hk];rfl
   unfold bI
   rw[h,PN,PN];rfl
  rw[et]at h3
  obtain⟨bv4,J4,g4,f4,h4⟩:=ih n' (j+1) bv3 J3 (by omega) (by omega) f03 h3
  refine⟨bv4,J4,?_,f4,h4⟩
  have k1:∀K1 R,Nj E D W K1 R eb 0 (AA i) q5 0 q6 0 sv bv sv (AA S.length) (AA j) J=R eb 0 (AA i) q5 0 q6 0 sv bv3 sv (AA S.length) (AA (j+1)) J3:=by
   intro K1 R
   unfold Nj
   simp -implicitDefEqProofs only [↓rP,rA,AD,AG,AB,d1,↓r1,↓g1,↓e2,↓g3,↓CM h3.1.one,BX (show j+1<=9223372036854775807 by omega)]
  exact(k1 _ _).trans g4
end
theorem dK {L:List Nat} (hb:PK L):∀c∈Es L,c<256:=by
 intro c hc
 obtain⟨j,_,rfl⟩:=FA.1 hc
 exact VA hb j
section
variable {E:EB} {D:Az} {N:Nat} {nT:Nat} {ty:Nat->Ty} {nm:BS} {nv rv tv:V} {nf:Nat} {fd:Nat->Fd} {g:Nat->Vc} {ab:Nat->Bool} {X:Nat->List Nat} {K S:List Nat}
def PI (F:List V->H->AH) (D:Az):Prop:=∀{J0 J:H} {eb w:Nat} {u:V} {L X:List Nat} {nm:BS} {nv rv tv:V} {f:Nat} {caps:List V},Wk J0 J eb w u [.str nm,nv,rv,tv] L->nv.one=true->rv.one=true->tv.one=true->L.length<1000000->0<X.length->X.length<=1000 ->
 (∀(J1:H) (eb1 w1:Nat),Wk J J1 eb1 w1 .nils [.str nm,nv,rv,tv] []->∃u' J',D f ([]++[.ptr eb1 0]++caps) J1=some (.tup [],J')/\D1 J1 w1 .nils J' u' X) ->
 ∃u' J',F [.ptr eb 0,.fn f [] caps] J=some (.tup [],J')/\D1 J w u J' u' (L++(Bq 8 (Cs X.length)++A1 (Es X)))
theorem dN (hB:Fx (D 63)) (hP:UB (D 121)) {J0 J J2:H} {eb w eb1 w1:Nat} {u u1:V} {L X:List Nat} {cs cs1:List V} (wk:Wk J0 J2 eb w u cs L) (a1:B8 J2 eb1 (.ptr w1 0::cs1)) (o1:E4 J2 w u eb1) (p1:Pw J2 w1 u1 X) (hl:L.length<1000000) (hX:0<X.length) (hX':X.length<=1000) :
  ∃e' u' J',Ao E D Nz RT [(0,.ptr eb 0),(4,.ptr eb1 0)] J2=some (e',J')/\D1 J2 w u J' u' (L++(Bq 8 (Cs X.length)++A1 (Es X))):=by
 have ht:=wk.tidy
 have fw:Fr AJ J2 ⟨J2.next+11,J2.bl⟩:=(CN (E:=E) (n:=11) (S:=AJ) ht).fr
 obtain⟨v,J3,g3,n3,f3⟩:=hB ⟨J2.next+11,J2.bl⟩ w1 u1 X (p1.fr fw ht) fw.tidy (by omega) hX
 have f03:=fw.trans f3 (fun _ _ h=>h)
 have le3:J2.next+11<=J3.next:=f3.le
 have nv3:∀c,Ai v c->J2.next+11<=c:=n3.2
 obtain⟨Ja,ha⟩:∃Ja,Ja=(⟨J3.next,(J2.next+9,.cells [v])::J3.bl⟩:H):=⟨_,rfl⟩
 have fa:Fr (fun b=>b=J2.next+9) J3 Ja:=by
  rw[ha]
  refine⟨fun b hb=>?_,AN _,fun b hb hn=>?_⟩
  ·have hb:J3.next<=b:=hb
   show Ba ((J2.next+9,_)::J3.bl) b=none
   rw[BH,if_neg (by simp only[];omega)]
   exact f3.tidy b hb
  ·show Ba ((J2.next+9,_)::J3.bl) b=_
   rw[BH,if_neg (fun e=>hn e.symm)]
 have aa:B8 Ja (J2.next+9) [v]:=by
  rw[ha]
  show Ba ((J2.next+9,_)::J3.bl) _=_
  rw[BH,if_pos rfl]
 have f0a:Fr AJ J2 Ja:=f03.trans fa (fun b hb e=>by omega)
 have va:By Ja v (nI (Es X)):=EY.fr n3.by_ fa f3.tidy fun b hb e=>by have:=nv3 b hb;omega
 have pl:(Es X).length<128:=by rw[Dg];unfold Cs;omega
 have bx:PK X:=p1.bin
 have wa:=wk.fr f0a
 obtain⟨u5,J5,g5,s5⟩:=hP Ja w (J2.next+9) u v L (Es X) wa.pw wa.tidy (by omega) pl (dK bx) aa va
 rw[Dg]at s5
 have lw:∀b,Ht w u b->b<J2.next:=fun b hb=>by
  rcases hb with hb|hb
  ·subst hb;exact wk.pw.at_.lt ht
  ·exact wk.pw.d.lt ht hb
 have ae:=wk.e
 have go:Fo E D J2 11 0 (Ht w u) Nz RT ⟨[(0,.ptr eb 0),(4,.ptr eb1 0)],J2.next+11,[J2.bl],[],0,[]⟩ _ J5:=
   B5 (.ptr eb 0) rfl rfl <|
   B5 (.ptr eb 0) rfl rfl <|
   B5 (.ptr eb 0) rfl rfl <|
   D0 (.ptr w 0) (CN ht) rfl (Bb (b:=eb) (off:=0) rfl ae rfl ht wk.eo.not (As _ rfl)) fun _ r1=>
   B5 (.ptr eb1 0) rfl rfl <|
   B5 (.ptr eb1 0) rfl rfl <|
   B5 (.ptr eb1 0) rfl rfl <|
   D0 (.ptr w1 0) r1 rfl (Bb (b:=eb1) (off:=0) rfl a1 rfl ht o1.not (As _ rfl)) fun _ r2=>
   IE v r2 rfl (by decide) (S':=AJ) f3 (fun _ _ h=>h.elim) (fun _ h _ _=>h) (DO (vs:=[.ptr w1 0]) rfl rfl g3) fun _ _ _ r3=>
   Th (.sl (J2.next+9) 0 1 (.ex 1)) (.cells [v]) 512 r3 rfl (by decide) (by decide) (fD rfl n3.1.one) fun _ r4=>
   IE (.tup []) (by rw[<-ha]at r4;exact r4) rfl (by decide) (S':=Ht w u) s5.f (fun _ _ h=>h) (fun b h h1 _=>by have:=lw b h;omega) (DO (vs:=[.ptr w 0,.sl (J2.next+9) 0 1 (.ex 1)]) rfl rfl g5) fun _ _ _ r5=>
   Fv r5
 obtain⟨d1,d2⟩:=El (ops:=Nz) go
 exact⟨_,u5,J5,d1,D1.behind f0a s5⟩
theorem nF (hB:Fx (D 63)) (hP:UB (D 121)):PI (kE E D (Ao E D) N) D:=by
 intro J0 J eb w u L X nm nv rv tv f caps wk h1 h2 h3 hl hX hX' hq
 obtain⟨J1,e1,f1,a1,n1⟩:=Ay wk.tidy [.nils,.int .i64 (AA 0)]
 obtain⟨J2,e2,f2,a2,n2⟩:=Ay f1.tidy [.ptr J.next 0,.str nm,nv,rv,tv]
 have f02:=f1.trans f2 (fun _ _ h=>h)
 have w1:=wk.fr f1
 have w2:=wk.fr f02
 have a12:=f2.at_ a1 f1.tidy (fun h=>h)
 have l1:=f1.le
 have p2:Pw J2 J.next .nils []:=⟨a12,GH.nil J2 1,fun h=>h.elim,fun b hb=>by cases hb⟩
 have k2:Wk J J2 J1.next J.next .nils [.str nm,nv,rv,tv] []:=⟨p2,f02,fun b hb=>by
  rcases hb with hb|hb
  ·exact Nat.le_of_eq hb.symm
  ·exact hb.elim,a2,⟨a2.lt f2.tidy,by omega,fun h=>h.elim⟩⟩
 obtain⟨u3,J3,g3,s3⟩:=hq J2 J1.next J.next k2
 have k3:=k2.step s3
 have w3:=wk.fr k3.f
 have o3:E4 J3 w u J1.next:=E4.pw wk.pw wk.tidy l1 (k3.e.lt k3.tidy)
 obtain⟨e',u4,J4,g4,s4⟩:=dN (E:=E) (J:=J) hB hP w3 k3.e o3 k3.pw hl hX hX'
 refine⟨u4,J4,?_,D1.behind k3.f s4⟩
 have ee:=w1.e
 have tb1:∀U:List V->AH,BQ E J1 eb 1 4 U=U [.str nm,nv,rv,tv]:=fun U=>(BT ee).trans rfl
 have cv:∀U:V->H->AH,Ed D (.fn f [] caps) [.ptr J1.next 0] J2 U=U (.tup []) J3:=fun U=>by
  show AW (D f ([]++[.ptr J1.next 0]++caps) J2) U=_
  rw[g3];rfl
 have gd:∀U:CF->H->AH,DA (Ao E D Nz RT [(0,.ptr eb 0),(4,.ptr J1.next 0)] J3) U=U e' J4:=fun U=>by rw[g4];rfl
 show XI E D (Ao E D) eb 0 (.fn f [] caps) J=_
 unfold XI
 simp -implicitDefEqProofs only [↓rP,rS,↓e1,↓tb1,h1,h2,h3,↓e2,↓cv,↓gd]
theorem eK {k:Nat} (hk:k<nf) {j:Nat} (hj:(fd k).type=AA j) {Xk:List Nat} (hV:So (D 62) nT ty j (g k) Xk) {J0 J1:H} {q17 q7 q16 bk eb1 w1:Nat} {l:V} {v0:Vc} (hv0:v0.l=l) (ht0:Af J0) (T:Tb J0 nT ty nv rv tv) (hr:GO J0 6 nf l fun k=>(g k).c)
  (a17:B8 J0 q17 (fd k).c) (a7:B8 J0 q7 v0.c) (a16:B8 J0 q16 [.sl bk 0 1 (.ex 1)]) (ak:B8 J0 bk [.int .i64 (AA k)]) (wk:Wk J0 J1 eb1 w1 .nils [.str nm,nv,rv,tv] []) :
  ∃u' J',bW E D (Ao E D) N ([]++[.ptr eb1 0]++[.ptr q17 0,.ptr q7 0,.ptr q16 0]) J1=some (.tup [],J')/\D1 J1 w1 .nils J' u' Xk:=by
 obtain⟨u2,J2,g2,s2⟩:=hV J0 J1 eb1 w1 .nils [] nm nv rv tv ht0 T wk (by decide)
 refine⟨u2,J2,?_,s2⟩
 have b17:=wk.f.at_ a17 ht0 (fun h=>h)
 have b7:=wk.f.at_ a7 ht0 (fun h=>h)
 have b16:=wk.f.at_ a16 ht0 (fun h=>h)
 have bk':=wk.f.at_ ak ht0 (fun h=>h)
 have ia:∀U:Nat->Nat->AH,AT 1 (.sl bk 0 1 (.ex 1)) (AA 0) U=U bk 0:=fun U=>CR (Bz 0)
 have rg:∀U,AT 6 l (AA k) (fun b o=>BQ E J1 b o 6 U)=U (g k).c:=fun U=>(hr.fr0 wk.f ht0).all hk U
 unfold Fd.c at b17
 rw[hj]at b17
 unfold Vc.c at b7 rg g2
 rw[hv0]at b7
 show W8 E D (Ao E D) (.ptr eb1 0) (.ptr q17 0) (.ptr q7 0) (.ptr q16 0) J1=_
 unfold W8
 simp -implicitDefEqProofs only [↓rP,rS,↓AY b17,↓AY b7,↓AY b16,↓ia,↓AY bk',↓rg,(g k).oneB,(g k).oneL,(g k).oneM,↓g2]
end
def SJ (X:List Nat):List Nat:=Bq 8 (Cs X.length)++A1 (Es X)
theorem SI {X:List Nat} (h:X.length<=1000):(SJ X).length<=1100:=by
 unfold SJ
 rw[AL,A2,Cv,Dg]
 unfold Cs;omega
def Mp (ab:Nat->Bool) (X:Nat->List Nat):List Nat->List Nat
 | []=>[]
 | k::S=>(if ab k=true then [] else SJ (X k))++Mp ab X S
def Zf (F:List V->H->AH) (nT:Nat) (ty:Nat->Ty) (nf:Nat) (fd:Nat->Fd) (g:Nat->Vc) (ab:Nat->Bool) (X:Nat->List Nat):Prop:=∀{k:Nat} {J0 J1:H} {q17 q7 q16 bk eb1 w1:Nat} {v0:Vc} {nm:BS} {nv rv tv:V},k<nf->ab k=false->Af J0->Tb J0 nT ty nv rv tv->GO J0 6 nf v0.l (fun k=>(g k).c) ->
 B8 J0 q17 (fd k).c->B8 J0 q7 v0.c->B8 J0 q16 [.sl bk 0 1 (.ex 1)]->B8 J0 bk [.int .i64 (AA k)]->Wk J0 J1 eb1 w1 .nils [.str nm,nv,rv,tv] [] ->
 ∃u' J',F ([]++[.ptr eb1 0]++[.ptr q17 0,.ptr q7 0,.ptr q16 0]) J1=some (.tup [],J')/\D1 J1 w1 .nils J' u' (X k)
section
variable {E:EB} {D:Az} {N:Nat} {nT:Nat} {ty:Nat->Ty} {nm:BS} {nv rv tv:V} {nf:Nat} {fd:Nat->Fd} {g:Nat->Vc} {ab:Nat->Bool} {X:Nat->List Nat} {S:List Nat} {x:Ty}
theorem fP {J:H} (ht:Af J) {k eb q6 q7 q16 bk j:Nat} {sv bv:V} {len:Int} (hk:k<nf) (hs:Iq J x nf fd) (a6:B8 J q6 x.c) (a16:B8 J q16 [.sl bk 0 1 (.ex 1)]) (ak:B8 J bk [.int .i64 (AA k)]) (hfb:V.beq (.agg (fd k).c) (.agg (fd k).c)=true) :
    ∃e' J',Ao E D Ny RS [(0,.ptr eb 0),(4,bv),(6,.ptr q6 0),(7,.ptr q7 0),(15,.int .i64 (AA j)),(16,.ptr q16 0),(69,sv),(70,.int .i64 len),(71,.int .i64 (AA j))] J=some (e',J') /\
      Go.Og.look e' 0=some (.ptr eb 0)/\Go.Og.look e' 4=some bv/\Go.Og.look e' 6=some (.ptr q6 0)/\Go.Og.look e' 7=some (.ptr q7 0)/\Go.Og.look e' 15=some (.int .i64 (AA j))/\Go.Og.look e' 16=some (.ptr q16 0)/\Go.Og.look e' 17=some (.ptr (J.next+7) 0)/\Go.Og.look e' 69=some sv/\Go.Og.look e' 70=some (.int .i64 len)/\Go.Og.look e' 71=some (.int .i64 (AA j)) /\
      B8 J' (J.next+7) (fd k).c/\Fr AJ J J':=by
  obtain⟨h0,_⟩|⟨fb,c,M,hfv,hM,hcel⟩:=hs.row.is
  · omega
  obtain⟨hc1,hc2⟩:=hcel k hk
  have ax:B8 J q6 [.int .i64 x.kind,x.tags,.bool x.has,.bool x.hasLow,.bool x.hasHigh,.bool x.conMore,.int .i64 x.low,.int .i64 x.high,x.items,.sl fb 0 nf c,.int .i64 x.root,.bool x.more,.int .i64 x.of_]:=by
    have:=a6
    unfold Ty.c at this
    rw[hfv]at this
    exact this
  obtain⟨Ja,ha⟩:∃Ja,Ja=(⟨J.next+9,(J.next+7,.cells [.str ⟨0,0⟩,.int .i64 (AA 0),.bool false,.bool false,.int .i64 (AA 0),.int .i64 (AA 0),.nils,.nils,.int .i64 (AA 0),.nils,.int .i64 (AA 0)])::J.bl⟩:H):=⟨_,rfl⟩
  have ta:Af Ja:=by
    rw[ha]
    intro b hb
    have hb:J.next+9<=b:=hb
    show Ba ((J.next+7,_)::J.bl) b=none
    rw[BH,if_neg (by simp only[];omega)]
    exact ht b (by omega)
  have a7:B8 Ja (J.next+7) [.str ⟨0,0⟩,.int .i64 (AA 0),.bool false,.bool false,.int .i64 (AA 0),.int .i64 (AA 0),.nils,.nils,.int .i64 (AA 0),.nils,.int .i64 (AA 0)]:=by
    rw[ha]
    show Ba ((J.next+7,_)::J.bl) _=_
    rw[BH,if_pos rfl]
  obtain⟨Jb,gs,fs,ab'⟩:=LQ (E:=E) (D:=D) (n:=11) (cs:=(fd k).c) (x := .tmp 17) (y := .tmp 82) (e:=[(17,.ptr (J.next+7) 0),(82,.agg (fd k).c)]) ta a7 rfl rfl (by
    unfold Fd.c;simp[Bd,Bo,DN,Gu,Iu,(fd k).one2,(fd k).one3,(fd k).one5])
  have ia:Be (.iaddrS 1 (.tmp 78) (.con (.int .i64 (AA 0)))) [(78,.sl bk 0 1 (.ex 1))]=some (.ptr bk 0):=rfl
  have ib:Be (.iaddrS 11 (.tmp 77) (.tmp 80)) [(77,.sl fb 0 nf c),(80,.int .i64 (AA k))]=some (.ptr fb (k*11)):=by
    show (if(0:Int)<=AA k/\AA k<nf then some (V.ptr fb (0+(AA k).toNat*11))else none)=_
    rw[if_pos ⟨Rf k,Int.ofNat_lt.2 hk⟩,CJ];rfl
  have go:Fo E D J 9 0 AJ Ny RS ⟨[(0,.ptr eb 0),(4,bv),(6,.ptr q6 0),(7,.ptr q7 0),(15,.int .i64 (AA j)),(16,.ptr q16 0),(69,sv),(70,.int .i64 len),(71,.int .i64 (AA j))],J.next+9,[J.bl],[],0,[]⟩ _ Jb:=
      B5 (.ptr q6 9) rfl rfl <|
      D0 (.sl fb 0 nf c) (CN ht) rfl (Bb (b:=q6) (off:=9) rfl ax rfl ht (fun h=>h) (As _ rfl)) fun _ r1=>
      D0 (.sl bk 0 1 (.ex 1)) r1 rfl (Bb (b:=q16) (off:=0) rfl a16 rfl ht (fun h=>h) (As _ rfl)) fun _ r2=>
      B5 (.ptr bk 0) rfl ia <|
      D0 (.int .i64 (AA k)) r2 rfl (Bb (b:=bk) (off:=0) rfl ak rfl ht (fun h=>h) (As _ rfl)) fun _ r3=>
      B5 (.ptr fb (k*11)) rfl ib <|
      D0 (.agg (fd k).c) r3 rfl (HI (b:=fb) (off:=k*11) rfl hM (by rw[BC];exact hc1) hc2 ht (fun h=>h) hfb) fun _ r4=>
      Th (.ptr (J.next+7) 0) (.cells [.str ⟨0,0⟩,.int .i64 (AA 0),.bool false,.bool false,.int .i64 (AA 0),.int .i64 (AA 0),.nils,.nils,.int .i64 (AA 0),.nils,.int .i64 (AA 0)]) 128 r4 rfl (by decide) (by decide) rfl fun _ r5=>
      eB .dead (by rw[<-ha]at r5;exact r5) rfl (by decide) (S':=fun b=>b=J.next+7) fs (fun b h e=>by omega) (fun b e h1 _=>by rw[e,IL];decide) gs fun _ _ _ r6=>
      Fv r6
  obtain⟨d1,d2⟩:=El (ops:=Ny) go
  exact⟨_,Jb,d1,rfl,rfl,rfl,rfl,rfl,rfl,rfl,rfl,rfl,rfl,ab',d2⟩
end
theorem U9 {L:List Nat} (hb:PK L):A1 (Es L)=L++Bj (8*Cs L.length-L.length) 0:=by
 have hl:(A1 (Es L)).length=8*Cs L.length:=by rw[Cv,Dg]
 refine List.ext_getElem (by rw[hl,AL,List.length_replicate];unfold Cs;omega) fun i h1 h2=>?_
 have:=dM hb (i:=i) (by omega)
 unfold FE at this
 rw[Ad,Ad,AZ h1]at this
 by_cases hi:i<L.length
 ·rw[List.getElem_append_left hi]
  rw[AZ hi]at this
  exact this
 ·rw[List.getElem_append_right (by omega),List.getElem_replicate]
  rw[Aa (by omega)]at this
  exact this
theorem PX:∀k:Nat,Og.valOf 0 (Bj k (0:Nat))=0
 | 0=>rfl
 | k+1=>by rw[OM,Og.valOf];exact PX k
theorem eJ {L:List Nat} (hb:PK L):Wl (Es L) L.length=0:=by
 have hl:8*(Es L).length=8*Cs L.length:=by rw[Dg]
 unfold Wl
 rw[hl,if_neg (by unfold Cs;omega)]
 have hd:(A1 (Es L)).drop L.length=Bj (8*Cs L.length-L.length) 0++[]:=by rw[U9 hb,List.drop_left,Am]
 have:=Ki (Bj (8*Cs L.length-L.length) 0) [] L.length 0 hd
 rw[List.length_replicate,PX]at this
 rw[if_pos this]
theorem Gc {L a b:List Nat} {i:Nat} (h:L.drop i=a++b):L.drop (i+a.length)=b:=by
 rw[<-IP,h,List.drop_left]
theorem Kw {L a b:List Nat} {i:Nat} (h:L.drop i=a++b) (ha:0<a.length):i+a.length<=L.length:=by
 have:=congrArg List.length h
 rw[List.length_drop,AL]at this
 omega
theorem Mh {L b:List Nat} {i c:Nat} (h:L.drop i=c::b):FE L i=c/\L.drop (i+1)=b/\i+1<=L.length:=by
 have h':L.drop i=[c]++b:=h
 refine⟨?_,Gc h',Kw h' (Nat.succ_pos 0)⟩
 unfold FE
 rw[Ad]
 have:=congrArg (fun l=>l[0]?) h
 simp only[DC,ES,IN]at this
 rw[this];rfl
def Ul:Bool->Nat
 | true=>1
 | false=>0
theorem oB (b:Bool):decide (Ul b=1)=b:=by cases b<;>rfl
theorem fL (b:Bool):Ul b<2:=by cases b<;>decide
def GJ (n:Nat):List Nat:=if n<=64 then Bq 7 (n-1)else 1::Bq 8 n
def CX:List Bool->Nat->List Nat
 | [],_=>[]
 | true::r,i=>i::CX r (i+1)
 | false::r,i=>CX r (i+1)
def Ri (C:List Nat) (s:Nat):List Nat:=if s<2 then [128] else C
def HH (O:List Nat):List Nat:=E7 O.length++A1 O
def Gg (C:List Nat):List Nat->List Nat
 | []=>[]
 | s::r=>HH (Ri C s)++Gg C r
def Of (fl:List Bool) (C:List Nat):List Nat:=1::(GJ fl.length++(fl.map Ul++Gg C (CX fl 0)))
theorem tn {O:List Nat} (h:O.length<16384):HH O=mU O:=by
 unfold HH mU KA;rw[if_pos h,if_pos h]
theorem dC (O:List Nat) (h:O.length<16384):PK (HH O):=by rw[tn h];exact dD O
theorem ey (n:Nat):PK (GJ n):=by
 unfold GJ
 split
 ·exact Gh _ _
 ·intro b hb
  rcases BJ.1 hb with rfl|hb
  ·decide
  ·exact Gh _ _ b hb
theorem VY (n:Nat):7<=(GJ n).length/\(GJ n).length<=9:=by
 unfold GJ
 split
 ·rw[A2];omega
 ·rw[Aj,A2];omega
structure L0 (C:List Nat):Prop where
 pos:0<C.length
 few:C.length<=200
 oct:∀c∈C,c<256
theorem rE:L0 [128]:=⟨by decide,by decide,by decide⟩
theorem L0.cb {C:List Nat} (h:L0 C) (s:Nat):L0 (Ri C s):=by
 unfold Ri;split
 ·exact rE
 ·exact h
theorem MU {O:List Nat} (h:L0 O):16<=(HH O).length/\(HH O).length<=1616:=by
 have:=h.pos;have:=h.few
 unfold HH E7
 rw[AL,Cv]
 split<;>rw[A2]<;>omega
theorem Ve {C:List Nat} (h:L0 C):∀l,PK (Gg C l)
 | []=>fun _ h=>by cases h
 | s::r=>by
  intro b hb
  rcases Fe.1 hb with hb|hb
  ·exact dC _ (by have:=(h.cb s).few;omega) b hb
  ·exact Ve h r b hb
theorem Vd {C:List Nat} (h:L0 C):∀l,(Gg C l).length<=1616*l.length
 | []=>AN _
 | s::r=>by
  have:=MU (h.cb s)
  have:=Vd h r
  unfold Gg
  rw[AL,Aj];omega
theorem If:∀l i,(CX l i).length<=l.length
 | [],_=>AN _
 | true::r,i=>by
  have:=If r (i+1)
  show (CX r (i+1)).length+1<=r.length+1
  omega
 | false::r,i=>by
  have:=If r (i+1)
  show (CX r (i+1)).length<=r.length+1
  omega
theorem Tf:∀l i,∀s∈CX l i,i<=s/\s<i+l.length
 | [],_,_,h=>by cases h
 | true::r,i,s,h=>by
  rcases BJ.1 h with rfl|h
  ·simp
  ·have:=Tf r (i+1) s h
   rw[Aj];omega
 | false::r,i,s,h=>by
  have:=Tf r (i+1) s h
  rw[Aj];omega
inductive WJ:Nat->List Nat->Prop
 | nil (i:Nat):WJ i []
 | cons {i s:Nat} {r:List Nat} (h:i<=s) (hr:WJ (s+1) r):WJ i (s::r)
theorem WJ.mono {i j:Nat} {l:List Nat} (h:WJ j l) (hij:i<=j):WJ i l:=by
 cases h with
 | nil=>exact .nil _
 | cons h hr=>exact .cons (Ae hij h) hr
theorem Mc:∀l i,WJ i (CX l i)
 | [],_ => .nil _
 | true::r,i => .cons (AN _) (Mc r (i+1))
 | false::r,i=>(Mc r (i+1)).mono (Ec _)
theorem Uq {C:List Nat} (h:L0 C) (fl:List Bool):PK (Of fl C):=by
 intro b hb
 unfold Of at hb
 simp only[BJ,Fe]at hb
 rcases hb with rfl|hb|hb|hb
 ·decide
 ·exact ey _ b hb
 ·obtain⟨x,_,rfl⟩:=FA.1 hb;exact fL x
 ·exact Ve h _ b hb
theorem Up {C:List Nat} (h:L0 C) {fl:List Bool} (hf:fl.length<=100):8<=(Of fl C).length/\(Of fl C).length<=200000:=by
 have h1:=VY fl.length
 have h2:=Vd h (CX fl 0)
 have h3:=If fl 0
 unfold Of
 rw[Aj,AL,AL,DH]
 omega
theorem SF {P r O:List Nat} {i:Nat} (h:P.drop i=HH O++r) (hO:L0 O):V7 P i O (i+(HH O).length):=by
 have hf:O.length<16384:=by have:=hO.few;omega
 have e:KA O.length=E7 O.length:=by unfold KA;rw[if_pos hf]
 have h':P.drop i=KA O.length++(A1 O++r):=by rw[e,h];unfold HH;rw[Ab]
 have hd:=eY h' (.inl hf)
 rw[decide_eq_false (by omega)]at hd
 have hp:=V7.one hd
 have hx:=Gc h'
 have hi:i+(KA O.length).length<=P.length:=Kw h' (by rw[e];unfold E7;split<;>rw[A2]<;>decide)
 have ho:JY P (i+(KA O.length).length) O.length=O:=by
  have:=dR (P:=P.take (i+(KA O.length).length)) (Q:=r) O [] (by rw[Am];exact hO.oct)
  rw[Am,IM,HD hi,<-hx,List.take_append_drop]at this
  exact this
 rw[ho]at hp
 have el:i+(KA O.length).length+8*O.length=i+(HH O).length:=by unfold HH;rw[AL,Cv,e];omega
 rw[el]at hp
 exact hp
section
variable {E:EB} {J0 J J1:H} {esz k n:Nat} {v x:V} {l m:List V}
theorem Nw.frS {S:Nat->Prop} (h:Nw J0 J esz k v l) (f:Fr S J J1) (ht:Af J) (hS:∀b,J0.next<=b->¬S b):Nw J0 J1 esz k v l:=⟨h.1.fr f ht (fun b hb=>hS b (h.2 b hb)),h.2⟩
theorem mZ {S:Nat->Prop} {bytes:Nat} (h:Nw J0 J esz k v l) (f0:Fr S J0 J) (hx:EY J esz n x m) (ho:allOne m=true) (hg:CV (k+n) bytes=true) :
  ∃u J',(∀U:V->H->AH,Ee E esz bytes v x J U=U u J')/\Nw J0 J' esz (k+n) u (l++m)/\Fr S J0 J'/\Fr (fun b=>J0.next<=b) J J':=by
 obtain⟨u,J',g,d,nm,f⟩:=HP (E:=E) h.1 f0.tidy hx ho hg
 exact⟨u,J',g,⟨d,fun b hb=>(nm b hb).elim (h.2 b) (fun h'=>Ae f0.le h')⟩,f0.trans f fun b hb hn=>by have:=h.2 b hn;omega,f.mono fun b _ hn=>h.2 b hn⟩
end
def vC (F:List V->H->AH):Prop:=∀(J:H) (wb rb i n j:Nat) (v:V) (O:List Nat) (em:Bool),Rw J wb rb v O i (AA 0) em->Af J->N4 (A1 O) i n false j->j<=8*O.length->∃J',F [.ptr wb 0] J=some (.int .i64 (AA n),J')/\Rw J' wb rb v O j (AA 0) em/\Fr (fun k=>k=rb) J J'
def gq (F:List V->H->AH):Prop:=∀(J:H) (db wb rb i:Nat) (v:V) (O:List Nat) (em:Bool) (r:List V) (fl:List Bool) (R:List Nat),Rw J wb rb v O i (AA 0) em->Af J->B8 J db (.ptr wb 0::r)->db≠rb->(A1 O).drop i=GJ fl.length++(fl.map Ul++R)->0<fl.length->fl.length<=100 ->
 ∃sv J',F [.ptr db 0] J=some (sv,J')/\Nw J J' 1 (CX fl 0).length sv (Ig (CX fl 0))/\Rw J' wb rb v O (i+(GJ fl.length).length+fl.length) (AA (match (CX fl 0).isEmpty with
  | true=>4
  | false=>0)) em/\Fr (fun k=>k=rb\/k=wb) J J'
section
variable {E:EB} {D:Az} {W:AM} {N:Nat}
theorem AGA (hT:Mq (D 171)):vC (j9 E D W N):=by
 intro J wb rb i n j v O em h ht hd hj
 obtain⟨J1,g,r,f⟩:=hT J wb rb i n j v O em false true h ht hd hj (fun h=>by cases h)
 refine⟨J1,?_,r,f⟩
 show XB E D W (.ptr wb 0) J=_
 unfold XB
 simp -implicitDefEqProofs only [↓rP,rA,AD,AG,AB,↓g]
theorem zm (hF:UC (D 84)) (hB:Kz (D 45)) (hD:vC (D 222)) (hO:Q9 (D 44)) (hN:H7 (D 42)) (hY:RB (D 42)) (hM:101<N):gq (YK E D W N):=by
 intro J db wb rb i v O em r fl R h ht a hne hd h0 h100
 have lr:=h.pl.at_.lt ht
 have bl:(A1 O).length=8*O.length:=Cv _
 obtain⟨J1,g1,w1,f1⟩:∃J1,(∀K,Ni E D W K db 0 J=K db 0 (AA fl.length) J1)/\Rw J1 wb rb v O (i+(GJ fl.length).length) (AA 0) em/\Fr (fun k=>k=rb) J J1:=by
  by_cases h64:fl.length<=64
  ·have ec:GJ fl.length=0::Bq 6 (fl.length-1):=by
    unfold GJ
    rw[if_pos h64,Bq,Nat.div_eq_of_lt (by omega)]
   rw[ec]at hd ⊢
   obtain⟨q0,d1,i1⟩:=Mh hd
   obtain⟨J2,g2,w2,f2⟩:=hF J db wb rb i v O em r h ht (by omega) a
   have a2:=f2.at_ a ht hne
   rw[q0]at g2
   have i2:=Kw d1 (by rw[A2];decide)
   rw[A2]at i2
   obtain⟨J3,g3,w3,f3⟩:=hB J2 wb rb (i+1) 6 v O em w2 f2.tidy (by omega) (by decide)
   rw[HY d1,Bw (by omega)]at g3
   refine⟨J3,fun K=>?_,by rw[Aj,A2];rw[show i+1+6=i+(6+1)by omega]at w3;exact w3,f2.trans f3 (fun _ _ h=>h)⟩
   have e1:BP .i64 (AA (fl.length-1))=AA (fl.length-1):=BV (by rw[Dc];omega)
   have e2:CU .i64 (AA (fl.length-1)) (AA 1)=AA fl.length:=by rw[BX (by omega)];congr 1;omega
   unfold Ni
   simp -implicitDefEqProofs only [↓rP,rA,AD,AG,AB,show decide ((0:Nat)=1)=false from rfl,↓g2,↓AY a2,↓g3,e1,e2]
  ·have ec:GJ fl.length=1::Bq 8 fl.length:=by
    unfold GJ
    rw[if_neg h64]
   rw[ec]at hd ⊢
   obtain⟨q0,d1,i1⟩:=Mh hd
   obtain⟨J2,g2,w2,f2⟩:=hF J db wb rb i v O em r h ht (by omega) a
   have a2:=f2.at_ a ht hne
   rw[q0]at g2
   have i2:=Kw d1 (by rw[A2];decide)
   rw[A2]at i2
   have hr:C7 (A1 O) (i+1) 8 0=fl.length:=by rw[HY d1,Bw (by omega)]
   obtain⟨J3,g3,w3,f3⟩:=hD J2 wb rb (i+1) fl.length (i+1+8) v O em w2 f2.tidy (.one (by omega) hr) (by omega)
   have b3:=hN J3 db
   refine⟨J3,fun K=>?_,by rw[Aj,A2];rw[show i+1+8=i+(8+1)by omega]at w3;exact w3,f2.trans f3 (fun _ _ h=>h)⟩
   have e1:decide (fl.length<=64)=false:=decide_eq_false h64
   have e2:decide (1000<fl.length)=false:=decide_eq_false (by omega)
   unfold Ni
   simp -implicitDefEqProofs only [↓rP,rA,AD,AG,AB,show decide ((1:Nat)=1)=true from rfl,↓g2,↓AY a2,↓g3,e1,e2,↓b3]
 have dF:=Gc hd
 have loop:∀(l:List Bool) (n' e j:Nat) (d:V) (A:List Nat) (J1:H),e+l.length=fl.length->l.length<n'->A.length<=e->Nw J J1 1 A.length d (Ig A)->Rw J1 wb rb v O j (AA 0) em->Fr (fun k=>k=rb) J J1->(A1 O).drop j=l.map Ul++R ->
   ∃d' J',Nv E D W N n' db 0 (AA fl.length) d (AA e) J1=Nh E D W db 0 d' J'/\Nw J J' 1 (A++CX l e).length d' (Ig (A++CX l e))/\Rw J' wb rb v O (j+l.length) (AA 0) em/\Fr (fun k=>k=rb) J J':=by
  intro l
  induction l with
  | nil=>
   intro n' e j d A J1 he hn' hA hd' hw f hj
   obtain⟨n',rfl⟩:∃q,n'=q+1:=⟨n'-1,by omega⟩
   have he:e=fl.length:=he
   subst he
   have d1:decide (fl.length<fl.length)=false:=decide_eq_false (CD _)
   refine⟨d,J1,?_,by rw[show CX [] fl.length=[] from rfl,Am];exact hd',hw,f⟩
   show JB E D W (Nh E D W) _ db 0 (AA fl.length) d (AA fl.length) J1=_
   have key:∀K2 K4,JB E D W K2 K4 db 0 (AA fl.length) d (AA fl.length) J1=K2 db 0 d J1:=by
    intro K2 K4
    unfold JB
    simp -implicitDefEqProofs only [↓rP,rA,AD,AG,AB,d1]
   exact key _ _
  | cons c l ih=>
   intro n' e j d A J1 he hn' hA hd' hw f hj
   obtain⟨n',rfl⟩:∃q,n'=q+1:=⟨n'-1,by omega⟩
   rw[Aj]at he hn'
   have d1:decide (e<fl.length)=true:=decide_eq_true (by omega)
   obtain⟨q0,dj,ij⟩:=Mh (show (A1 O).drop j=Ul c::(l.map Ul++R)from hj)
   have a1:=f.at_ a ht hne
   have o1:=hO J1 db wb rb j 0 v O em r hw a1
   obtain⟨J2,g2,w2,f2⟩:=hF J1 db wb rb j v O em r hw f.tidy (by omega) a1
   rw[q0,oB]at g2
   have F2:Fr (fun k=>k=rb) J J2:=f.trans f2 (fun _ _ h=>h)
   have n2:Nw J J2 1 A.length d (Ig A):=hd'.frS f2 f.tidy (fun b hb e=>by omega)
   cases c with
   | false=>
    obtain⟨d',J',g',h1,h2,h3⟩:=ih n' (e+1) (j+1) d A J2 (by omega) (by omega) (by omega) n2 w2 F2 dj
    refine⟨d',J',?_,h1,by rw[Aj,show j+(l.length+1)=j+1+l.length by omega];exact h2,h3⟩
    rw[<-g']
    have key:∀K2 K4,JB E D W K2 K4 db 0 (AA fl.length) d (AA e) J1=K4 db 0 (AA fl.length) d (AA e) J2:=by
     intro K2 K4
     unfold JB
     simp -implicitDefEqProofs only [↓rP,rA,AD,AG,AB,d1,↓o1,↓g2]
    refine(key _ _).trans ?_
    show Ng E D W (Nv E D W N n') db 0 (AA fl.length) d (AA e) J2=_
    unfold Ng
    rw[BX (show e+1<=9223372036854775807 by omega)]
   | true=>
    obtain⟨J3,e3,f3,a3,n3⟩:=Ay F2.tidy [.int .i64 (AA e)]
    have F3:Fr (fun k=>k=rb) J J3:=F2.trans f3 (fun _ _ h=>h.elim)
    have xs:EY J3 1 1 (V.sl J2.next 0 1 (.ex 1)) [.int .i64 (AA e)] := .inr ⟨_,_,_,_,rfl,a3,AN _,rfl⟩
    obtain⟨u,J4,g4,h4,F4,f4⟩:=mZ (E:=E) (bytes:=8) (n2.frS f3 F2.tidy (fun _ _ h=>h)) F3 xs rfl (by unfold CV;simp only[AK,BC];omega)
    have w4:Rw J4 wb rb v O (j+1) (AA 0) em:=(w2.fr0 f3 F2.tidy).fr f4 F3.tidy (fun e=>by have:=h.at_.lt ht;omega) (fun e=>by omega) (fun c hc e=>by have:=EY.lt h.pl.by_ ht hc;omega)
    have h4:Nw J J4 1 (A++[e]).length u (Ig (A++[e])):=by
     rw[AL];unfold Ig at h4 ⊢;rw[PN];exact h4
    obtain⟨d',J',g',h1,h2,h3⟩:=ih n' (e+1) (j+1) u (A++[e]) J4 (by omega) (by omega) (by rw[AL];simp only[Aj,CA];omega) h4 w4 F4 dj
    have eA:A++[e]++CX l (e+1)=A++CX (true::l) e:=by rw[Ab];rfl
    rw[eA]at h1
    refine⟨d',J',?_,h1,by rw[Aj,show j+(l.length+1)=j+1+l.length by omega];exact h2,h3⟩
    rw[<-g']
    have uo:=h4.1.one
    have key:∀K2 K4,JB E D W K2 K4 db 0 (AA fl.length) d (AA e) J1=K4 db 0 (AA fl.length) u (AA e) J4:=by
     intro K2 K4
     unfold JB
     simp -implicitDefEqProofs only [↓rP,rA,AD,AG,AB,d1,↓o1,↓g2,↓e3,↓g4,↓CM uo]
    refine(key _ _).trans ?_
    show Ng E D W (Nv E D W N n') db 0 (AA fl.length) u (AA e) J4=_
    unfold Ng
    rw[BX (show e+1<=9223372036854775807 by omega)]
 obtain⟨d',J2,g2,n2,w2,f2⟩:=loop fl N 0 _ .nils [] J1 (CJ _) (by omega) (AN _) ⟨GH.nil J1 1,fun _ h=>h.elim⟩ w1 f1 dF
 rw[Cy]at n2
 have ls:∀U:Nat->AH,BA d' U=U (CX fl 0).length:=fun U=>n2.1.src.slen
 have a2:=f2.at_ a ht hne
 have k0:YK E D W N [.ptr db 0] J=Nh E D W db 0 d' J2:=by
  show Ni E D W (XS E D W (Nv E D W N N)) db 0 J=_
  rw[g1,<-g2];rfl
 rw[k0]
 cases he:CX fl 0 with
 | nil=>
  obtain⟨J3,g3,w3,f3⟩:=hY J2 db wb rb _ v O em r w2 f2.tidy a2
  rw[he]at n2 ls
  refine⟨d',J3,?_,n2.frS f3 f2.tidy (fun b hb e=>by have:=h.at_.lt ht;omega),w3,(f2.mono (fun _ _ h => .inl h):Fr (fun k=>k=rb\/k=wb) J J2).trans f3 (fun _ _ h => .inr h)⟩
  unfold Nh
  have e0:decide (([]:List Nat).length=0)=true:=rfl
  simp -implicitDefEqProofs only [↓rP,rA,AD,AG,AB,↓ls,DY,e0,↓g3]
 | cons s0 sr=>
  have g3:=hN J2 db
  rw[he]at n2 ls
  refine⟨d',J2,?_,n2,w2,f2.mono (fun _ _ h => .inl h)⟩
  unfold Nh
  have e0:decide ((s0::sr).length=0)=false:=rfl
  simp -implicitDefEqProofs only [↓rP,rA,AD,AG,AB,↓ls,DY,e0,↓g3]
end
structure LM (Sl Fl:List V->H->AH) (m:Nat) (Pt:H->Prop) (nm:BS) (nv rv tv:V) (ty:Nat->Ty) (fd:Nat->Fd):Prop where
 o1:nv.one=true
 o2:rv.one=true
 b1:V.beq nv nv=true
 b2:V.beq rv rv=true
 ptf:∀{S:Nat->Prop} {J J':H},Af J->Fr S J J'->(∀b,S b->m<=b)->Pt J->Pt J'
 row:∀J,Pt J->GO J 13 3 tv fun i=>(ty i).c
 frow:∀J,Pt J->GO J 11 2 (ty 0).fields fun k=>(fd k).c
 k0:(ty 0).kind=AA 7
 root:(ty 0).root=AA 0
 mor:(ty 0).more=true
 bt:V.beq (ty 0).tags (ty 0).tags=true
 bi:V.beq (ty 0).items (ty 0).items=true
 kd:∀k,k<2->(ty (k+1)).kind=AA 1
 fty:∀k,k<2->(fd k).type=AA (k+1)/\(fd k).opt=false/\(fd k).has=false/\(fd k).group=AA 0
 fb:∀k,k<2->V.beq (.agg (fd k).c) (.agg (fd k).c)=true
 fm:∀b,Ai (ty 0).fields b->b<m
 sl:PE Pt [0,1] 0 nm nv rv tv Sl
 fl:Zd Pt 0 nm nv rv tv (ty 0).root [] Fl
structure Dd (m:Nat) (J:H) (db wb rb cb:Nat) (nm:BS) (nv rv tv:V) (n:Int):Prop where
 d:B8 J db [.ptr wb 0,.str nm,nv,rv,tv,.ptr cb 0]
 c:B8 J cb [.int .i64 n]
 dw:db≠wb
 dr:db≠rb
 dc:db≠cb
 cw:cb≠wb
 cr:cb≠rb
 md:m<=db
 mw:m<=wb
 mr:m<=rb
 mc:m<=cb
theorem Dd.fr {S:Nat->Prop} {m:Nat} {J J1:H} {db wb rb cb:Nat} {nm:BS} {nv rv tv:V} {n:Int} (h:Dd m J db wb rb cb nm nv rv tv n) (f:Fr S J J1) (ht:Af J) (h1:¬S db) (h2:¬S cb):Dd m J1 db wb rb cb nm nv rv tv n:=
 ⟨f.at_ h.d ht h1,f.at_ h.c ht h2,h.dw,h.dr,h.dc,h.cw,h.cr,h.md,h.mw,h.mr,h.mc⟩
theorem Dd.to {m:Nat} {J J1:H} {db wb rb cb:Nat} {nm:BS} {nv rv tv:V} {n n1:Int} {S:Nat->Prop} (h:Dd m J db wb rb cb nm nv rv tv n) (f:Fr S J J1) (ht:Af J) (h1:¬S db) (a:B8 J1 cb [.int .i64 n1]):Dd m J1 db wb rb cb nm nv rv tv n1:=
 ⟨f.at_ h.d ht h1,a,h.dw,h.dr,h.dc,h.cw,h.cr,h.md,h.mw,h.mr,h.mc⟩
def vz:List V:=[.int .i64 (AA 0),.int .i64 (AA 0),.nils,.nils,.int .i64 (AA 0),.nils]
def vb (b:Nat):List V:=[.int .i64 (AA 1),.int .i64 (AA b),.nils,.nils,.int .i64 (AA 0),.nils]
theorem Ty.allOne (x:Ty):Og.allOne x.c=true:=by
 unfold Ty.c
 simp[Bd,Bo,DN,Gu,x.oneT,x.oneI,x.oneF]
section
variable {E:EB} {D:Az} {N:Nat} {Sl Fl:List V->H->AH} {m:Nat} {Pt:H->Prop} {nm:BS} {nv rv tv:V} {ty:Nat->Ty} {fd:Nat->Fd}
theorem cR (hT:LM Sl Fl m Pt nm nv rv tv ty fd) (hM:JE (D 43)) (hN:H7 (D 42)) {J:H} {ce ve db wb rb cb:Nat} {n:Int} {k dp:Nat} (ht:Af J) (hp:Pt J) (h:Dd m J db wb rb cb nm nv rv tv n) (hc:B8 J ce [.ptr db 0]) (hce:ce≠cb)
    (hk:(k=0/\dp=1)\/(k=1/\dp=2)\/(k=2/\dp=2)) (hn:Hk (CU .i64 n (AA 1)) (AA 5000)=true) :
    ∃e' J',Ao E D KX OZ [(1,.int .i64 (AA k)),(2,.int .i64 (AA dp)),(3,.ptr ce 0),(6,.ptr ve 0)] J=some (e',J') /\
      Go.Og.look e' 1=some (.int .i64 (AA k))/\Go.Og.look e' 2=some (.int .i64 (AA dp))/\Go.Og.look e' 3=some (.ptr ce 0)/\Go.Og.look e' 6=some (.ptr ve 0) /\
      B8 J' cb [.int .i64 (CU .i64 n (AA 1))]/\Fr (fun b=>b=cb) J J':=by
  obtain⟨h0,_⟩|⟨tb,c,L,rfl,_,_⟩:=(hT.row J hp).is
  · omega
  have fw:Fr AJ J ⟨J.next+26,J.bl⟩:=(CN (E:=E) (n:=26) (S:=AJ) ht).fr
  have lc:=h.c.lt ht
  obtain⟨J1,g1,c1,f1⟩:=hM ⟨J.next+26,J.bl⟩ cb n (AA 1) (fw.at_ h.c ht (fun h=>h)) fw.tidy hn
  have g2:=hN J1 db
  have ad:=h.d
  rcases hk with ⟨rfl,rfl⟩|⟨rfl,rfl⟩|⟨rfl,rfl⟩
  · have go:Fo E D J 26 0 (fun b=>b=cb) KX OZ ⟨[(1,.int .i64 (AA 0)),(2,.int .i64 (AA 1)),(3,.ptr ce 0),(6,.ptr ve 0)],J.next+26,[J.bl],[],0,[]⟩ _ J1:=
        D0 (.ptr db 0) (CN ht) rfl (Bb (b:=ce) (off:=0) rfl hc rfl ht hce (As _ rfl)) fun _ r1=>
        D0 (.ptr db 0) r1 rfl (Bb (b:=ce) (off:=0) rfl hc rfl ht hce (As _ rfl)) fun _ r2=>
        B5 (.ptr db 0) rfl rfl <|
        B5 (.ptr db 5) rfl rfl <|
        D0 (.ptr cb 0) r2 rfl (Bb (b:=db) (off:=5) rfl ad rfl ht h.dc (As _ rfl)) fun _ r3=>
        IE (.bool true) r3 rfl (by decide) (S':=fun b=>b=cb) f1 (fun _ _ h=>h) (fun b h h1 _=>by omega) (DO (vs:=[.ptr cb 0,.int .i64 (AA 1)]) rfl rfl g1) fun _ _ _ r4=>
        B5 (.bool false) rfl rfl <|
        B5 (.bool false) rfl rfl <|
        Du (.int .i64 (AA 0)) rfl rfl rfl <|
        Du (.bool false) rfl rfl rfl <|
        B5 (.bool false) rfl rfl <|
        B5 (.bool false) rfl rfl <|
        Du (.int .i64 (AA 0)) rfl rfl rfl <|
        SQ (.ptr db 0) r4 rfl rfl (Bb (b:=ce) (off:=0) rfl hc rfl ht hce (As _ rfl)) fun _ r5=>
        Du (.ptr db 0) rfl rfl rfl <|
        Du (.ptr db 1) rfl rfl rfl <|
        Du (.ptr db 4) rfl rfl rfl <|
        SQ (.sl tb 0 3 c) r5 rfl rfl (Bb (b:=db) (off:=4) rfl ad rfl ht h.dc (As _ rfl)) fun _ r6=>
        Du (.int .i64 (AA 3)) rfl rfl rfl <|
        Du (.bool false) rfl rfl rfl <|
        B5 (.bool false) rfl rfl <|
        B5 (.bool false) rfl rfl <|
        Du (.int .i64 (AA 1)) rfl rfl rfl <|
        Du (.bool false) rfl rfl rfl <|
        B5 (.bool false) rfl rfl <|
        IE (.tup []) r6 rfl (by decide) (S':=AJ) (Fr.refl f1.tidy) (fun _ _ h=>h.elim) (fun _ h _ _=>h) (DO (vs:=[.ptr db 0,.bool false]) rfl rfl g2) fun _ _ _ r7=>
        Fv r7
    obtain⟨d1,d2⟩:=El (ops:=KX) go
    exact⟨_,J1,d1,rfl,rfl,rfl,rfl,c1,d2⟩
  · have go:Fo E D J 26 0 (fun b=>b=cb) KX OZ ⟨[(1,.int .i64 (AA 1)),(2,.int .i64 (AA 2)),(3,.ptr ce 0),(6,.ptr ve 0)],J.next+26,[J.bl],[],0,[]⟩ _ J1:=
        D0 (.ptr db 0) (CN ht) rfl (Bb (b:=ce) (off:=0) rfl hc rfl ht hce (As _ rfl)) fun _ r1=>
        D0 (.ptr db 0) r1 rfl (Bb (b:=ce) (off:=0) rfl hc rfl ht hce (As _ rfl)) fun _ r2=>
        B5 (.ptr db 0) rfl rfl <|
        B5 (.ptr db 5) rfl rfl <|
        D0 (.ptr cb 0) r2 rfl (Bb (b:=db) (off:=5) rfl ad rfl ht h.dc (As _ rfl)) fun _ r3=>
        IE (.bool true) r3 rfl (by decide) (S':=fun b=>b=cb) f1 (fun _ _ h=>h) (fun b h h1 _=>by omega) (DO (vs:=[.ptr cb 0,.int .i64 (AA 1)]) rfl rfl g1) fun _ _ _ r4=>
        B5 (.bool false) rfl rfl <|
        B5 (.bool false) rfl rfl <|
        Du (.int .i64 (AA 1)) rfl rfl rfl <|
        Du (.bool false) rfl rfl rfl <|
        B5 (.bool false) rfl rfl <|
        B5 (.bool false) rfl rfl <|
        Du (.int .i64 (AA 1)) rfl rfl rfl <|
        SQ (.ptr db 0) r4 rfl rfl (Bb (b:=ce) (off:=0) rfl hc rfl ht hce (As _ rfl)) fun _ r5=>
        Du (.ptr db 0) rfl rfl rfl <|
        Du (.ptr db 1) rfl rfl rfl <|
        Du (.ptr db 4) rfl rfl rfl <|
        SQ (.sl tb 0 3 c) r5 rfl rfl (Bb (b:=db) (off:=4) rfl ad rfl ht h.dc (As _ rfl)) fun _ r6=>
        Du (.int .i64 (AA 3)) rfl rfl rfl <|
        Du (.bool false) rfl rfl rfl <|
        B5 (.bool false) rfl rfl <|
        B5 (.bool false) rfl rfl <|
        Du (.int .i64 (AA 2)) rfl rfl rfl <|
        Du (.bool false) rfl rfl rfl <|
        B5 (.bool false) rfl rfl <|
        IE (.tup []) r6 rfl (by decide) (S':=AJ) (Fr.refl f1.tidy) (fun _ _ h=>h.elim) (fun _ h _ _=>h) (DO (vs:=[.ptr db 0,.bool false]) rfl rfl g2) fun _ _ _ r7=>
        Fv r7
    obtain⟨d1,d2⟩:=El (ops:=KX) go
    exact⟨_,J1,d1,rfl,rfl,rfl,rfl,c1,d2⟩
  · have go:Fo E D J 26 0 (fun b=>b=cb) KX OZ ⟨[(1,.int .i64 (AA 2)),(2,.int .i64 (AA 2)),(3,.ptr ce 0),(6,.ptr ve 0)],J.next+26,[J.bl],[],0,[]⟩ _ J1:=
        D0 (.ptr db 0) (CN ht) rfl (Bb (b:=ce) (off:=0) rfl hc rfl ht hce (As _ rfl)) fun _ r1=>
        D0 (.ptr db 0) r1 rfl (Bb (b:=ce) (off:=0) rfl hc rfl ht hce (As _ rfl)) fun _ r2=>
        B5 (.ptr db 0) rfl rfl <|
        B5 (.ptr db 5) rfl rfl <|
        D0 (.ptr cb 0) r2 rfl (Bb (b:=db) (off:=5) rfl ad rfl ht h.dc (As _ rfl)) fun _ r3=>
        IE (.bool true) r3 rfl (by decide) (S':=fun b=>b=cb) f1 (fun _ _ h=>h) (fun b h h1 _=>by omega) (DO (vs:=[.ptr cb 0,.int .i64 (AA 1)]) rfl rfl g1) fun _ _ _ r4=>
        B5 (.bool false) rfl rfl <|
        B5 (.bool false) rfl rfl <|
        Du (.int .i64 (AA 2)) rfl rfl rfl <|
        Du (.bool false) rfl rfl rfl <|
        B5 (.bool false) rfl rfl <|
        B5 (.bool false) rfl rfl <|
        Du (.int .i64 (AA 2)) rfl rfl rfl <|
        SQ (.ptr db 0) r4 rfl rfl (Bb (b:=ce) (off:=0) rfl hc rfl ht hce (As _ rfl)) fun _ r5=>
        Du (.ptr db 0) rfl rfl rfl <|
        Du (.ptr db 1) rfl rfl rfl <|
        Du (.ptr db 4) rfl rfl rfl <|
        SQ (.sl tb 0 3 c) r5 rfl rfl (Bb (b:=db) (off:=4) rfl ad rfl ht h.dc (As _ rfl)) fun _ r6=>
        Du (.int .i64 (AA 3)) rfl rfl rfl <|
        Du (.bool false) rfl rfl rfl <|
        B5 (.bool false) rfl rfl <|
        B5 (.bool false) rfl rfl <|
        Du (.int .i64 (AA 2)) rfl rfl rfl <|
        Du (.bool false) rfl rfl rfl <|
        B5 (.bool false) rfl rfl <|
        IE (.tup []) r6 rfl (by decide) (S':=AJ) (Fr.refl f1.tidy) (fun _ _ h=>h.elim) (fun _ h _ _=>h) (DO (vs:=[.ptr db 0,.bool false]) rfl rfl g2) fun _ _ _ r7=>
        Fv r7
    obtain⟨d1,d2⟩:=El (ops:=KX) go
    exact⟨_,J1,d1,rfl,rfl,rfl,rfl,c1,d2⟩
def gk (m:Nat) (Pt:H->Prop) (nm:BS) (nv rv tv:V) (F:List V->H->AH):Prop:=∀(J:H) (db wb rb cb i j:Nat) (v:V) (O:List Nat) (em:Bool) (n:Int),Af J->Pt J->Rw J wb rb v O i (AA 0) em->Dd m J db wb rb cb nm nv rv tv n->Hk (CU .i64 n (AA 1)) (AA 5000)=true->i+1<=8*O.length->¬Ai v cb->j<2 ->
  ∃J',F [.ptr db 0,.int .i64 (AA (j+1)),.int .i64 (AA 2)] J=some (.agg (vb (FE (A1 O) i)),J')/\Rw J' wb rb v O (i+1) (AA 0) em/\B8 J' cb [.int .i64 (CU .i64 n (AA 1))]/\Fr (fun k=>k=rb\/k=cb) J J'
theorem ze (hT:LM Sl Fl m Pt nm nv rv tv ty fd) (hM:JE (D 43)) (hN:H7 (D 42)) (hO:Q9 (D 44)) (hB:Kz (D 45)):gk m Pt nm nv rv tv (zC E D (Ao E D) N):=by
 intro J db wb rb cb i j v O em n ht hp hw h hn hi nc hj
 obtain⟨J1,e1,f1,a1,n1⟩:=Ay ht [.ptr db 0]
 obtain⟨J2,e2,f2,a2,n2⟩:=Ay f1.tidy vz
 have f02:Fr AJ J J2:=f1.trans f2 (fun _ _ h=>h)
 have c2:=f2.at_ a1 f1.tidy (fun h=>h)
 have h2:=h.fr f02 ht (fun h=>h) (fun h=>h)
 have lc:=h.c.lt ht
 have ld:=h.d.lt ht
 have lw:=hw.at_.lt ht
 have lr:=hw.pl.at_.lt ht
 have lv:∀c,Ai v c->c<J.next:=fun c hc=>EY.lt hw.pl.by_ ht hc
 have p2:=hT.ptf ht f02 (fun _ h=>h.elim) hp
 obtain⟨e',J3,g3,q1,q2,q3,q6,c3,f3⟩:=cR (E:=E) (D:=D) (ve:=J1.next) (k:=j+1) (dp:=2) hT hM hN f02.tidy p2 h2 c2 (by omega) (by omega) hn
 have p3:=hT.ptf f02.tidy f3 (fun b e=>by rw[e];exact h.mc) p2
 have f03:Fr (fun k=>k=rb\/k=cb) J J3:=(f02.mono (fun _ _ h=>h.elim):Fr (fun k=>k=rb\/k=cb) J J2).trans f3 (fun _ _ h => .inr h)
 have b3:=f3.at_ c2 f02.tidy (by omega)
 have z3:=f3.at_ a2 f02.tidy (by omega)
 have d3:=f3.at_ h2.d f02.tidy h.dc
 have T3:=hT.row J3 p3
 have w3:=(hw.fr0 f02 ht).fr f3 f02.tidy (fun e=>h.cw e.symm) (fun e=>h.cr e.symm) (fun c hc e=>nc (by cases e;exact hc))
 have o3:=hO J3 db wb rb i 0 v O em _ w3 d3
 obtain⟨J4,e4,f4,a4,n4⟩:=Ay f3.tidy vz
 obtain⟨J5,e5,f5,a5⟩:=Ci f4.tidy a4 (vb 0)
 have le3:=f03.le
 have ls1:=f1.le
 have le23:=f3.le
 have f35:Fr AJ J3 J5:=f4.trans f5 (fun b hb e=>by omega)
 have b5:=f35.at_ b3 f3.tidy (fun h=>h)
 have z5:=f35.at_ z3 f3.tidy (fun h=>h)
 have d5:=f35.at_ d3 f3.tidy (fun h=>h)
 have w5:=w3.fr0 f35 f3.tidy
 obtain⟨J6,g6,w6,f6⟩:=hB J5 wb rb i 1 v O em w5 f35.tidy hi (by decide)
 have er:C7 (A1 O) i 1 0=FE (A1 O) i:=by simp[C7]
 rw[er]at g6
 have a6:=f6.at_ a5 f35.tidy (by omega)
 have z6:=f6.at_ z5 f35.tidy (by omega)
 obtain⟨J7,e7,f7,a7⟩:=Ci f6.tidy a6 (vb (FE (A1 O) i))
 have z7:=f7.at_ z6 f6.tidy (by omega)
 obtain⟨J8,e8,f8,a8⟩:=Ci f7.tidy z7 (vb (FE (A1 O) i))
 have c8:B8 J8 cb [.int .i64 (CU .i64 n (AA 1))]:=f8.at_ (f7.at_ (f6.at_ (f35.at_ c3 f3.tidy (fun h=>h)) f35.tidy h.cr) f6.tidy (by omega)) f7.tidy (by omega)
 have w8:=(w6.fr f7 f6.tidy (by omega) (by omega) (fun c hc e=>by have:=lv c hc;omega)).fr f8 f7.tidy (by omega) (by omega) (fun c hc e=>by have:=lv c hc;omega)
 refine⟨J8,?_,w8,c8,?_⟩
 ·have bw:BP .i64 (AA (FE (A1 O) i))=AA (FE (A1 O) i):=BV (by rw[Dc];have:=D7 (Fj O) i;omega)
  have s5:∀U:H->AH,Dt 6 J3.next 0 (.agg (vb 0)) J4 U=U J5:=fun U=>by
   rw[Cg a4 rfl]
   show U (EV J4 J3.next (.cells (vb 0)))=_
   rw[e5]
  have s7:∀U:H->AH,Dt 1 J3.next 1 (.int .i64 (AA (FE (A1 O) i))) J6 U=U J7:=fun U=>by
   rw[Cg a6 rfl]
   show U (EV J6 J3.next (.cells (vb (FE (A1 O) i))))=_
   rw[e7]
  have s8:∀U:H->AH,Dt 6 J1.next 0 (.agg (vb (FE (A1 O) i))) J7 U=U J8:=fun U=>by
   rw[Cg z7 rfl]
   show U (EV J7 J1.next (.cells (vb (FE (A1 O) i))))=_
   rw[e8]
  have lT:∀U:List V->AH,AT 13 tv (AA (j+1)) (fun b o=>BQ E J3 b o 13 U)=U (ty (j+1)).c:=fun U=>T3.all (by omega) U
  have l7:∀U:List V->AH,BQ E J7 J3.next 0 6 U=U (vb (FE (A1 O) i)):=fun U=>(BT a7).trans rfl
  have l8:∀U:List V->AH,BQ E J8 J1.next 0 6 U=U (vb (FE (A1 O) i)):=fun U=>(BT a8).trans rfl
  have gd:∀U:CF->H->AH,DA (Ao E D KX OZ [(1,.int .i64 (AA (j+1))),(2,.int .i64 (AA 2)),(3,.ptr J.next 0),(6,.ptr J1.next 0)] J2) U=U e' J3:=fun U=>by rw[g3];rfl
  have l1:∀U:V->AH,BW e' 1 U=U (.int .i64 (AA (j+1))):=fun U=>BG q1 rfl
  have l2:∀U:V->AH,BW e' 2 U=U (.int .i64 (AA 2)):=fun U=>BG q2 rfl
  have l3:∀U:V->AH,BW e' 3 U=U (.ptr J.next 0):=fun U=>BG q3 rfl
  have l6:∀U:V->AH,BW e' 6 U=U (.ptr J1.next 0):=fun U=>BG q6 rfl
  have kd:∀U:V->AH,BL E J3 db 4 U=U tv:=fun U=>(AY d3).trans rfl
  have kw:∀U:V->AH,BL E J5 db 0 U=U (.ptr wb 0):=fun U=>(AY d5).trans rfl
  have ho:=(ty (j+1)).allOne
  unfold Ty.c at lT ho
  rw[hT.kd j hj]at lT ho
  have hT1:=(ty (j+1)).oneT
  have hT2:=(ty (j+1)).oneI
  have hT3:=(ty (j+1)).oneF
  show Qy E D (Ao E D) (Sn E D (Ao E D)) (Zb E D (Ao E D) (Sn E D (Ao E D))) (.ptr db 0) (AA (j+1)) (AA 2) J=_
  unfold vz at e2 e4
  have k1:∀K1 K2,Qy E D (Ao E D) K1 K2 (.ptr db 0) (AA (j+1)) (AA 2) J=K1 J1.next 0 J3.next 0 J7:=by
   intro K1 K2
   unfold Qy
   simp -implicitDefEqProofs only [↓rP,rA,AD,AG,AB,DU,↓e1,↓e2,↓gd,↓l1,↓l2,↓l3,↓l6,↓AY b3,↓o3,↓kd,↓lT,hT1,hT2,hT3,ho,↓e4]
   refine(s5 _).trans ?_
   simp -implicitDefEqProofs only [↓rP,rA,AD,AG,AB,↓AY b5,↓kw,↓g6,bw]
   exact s7 _
  rw[k1]
  unfold Sn
  refine(l7 _).trans ?_
  unfold vb
  simp -implicitDefEqProofs only [↓rP,rS]
  refine(s8 _).trans ?_
  exact l8 _
 ·refine(((f03.trans f35 (fun _ _ h=>h.elim)).trans f6 (fun _ _ h => .inl h)).trans f7 (fun b hb e=>by omega)).trans f8 (fun b hb e=>by omega)
end
theorem lH.at1 {L:List V} {esz k:Nat} {c:List V} (h:lH L esz k c) {j:Nat} {v:V} (hj:c[j]? = some v):L[k*esz+j]? = some v:=by
 rw[<-hj,<-h.2]
 obtain⟨hlt,_⟩:=Eo.1 hj
 have hc:c.length<=esz:=by rw[<-h.2];simp only[IM];omega
 rw[Ey,if_pos (by omega),DC]
def vx:Bool->List V
 | true=>vb 1
 | false=>vz
def Oz (x0 x1:Bool):List V:=vx x0++vx x1
def Mx (m:Nat) (Pt:H->Prop) (nm:BS) (nv rv tv:V) (ty:Nat->Ty) (F:List V->H->AH):Prop:=∀{J:H} {xb wb rb cb i k xt kc dc pc vv lb:Nat} {v:V} {O:List Nat} {em:Bool} {n:Int} {x0 x1:Bool} {vk vn vb0 vr vm:V},Af J->Pt J->Rw J wb rb v O i (AA 0) em->Dd m J xb wb rb cb nm nv rv tv n->Hk (CU .i64 n (AA 1)) (AA 5000)=true->i+1<=8*O.length->FE (A1 O) i=1->¬Ai v cb->k<2 ->
  B8 J xt (ty 0).c->B8 J kc [.int .i64 (AA k)]->B8 J dc [.int .i64 (AA 1)]->B8 J pc [.ptr vv 0]->B8 J vv [vk,vn,vb0,.sl lb 0 2 (.ex 2),vr,vm]->B8 J lb (Oz x0 x1) ->
  (∀b,b=xt\/b=kc\/b=dc\/b=pc\/b=vv->b≠rb/\b≠cb/\b≠lb)->lb≠rb->lb≠cb->lb≠wb->¬Ai v lb->m<=lb ->
  ∃J',F ([]++[.ptr xb 0]++[.ptr xt 0,.ptr kc 0,.ptr dc 0,.ptr pc 0]) J=some (.tup [],J')/\Rw J' wb rb v O (i+1) (AA 0) em/\B8 J' cb [.int .i64 (CU .i64 n (AA 1))]/\B8 J' lb (Oz (x0 || decide (k=0)) (x1 || decide (k=1)))/\Fr (fun k=>k=rb\/k=cb\/k=lb) J J'
def Mt (m:Nat) (Pt:H->Prop) (nm:BS) (nv rv tv:V) (D:Az) (F:List V->H->AH):Prop:=∀{J:H} {db wb rb cb i j f:Nat} {v:V} {O O':List Nat} {em:Bool} {n:Int} {caps:List V} {Q:H->Prop} {S:Nat->Prop},Af J->Pt J->Rw J wb rb v O i (AA 0) em->Dd m J db wb rb cb nm nv rv tv n->¬Ai v cb->V7 (A1 O) i O' j->j<=8*O.length->L0 O'->(V.fn f [] caps).live=true ->
  (∀(J1:H) (xb wb2 rb2:Nat) (v2:V),Af J1->Fr (fun k=>k=rb) J J1->Rw J1 wb2 rb2 v2 O' 0 (AA 0) (rB O')->Dd m J1 xb wb2 rb2 cb nm nv rv tv n->J.next<=xb->J.next<=wb2->J.next<=rb2->(∀c,Ai v2 c->J.next<=c) ->
   ∃J2 k,D f ([]++[.ptr xb 0]++caps) J1=some (.tup [],J2)/\Rw J2 wb2 rb2 v2 O' k (AA 0) (rB O')/\Wl O' k=0/\8*O'.length-k≠8/\Fr (fun b=>b=rb2\/S b) J1 J2/\Q J2) ->
  (∀b,S b->b<J.next/\b≠db/\b≠wb/\b≠rb/\¬Ai v b)->(∀J1 J2,Af J1->Fr AJ J1 J2->Q J1->Q J2) ->
  ∃J',F [.ptr db 0,.fn f [] caps] J=some (.tup [],J')/\Rw J' wb rb v O j (AA 0) em/\Q J'/\Fr (fun b=>b=rb\/S b) J J'
section
variable {E:EB} {D:Az} {N:Nat} {Sl Fl:List V->H->AH} {m:Nat} {Pt:H->Prop} {nm:BS} {nv rv tv:V} {ty:Nat->Ty} {fd:Nat->Fd}
theorem oF (hT:LM Sl Fl m Pt nm nv rv tv ty fd) (hV:gk m Pt nm nv rv tv (D 19)):Mx m Pt nm nv rv tv ty (kI E D (Ao E D) N):=by
 intro J xb wb rb cb i k xt kc dc pc vv lb v O em n x0 x1 vk vn vb0 vr vm ht hp hw h hn hi hb nc hk axt akc adc apc avv alb hne l1 l2 l3 l4 l5
 have fw:Fr AJ J ⟨J.next+17,J.bl⟩:=(CN (E:=E) (n:=17) (S:=AJ) ht).fr
 have lc:=h.c.lt ht
 have lr:=hw.pl.at_.lt ht
 have ll:=alb.lt ht
 have hmc:=h.mc
 have hmr:=h.mr
 obtain⟨J1,g1,w1,c1,f1⟩:=hV ⟨J.next+17,J.bl⟩ xb wb rb cb i k v O em n fw.tidy (hT.ptf ht fw (fun _ h=>h.elim) hp) (hw.fr0 fw ht) (h.fr fw ht (fun h=>h) (fun h=>h)) hn hi nc hk
 have bl1:B8 J1 lb (Oz x0 x1):=f1.at_ (fw.at_ alb ht (fun h=>h)) fw.tidy (by omega)
 have nS:∀b,b=xt\/b=kc\/b=dc\/b=pc\/b=vv->¬(b=rb\/b=cb\/b=lb):=fun b hb=>by have:=hne b hb;omega
 obtain⟨h0,_⟩|⟨fb,c,M,efb,afb,hcel⟩:=(hT.frow J hp).is
 ·omega
 have lfb:fb<m:=hT.fm fb (by rw[efb];rfl)
 have nfb:¬(fb=rb\/fb=cb\/fb=lb):=by omega
 unfold Ty.c at axt
 rw[efb]at axt
 have hk2:k=0\/k=1:=by omega
 rcases hk2 with rfl|rfl
 ·rw[show (x0 || decide (0=0))=true from by cases x0<;>rfl,show (x1 || decide (0=1))=x1 from by cases x1<;>rfl]
  obtain⟨J2,g2,f2,b2⟩:=LQ (E:=E) (D:=D) (n:=6) (off:=0) (cs:=vb (FE (A1 O) i)) (x := .tmp 21) (y := .tmp 20) (e:=[(20,.agg (vb (FE (A1 O) i))),(21,.ptr lb 0)]) f1.tidy bl1 rfl rfl (by cases x0<;>cases x1<;>rfl)
  have hM1:M[1]? = some (.int .i64 (AA 1)):=(hcel 0 (by decide)).at1 (j:=1) (by rw[<-(hT.fty 0 (by decide)).1];rfl)
  have go:Fo E D J 17 0 (fun b=>b=rb\/b=cb\/b=lb) N0 Ug ⟨[(0,.ptr xb 0),(1,.ptr xt 0),(2,.ptr kc 0),(3,.ptr dc 0),(4,.ptr pc 0)],J.next+17,[J.bl],[],0,[]⟩ _ J2:=
   D0 (.ptr vv 0) (CN ht) rfl (Bb (b:=pc) (off:=0) rfl apc rfl ht (nS _ (by omega)) (As _ rfl)) fun _ r1=>
   B5 (.ptr vv 0) rfl rfl <|
   B5 (.ptr vv 3) rfl rfl <|
   D0 (.sl lb 0 2 (.ex 2)) r1 rfl (Bb (b:=vv) (off:=3) rfl avv rfl ht (nS _ (by omega)) (As _ rfl)) fun _ r2=>
   D0 (.int .i64 (AA 0)) r2 rfl (Bb (b:=kc) (off:=0) rfl akc rfl ht (nS _ (by omega)) (As _ rfl)) fun _ r3=>
   B5 (.ptr xb 0) rfl rfl <|
   B5 (.ptr xt 9) rfl rfl <|
   D0 (.sl fb 0 2 c) r3 rfl (Bb (b:=xt) (off:=9) rfl axt rfl ht (nS _ (by omega)) (As _ rfl)) fun _ r4=>
   D0 (.int .i64 (AA 0)) r4 rfl (Bb (b:=kc) (off:=0) rfl akc rfl ht (nS _ (by omega)) (As _ rfl)) fun _ r5=>
   B5 (.ptr fb 0) rfl rfl <|
   B5 (.ptr fb 1) rfl rfl <|
   D0 (.int .i64 (AA 1)) r5 rfl (Bb (b:=fb) (off:=1) rfl afb hM1 ht nfb (As _ rfl)) fun _ r6=>
   D0 (.int .i64 (AA 1)) r6 rfl (Bb (b:=dc) (off:=0) rfl adc rfl ht (nS _ (by omega)) (As _ rfl)) fun _ r7=>
   B5 (.int .i64 (AA 2)) rfl rfl <|
   IE (.agg (vb (FE (A1 O) i))) r7 rfl (by decide) (S':=fun b=>b=rb\/b=cb) f1 (fun _ _ h=>by omega) (fun b h h1 _=>by omega) (DO (vs:=[.ptr xb 0,.int .i64 (AA 1),.int .i64 (AA 2)]) rfl rfl g1) fun _ _ _ r8=>
   B5 (.ptr lb 0) rfl rfl <|
   IE .dead r8 rfl (by decide) (S':=fun b=>b=lb) f2 (fun _ _ h=>by omega) (fun b h h1 _=>by omega) g2 fun _ _ _ r9=>
   Fv r9
  obtain⟨d1,d2⟩:=El (ops:=N0) go
  refine⟨J2,?_,w1.fr f2 f1.tidy (by omega) (by omega) (fun c hc e=>l4 (by cases e;exact hc)),f2.at_ c1 f1.tidy (by omega),?_,d2⟩
  ·show Qz E D (Ao E D) (.ptr xb 0) (.ptr xt 0) (.ptr kc 0) (.ptr dc 0) (.ptr pc 0) J=_
   unfold Qz
   rw[d1];rfl
  ·have e:Hg (Oz x0 x1) 0 (vb (FE (A1 O) i))=Oz (true) (x1):=by rw[hb];cases x0<;>cases x1<;>rfl
   rw[e]at b2;exact b2
 ·rw[show (x0 || decide (1=0))=x0 from by cases x0<;>rfl,show (x1 || decide (1=1))=true from by cases x1<;>rfl]
  obtain⟨J2,g2,f2,b2⟩:=LQ (E:=E) (D:=D) (n:=6) (off:=6) (cs:=vb (FE (A1 O) i)) (x := .tmp 21) (y := .tmp 20) (e:=[(20,.agg (vb (FE (A1 O) i))),(21,.ptr lb 6)]) f1.tidy bl1 rfl rfl (by cases x0<;>cases x1<;>rfl)
  have hM1:M[12]? = some (.int .i64 (AA 2)):=(hcel 1 (by decide)).at1 (j:=1) (by rw[<-(hT.fty 1 (by decide)).1];rfl)
  have go:Fo E D J 17 0 (fun b=>b=rb\/b=cb\/b=lb) N0 Ug ⟨[(0,.ptr xb 0),(1,.ptr xt 0),(2,.ptr kc 0),(3,.ptr dc 0),(4,.ptr pc 0)],J.next+17,[J.bl],[],0,[]⟩ _ J2:=
   D0 (.ptr vv 0) (CN ht) rfl (Bb (b:=pc) (off:=0) rfl apc rfl ht (nS _ (by omega)) (As _ rfl)) fun _ r1=>
   B5 (.ptr vv 0) rfl rfl <|
   B5 (.ptr vv 3) rfl rfl <|
   D0 (.sl lb 0 2 (.ex 2)) r1 rfl (Bb (b:=vv) (off:=3) rfl avv rfl ht (nS _ (by omega)) (As _ rfl)) fun _ r2=>
   D0 (.int .i64 (AA 1)) r2 rfl (Bb (b:=kc) (off:=0) rfl akc rfl ht (nS _ (by omega)) (As _ rfl)) fun _ r3=>
   B5 (.ptr xb 0) rfl rfl <|
   B5 (.ptr xt 9) rfl rfl <|
   D0 (.sl fb 0 2 c) r3 rfl (Bb (b:=xt) (off:=9) rfl axt rfl ht (nS _ (by omega)) (As _ rfl)) fun _ r4=>
   D0 (.int .i64 (AA 1)) r4 rfl (Bb (b:=kc) (off:=0) rfl akc rfl ht (nS _ (by omega)) (As _ rfl)) fun _ r5=>
   B5 (.ptr fb 11) rfl rfl <|
   B5 (.ptr fb 12) rfl rfl <|
   D0 (.int .i64 (AA 2)) r5 rfl (Bb (b:=fb) (off:=12) rfl afb hM1 ht nfb (As _ rfl)) fun _ r6=>
   D0 (.int .i64 (AA 1)) r6 rfl (Bb (b:=dc) (off:=0) rfl adc rfl ht (nS _ (by omega)) (As _ rfl)) fun _ r7=>
   B5 (.int .i64 (AA 2)) rfl rfl <|
   IE (.agg (vb (FE (A1 O) i))) r7 rfl (by decide) (S':=fun b=>b=rb\/b=cb) f1 (fun _ _ h=>by omega) (fun b h h1 _=>by omega) (DO (vs:=[.ptr xb 0,.int .i64 (AA 2),.int .i64 (AA 2)]) rfl rfl g1) fun _ _ _ r8=>
   B5 (.ptr lb 6) rfl rfl <|
   IE .dead r8 rfl (by decide) (S':=fun b=>b=lb) f2 (fun _ _ h=>by omega) (fun b h h1 _=>by omega) g2 fun _ _ _ r9=>
   Fv r9
  obtain⟨d1,d2⟩:=El (ops:=N0) go
  refine⟨J2,?_,w1.fr f2 f1.tidy (by omega) (by omega) (fun c hc e=>l4 (by cases e;exact hc)),f2.at_ c1 f1.tidy (by omega),?_,d2⟩
  ·show Qz E D (Ao E D) (.ptr xb 0) (.ptr xt 0) (.ptr kc 0) (.ptr dc 0) (.ptr pc 0) J=_
   unfold Qz
   rw[d1];rfl
  ·have e:Hg (Oz x0 x1) 6 (vb (FE (A1 O) i))=Oz (x0) (true):=by rw[hb];cases x0<;>cases x1<;>rfl
   rw[e]at b2;exact b2
theorem mY (hT:LM Sl Fl m Pt nm nv rv tv ty fd) (hK:JD (D 48)) (hN:H7 (D 42)) (hO:Q9 (D 44)) (hW:UA (D 18)) (hE:T4 (D 20)):Mt m Pt nm nv rv tv D (kU E D (Ao E D) N):=by
 intro J db wb rb cb i j f v O O' em n caps Q S ht hp hw h nc hr hj hO' hlive hcl hS hQ
 obtain⟨u,J1,g1,u1,w1,f1⟩:=hK J wb rb i j 70000 v O O' em hw ht hr hj (by have:=hO'.few;omega) (by decide)
 have hd1:=h.fr f1 ht h.dr h.cr
 have lr:=hw.pl.at_.lt ht
 have lw:=hw.at_.lt ht
 have lcb:=h.c.lt ht
 have ldb:=h.d.lt ht
 have lv:∀c,Ai v c->c<J.next:=fun c hc=>EY.lt hw.pl.by_ ht hc
 have p1:=hT.ptf ht f1 (fun b e=>by rw[e];exact h.mr) hp
 have o1:=hO J1 db wb rb _ 0 v O em _ w1 hd1.d
 have b1:=hN J1 db
 have le1:=f1.le
 obtain⟨h0,_⟩|⟨tb,c,L,rfl,_,_⟩:=(hT.row J hp).is
 ·omega
 have fw:Fr AJ J1 ⟨J1.next+13,J1.bl⟩:=(CN (E:=E) (n:=13) (S:=AJ) f1.tidy).fr
 have uB:=u1.fr fw f1.tidy
 have few:=hO'.few
 obtain⟨wb2,rb2,v2,J2,g2,w2,f2,nr2,nw2,nv2⟩:=hW ⟨J1.next+13,J1.bl⟩ u _ uB.by_ fw.tidy hO'.oct (by omega)
 have le2:J1.next+13<=J2.next:=f2.le
 have nr2:J1.next+13<=rb2:=nr2
 have nw2:J1.next+13<=wb2:=nw2
 have nv2:∀c,Ai v2 c->J1.next+13<=c:=nv2
 have ad:=hd1.d
 have ub:=Tk u1.1
 have e1:=hT.o1
 have e2:=hT.o2
 have bx:Ce (.box 72 (.tmp 29)) [(29,.agg [.ptr wb2 0,.str nm,nv,rv,.sl tb 0 3 c,.ptr cb 0])] (J1.next+11)=some (.ptr (J1.next+11) 0,.cells [.ptr wb2 0,.str nm,nv,rv,.sl tb 0 3 c,.ptr cb 0]):=by
  have ho:allOne [V.ptr wb2 0,.str nm,nv,rv,.sl tb 0 3 c,.ptr cb 0]=true:=by simp only[Bd,Bo,MV,Iu,TV,e1,e2,EN]
  show (if allOne (V.agg [V.ptr wb2 0,.str nm,nv,rv,.sl tb 0 3 c,.ptr cb 0]).cells=true then some (V.ptr (J1.next+11) 0,GL.cells (V.agg [V.ptr wb2 0,.str nm,nv,rv,.sl tb 0 3 c,.ptr cb 0]).cells)else none)=_
  rw[E8,if_pos ho]
 have go:Fo E D J1 13 0 AJ N3 RV ⟨[(0,.ptr db 0),(1,.fn f [] caps),(4,u)],J1.next+13,[J1.bl],[],0,[]⟩ _ ⟨J2.next,(J1.next+11,.cells [.ptr wb2 0,.str nm,nv,rv,.sl tb 0 3 c,.ptr cb 0])::J2.bl⟩:=
  B5 u rfl (dU rfl (DI u1.1.one)) <|
  IE (.ptr wb2 0) (CN f1.tidy) rfl (by decide) (S':=AJ) f2 (fun _ _ h=>h.elim) (fun _ h _ _=>h) (DO (vs:=[u]) rfl (by
   show (u.live&&true)=true
   rw[DI u1.1.one];rfl) g2) fun _ _ _ r1=>
  B5 (.ptr db 0) rfl rfl <|
  B5 (.ptr db 0) rfl rfl <|
  B5 (.ptr db 1) rfl rfl <|
  D0 (.agg [.str nm,nv,rv,.sl tb 0 3 c]) r1 rfl (HI (b:=db) (off:=1) (m:=4) rfl ad rfl rfl f1.tidy (fun h=>h) (by
   show KF [V.str nm,nv,rv,V.sl tb 0 3 c] [V.str nm,nv,rv,V.sl tb 0 3 c]=true
   simp only[KF,hT.b1,hT.b2,As (.str nm) rfl,As (.sl tb 0 3 c) rfl,EN])) fun _ r2=>
  B5 (.ptr db 0) rfl rfl <|
  B5 (.ptr db 0) rfl rfl <|
  B5 (.ptr db 5) rfl rfl <|
  D0 (.ptr cb 0) r2 rfl (Bb (b:=db) (off:=5) rfl ad rfl f1.tidy (fun h=>h) (As _ rfl)) fun _ r3=>
  B5 (.agg [.ptr wb2 0,.str nm,nv,rv,.sl tb 0 3 c,.ptr cb 0]) rfl rfl <|
  Th (.ptr (J1.next+11) 0) (.cells [.ptr wb2 0,.str nm,nv,rv,.sl tb 0 3 c,.ptr cb 0]) 2048 r3 rfl (by decide) (by decide) bx fun _ r4=>
  B5 (.ptr (J1.next+11) 0) rfl rfl <|
  Fv r4
 obtain⟨d0,d2⟩:=El (ops:=N3) go
 obtain⟨env,d1,q0,q1,q5⟩:∃env,Ao E D N3 RV [(0,.ptr db 0),(1,.fn f [] caps),(4,u)] J1=some (env,⟨J2.next,(J1.next+11,.cells [.ptr wb2 0,.str nm,nv,rv,.sl tb 0 3 c,.ptr cb 0])::J2.bl⟩)/\Go.Og.look env 0=some (.ptr db 0)/\Go.Og.look env 1=some (.fn f [] caps)/\Go.Og.look env 5=some (.ptr (J1.next+11) 0):=⟨_,d0,rfl,rfl,rfl⟩
 clear d0
 obtain⟨xb,hxb⟩:∃xb,xb=J1.next+11:=⟨_,rfl⟩
 rw[<-hxb]at d1 d2 q5
 obtain⟨J3,h3⟩:∃J3,J3=(⟨J2.next,(xb,.cells [.ptr wb2 0,.str nm,nv,rv,.sl tb 0 3 c,.ptr cb 0])::J2.bl⟩:H):=⟨_,rfl⟩
 rw[<-h3]at d1 d2
 have ax:B8 J3 xb [.ptr wb2 0,.str nm,nv,rv,.sl tb 0 3 c,.ptr cb 0]:=by
  rw[h3]
  show Ba ((xb,_)::J2.bl) xb=_
  rw[BH,if_pos rfl]
 have f23:Fr (fun k=>k=xb) J2 J3:=by
  refine⟨d2.tidy,by rw[h3];exact AN _,fun b hb hn=>?_⟩
  rw[h3]
  show Ba ((xb,_)::J2.bl) b=_
  rw[BH,if_neg (fun e=>hn e.symm)]
 have w23:Rw J3 wb2 rb2 v2 O' 0 (AA 0) (rB O'):=w2.fr f23 f2.tidy (by omega) (by omega) (fun c hc e=>by have:=nv2 c hc;omega)
 have hmd:=h.md
 have D3:Dd m J3 xb wb2 rb2 cb nm nv rv (.sl tb 0 3 c) n:=⟨ax,d2.at_ hd1.c f1.tidy (fun h=>h),by omega,by omega,by omega,by omega,by omega,by omega,by omega,by omega,h.mc⟩
 have f03:Fr (fun k=>k=rb) J J3:=f1.trans d2 (fun _ _ h=>h.elim)
 obtain⟨J4,k,g4,w4,he,h8,f4,q4⟩:=hcl J3 xb wb2 rb2 v2 d2.tidy f03 w23 D3 (by omega) (by omega) (by omega) (fun c hc=>by have:=nv2 c hc;omega)
 have nS:∀b,b<J1.next->¬S b->¬(b=rb2\/S b):=fun b hb hs e=>e.elim (by omega) hs
 have a4:B8 J4 xb [.ptr wb2 0,.str nm,nv,rv,.sl tb 0 3 c,.ptr cb 0]:=f4.at_ ax d2.tidy (fun e=>by
  rcases e with e|e
  ·omega
  ·have:=(hS xb e).1;omega)
 obtain⟨J5,g5,f5⟩:=hE J4 wb2 rb2 k v2 _ 0 _ w4 f4.tidy (fun _ _=>h8)
 rw[if_pos rfl,he]at g5
 have w3:=w1.fr0 d2 f1.tidy
 have w4o:=w3.fr f4 d2.tidy (nS _ (by omega) (fun e=>(hS _ e).2.2.1 rfl)) (nS _ (by omega) (fun e=>(hS _ e).2.2.2.1 rfl)) (fun c hc=>nS _ (by have:=lv c hc;omega) (fun e=>(hS _ e).2.2.2.2 hc))
 have w5:=w4o.fr0 f5 f4.tidy
 have b5:=hN J5 db
 refine⟨J5,?_,w5,hQ _ _ f4.tidy f5 q4,?_⟩
 ·have gd:∀U:CF->H->AH,DA (Ao E D N3 RV [(0,.ptr db 0),(1,.fn f [] caps),(4,u)] J1) U=U env J3:=fun U=>by rw[d1];rfl
  have y0:∀U:V->AH,BW env 0 U=U (.ptr db 0):=fun U=>BG q0 rfl
  have y1:∀U:V->AH,BW env 1 U=U (.fn f [] caps):=fun U=>BG q1 hlive
  have y5:∀U:V->AH,BW env 5 U=U (.ptr xb 0):=fun U=>BG q5 rfl
  have sl:∀U:Nat->AH,BA u U=U O'.length:=fun U=>by rw[u1.by_.slen,Bf]
  have kx:∀U:V->AH,BL E J4 xb 0 U=U (.ptr wb2 0):=fun U=>(AY a4).trans rfl
  have kd:∀U:V->AH,BL E J db 0 U=U (.ptr wb 0):=fun U=>(AY h.d).trans rfl
  have cv:∀U:V->H->AH,Ed D (.fn f [] caps) [.ptr xb 0] J3 U=U (.tup []) J4:=fun U=>by
   show AW (D f ([]++[.ptr xb 0]++caps) J3) U=_
   rw[g4];rfl
  have hpos:=hO'.pos
  have d0:decide (O'.length=0)=false:=decide_eq_false (by omega)
  show Xi E D (Ao E D) db 0 (.fn f [] caps) J=_
  unfold Xi
  simp -implicitDefEqProofs only [↓rP,rA,AD,AG,AB,↓kd,↓g1,↓CM u1.1.one,↓sl,d0,↓b1,↓o1,↓gd,↓y0,↓y1,↓y5,↓cv,↓kx,↓g5,↓b5]
 ·refine(((f1.mono (fun _ _ h => .inl h):Fr (fun k=>k=rb\/S k) J J1).trans d2 (fun _ _ h=>h.elim)).trans f4 (fun b hb e=>?_)).trans f5 (fun _ _ h=>h.elim)
  rcases e with e|e
  ·omega
  ·exact .inr e
end
def Rn (Rs:List Nat) (us:List V):List V:=(Rs.zip us).flatMap fun p=>[.int .i64 (AA p.1),p.2]
theorem cZ {Rs:List Nat} {us:List V} (h:Rs.length=us.length) (s:Nat) (u:V):Rn (Rs++[s]) (us++[u])=Rn Rs us++[.int .i64 (AA s),u]:=by
 unfold Rn
 rw[List.zip_append h];simp
def Rr (lo:Nat) (J:H) (m:V) (C Rs:List Nat):Prop:=∃us:List V,GH J 2 Rs.length m (Rn Rs us)/\us.length=Rs.length/\(∀b,Ai m b->lo<=b)/\∀(i s:Nat),Rs[i]? = some s->∃u,us[i]? = some u/\By J u (nI C)/\(∀c,Ai u c->lo<=c)/\∀c,Ai u c->¬Ai m c
theorem Fr.to_any {S:Nat->Prop} {J J':H} (f:Fr AJ J J'):Fr S J J':=⟨f.tidy,f.le,fun b h _=>f.same b h (fun e=>e)⟩
theorem Rr.nil (lo:Nat) (J:H) (C:List Nat):Rr lo J .nils C []:=⟨[],GH.nil J 2,rfl,fun _ h=>h.elim,fun i e h=>by simp at h⟩
theorem Rr.one {lo:Nat} {J:H} {m:V} {C Rs:List Nat} (h:Rr lo J m C Rs):m.one=true:=by obtain⟨_,h,_⟩:=h;exact h.one
theorem Rr.lt {lo:Nat} {J:H} {m:V} {C Rs:List Nat} (h:Rr lo J m C Rs) (ht:Af J):∀c,Ai m c->c<J.next:=by obtain⟨_,h,_⟩:=h;exact fun c hc=>h.lt ht hc
theorem Rr.fr {S:Nat->Prop} {lo:Nat} {J J':H} {m:V} {C Rs:List Nat} (h:Rr lo J m C Rs) (f:Fr S J J') (ht:Af J) (hS:∀b,lo<=b->b<J.next->¬S b):Rr lo J' m C Rs:=by
 obtain⟨us,h1,h2,h3,h4⟩:=h
 exact⟨us,h1.fr f ht (fun b hb=>hS b (h3 b hb) (h1.lt ht hb)),h2,h3,fun i e hi=>by
  obtain⟨b,q1,q2,q3,q4⟩:=h4 i e hi
  exact⟨b,q1,EY.fr q2 f ht (fun c hc=>hS c (q3 c hc) (EY.lt q2 ht hc)),q3,q4⟩⟩
theorem AGC {x y:AO} {em:CF} {z w b:V} {s:Int} (hx:CZ em x = .int .i64 s) (hy:CZ em y=b) (h:b.one=true):Be (.build [z,w] [(0,1,x),(1,1,y)]) em=some (.agg [.int .i64 s,b]):=by
 have h12:b.live=true/\b.cells=[b]:=by cases b<;>first | exact⟨rfl,rfl⟩ | cases h
 show (match FQ [(0,1,CZ em x),(1,1,CZ em y)] [z,w]with
  | some l=>some (V.agg l)
  | none=>none)=_
 rw[hx,hy]
 unfold FQ
 rw[show (V.int .i64 s).cells=[.int .i64 s] from rfl]
 unfold FQ
 rw[h12.1,h12.2]
 rfl
theorem uh {ty:TypeId} {x:AO} {em:CF} {id:Nat} {b z y:V} (hx:CZ em x = .agg [z,b]) (hz:z.one=true) (h:b.one=true):Ce (.buildSlice ty 1 [y,.nils] [(0,2,x)]) em id=some (.sl id 0 1 (.ex 1),.cells [z,b]):=by
 show (match FQ [(0,2,CZ em x)] [y,V.nils]with
  | some l=>if allOne l then some (V.sl id 0 1 (.ex 1),GL.cells l)else none
  | none=>none)=_
 rw[hx]
 show (if(z.one&&(b.one&&true))=true then _ else none)=_
 rw[hz,h];rfl
section
variable {E:EB} {D:Az} {N:Nat}
theorem ck (hK:JD (D 48)) {J:H} {lo db wb rb vv pc ib i j s:Nat} {v m a7 a8 a9 a28 c0 c1 c2 c3 r:V} {O C Rs:List Nat} {em:Bool} {rest:List V} {a29 a30:Int} (ht:Af J) (aq:B8 J vv [c0,c1,c2,c3,r,m]) (ap:B8 J pc [.ptr vv 0]) (ai:B8 J ib [.int .i64 (AA s)]) (ad:B8 J db (.ptr wb 0::rest))
  (hw:Rw J wb rb v O i (AA 0) em) (hr:V7 (A1 O) i C j) (hj:j<=8*O.length) (hC:L0 C) (hm:Rr lo J m C Rs) (hn:Rs.length<=1000) (l1:vv<lo) (l2:rb<lo) (l3:wb<lo) (l4:∀c,Ai v c->c<lo) (l5:pc<lo) (l6:db<lo) (q1:vv≠rb) (q2:pc≠rb) (q3:db≠rb) (q4:ib≠rb) (q5:¬Ai m ib) (q6:vv≠wb) (q7:¬Ai v vv) (hlo:lo<=J.next) :
  ∃ev J' m',Ao E D N2 Hv [(0,.ptr db 0),(6,.ptr pc 0),(7,a7),(8,a8),(9,a9),(11,.ptr ib 0),(28,a28),(29,.int .i64 a29),(30,.int .i64 a30)] J=some (ev,J') /\
   (Go.Og.look ev 0=some (.ptr db 0)/\Go.Og.look ev 6=some (.ptr pc 0)/\Go.Og.look ev 7=some a7/\Go.Og.look ev 8=some a8/\Go.Og.look ev 9=some a9/\Go.Og.look ev 28=some a28/\Go.Og.look ev 29=some (.int .i64 a29)/\Go.Og.look ev 30=some (.int .i64 a30)) /\
   B8 J' vv [c0,c1,c2,c3,r,m']/\Rr lo J' m' C (Rs++[s])/\Rw J' wb rb v O j (AA 0) em/\Fr (fun b=>b=rb\/b=vv\/Ai m b) J J':=by
 have fw:Fr AJ J ⟨J.next+17,J.bl⟩:=(CN (E:=E) (n:=17) (S:=AJ) ht).fr
 have few:=hC.few
 obtain⟨b,J1,g1,ob,w1,f1⟩:=hK ⟨J.next+17,J.bl⟩ wb rb i j 70000 v O C em (hw.fr0 fw ht) fw.tidy hr hj (by omega) (by decide)
 have F1:Fr (fun b=>b=rb) J J1:=(Fr.to_any fw).trans f1 (fun _ _ h=>h)
 have n1:J.next+17<=J1.next:=f1.le
 have nb:∀c,Ai b c->J.next+17<=c:=ob.2
 have bo:=ob.1.one
 have lr:=hw.pl.at_.lt ht
 let J2:H:=⟨J1.next,(J.next+12,.cells [.int .i64 (AA s),b])::J1.bl⟩
 have f12:Fr (fun c=>c=J.next+12) J1 J2:=⟨fun c hc=>by
  have hc:J1.next<=c:=hc
  show Ba ((J.next+12,_)::J1.bl) c=none
  rw[BH,if_neg (by simp only[];omega)];exact f1.tidy c hc,AN _,fun c hc hn=>by
  show Ba ((J.next+12,_)::J1.bl) c=_
  rw[BH,if_neg (fun e=>hn e.symm)]⟩
 have F2:Fr (fun b=>b=rb) J J2:=F1.trans f12 (fun c hc e=>by omega)
 have a2:B8 J2 (J.next+12) [.int .i64 (AA s),b]:=by
  show Ba ((J.next+12,_)::J1.bl) _=_
  rw[BH,if_pos rfl]
 have ob2:By J2 b (nI C):=EY.fr ob.by_ f12 F1.tidy (fun c hc e=>by have:=nb c hc;omega)
 have w2:Rw J2 wb rb v O j (AA 0) em:=w1.fr f12 F1.tidy (by omega) (by omega) (fun c hc e=>by have:=l4 c hc;omega)
 have hm2:=hm.fr F2 ht (fun c hc _ e=>by omega)
 obtain⟨us,d2,hl,hnm,hbs⟩:=hm2
 have mlt:=hm.lt ht
 obtain⟨J3,g3,a3,n3,f3⟩:=Qh (E:=E) (esz:=2) (bytes:=32) (n:=1) d2 F2.tidy (x := .sl (J.next+12) 0 1 (.ex 1)) (m:=[.int .i64 (AA s),b]) (.inr ⟨_,0,_,_,rfl,a2,by simp,rfl⟩) (by decide) (by simp[Bd,Bo,bo,DN]) (by
  unfold CV
  simp only[AK,BC];omega)
 have aq2:=F2.at_ aq ht q1
 have aq3:=f3.at_ aq2 F2.tidy (fun e=>by have:=hnm vv e;omega)
 have F3:Fr (fun b=>b=rb\/Ai m b) J J3:=(F2.mono fun _ _ h => .inl h:Fr (fun b=>b=rb\/Ai m b) J J2).trans f3 (fun _ _ h => .inr h)
 have w3:Rw J3 wb rb v O j (AA 0) em:=w2.fr f3 F2.tidy (fun e=>by have:=hnm wb e;omega) (fun e=>by have:=hnm rb e;omega) (fun c hc e=>by have:=hnm c e;have:=l4 c hc;omega)
 obtain⟨J4,g4,f4,a4⟩:∃J4,EO E D (.store 1 (.tmp 75) (.tmp 73)) [(75,.ptr vv 5),(73,.sl J2.next 0 (Rs.length+1) (.op 2))] J3=some (.dead,J4)/\Fr (fun k=>k=vv) J3 J4/\B8 J4 vv [c0,c1,c2,c3,r,.sl J2.next 0 (Rs.length+1) (.op 2)]:=by
  obtain⟨J4,r1,r2,r3⟩:=LQ (E:=E) (D:=D) (n:=1) (x := .tmp 75) (y := .tmp 73) (e:=[(75,.ptr vv 5),(73,.sl J2.next 0 (Rs.length+1) (.op 2))]) F3.tidy aq3 rfl (show (CZ [(75,.ptr vv 5),(73,.sl J2.next 0 (Rs.length+1) (.op 2))] (.tmp 73)).cells=[.sl J2.next 0 (Rs.length+1) (.op 2)] from rfl) rfl
  exact⟨J4,r1,r2,r3⟩
 have mb:V.beq m m=true:=Tk d2
 have nvv:¬(vv=rb\/Ai m vv):=fun e=>e.elim q1 (fun e=>by have:=hnm vv e;omega)
 have npc:¬(pc=rb\/Ai m pc):=fun e=>e.elim q2 (fun e=>by have:=hnm pc e;omega)
 have ndb:¬(db=rb\/Ai m db):=fun e=>e.elim q3 (fun e=>by have:=hnm db e;omega)
 have nib:¬(ib=rb\/Ai m ib):=fun e=>e.elim q4 q5
 have go:JV (Zx E J 17 Hv _ J4) E D J 17 0 N2 Hv ⟨[(0,.ptr db 0),(6,.ptr pc 0),(7,a7),(8,a8),(9,a9),(11,.ptr ib 0),(28,a28),(29,.int .i64 a29),(30,.int .i64 a30)],J.next+17,[J.bl],[],0,[]⟩:=
  QK (.ptr vv 0) (CN (S:=fun b=>b=rb\/Ai m b) ht) rfl (Bb (b:=pc) (off:=0) rfl ap rfl ht npc (As _ rfl)) fun r1=>
  QK (.ptr vv 0) r1 rfl (Bb (b:=pc) (off:=0) rfl ap rfl ht npc (As _ rfl)) fun r2=>
  Md (.ptr vv 0) rfl rfl <|
  Md (.ptr vv 5) rfl rfl <|
  QK m r2 rfl (Bb (b:=vv) (off:=5) rfl aq rfl ht nvv mb) fun r3=>
  QK (.int .i64 (AA s)) r3 rfl (Bb (b:=ib) (off:=0) rfl ai rfl ht nib (As _ rfl)) fun r4=>
  Md (.ptr db 0) rfl rfl <|
  Md (.ptr db 0) rfl rfl <|
  Md (.ptr db 0) rfl rfl <|
  QK (.ptr wb 0) r4 rfl (Bb (b:=db) (off:=0) rfl ad rfl ht ndb (As _ rfl)) fun r5=>
  ZA b r5 rfl (by decide) (S':=fun b=>b=rb) f1 (fun _ _ h => .inl h) (fun c h h1 _=>by omega) (DO (vs:=[.ptr wb 0,.int .i64 (AA 70000)]) rfl rfl g1) fun _ _ r6=>
  Md (.agg [.int .i64 (AA s),b]) rfl (AGC rfl rfl bo) <|
  AAL (.sl (J.next+12) 0 1 (.ex 1)) (.cells [.int .i64 (AA s),b]) 4096 r6 rfl (by decide) (by decide) (uh rfl rfl bo) fun _ r7=>
  ZA (.sl J2.next 0 (Rs.length+1) (.op 2)) r7 rfl (by decide) f3 (fun _ _ h => .inr h) (fun c h h1 _=>by have:=mlt c h;omega) (ZP rfl rfl g3) fun _ _ r8=>
  Md (.ptr vv 0) rfl rfl <|
  Md (.ptr vv 5) rfl rfl <|
  ZB .dead r8 rfl (by decide) f4 (fun c h h1 _=>by have:=aq.lt ht;omega) g4 (fun x hx=>by
   rcases BJ.1 hx with rfl|hx
   ·show Ie Hv 9 [16,13,10] []=false
    decide
   rcases BJ.1 hx with rfl|hx
   ·show Ie Hv 5 [16,13,10] []=false
    decide
   rcases BJ.1 hx with rfl|hx
   ·show Ie Hv 4 [16,13,10] []=false
    decide
   rcases BJ.1 hx with rfl|hx
   ·show Ie Hv 1 [16,13,10] []=false
    decide
   rcases BJ.1 hx with rfl|hx
   ·show Ie Hv 0 [16,13,10] []=false
    decide
   cases hx)
 have d:=VK (ops:=N2) go
 have F4:Fr (fun b=>b=rb\/b=vv\/Ai m b) J J4:=(F3.mono fun _ _ h=>h.imp id .inr:Fr (fun b=>b=rb\/b=vv\/Ai m b) J J3).trans (f4.mono fun _ _ h => .inr (.inl h)) (fun _ _ h=>h)
 have lv3:∀c,Ai v c->c≠vv:=fun c hc e=>q7 (by rw[<-e];exact hc)
 refine⟨_,J4,_,d,⟨rfl,rfl,rfl,rfl,rfl,rfl,rfl,rfl⟩,a4,⟨us++[b],?_,by rw[AL,AL,hl];rfl,fun c hc=>by cases hc;show lo<=J1.next;omega,fun i e' hi=>?_⟩,w3.fr f4 F3.tidy (fun e=>q6 e.symm) (fun e=>q1 e.symm) (fun c hc e=>lv3 c hc e),F4⟩
 ·rw[AL,cZ hl.symm]
  exact .inl (.inr ⟨J2.next,rfl,f4.at_ a3 F3.tidy (fun e=>by have:J1.next=vv:=e;omega),by simp,by rw[AL,d2.length];simp;omega⟩)
 ·have nnew:∀w,By J2 w (nI C)->∀c,Ai w c->¬Ai (V.sl J2.next 0 (Rs.length+1) (.op 2)) c:=fun w ow c hc hc'=>by
   have:=EY.lt ow F2.tidy hc
   have hc':c=J2.next:=hc'
   omega
  by_cases hil:i<Rs.length
  ·rw[Dl hil]at hi
   obtain⟨b',q1',q2',q3',q4'⟩:=hbs i e' hi
   exact⟨b',by rw[Dl (by omega)];exact q1',EY.fr (EY.fr q2' f3 F2.tidy q4') f4 F3.tidy (fun c hc e=>by have:=q3' c hc;omega),q3',nnew _ q2'⟩
  ·have hlt:=(Eo.1 hi).1
   rw[AL,Cc]at hlt
   have:i=Rs.length:=by omega
   subst this
   rw[CY (AN _)]at hi
   simp at hi
   subst hi
   refine⟨b,by rw[CY (by omega)];simp[hl],EY.fr (EY.fr ob2 f3 F2.tidy (fun c hc e=>by have:=nb c hc;have:=mlt c e;omega)) f4 F3.tidy (fun c hc e=>by have:=nb c hc;omega),fun c hc=>by have:=nb c hc;omega,nnew _ ob2⟩
end
set_option maxHeartbeats 2000000
def OP (A:List Nat):Bool:=A.any fun s=>decide (s=0)
def OO (A:List Nat):Bool:=A.any fun s=>decide (s=1)
def Gt (A:List Nat):List Nat:=A.filter fun s=>decide (2<=s)
def HX (A:List Nat):Nat:=match (Gt A).isEmpty with
 | true=>0
 | false=>2
theorem Oq (A:List Nat) (s:Nat):OP (A++[s])=(OP A || decide (s=0)):=by unfold OP;simp
theorem Oo (A:List Nat) (s:Nat):OO (A++[s])=(OO A || decide (s=1)):=by unfold OO;simp
theorem TM {A:List Nat} {s:Nat} (h:s<2):Gt (A++[s])=Gt A:=by
 have e:decide (2<=s)=false:=decide_eq_false (by omega)
 unfold Gt;simp[List.filter_append,e]
theorem TN {A:List Nat} {s:Nat} (h:2<=s):Gt (A++[s])=Gt A++[s]:=by
 have e:decide (2<=s)=true:=decide_eq_true h
 unfold Gt;simp[List.filter_append,e]
theorem ch {A:List Nat} {s:Nat} (h:s<2):HX (A++[s])=HX A:=by unfold HX;rw[TM h]
theorem cj {A:List Nat} {s:Nat} (h:2<=s):HX (A++[s])=2:=by unfold HX;rw[TN h];cases Gt A<;>rfl
structure Av (lo:Nat) (J:H) (vv lb:Nat) (C A:List Nat) (mv:V):Prop where
 at_:B8 J vv [.int .i64 (AA 7),.int .i64 (AA 0),.nils,.sl lb 0 2 (.ex 2),.int .i64 (AA (HX A)),mv]
 alb:B8 J lb (Oz (OP A) (OO A))
 rw:Rr lo J mv C (Gt A)
 nil:Gt A=[]->mv = .nils
structure AdF (m:Nat) (Pt:H->Prop) (ty:Nat->Ty) (J:H) (db wb rb cb pc dc xt kb vv lb:Nat) (bl:Nat->Nat) (kv sv v:V) (I:List Nat):Prop where
 t:Af J
 p:Pt J
 apc:B8 J pc [.ptr vv 0]
 adc:B8 J dc [.int .i64 (AA 1)]
 axt:B8 J xt (ty 0).c
 akb:B8 J kb [kv]
 sl:JT J kv [0,1] bl
 asv:EY J 1 I.length sv (Ig I)
 nb:∀b,b=pc\/b=dc\/b=xt\/b=kb\/b=db\/b=wb->¬(b=rb\/b=cb\/b=vv\/b=lb)/\b<J.next
 ns:∀b,Ai sv b->¬(b=rb\/b=cb\/b=vv\/b=lb)
 nk:∀b,Ai kv b->¬(b=rb\/b=cb\/b=vv\/b=lb)
 nl:∀j,j<2->¬(bl j=rb\/bl j=cb\/bl j=vv\/bl j=lb)
 nv:∀b,Ai v b->¬(b=cb\/b=vv\/b=lb)/\b<J.next
 nT:∀b,b=rb\/b=cb\/b=vv\/b=lb->m<=b/\b<J.next
 ap:rb≠cb/\rb≠vv/\rb≠lb/\cb≠vv/\cb≠lb/\vv≠lb
structure sj (m:Nat) (Js J:H) (db wb rb cb vv lb j:Nat) (v:V) (O:List Nat) (em:Bool) (nm:BS) (nv rv tv:V) (C A rest R:List Nat) (mv:V):Prop where
 f:Fr (fun k=>k=rb\/k=cb\/k=vv\/k=lb) Js J
 w:Rw J wb rb v O j (AA 0) em
 d:Dd m J db wb rb cb nm nv rv tv (AA 3)
 a:Av Js.next J vv lb C A mv
 hd:(A1 O).drop j=Gg C rest++R
section
variable {E:EB} {D:Az} {N:Nat} {Sl Fl:List V->H->AH} {m:Nat} {Pt:H->Prop} {nm:BS} {nv rv tv:V} {ty:Nat->Ty} {fd:Nat->Fd} {Js:H} {db wb rb cb pc dc xt kb vv lb:Nat} {bl:Nat->Nat} {kv sv v:V} {I C R:List Nat} {O:List Nat} {em:Bool}
theorem oG (hT:LM Sl Fl m Pt nm nv rv tv ty fd) (hO:Q9 (D 44)) (hM:JE (D 43)) {D2:Az} (hP:Mt m Pt nm nv rv tv D2 (D 101)) (hQ:Mx m Pt nm nv rv tv ty (D2 179)) (F:AdF m Pt ty Js db wb rb cb pc dc xt kb vv lb bl kv sv v I) {J:H} {A rest:List Nat} {s j:Nat} {mv:V} (hI:I[A.length]? = some s) (hs:s<2) (hIl:I.length<=1000) (hC:L0 C)
    (h:sj m Js J db wb rb cb vv lb j v O em nm nv rv tv C A (s::rest) R mv) :
    ∃J',(∀K,G5 E D (Ao E D) K db 0 pc 0 dc 0 xt 0 kb 0 sv (AA I.length) (AA A.length) J=K db 0 pc 0 dc 0 xt 0 kb 0 sv (AA I.length) (AA A.length) J')/\sj m Js J' db wb rb cb vv lb (j+(HH (Ri C s)).length) v O em nm nv rv tv C (A++[s]) rest R mv:=by
  have ht:=h.f.tidy
  have lim:A.length<I.length:=by
    rcases Al A.length I.length with h|h
    · exact h
    · rw[Aa h]at hI;cases hI
  obtain⟨p1,p2,p3,p4,p5,p6⟩:=F.ap
  have le:=h.f.le
  obtain⟨J1,e1,f1,a1,n1⟩:=Ay ht [.int .i64 (AA 0)]
  obtain⟨J2,e2,f2,a2⟩:=Ci f1.tidy a1 [.int .i64 (AA s)]
  have f02:Fr AJ J J2:=f1.trans f2 (fun b hb e=>by omega)
  have F2:Fr (fun k=>k=rb\/k=cb\/k=vv\/k=lb) Js J2:=h.f.trans f02 (fun _ _ h=>h.elim)
  have w2:=h.w.fr0 f02 ht
  have d2:=h.d.fr f02 ht (fun h=>h) (fun h=>h)
  have o2:=hO J2 db wb rb j 0 v O em _ w2 d2.d
  have pc2:=F2.at_ F.apc F.t (F.nb pc (by omega)).1
  have dc2:=F2.at_ F.adc F.t (F.nb dc (by omega)).1
  have xt2:=F2.at_ F.axt F.t (F.nb xt (by omega)).1
  have kb2:=F2.at_ F.akb F.t (F.nb kb (by omega)).1
  have hs2:([0,1]:List Nat)[s]? = some s:=by
    have:s=0\/s=1:=by omega
    rcases this with rfl|rfl<;>rfl
  have sl2:JT J2 kv [0,1] bl:=⟨F.sl.row.fr F2 F.t (fun b hb=>F.nk b hb),fun i k hk=>F2.at_ (F.sl.at_ i k hk) F.t (F.nl i (by
    rcases Al i 2 with h'|h'
    · exact h'
    · rw[Aa h']at hk;cases hk)),F.sl.one⟩
  have P2:=hT.ptf F.t F2 (fun b e=>(F.nT b e).1) F.p
  obtain⟨J3,e3,f3,a3,n3⟩:=Ay F2.tidy [.int .i64 (AA 0)]
  obtain⟨J4,e4,f4,a4⟩:=Ci f3.tidy a3 [.int .i64 (AA s)]
  have l2:J.next<=J2.next:=f02.le
  have l3:J2.next<=J3.next:=f3.le
  have f24:Fr AJ J2 J4:=f3.trans f4 (fun b hb e=>by omega)
  have F4:Fr (fun k=>k=rb\/k=cb\/k=vv\/k=lb) Js J4:=F2.trans f24 (fun _ _ h=>h.elim)
  have w4:=w2.fr0 f24 F2.tidy
  have d4:=d2.fr f24 F2.tidy (fun h=>h) (fun h=>h)
  have ltT:∀b,b=rb\/b=cb\/b=vv\/b=lb->b<Js.next:=fun b hb=>(F.nT b hb).2
  have lrb:=ltT rb (by omega)
  have lcb:=ltT cb (by omega)
  have lvv:=ltT vv (by omega)
  have llb:=ltT lb (by omega)
  obtain⟨J5,g5,c5,f5⟩:=hM J4 cb (AA 3) (FM 0) d4.c F4.tidy (by decide)
  have e32:CU .i64 (AA 3) (FM 0)=AA 2:=by decide
  rw[e32]at c5
  have F5:Fr (fun k=>k=rb\/k=cb\/k=vv\/k=lb) Js J5:=F4.trans f5 (fun _ _ e => .inr (.inl e))
  have w5:Rw J5 wb rb v O j (AA 0) em:=w4.fr f5 F4.tidy (fun e=>(F.nb wb (by omega)).1 (.inr (.inl e))) (fun e=>p1 e) (fun c hc e=>(F.nv c hc).1 (.inl e))
  have d5:Dd m J5 db wb rb cb nm nv rv tv (AA 2):=d4.to f5 F4.tidy d4.dc c5
  have P5:=hT.ptf F.t F5 (fun b e=>(F.nT b e).1) F.p
  have at5:∀{b:Nat} {l:List V},b=pc\/b=dc\/b=xt\/b=kb\/b=db\/b=wb->B8 Js b l->B8 J5 b l:=fun hb ha=>F5.at_ ha F.t (F.nb _ hb).1
  have vv5:B8 J5 vv _:=f5.at_ (f24.at_ (f02.at_ h.a.at_ ht (fun h=>h)) F2.tidy (fun h=>h)) F4.tidy (fun e=>p4 e.symm)
  have lb5:B8 J5 lb _:=f5.at_ (f24.at_ (f02.at_ h.a.alb ht (fun h=>h)) F2.tidy (fun h=>h)) F4.tidy (fun e=>p5 e.symm)
  have kc5:B8 J5 J2.next [.int .i64 (AA s)]:=f5.at_ a4 F4.tidy (by omega)
  have le5:J2.next<J5.next:=kc5.lt F5.tidy
  have ecb:Ri C s=[128]:=by unfold Ri;rw[if_pos hs]
  have hd:=h.hd
  rw[show Gg C (s::rest)=HH (Ri C s)++Gg C rest from rfl,Ab]at hd
  have hput:=SF hd (hC.cb s)
  have hpl:=MU (hC.cb s)
  have hjl:=Kw hd (by omega)
  rw[Cv]at hjl
  have hnx:=Gc hd
  rw[ecb]at hput
  obtain⟨J6,g6,w6,⟨c6,b6⟩,f6⟩:=hP (J:=J5) (f:=179) (caps:=[.ptr xt 0,.ptr J2.next 0,.ptr dc 0,.ptr pc 0]) (O':=[128]) (j:=j+(HH [128]).length) (Q:=fun J'=>B8 J' cb [.int .i64 (AA 3)]/\B8 J' lb (Oz (OP A || decide (s=0)) (OO A || decide (s=1)))) (S:=fun b=>b=cb\/b=lb) F5.tidy P5 w5 d5 (fun hc=>(F.nv cb hc).1 (.inl rfl)) hput (by rw[ecb]at hjl;exact hjl) rE rfl
    (fun J1' xb wb2 rb2 v2 t1' fr1 w1' d1' hx hw' hr' hv'=>by
      have k5:∀b,b<J5.next->b≠rb2:=fun b hb=>by omega
      obtain⟨J2',g',w',c',b',f'⟩:=hQ (J:=J1') (i:=0) (k:=s) (xt:=xt) (kc:=J2.next) (dc:=dc) (pc:=pc) (vv:=vv) (lb:=lb) (x0:=OP A) (x1:=OO A) t1' (hT.ptf F5.tidy fr1 (fun b e=>by rw[e];exact(F.nT rb (by omega)).1) P5) w1' d1' (by decide) (by decide) (by decide) (fun hc=>by have:=hv' cb hc;have:=F5.le;omega) hs
        (fr1.at_ (at5 (by omega) F.axt) F5.tidy (fun e=>(F.nb xt (by omega)).1 (.inl e))) (fr1.at_ kc5 F5.tidy (by omega)) (fr1.at_ (at5 (by omega) F.adc) F5.tidy (fun e=>(F.nb dc (by omega)).1 (.inl e))) (fr1.at_ (at5 (by omega) F.apc) F5.tidy (fun e=>(F.nb pc (by omega)).1 (.inl e))) (fr1.at_ vv5 F5.tidy (fun e=>p2 e.symm)) (fr1.at_ lb5 F5.tidy (fun e=>p3 e.symm))
        (fun b hb=>by
          have q1:=F.nb xt (by omega)
          have q2:=F.nb dc (by omega)
          have q3:=F.nb pc (by omega)
          have:=F5.le
          omega) (by have:=F5.le;omega) (fun e=>p5 e.symm) (by have:=F5.le;omega) (fun hc=>by have:=hv' lb hc;have:=F5.le;omega) (F.nT lb (by omega)).1
      have e23:CU .i64 (AA 2) (AA 1)=AA 3:=by decide
      rw[e23]at c'
      exact⟨J2',1,g',w',by decide,by decide,f'.mono (fun b _ e=>by omega),c',b'⟩)
    (fun b hb=>by
      have q1:=F.nb db (by omega)
      have q2:=F.nb wb (by omega)
      have:=F5.le
      refine⟨by omega,by omega,by omega,by omega,fun hc=>?_⟩
      have:=(F.nv b hc).1
      omega) (fun J1' J2' t' f' q=>⟨f'.at_ q.1 t' (fun h=>h),f'.at_ q.2 t' (fun h=>h)⟩)
  have F6:Fr (fun k=>k=rb\/k=cb\/k=vv\/k=lb) Js J6:=F5.trans f6 (fun _ _ e=>by omega)
  refine⟨J6,fun K=>?_,F6,by rw[ecb];exact w6,d5.to f6 F5.tidy (fun e=>by have:=(F.nb db (by omega)).1;omega) c6,⟨?_,?_,?_,?_⟩,hnx⟩
  · have r1:∀U,AT 1 sv (AA A.length) (fun b o=>BL E J b o U)=U (.int .i64 (AA s)):=fun U=>Jm (F.asv.fr h.f F.t (fun b hb=>F.ns b hb)) (by unfold Ig;rw[BM,hI];rfl) U
    have lk:∀U:Nat->AH,BA kv U=U 2:=fun U=>sl2.row.len.2 U
    have d1:decide (A.length<I.length)=true:=decide_eq_true lim
    have d3:decide (2<=s)=false:=decide_eq_false (by omega)
    have rk:∀U,AT 1 kv (AA s) (fun b o=>BL E J2 b o U)=U (.sl (bl s) 0 1 (.ex 1)):=fun U=>sl2.rd hs2 U
    have ib:∀U:Nat->Nat->AH,AT 1 (.sl (bl s) 0 1 (.ex 1)) (AA 0) U=U (bl s) 0:=fun U=>CR (Bz 0)
    have ab2:=sl2.at_ s s hs2
    have rf:∀U,AT 11 (ty 0).fields (AA s) (fun b o=>BL E J2 b (Ac o 10) U)=U (.int .i64 (AA 0)):=fun U=>(hT.frow J2 P2).one (k:=s) (j:=10) hs (by rw[<-(hT.fty s hs).2.2.2];rfl) U
    have st2:∀U:H->AH,Dt 1 J.next 0 (V.int .i64 (AA s)) J1 U=U J2:=fun U=>by
      rw[Cg a1 rfl]
      show U (EV J1 J.next (.cells [.int .i64 (AA s)]))=_
      rw[e2]
    have st4:∀U:H->AH,Dt 1 J2.next 0 (V.int .i64 (AA s)) J3 U=U J4:=fun U=>by
      rw[Cg a3 rfl]
      show U (EV J3 J2.next (.cells [.int .i64 (AA s)]))=_
      rw[e4]
    have kd:∀U:V->AH,BL E J4 db (Ac 0 5) U=U (.ptr cb 0):=fun U=>Gp d4.d rfl
    have kf:∀U:V->AH,BL E J2 xt (Ac 0 9) U=U (ty 0).fields:=fun U=>Gp xt2 rfl
    unfold G5
    simp -implicitDefEqProofs only [↓rP,rA,AD,AG,AB,d1,↓r1,↓e1,↓st2,↓o2,↓AY a2,↓AY kb2,↓lk,d3,↓kf,↓rk,↓ib,↓AY ab2,↓rf,CD,↓e3,↓st4,↓kd,↓g5,↓g6]
  · rw[ch hs]
    exact f6.at_ vv5 F5.tidy (by omega)
  · rw[Oq,Oo];exact b6
  · rw[TM hs]
    exact((h.a.rw.fr f02 ht (fun _ _ _ h=>h)).fr f24 F2.tidy (fun _ _ _ h=>h)).fr f5 F4.tidy (fun b hb _ e=>by omega) |>.fr f6 F5.tidy (fun b hb _ e=>by omega)
  · rw[TM hs];exact h.a.nil
theorem oH (hT:LM Sl Fl m Pt nm nv rv tv ty fd) (hO:Q9 (D 44)) (hK:JD (D 48)) (F:AdF m Pt ty Js db wb rb cb pc dc xt kb vv lb bl kv sv v I) {J:H} {A rest:List Nat} {s j:Nat} {mv:V} (hI:I[A.length]? = some s) (hs:2<=s) (hIl:I.length<=1000) (hC:L0 C) (hso:sv.one=true)
  (h:sj m Js J db wb rb cb vv lb j v O em nm nv rv tv C A (s::rest) R mv) :
  ∃J' mv',(∀K,G5 E D (Ao E D) K db 0 pc 0 dc 0 xt 0 kb 0 sv (AA I.length) (AA A.length) J=K db 0 pc 0 dc 0 xt 0 kb 0 sv (AA I.length) (AA A.length) J')/\sj m Js J' db wb rb cb vv lb (j+(HH (Ri C s)).length) v O em nm nv rv tv C (A++[s]) rest R mv':=by
 have ht:=h.f.tidy
 have lim:A.length<I.length:=by
  rcases Al A.length I.length with h|h
  ·exact h
  ·rw[Aa h]at hI;cases hI
 obtain⟨p1,p2,p3,p4,p5,p6⟩:=F.ap
 have le:=h.f.le
 obtain⟨J1,e1,f1,a1,n1⟩:=Ay ht [.int .i64 (AA 0)]
 obtain⟨J2,e2,f2,a2⟩:=Ci f1.tidy a1 [.int .i64 (AA s)]
 have f02:Fr AJ J J2:=f1.trans f2 (fun b hb e=>by omega)
 have F2:Fr (fun k=>k=rb\/k=cb\/k=vv\/k=lb) Js J2:=h.f.trans f02 (fun _ _ h=>h.elim)
 have w2:=h.w.fr0 f02 ht
 have d2:=h.d.fr f02 ht (fun h=>h) (fun h=>h)
 have o2:=hO J2 db wb rb j 0 v O em _ w2 d2.d
 have pc2:=F2.at_ F.apc F.t (F.nb pc (by omega)).1
 have kb2:=F2.at_ F.akb F.t (F.nb kb (by omega)).1
 have ltT:∀b,b=rb\/b=cb\/b=vv\/b=lb->b<Js.next:=fun b hb=>(F.nT b hb).2
 have lrb:=ltT rb (by omega)
 have lcb:=ltT cb (by omega)
 have lvv:=ltT vv (by omega)
 have llb:=ltT lb (by omega)
 have qdb:=F.nb db (by omega)
 have qwb:=F.nb wb (by omega)
 have qpc:=F.nb pc (by omega)
 have vv2:=f02.at_ h.a.at_ ht (fun h=>h)
 obtain⟨J3,e3,f3,a3⟩:=Ci F2.tidy vv2 [.int .i64 (AA 7),.int .i64 (AA 0),.nils,.sl lb 0 2 (.ex 2),.int .i64 (AA 2),mv]
 have F3:Fr (fun k=>k=rb\/k=cb\/k=vv\/k=lb) Js J3:=F2.trans f3 (fun _ _ e => .inr (.inr (.inl e)))
 have w3:Rw J3 wb rb v O j (AA 0) em:=w2.fr f3 F2.tidy (by omega) p2 (fun c hc e=>(F.nv c hc).1 (.inr (.inl e)))
 have d3:Dd m J3 db wb rb cb nm nv rv tv (AA 3):=d2.fr f3 F2.tidy (by omega) p4
 have ecb:Ri C s=C:=by unfold Ri;rw[if_neg (by omega)]
 have hd:=h.hd
 rw[show Gg C (s::rest)=HH (Ri C s)++Gg C rest from rfl,Ab]at hd
 have hput:=SF hd (hC.cb s)
 have hpl:=MU (hC.cb s)
 have hjl:=Kw hd (by omega)
 rw[Cv]at hjl
 have hnx:=Gc hd
 have hp3:V7 (A1 O) j C (j+(HH (Ri C s)).length):=by rw[ecb]at hput;rw[ecb];exact hput
 have rw2:=h.a.rw.fr f02 ht (fun _ _ _ h=>h)
 have rw3:Rr Js.next J3 mv C (Gt A):=rw2.fr f3 F2.tidy (fun b hb _ e=>by omega)
 have mlt:∀c,Ai mv c->c<J.next:=h.a.rw.lt ht
 have a23:B8 J3 J.next [.int .i64 (AA s)]:=f3.at_ a2 F2.tidy (by omega)
 have rlen:(Gt A).length<=1000:=by
  have:(Gt A).length<=A.length:=List.length_filter_le _ _
  omega
 obtain⟨mlo,hlo⟩:∃hlo:∀c,Ai mv c->Js.next<=c,True:=⟨by obtain⟨_,_,_,h3,_⟩:=rw3;exact h3,trivial⟩
 obtain⟨ev,J4,mv',g4,⟨y0,y6,y7,y8,y9,y28,y29,y30⟩,b4,r4,w4,f4⟩:=ck (E:=E) (a7 := .ptr dc 0) (a8 := .ptr xt 0) (a9 := .ptr kb 0) (a28:=sv) (a29:=AA I.length) (a30:=AA A.length) (lo:=Js.next) hK F3.tidy a3 (F3.at_ F.apc F.t qpc.1) a23 d3.d w3 hp3 hjl hC rw3 rlen lvv lrb qwb.2 (fun c hc=>(F.nv c hc).2) qpc.2 qdb.2 (fun e=>p2 e.symm) (by omega) (by omega) (by omega) (fun hc=>by have:=mlt _ hc;omega) (by omega) (fun hc=>(F.nv vv hc).1 (.inr (.inl rfl))) F3.le
 have F4:Fr (fun k=>k=rb\/k=cb\/k=vv\/k=lb) Js J4:=F3.trans f4 (fun b hb e=>by
  rcases e with e|e|e
  ·exact .inl e
  ·exact .inr (.inr (.inl e))
  ·have:=mlo b e;omega)
 have nm4:∀b,b<Js.next->b≠rb->b≠vv->¬(b=rb\/b=vv\/Ai mv b):=fun b h1 h2 h3 e=>by
  rcases e with e|e|e
  ·exact h2 e
  ·exact h3 e
  ·have:=mlo b e;omega
 refine⟨J4,mv',fun K=>?_,F4,w4,d3.fr f4 F3.tidy (nm4 db qdb.2 (by omega) (by omega)) (nm4 cb lcb (fun e=>p1 e.symm) p4),⟨?_,?_,?_,?_⟩,hnx⟩
 ·have r1:∀U,AT 1 sv (AA A.length) (fun b o=>BL E J b o U)=U (.int .i64 (AA s)):=fun U=>Jm (F.asv.fr h.f F.t (fun b hb=>F.ns b hb)) (by unfold Ig;rw[BM,hI];rfl) U
  have lk:∀U:Nat->AH,BA kv U=U 2:=fun U=>F.sl.row.len.2 U
  have d1:decide (A.length<I.length)=true:=decide_eq_true lim
  have d3':decide (2<=s)=true:=decide_eq_true hs
  have st2:∀U:H->AH,Dt 1 J.next 0 (V.int .i64 (AA s)) J1 U=U J2:=fun U=>by
   rw[Cg a1 rfl]
   show U (EV J1 J.next (.cells [.int .i64 (AA s)]))=_
   rw[e2]
  have st3:∀U:H->AH,Dt 1 vv (Ac 0 4) (V.int .i64 (AA 2)) J2 U=U J3:=fun U=>by
   rw[Cg vv2 rfl]
   show U (EV J2 vv (.cells [.int .i64 (AA 7),.int .i64 (AA 0),.nils,.sl lb 0 2 (.ex 2),.int .i64 (AA 2),mv]))=_
   rw[e3]
  have gd:∀U:CF->H->AH,DA (Ao E D N2 Hv [(0,.ptr db 0),(6,.ptr pc 0),(7,.ptr dc 0),(8,.ptr xt 0),(9,.ptr kb 0),(11,.ptr J.next 0),(28,sv),(29,.int .i64 (AA I.length)),(30,.int .i64 (AA A.length))] J3) U=U ev J4:=fun U=>by rw[g4];rfl
  have z0:∀U:V->AH,BW ev 0 U=U (.ptr db 0):=fun U=>BG y0 rfl
  have z6:∀U:V->AH,BW ev 6 U=U (.ptr pc 0):=fun U=>BG y6 rfl
  have z7:∀U:V->AH,BW ev 7 U=U (.ptr dc 0):=fun U=>BG y7 rfl
  have z8:∀U:V->AH,BW ev 8 U=U (.ptr xt 0):=fun U=>BG y8 rfl
  have z9:∀U:V->AH,BW ev 9 U=U (.ptr kb 0):=fun U=>BG y9 rfl
  have z28:∀U:V->AH,BW ev 28 U=U sv:=fun U=>BG y28 (DI hso)
  have z29:∀U:V->AH,BW ev 29 U=U (.int .i64 (AA I.length)):=fun U=>BG y29 rfl
  have z30:∀U:V->AH,BW ev 30 U=U (.int .i64 (AA A.length)):=fun U=>BG y30 rfl
  unfold G5
  simp -implicitDefEqProofs only [↓rP,rA,AD,AG,AB,d1,↓r1,↓e1,↓st2,↓o2,↓AY a2,↓AY kb2,↓lk,d3',↓AY pc2,↓st3,↓gd,↓z0,↓z6,↓z7,↓z8,↓z9,↓z28,↓z29,↓z30]
 ·rw[cj hs];exact b4
 ·rw[Oq,Oo,decide_eq_false (show ¬s=0 by omega),decide_eq_false (show ¬s=1 by omega),Jj,Jj]
  exact f4.at_ (f3.at_ (f02.at_ h.a.alb ht (fun h=>h)) F2.tidy (fun e=>p6 e.symm)) F3.tidy (nm4 lb llb (fun e=>p3 e.symm) (fun e=>p6 e.symm))
 ·rw[TN hs];exact r4
 ·rw[TN hs];intro e;simp at e
end
def UG (m:Nat) (Pt:H->Prop) (nm:BS) (nv rv tv:V) (F:List V->H->AH):Prop:=∀{J:H} {db wb rb cb vv lb i:Nat} {v:V} {O C R:List Nat} {em:Bool} {fl:List Bool},Af J->Pt J->Rw J wb rb v O i (AA 0) em->Dd m J db wb rb cb nm nv rv tv (AA 3)->¬Ai v cb ->
  (A1 O).drop i=GJ fl.length++(fl.map Ul++(Gg C (CX fl 0)++R))->0<fl.length->fl.length<=100->L0 C->Av J.next J vv lb C [] .nils->(vv≠db/\vv≠wb/\vv≠rb/\vv≠cb)->(lb≠db/\lb≠wb/\lb≠rb/\lb≠cb)->vv≠lb->¬Ai v vv->¬Ai v lb->m<=vv->m<=lb ->
  ∃J' j,F [.ptr db 0,.int .i64 (AA 0),.ptr vv 0,.int .i64 (AA 1)] J=some (.tup [],J')/\Fr (fun k=>k=rb\/k=wb\/k=cb\/k=vv\/k=lb) J J' /\
   (CX fl 0=[]->Rw J' wb rb v O j (AA 4) em/\∃r mv,B8 J' vv [.int .i64 (AA 7),.int .i64 (AA 0),.nils,.sl lb 0 2 (.ex 2),.int .i64 r,mv]/\mv.one=true) /\
   (CX fl 0≠[]->Rw J' wb rb v O (i+(GJ fl.length).length+fl.length+(Gg C (CX fl 0)).length) (AA 0) em/\∃mv,Av J.next J' vv lb C (CX fl 0) mv)
theorem Rr.lo {lo lo':Nat} {J:H} {m:V} {C Rs:List Nat} (h:Rr lo J m C Rs) (hl:lo'<=lo):Rr lo' J m C Rs:=by
 obtain⟨us,h1,h2,h3,h4⟩:=h
 exact⟨us,h1,h2,fun b hb=>Ae hl (h3 b hb),fun i s hi=>by
  obtain⟨u,q1,q2,q3,q4⟩:=h4 i s hi
  exact⟨u,q1,q2,fun c hc=>Ae hl (q3 c hc),q4⟩⟩
section
variable {E:EB} {D:Az} {N:Nat} {Sl Fl:List V->H->AH} {m:Nat} {Pt:H->Prop} {nm:BS} {nv rv tv:V} {ty:Nat->Ty} {fd:Nat->Fd}
theorem bO (hT:LM Sl Fl m Pt nm nv rv tv ty fd) (hO:Q9 (D 44)) (hM:JE (D 43)) {D2:Az} (hP:Mt m Pt nm nv rv tv D2 (D 101)) (hQ:Mx m Pt nm nv rv tv ty (D2 179)) (hK:JD (D 48)) {Js:H} {db wb rb cb pc dc xt kb vv lb:Nat} {bl:Nat->Nat} {kv sv v:V} {I C R O:List Nat} {em:Bool} (F:AdF m Pt ty Js db wb rb cb pc dc xt kb vv lb bl kv sv v I) (hIl:I.length<=1000) (hC:L0 C) (hso:sv.one=true) :
  ∀(rest:List Nat) (n' j:Nat) (A:List Nat) (mv:V) (J:H),I=A++rest->rest.length<n'->sj m Js J db wb rb cb vv lb j v O em nm nv rv tv C A rest R mv ->
   ∃J' mv',RO E D (Ao E D) N n' db 0 pc 0 dc 0 xt 0 kb 0 sv (AA I.length) (AA A.length) J=some (.tup [],J')/\sj m Js J' db wb rb cb vv lb (j+(Gg C rest).length) v O em nm nv rv tv C I [] R mv':=by
 intro rest
 induction rest with
 | nil=>
  intro n' j A mv J hI hn' h
  obtain⟨n',rfl⟩:∃q,n'=q+1:=⟨n'-1,by omega⟩
  rw[Am]at hI
  subst hI
  have d1:decide (I.length<I.length)=false:=decide_eq_false (CD _)
  refine⟨J,mv,?_,h⟩
  show G5 E D (Ao E D) _ db 0 pc 0 dc 0 xt 0 kb 0 sv (AA I.length) (AA I.length) J=_
  unfold G5
  simp -implicitDefEqProofs only [↓rP,rA,AD,AG,AB,d1]
 | cons s rest ih=>
  intro n' j A mv J hI hn' h
  obtain⟨n',rfl⟩:∃q,n'=q+1:=⟨n'-1,by omega⟩
  rw[Aj]at hn'
  have hI':I=(A++[s])++rest:=by rw[hI,Ab];rfl
  have hg:I[A.length]? = some s:=by rw[hI,CY (AN _),M6];rfl
  have lA:A.length<I.length:=by rw[hI,AL,Aj];omega
  obtain⟨J1,mv1,g1,h1⟩:∃J1 mv1,(∀K,G5 E D (Ao E D) K db 0 pc 0 dc 0 xt 0 kb 0 sv (AA I.length) (AA A.length) J=K db 0 pc 0 dc 0 xt 0 kb 0 sv (AA I.length) (AA A.length) J1)/\sj m Js J1 db wb rb cb vv lb (j+(HH (Ri C s)).length) v O em nm nv rv tv C (A++[s]) rest R mv1:=by
   by_cases hs:s<2
   ·obtain⟨J1,g1,h1⟩:=oG (E:=E) hT hO hM hP hQ F hg hs hIl hC h
    exact⟨J1,mv,g1,h1⟩
   ·exact oH (E:=E) hT hO hK F hg (by omega) hIl hC hso h
  obtain⟨J',mv',g',h'⟩:=ih n' _ (A++[s]) mv1 J1 hI' (by omega) h1
  have el:j+(HH (Ri C s)).length+(Gg C rest).length=j+(Gg C (s::rest)).length:=by
   show _=j+(HH (Ri C s)++Gg C rest).length
   rw[AL];omega
  rw[el]at h'
  refine⟨J',mv',?_,h'⟩
  rw[<-g']
  show G5 E D (Ao E D) (Xg E D (Ao E D) (RO E D (Ao E D) N n')) db 0 pc 0 dc 0 xt 0 kb 0 sv (AA I.length) (AA A.length) J=_
  rw[g1]
  unfold Xg
  rw[BX (show A.length+1<=9223372036854775807 by omega),AL];rfl
theorem oE (hT:LM (D 176) Fl m Pt nm nv rv tv ty fd) (hS:gq (D 177)) (hO:Q9 (D 44)) (hM:JE (D 43)) {D2:Az} (hP:Mt m Pt nm nv rv tv D2 (D 101)) (hQ:Mx m Pt nm nv rv tv ty (D2 179)) (hK:JD (D 48)) (hN:101<N):UG m Pt nm nv rv tv (YO E D (Ao E D) N):=by
  intro J db wb rb cb vv lb i v O C R em fl ht hp hw h nc hd h0 h100 hC hA hvv hlb hvl nvv nlb mvv mlb
  have o1:=hT.o1
  have o2:=hT.o2
  have ot:tv.one=true:=by
    obtain⟨h0,_⟩|⟨tb,c,L,rfl,_,_⟩:=(hT.row J hp).is
    · omega
    · rfl
  obtain⟨J1,e1,f1,a1,n1⟩:=Ay ht [.ptr vv 0]
  obtain⟨J2,e2,f2,a2,n2⟩:=Ay f1.tidy [.int .i64 (AA 1)]
  obtain⟨J3,e3,f3,a3,n3⟩:=Ay f2.tidy [.int .i64 (AA 0),.nils,.bool false,.bool false,.bool false,.bool false,.int .i64 (AA 0),.int .i64 (AA 0),.nils,.nils,.int .i64 (AA 0),.bool false,.int .i64 (AA 0)]
  obtain⟨J4,e4,f4,a4⟩:=Ci f3.tidy a3 (ty 0).c
  have l1:=f1.le
  have l2:=f2.le
  have l3:=f3.le
  have F2:Fr AJ J J2:=f1.trans f2 (fun _ _ h=>h)
  have f24:Fr AJ J2 J4:=f3.trans f4 (fun b hb e=>by omega)
  have F4:Fr AJ J J4:=F2.trans f24 (fun _ _ h=>h)
  have P2:=hT.ptf ht F2 (fun _ h=>h.elim) hp
  have P4:=hT.ptf ht F4 (fun _ h=>h.elim) hp
  obtain⟨kv,bl,J5,g5,sl5,f5,nkv,nbl⟩:=hT.sl J4 F4.tidy P4
  have F5:Fr AJ J J5:=F4.trans f5 (fun _ _ h=>h)
  obtain⟨J6,e6,f6,a6,n6⟩:=Ay F5.tidy [.nils]
  obtain⟨J7,e7,f7,a7⟩:=Ci f6.tidy a6 [kv]
  have l4:J.next<=J4.next:=F4.le
  have l5:J4.next<=J5.next:=f5.le
  have l24:J2.next<=J4.next:=f24.le
  have f57:Fr AJ J5 J7:=f6.trans f7 (fun b hb e=>by omega)
  have F7:Fr AJ J J7:=F5.trans f57 (fun _ _ h=>h)
  have w7:=hw.fr0 F7 ht
  have d7:=h.fr F7 ht (fun h=>h) (fun h=>h)
  obtain⟨sv,J8,g8,sv8,w8,f8⟩:=hS J7 db wb rb i v O em _ fl _ w7 F7.tidy d7.d h.dr hd h0 h100
  have l6:J5.next<J7.next:=a7.lt F7.tidy
  have lv:∀c,Ai v c->c<J.next:=fun c hc=>EY.lt hw.pl.by_ ht hc
  have ldb:=h.d.lt ht
  have lcb:=h.c.lt ht
  have lwb:=hw.at_.lt ht
  have lrb:=hw.pl.at_.lt ht
  have lvv:=hA.at_.lt ht
  have llb:=hA.alb.lt ht
  have lsv:=sv8.1.src.slen (U:=fun n=>(some (V.int .i64 (AA n),J8):AH))
  have sS:∀U:Nat->AH,BA sv U=U (CX fl 0).length:=fun U=>sv8.1.src.slen
  have so:=sv8.1.one
  have ko:=sl5.one
  have ilen:=If fl 0
  have F8:Fr (fun k=>k=rb\/k=wb\/k=cb\/k=vv\/k=lb) J J8:=(F7.mono (fun _ _ h=>h.elim):Fr (fun k=>k=rb\/k=wb\/k=cb\/k=vv\/k=lb) J J7).trans f8 (fun _ _ e=>e.elim .inl (fun e => .inr (.inl e)))
  have up8:∀{b:Nat} {l:List V},J.next<=b->B8 J7 b l->B8 J8 b l:=fun hb ha=>f8.at_ ha F7.tidy (fun e=>by rcases e with e | e<;>omega)
  have k0:YO E D (Ao E D) N [.ptr db 0,.int .i64 (AA 0),.ptr vv 0,.int .i64 (AA 1)] J=RO E D (Ao E D) N N db 0 J.next 0 J1.next 0 J2.next 0 J5.next 0 sv (AA (CX fl 0).length) (AA 0) J8:=by
    have T2:=hT.row J2 P2
    have rd:∀U:List V->AH,AT 13 tv (AA 0) (fun b o=>BQ E J2 b o 13 U)=U (ty 0).c:=fun U=>T2.all (by decide) U
    have dd2:=F2.at_ h.d ht (fun h=>h)
    have dd4:=F4.at_ h.d ht (fun h=>h)
    have kt:∀U:V->AH,BL E J2 db (Ac (Ac 0 1) 3) U=U tv:=fun U=>Gp dd2 rfl
    have kt4:∀U:List V->AH,BQ E J4 db (Ac 0 1) 4 U=U [.str nm,nv,rv,tv]:=fun U=>(BT dd4).trans rfl
    have hT1:=(ty 0).oneT
    have hT2:=(ty 0).oneI
    have hT3:=(ty 0).oneF
    have ho:=(ty 0).allOne
    have st4:∀U:H->AH,Dt 13 J2.next 0 (V.agg (ty 0).c) J3 U=U J4:=fun U=>by
      have hc:(V.agg (ty 0).c).cells=(ty 0).c:=rfl
      rw[Cg a3 (by rw[hc,ho];rfl),hc]
      have:Hg [V.int .i64 (AA 0),.nils,.bool false,.bool false,.bool false,.bool false,.int .i64 (AA 0),.int .i64 (AA 0),.nils,.nils,.int .i64 (AA 0),.bool false,.int .i64 (AA 0)] 0 (ty 0).c=(ty 0).c:=rfl
      rw[this,e4]
    have st7:∀U:H->AH,Dt 1 J5.next 0 kv J6 U=U J7:=fun U=>by
      obtain⟨_,o'⟩:=Hi ko
      rw[Cg a6 (by rw[o'];show (true&&true&&(kv.one&&true))=true;rw[ko];rfl),o']
      show U (EV J6 J5.next (.cells [kv]))=_
      rw[e7]
    unfold Ty.c at rd st4
    have key:∀K,Tz E D (Ao E D) K db 0 (AA 0) (.ptr vv 0) (AA 1) J=K db 0 J.next 0 J1.next 0 J2.next 0 J5.next 0 sv (AA (CX fl 0).length) (AA 0) J8:=by
      intro K
      unfold Tz G9
      simp -implicitDefEqProofs only [↓rP,rA,AD,AG,AB,DU,↓e1,↓e2,↓kt,↓rd,hT1,hT2,hT3,↓e3,↓st4,↓kt4,o1,o2,ot,↓g5,↓CM ko,↓e6,↓st7,↓g8,↓CM so,↓sS]
    exact key _
  rw[k0]
  cases hi:(CX fl 0).isEmpty with
  | true=>
    have he:CX fl 0=[]:=List.isEmpty_iff.1 hi
    rw[hi]at w8
    obtain⟨M,rfl⟩:∃k,N=k+1:=⟨N-1,by omega⟩
    refine⟨J8,_,?_,F8,fun _=>⟨w8,_,_,f8.at_ (F7.at_ hA.at_ ht (fun h=>h)) F7.tidy (fun e=>by rcases e with e | e<;>omega),rfl⟩,fun e=>absurd he e⟩
    rw[he]
    show G5 E D (Ao E D) _ db 0 J.next 0 J1.next 0 J2.next 0 J5.next 0 sv (AA 0) (AA 0) J8=_
    unfold G5
    simp -implicitDefEqProofs only [↓rP,rA,AD,AG,AB,CD]
  | false=>
    have he:CX fl 0≠[]:=fun e=>by rw[e]at hi;cases hi
    rw[hi]at w8
    have w8:Rw J8 wb rb v O (i+(GJ fl.length).length+fl.length) (AA 0) em:=w8
    have l8:J7.next<=J8.next:=f8.le
    have d8:Dd m J8 db wb rb cb nm nv rv tv (AA 3):=d7.fr f8 F7.tidy (fun e=>e.elim h.dr h.dw) (fun e=>e.elim h.cr h.cw)
    have dF:(A1 O).drop (i+(GJ fl.length).length+fl.length)=Gg C (CX fl 0)++R:=by
      have q1:=Gc hd
      have q2:=Gc q1
      rw[DH]at q2
      exact q2
    have lkv:∀b,Ai kv b->b<J5.next:=fun b hb=>by
      rcases sl5.row.is with ⟨h0,_⟩|⟨b',c,M,rfl,ha,_⟩
      · cases h0
      · cases hb;exact ha.lt F5.tidy
    have AF:AdF m Pt ty J8 db wb rb cb J.next J1.next J2.next J5.next vv lb bl kv sv v (CX fl 0):=by
      refine⟨f8.tidy,hT.ptf F7.tidy f8 (fun b e=>by rcases e with e | e<;>rw[e];exact h.mr;exact h.mw) (hT.ptf ht F7 (fun _ h=>h.elim) hp),up8 (AN _) ((F4.trans f5 (fun _ _ h=>h) |>.trans f57 (fun _ _ h=>h) |> fun _=>f57.at_ (f5.at_ (f24.at_ (f2.at_ a1 f1.tidy (fun h=>h)) F2.tidy (fun h=>h)) F4.tidy (fun h=>h)) F5.tidy (fun h=>h))),up8 l1 (f57.at_ (f5.at_ (f24.at_ a2 F2.tidy (fun h=>h)) F4.tidy (fun h=>h)) F5.tidy (fun h=>h)),up8 (Ae l1 l2) (f57.at_ (f5.at_ a4 F4.tidy (fun h=>h)) F5.tidy (fun h=>h)),up8 (Ae l4 l5) a7,?_,sv8.1.src,?_,?_,?_,?_,?_,?_,?_⟩
      · have s7:=sl5.fr f57 F5.tidy
        exact⟨s7.row.fr f8 F7.tidy (fun b hb e=>by have:=nkv b hb;rcases e with e | e<;>omega),fun j k hk=>f8.at_ (s7.at_ j k hk) F7.tidy (fun e=>by
          have:=nbl j (by
            rcases Al j 2 with h'|h'
            · exact h'
            · rw[Aa h']at hk;cases hk)
          rcases e with e|e<;>omega),s7.one⟩
      · have hdr:=h.dr
        have hdc:=h.dc
        have hcw:=h.cw
        have hwr:=hw.ne
        rintro b (rfl|rfl|rfl|rfl|rfl|rfl)
        · refine⟨fun e=>?_,by omega⟩;rcases e with e | e | e | e<;>omega
        · refine⟨fun e=>?_,by omega⟩;rcases e with e | e | e | e<;>omega
        · refine⟨fun e=>?_,by omega⟩;rcases e with e | e | e | e<;>omega
        · refine⟨fun e=>?_,by omega⟩;rcases e with e | e | e | e<;>omega
        · refine⟨fun e=>?_,by omega⟩
          rcases e with e|e|e|e
          · exact hdr e
          · exact hdc e
          · exact hvv.1 e.symm
          · exact hlb.1 e.symm
        · refine⟨fun e=>?_,by omega⟩
          rcases e with e|e|e|e
          · exact hwr e
          · exact hcw e.symm
          · exact hvv.2.1 e.symm
          · exact hlb.2.1 e.symm
      · intro b hb e
        have:=sv8.2 b hb
        rcases e with e|e|e|e<;>omega
      · intro b hb e
        have:=nkv b hb
        rcases e with e|e|e|e<;>omega
      · intro j hj e
        have:=nbl j hj
        rcases e with e|e|e|e<;>omega
      · intro b hb
        refine⟨fun e=>?_,by have:=lv b hb;omega⟩
        rcases e with e|e|e
        · exact nc (by rw[<-e];exact hb)
        · exact nvv (by rw[<-e];exact hb)
        · exact nlb (by rw[<-e];exact hb)
      · rintro b (rfl | rfl | rfl | rfl)
        · exact⟨h.mr,by omega⟩
        · exact⟨h.mc,by omega⟩
        · exact⟨mvv,by omega⟩
        · exact⟨mlb,by omega⟩
      · exact⟨fun e=>h.cr e.symm,fun e=>hvv.2.2.1 e.symm,fun e=>hlb.2.2.1 e.symm,fun e=>hvv.2.2.2 e.symm,fun e=>hlb.2.2.2 e.symm,hvl⟩
    have AI:sj m J8 J8 db wb rb cb vv lb (i+(GJ fl.length).length+fl.length) v O em nm nv rv tv C [] (CX fl 0) R .nils:=
      ⟨Fr.refl f8.tidy,w8,d8,⟨f8.at_ (F7.at_ hA.at_ ht (fun h=>h)) F7.tidy (fun e=>by rcases e with e | e;exact hvv.2.2.1 e;exact hvv.2.1 e),f8.at_ (F7.at_ hA.alb ht (fun h=>h)) F7.tidy (fun e=>by rcases e with e | e;exact hlb.2.2.1 e;exact hlb.2.1 e),Rr.nil _ _ _,fun _=>rfl⟩,dF⟩
    obtain⟨J',mv',g',h'⟩:=bO (E:=E) (N:=N) hT hO hM hP hQ hK AF (by omega) hC so (CX fl 0) N _ [] .nils J8 rfl (by omega) AI
    refine⟨J',0,g',F8.trans h'.f (fun b _ e=>?_),fun e=>absurd e he,fun _=>⟨h'.w,mv',⟨h'.a.at_,h'.a.alb,h'.a.rw.lo (by have:=F7.le;omega),h'.a.nil⟩⟩⟩
    rcases e with e|e|e|e
    · exact .inl e
    · exact .inr (.inr (.inl e))
    · exact .inr (.inr (.inr (.inl e)))
    · exact .inr (.inr (.inr (.inr e)))
end
def PD (ty:Nat->Ty) (F:List V->H->AH):Prop:=∀(J:H) (db vv:Nat) (x:V) (dp:Int),Af J->(∀U:Nat->AH,BA x U=U 0) ->
 ∃J',F [.ptr db 0,.agg (ty 0).c,.ptr vv 0,x,.int .i64 dp] J=some (.bool false,J')/\Fr AJ J J'
def vq (lb:Nat):List V:=[.int .i64 (AA 7),.int .i64 (AA 0),.nils,.sl lb 0 2 (.ex 2),.int .i64 (AA 0),.nils]
structure vF (lo:Nat) (J:H) (lb:Nat) (C A:List Nat) (mv:V):Prop where
 alb:B8 J lb (Oz (OP A) (OO A))
 rw:Rr lo J mv C (Gt A)
 nil:Gt A=[]->mv = .nils
 lo:lo<=lb
theorem vF.fr {S:Nat->Prop} {lo:Nat} {J J':H} {lb:Nat} {C A:List Nat} {mv:V} (h:vF lo J lb C A mv) (f:Fr S J J') (ht:Af J) (hS:∀b,lo<=b->b<J.next->¬S b):vF lo J' lb C A mv:=
 ⟨f.at_ h.alb ht (hS lb h.lo (h.alb.lt ht)),h.rw.fr f ht hS,h.nil,h.lo⟩
def Nq (m:Nat) (Pt:H->Prop) (nm:BS) (nv rv tv:V) (n0:Nat) (F:List V->H->AH):Prop:=∀{J:H} {db wb rb cb i:Nat} {v:V} {O C R:List Nat} {em:Bool} {fl:List Bool},Af J->Pt J->Rw J wb rb v O i (AA 0) em->Dd m J db wb rb cb nm nv rv tv (AA n0)->¬Ai v cb ->
  (A1 O).drop i=1::(GJ fl.length++(fl.map Ul++(Gg C (CX fl 0)++R)))->0<fl.length->fl.length<=100->L0 C ->
  ∃lb r mv J',F [.ptr db 0,.int .i64 (AA 0),.int .i64 (AA 1)] J=some (.agg [.int .i64 (AA 7),.int .i64 (AA 0),.nils,.sl lb 0 2 (.ex 2),.int .i64 r,mv],J')/\mv.one=true/\Fr (fun k=>k=rb\/k=wb\/k=cb) J J' /\
   (CX fl 0=[]->∃j,Rw J' wb rb v O j (AA 4) em) /\
   (CX fl 0≠[]->Rw J' wb rb v O (i+(1+(GJ fl.length).length+fl.length+(Gg C (CX fl 0)).length)) (AA 0) em/\r=AA (HX (CX fl 0))/\∃lo,J.next<=lo/\vF J.next J' lb C (CX fl 0) mv)
section
variable {E:EB} {D:Az} {N:Nat} {Sl Fl:List V->H->AH} {m:Nat} {Pt:H->Prop} {nm:BS} {nv rv tv:V} {ty:Nat->Ty} {fd:Nat->Fd}
theorem lq {W:AM} (hN:2<N):PD ty (bu E D W N):=by
 intro J db vv x dp ht hx
 obtain⟨M,rfl⟩:∃k,N=k+1:=⟨N-1,by omega⟩
 obtain⟨J1,e1,f1,a1,n1⟩:=Ay ht (ty 0).c
 refine⟨J1,?_,f1⟩
 have hT1:=(ty 0).oneT
 have hT2:=(ty 0).oneI
 have hT3:=(ty 0).oneF
 unfold Ty.c at e1 ⊢
 have k0:∀K,Q7 E D W K db 0 (ty 0).kind (ty 0).tags (ty 0).has (ty 0).hasLow (ty 0).hasHigh (ty 0).conMore (ty 0).low (ty 0).high (ty 0).items (ty 0).fields (ty 0).root (ty 0).more (ty 0).of_ vv 0 x dp J=K db 0 vv 0 dp J.next 0 .nils x (AA 0) (AA 0) J1:=by
  intro K
  unfold Q7
  simp -implicitDefEqProofs only [↓rP,rS,hT1,hT2,hT3,↓e1,↓hx]
 have k2:∀K1 K3,Q5 E D W K1 K3 db 0 vv 0 dp J.next 0 .nils x (AA 0) (AA 0) J1=K1 db 0 vv 0 dp J.next 0 .nils J1:=by
  intro K1 K3
  unfold Q5
  simp -implicitDefEqProofs only [↓rP,rA,AD,AG,AB,CD]
 have k1:∀K5,Q6 E D W K5 db 0 vv 0 dp J.next 0 .nils J1=K5 db 0 vv 0 dp J.next 0 .nils .nils (AA 0) (AA 0) J1:=by
  intro K5
  unfold Q6
  simp -implicitDefEqProofs only [↓rP,rS]
 have k5:∀K4 K6,Q4 E D W K4 K6 db 0 vv 0 dp J.next 0 .nils .nils (AA 0) (AA 0) J1=K4 .nils J1:=by
  intro K4 K6
  unfold Q4
  simp -implicitDefEqProofs only [↓rP,rA,AD,AG,AB,CD]
 show Q7 E D W (Q5 E D W (Q6 E D W (Q4 E D W (Xh E D W) _)) _) db 0 (ty 0).kind (ty 0).tags (ty 0).has (ty 0).hasLow (ty 0).hasHigh (ty 0).conMore (ty 0).low (ty 0).high (ty 0).items (ty 0).fields (ty 0).root (ty 0).more (ty 0).of_ vv 0 x dp J=_
 rw[k0,k2,k1,k5]
 unfold Xh
 simp -implicitDefEqProofs only [↓rP,rA,AD,AG,AB,CD]
theorem aV (hT:LM Sl Fl m Pt nm nv rv tv ty fd) {J:H} {db r6 tyb:Nat} (ht:Af J) (hp:Pt J) (aty:B8 J tyb (ty 0).c) :
  ∃env J',Ao E D Sz WD [(0,.ptr db 0),(1,.int .i64 (AA 0)),(2,.int .i64 (AA 1)),(6,.ptr r6 0),(7,.ptr tyb 0)] J=some (env,J') /\
   Go.Og.look env 0=some (.ptr db 0)/\Go.Og.look env 1=some (.int .i64 (AA 0))/\Go.Og.look env 2=some (.int .i64 (AA 1))/\Go.Og.look env 6=some (.ptr r6 0)/\Go.Og.look env 7=some (.ptr tyb 0)/\Go.Og.look env 8=some (.ptr (J.next+7) 0) /\
   B8 J' (J.next+7) (vq (J.next+5))/\B8 J' (J.next+5) (Oz false false)/\Fr AJ J J':=by
 obtain⟨h0,_⟩|⟨fb,c,M,efb,afb,hcel⟩:=(hT.frow J hp).is
 ·omega
 have at':=aty
 unfold Ty.c at at'
 rw[efb,hT.k0]at at'
 have mks:Ce (.mkslice 43 6 96 [(V.int .i64 (AA 0)),(V.int .i64 (AA 0)),V.nils,V.nils,(V.int .i64 (AA 0)),V.nils] (.tmp 22) (.tmp 22)) [(22,.int .i64 (AA 2)),(22,.int .i64 (AA 2))] (J.next+5)=some (.sl (J.next+5) 0 2 (.ex 2),.cells (Oz false false)):=rfl
 obtain⟨Ja,ha⟩:∃Ja,Ja=(⟨J.next+9,(J.next+7,.cells vz)::(J.next+5,.cells (Oz false false))::J.bl⟩:H):=⟨_,rfl⟩
 have ta:Af Ja:=by
  rw[ha]
  intro b hb
  have hb:J.next+9<=b:=hb
  show Ba ((J.next+7,_)::(J.next+5,_)::J.bl) b=none
  rw[BH,if_neg (by simp only[];omega),BH,if_neg (by simp only[];omega)]
  exact ht b (by omega)
 have a7:B8 Ja (J.next+7) vz:=by
  rw[ha]
  show Ba ((J.next+7,_)::(J.next+5,_)::J.bl) _=_
  rw[BH,if_pos rfl]
 have a5:B8 Ja (J.next+5) (Oz false false):=by
  rw[ha]
  show Ba ((J.next+7,_)::(J.next+5,_)::J.bl) _=_
  rw[BH,if_neg (by simp only[];omega),BH,if_pos rfl]
 obtain⟨Jb,g,f,ab⟩:=LQ (E:=E) (D:=D) (n:=6) (cs:=vq (J.next+5)) (x := .tmp 8) (y := .tmp 24) (e:=[(8,.ptr (J.next+7) 0),(24,.agg (vq (J.next+5)))]) ta a7 rfl rfl rfl
 have go:Fo E D J 9 0 AJ Sz WD ⟨[(0,.ptr db 0),(1,.int .i64 (AA 0)),(2,.int .i64 (AA 1)),(6,.ptr r6 0),(7,.ptr tyb 0)],J.next+9,[J.bl],[],0,[]⟩ _ Jb:=
  B5 (.ptr tyb 0) rfl rfl <|
  D0 (.int .i64 (AA 7)) (CN ht) rfl (Bb (b:=tyb) (off:=0) rfl at' rfl ht (fun h=>h) (As _ rfl)) fun _ r1=>
  B5 (.ptr tyb 9) rfl rfl <|
  D0 (.sl fb 0 2 c) r1 rfl (Bb (b:=tyb) (off:=9) rfl at' rfl ht (fun h=>h) (As _ rfl)) fun _ r2=>
  B5 (.int .i64 (AA 2)) rfl rfl <|
  Th (.sl (J.next+5) 0 2 (.ex 2)) (.cells (Oz false false)) 32 r2 rfl (by decide) (by decide) mks fun _ r3=>
  B5 (.agg (vq (J.next+5))) rfl rfl <|
  Th (.ptr (J.next+7) 0) (.cells vz) 160 r3 rfl (by decide) (by decide) rfl fun _ r4=>
  eB .dead (by rw[<-ha]at r4;exact r4) rfl (by decide) (S':=fun b=>b=J.next+7) f (fun b h e=>by omega) (fun b e h1 _=>by rw[e,IL];decide) g fun _ _ _ r5=>
  Fv r5
 obtain⟨d1,d2⟩:=El (ops:=Sz) go
 exact⟨_,Jb,d1,rfl,rfl,rfl,rfl,rfl,rfl,ab,f.at_ a5 ta (by omega),d2⟩
theorem LM.tb (hT:LM Sl Fl m Pt nm nv rv tv ty fd) {J:H} (hp:Pt J):V.beq (.agg (ty 0).c) (.agg (ty 0).c)=true:=by
 obtain⟨h0,_⟩|⟨fb,c,M,efb,afb,hcel⟩:=(hT.frow J hp).is
 ·omega
 have h1:=hT.bt
 have h2:=hT.bi
 have h3:V.beq (ty 0).fields (ty 0).fields=true:=by rw[efb];exact As _ rfl
 unfold Ty.c
 simp[V.beq,KF,h1,h2,h3]
theorem LM.ab (hT:LM Sl Fl m Pt nm nv rv tv ty fd) {J:H} (hp:Pt J):V.beq (.agg [.str nm,nv,rv,tv]) (.agg [.str nm,nv,rv,tv])=true/\tv.one=true:=by
 obtain⟨h0,_⟩|⟨tb,c,L,rfl,_,_⟩:=(hT.row J hp).is
 ·omega
 have h1:=hT.b1
 have h2:=hT.b2
 have h3:V.beq (.sl tb 0 3 c) (.sl tb 0 3 c)=true:=As _ rfl
 exact⟨by simp[V.beq,KF,h1,h2,h3],rfl⟩
theorem aU (hT:LM Sl (D 103) m Pt nm nv rv tv ty fd) (hS:PD ty (D 104)) {J:H} {db wb cb r6 tyb v8:Nat} (ht:Af J) (hp:Pt J) (ad:B8 J db [.ptr wb 0,.str nm,nv,rv,tv,.ptr cb 0]) (aty:B8 J tyb (ty 0).c) :
  ∃env J',Ao E D Sy WC [(0,.ptr db 0),(1,.int .i64 (AA 0)),(2,.int .i64 (AA 1)),(6,.ptr r6 0),(7,.ptr tyb 0),(8,.ptr v8 0),(9,.bool true)] J=some (env,J') /\
   Go.Og.look env 0=some (.ptr db 0)/\Go.Og.look env 1=some (.int .i64 (AA 0))/\Go.Og.look env 2=some (.int .i64 (AA 1))/\Go.Og.look env 6=some (.ptr r6 0)/\Go.Og.look env 8=some (.ptr v8 0)/\Go.Og.look env 9=some (.bool true) /\
   Fr AJ J J':=by
 have fw:Fr AJ J ⟨J.next+13,J.bl⟩:=(CN (E:=E) (n:=13) (S:=AJ) ht).fr
 obtain⟨fv,lv,J1,g1,o1,o2,hsl,hK,hnew,f1⟩:=hT.fl ⟨J.next+13,J.bl⟩ fw.tidy (hT.ptf ht fw (fun _ h=>h.elim) hp)
 rw[hT.root]at hsl
 obtain⟨J2,g2,f2⟩:=hS J1 db v8 lv (AA 1) f1.tidy (fun U=>hK.slen)
 have tq:=hT.tb hp
 obtain⟨ab,ot⟩:=hT.ab hp
 have q1:=hT.o1
 have q2:=hT.o2
 have ltb:V.live (.agg [.str nm,nv,rv,tv])=true:=by
  simp[DI q1,DI q2,DI ot,V.live]
 have lx:V.live (.agg (ty 0).c)=true:=by
  simp[Ty.c,DI (ty 0).oneT,DI (ty 0).oneI,DI (ty 0).oneF,V.live]
 have go:Fo E D J 13 0 AJ Sy WC ⟨[(0,.ptr db 0),(1,.int .i64 (AA 0)),(2,.int .i64 (AA 1)),(6,.ptr r6 0),(7,.ptr tyb 0),(8,.ptr v8 0),(9,.bool true)],J.next+13,[J.bl],[],0,[]⟩ _ J2:=
  B5 (.ptr db 0) rfl rfl <|
  D0 (.agg (ty 0).c) (CN ht) rfl (HI (b:=tyb) (off:=0) (m:=13) rfl aty rfl rfl ht (fun h=>h) tq) fun _ r1=>
  B5 (.ptr db 0) rfl rfl <|
  B5 (.ptr db 0) rfl rfl <|
  B5 (.ptr db 1) rfl rfl <|
  D0 (.agg [.str nm,nv,rv,tv]) r1 rfl (HI (b:=db) (off:=1) (m:=4) rfl ad rfl rfl ht (fun h=>h) ab) fun _ r2=>
  B5 (.int .i64 (AA 0)) rfl rfl <|
  IE fv r2 rfl (by decide) (S':=AJ) f1 (fun _ _ h=>h.elim) (fun _ h _ _=>h) (DO (vs:=[.agg [.str nm,nv,rv,tv],.int .i64 (AA 0)]) rfl (by show (V.live (.agg [.str nm,nv,rv,tv])&&(V.live (.int .i64 (AA 0))&&true))=true;rw[ltb];rfl) g1) fun _ _ _ r3=>
  B5 (.ptr tyb 10) rfl rfl <|
  D0 (.int .i64 (AA 0)) r3 rfl (Bb (b:=tyb) (off:=10) rfl aty (by show some (V.int .i64 (ty 0).root)=_;rw[hT.root]) ht (fun h=>h) (As _ rfl)) fun _ r4=>
  B5 lv rfl hsl <|
  B5 (.int .i64 (AA 1)) rfl rfl <|
  IE (.bool false) r4 rfl (by decide) (S':=AJ) f2 (fun _ _ h=>h.elim) (fun _ h _ _=>h) (DO (vs:=[.ptr db 0,.agg (ty 0).c,.ptr v8 0,lv,.int .i64 (AA 1)]) rfl (by show (V.live (.ptr db 0)&&(V.live (.agg (ty 0).c)&&(V.live (.ptr v8 0)&&(V.live lv&&(V.live (.int .i64 (AA 1))&&true)))))=true;rw[lx,DI o2];rfl) g2) fun _ _ _ r5=>
  Fv r5
 obtain⟨d1,d2⟩:=El (ops:=Sy) go
 exact⟨_,J2,d1,rfl,rfl,rfl,rfl,rfl,rfl,d2⟩
theorem uQ (hT:LM Sl (D 103) m Pt nm nv rv tv ty fd) (hM:JE (D 43)) (hN:H7 (D 42)) (hFl:UC (D 84)) (hSo:PD ty (D 104)) (hO:Q9 (D 44)) (hA:UG m Pt nm nv rv tv (D 105)) :
  Nq m Pt nm nv rv tv 1 (yw E D (Ao E D) N):=by
 intro J db wb rb cb i v O C R em fl ht hp hw h nc hd h0 h100 hC
 obtain⟨J1,e1,f1,a1,n1⟩:=Ay ht vz
 obtain⟨J2,e2,f2,a2,n2⟩:=Ay f1.tidy [.int .i64 (AA 0),.nils,.bool false,.bool false,.bool false,.bool false,.int .i64 (AA 0),.int .i64 (AA 0),.nils,.nils,.int .i64 (AA 0),.bool false,.int .i64 (AA 0)]
 obtain⟨J3,e3,f3,a3⟩:=Ci f2.tidy a2 (ty 0).c
 have f13:Fr AJ J1 J3:=f2.trans f3 (fun b hb e=>by omega)
 have f03:Fr AJ J J3:=f1.trans f13 (fun _ _ h=>h)
 have r3:=f13.at_ a1 f1.tidy (fun h=>h)
 have P1:=hT.ptf ht f1 (fun _ h=>h.elim) hp
 have P3:=hT.ptf ht f03 (fun _ h=>h.elim) hp
 obtain⟨e',J4,g4,u0,u1,u2,u6,u7,u8,a8,a5,f4⟩:=aV (E:=E) (D:=D) (db:=db) (r6:=J.next) hT f3.tidy P3 a3
 have le13:=f13.le
 have le34:=f4.le
 have f04:Fr AJ J J4:=f03.trans f4 (fun _ _ h=>h)
 have hd4:=h.fr f04 ht (fun h=>h) (fun h=>h)
 have w4:=hw.fr0 f04 ht
 have ty4:=f4.at_ a3 f3.tidy (fun h=>h)
 have r4:=f4.at_ r3 f3.tidy (fun h=>h)
 have lc:=h.c.lt ht
 have lr:=hw.pl.at_.lt ht
 have lw:=hw.at_.lt ht
 have ld:=h.d.lt ht
 have l8:=a8.lt f4.tidy
 have l5:=a5.lt f4.tidy
 have lv:∀c,Ai v c->c<J.next:=fun c hc=>EY.lt hw.pl.by_ ht hc
 obtain⟨J5,g5,c5,f5⟩:=hM J4 cb (AA 1) (AA 2) hd4.c f4.tidy (by decide)
 rw[show CU .i64 (AA 1) (AA 2)=AA 3 by decide]at c5
 have hd5:Dd m J5 db wb rb cb nm nv rv tv (AA 3):=hd4.to f5 f4.tidy h.dc c5
 have w5:=w4.fr f5 f4.tidy (fun e=>h.cw e.symm) (fun e=>h.cr e.symm) (fun c hc e=>nc (by rw[<-e];exact hc))
 have b5:=hN J5 db
 obtain⟨q1,dn,i1⟩:=Mh hd
 rw[Cv]at i1
 obtain⟨J6,g6,w6,f6⟩:=hFl J5 db wb rb i v O em _ w5 f5.tidy (by omega) hd5.d
 rw[q1]at g6
 have f46:Fr (fun k=>k=rb\/k=cb) J4 J6:=(f5.mono (fun _ _ h => .inr h):Fr (fun k=>k=rb\/k=cb) J4 J5).trans f6 (fun _ _ h => .inl h)
 have nn:∀b,J.next<=b->¬(b=rb\/b=cb):=fun b hb=>by omega
 have mcb:∀b,b=rb\/b=cb->m<=b:=fun b e=>by
  rcases e with e|e
  ·rw[e];exact h.mr
  ·rw[e];exact h.mc
 have P4:=hT.ptf ht f04 (fun _ h=>h.elim) hp
 have P6:=hT.ptf f4.tidy f46 mcb P4
 have hd6:=hd5.fr f6 f5.tidy h.dr h.cr
 have ty6:=f46.at_ ty4 f4.tidy (nn _ (by omega))
 have r6:=f46.at_ r4 f4.tidy (nn _ (AN _))
 have v6:=f46.at_ a8 f4.tidy (nn _ (by omega))
 have l6:=f46.at_ a5 f4.tidy (nn _ (by omega))
 obtain⟨e'',J7,g7,y0,y1,y2,y6,y8,y9,f7⟩:=aU (E:=E) (D:=D) (r6:=J.next) (v8:=J3.next+7) hT hSo f6.tidy P6 hd6.d ty6
 have P7:=hT.ptf f6.tidy f7 (fun _ h=>h.elim) P6
 have hd7:=hd6.fr f7 f6.tidy (fun h=>h) (fun h=>h)
 have w7:=w6.fr0 f7 f6.tidy
 have o7:=hO J7 db wb rb (i+1) 0 v O em _ w7 hd7.d
 have r7:=f7.at_ r6 f6.tidy (fun h=>h)
 have v7:=f7.at_ v6 f6.tidy (fun h=>h)
 have l7:=f7.at_ l6 f6.tidy (fun h=>h)
 have f47:Fr (fun k=>k=rb\/k=cb) J4 J7:=f46.trans f7 (fun _ _ h=>h.elim)
 have lef:=f47.le
 have hmd:=h.md
 obtain⟨J8,j,g8,f8,k1,k2⟩:=hA (J:=J7) (vv:=J3.next+7) (lb:=J3.next+5) (C:=C) (R:=R) (fl:=fl) f7.tidy P7 w7 hd7 nc dn h0 h100 hC ⟨v7,l7,Rr.nil _ _ _,fun _=>rfl⟩ ⟨by omega,by omega,by omega,by omega⟩ ⟨by omega,by omega,by omega,by omega⟩ (by omega) (fun hc=>by have:=lv _ hc;omega) (fun hc=>by have:=lv _ hc;omega) (by omega) (by omega)
 have r8:=f8.at_ r7 f7.tidy (by omega)
 have s3:∀U:H->AH,Dt 13 J1.next 0 (.agg (ty 0).c) J2 U=U J3:=fun U=>by
  have hc:(V.agg (ty 0).c).cells=(ty 0).c:=rfl
  rw[Cg a2 (by rw[hc,(ty 0).allOne];rfl),hc]
  have:Hg [V.int .i64 (AA 0),.nils,.bool false,.bool false,.bool false,.bool false,.int .i64 (AA 0),.int .i64 (AA 0),.nils,.nils,.int .i64 (AA 0),.bool false,.int .i64 (AA 0)] 0 (ty 0).c=(ty 0).c:=rfl
  rw[this,e3]
 have kd:∀U:V->AH,BL E J1 db 4 U=U tv:=fun U=>(AY (f1.at_ h.d ht (fun h=>h))).trans rfl
 have lT:∀U:List V->AH,AT 13 tv (AA 0) (fun b o=>BQ E J1 b o 13 U)=U (ty 0).c:=fun U=>(hT.row J1 P1).all (by decide) U
 have gd4:∀U:CF->H->AH,DA (Ao E D Sz WD [(0,.ptr db 0),(1,.int .i64 (AA 0)),(2,.int .i64 (AA 1)),(6,.ptr J.next 0),(7,.ptr J1.next 0)] J3) U=U e' J4:=fun U=>by rw[g4];rfl
 have z0:∀U:V->AH,BW e' 0 U=U (.ptr db 0):=fun U=>BG u0 rfl
 have z1:∀U:V->AH,BW e' 1 U=U (.int .i64 (AA 0)):=fun U=>BG u1 rfl
 have z2:∀U:V->AH,BW e' 2 U=U (.int .i64 (AA 1)):=fun U=>BG u2 rfl
 have z6:∀U:V->AH,BW e' 6 U=U (.ptr J.next 0):=fun U=>BG u6 rfl
 have z7:∀U:V->AH,BW e' 7 U=U (.ptr J1.next 0):=fun U=>BG u7 rfl
 have z8:∀U:V->AH,BW e' 8 U=U (.ptr (J3.next+7) 0):=fun U=>BG u8 rfl
 have gd7:∀U:CF->H->AH,DA (Ao E D Sy WC [(0,.ptr db 0),(1,.int .i64 (AA 0)),(2,.int .i64 (AA 1)),(6,.ptr J.next 0),(7,.ptr J1.next 0),(8,.ptr (J3.next+7) 0),(9,.bool true)] J6) U=U e'' J7:=fun U=>by rw[g7];rfl
 have t0:∀U:V->AH,BW e'' 0 U=U (.ptr db 0):=fun U=>BG y0 rfl
 have t1:∀U:V->AH,BW e'' 1 U=U (.int .i64 (AA 0)):=fun U=>BG y1 rfl
 have t2:∀U:V->AH,BW e'' 2 U=U (.int .i64 (AA 1)):=fun U=>BG y2 rfl
 have t6:∀U:V->AH,BW e'' 6 U=U (.ptr J.next 0):=fun U=>BG y6 rfl
 have t8:∀U:V->AH,BW e'' 8 U=U (.ptr (J3.next+7) 0):=fun U=>BG y8 rfl
 have t9:∀U:V->AH,BW e'' 9 U=U (.bool true):=fun U=>BG y9 rfl
 have kc:∀U:V->AH,BL E J4 db 5 U=U (.ptr cb 0):=fun U=>(AY hd4.d).trans rfl
 have kf:∀U:V->AH,BL E J4 J1.next 9 U=U (ty 0).fields:=fun U=>(AY ty4).trans rfl
 have km:∀U:V->AH,BL E J5 J1.next 11 U=U (.bool true):=fun U=>(Gp (f5.at_ ty4 f4.tidy (by omega)) (by show some (V.bool (ty 0).more)=_;rw[hT.mor]))
 have lf:=(hT.frow J hp).len.2
 have hT1:=(ty 0).oneT
 have hT2:=(ty 0).oneI
 have hT3:=(ty 0).oneF
 unfold vz at e1
 unfold Ty.c at lT s3
 have kk:∀K,ZX E D (Ao E D) K db 0 (AA 0) (AA 1) J=K J.next 0 (J3.next+7) 0 J8:=by
  intro K
  unfold ZX
  simp -implicitDefEqProofs only [↓rP,rA,AD,AG,AB,↓e1,↓kd,↓lT,hT1,hT2,hT3,↓e2,↓s3,↓gd4,↓z0,↓z1,↓z2,↓z6,↓z7,↓z8,↓kc,↓kf,↓lf,↓g5,↓b5,↓km,↓g6,↓gd7,↓t0,↓t1,↓t2,↓t6,↓t8,↓t9,↓o7,↓g8]
 have fin:∀(r:Int) (mv:V),mv.one=true->B8 J8 (J3.next+7) [.int .i64 (AA 7),.int .i64 (AA 0),.nils,.sl (J3.next+5) 0 2 (.ex 2),.int .i64 r,mv] ->
   ∃J9,yw E D (Ao E D) N [.ptr db 0,.int .i64 (AA 0),.int .i64 (AA 1)] J=some (.agg [.int .i64 (AA 7),.int .i64 (AA 0),.nils,.sl (J3.next+5) 0 2 (.ex 2),.int .i64 r,mv],J9)/\Fr (fun k=>k=J.next) J8 J9:=by
  intro r mv mo v8
  obtain⟨J9,e9,f9,a9⟩:=Ci f8.tidy r8 [.int .i64 (AA 7),.int .i64 (AA 0),.nils,.sl (J3.next+5) 0 2 (.ex 2),.int .i64 r,mv]
  refine⟨J9,?_,f9⟩
  have s9:∀U:H->AH,Dt 6 J.next 0 (.agg [.int .i64 (AA 7),.int .i64 (AA 0),.nils,.sl (J3.next+5) 0 2 (.ex 2),.int .i64 r,mv]) J8 U=U J9:=fun U=>by
   rw[Cg r8 (by show (true&&true&&Og.allOne [V.int .i64 (AA 7),.int .i64 (AA 0),.nils,.sl (J3.next+5) 0 2 (.ex 2),.int .i64 r,mv])=true;simp[Bd,Bo,DN,mo];exact⟨rfl,rfl⟩)]
   show U (EV J8 J.next (.cells [.int .i64 (AA 7),.int .i64 (AA 0),.nils,.sl (J3.next+5) 0 2 (.ex 2),.int .i64 r,mv]))=_
   rw[e9]
  have m8:∀U:List V->AH,BQ E J8 (J3.next+7) 0 6 U=U [.int .i64 (AA 7),.int .i64 (AA 0),.nils,.sl (J3.next+5) 0 2 (.ex 2),.int .i64 r,mv]:=fun U=>(BT v8).trans rfl
  have m9:∀U:List V->AH,BQ E J9 J.next 0 6 U=U [.int .i64 (AA 7),.int .i64 (AA 0),.nils,.sl (J3.next+5) 0 2 (.ex 2),.int .i64 r,mv]:=fun U=>(BT a9).trans rfl
  show ZX E D (Ao E D) (ft E D (Ao E D)) db 0 (AA 0) (AA 1) J=_
  rw[kk]
  unfold ft
  refine(m8 _).trans ?_
  simp -implicitDefEqProofs only [↓rP,rS,mo,↓s9]
  exact m9 _
 have F8:Fr (fun k=>k=rb\/k=wb\/k=cb) J J8:=((f04.mono (fun _ _ h=>h.elim):Fr (fun k=>k=rb\/k=wb\/k=cb) J J4).trans f47 (fun _ _ h=>by omega)).trans f8 (fun b hb e=>by omega)
 by_cases he:CX fl 0=[]
 ·obtain⟨w8,r,mv,v8,mo⟩:=k1 he
  obtain⟨J9,g9,f9⟩:=fin r mv mo v8
  exact⟨_,r,mv,J9,g9,mo,F8.trans f9 (fun b hb e=>by omega),fun _=>⟨_,w8.fr f9 f8.tidy (by omega) (by omega) (fun c hc e=>by have:=lv c hc;omega)⟩,fun e=>absurd he e⟩
 ·obtain⟨w8,mv,av⟩:=k2 he
  obtain⟨J9,g9,f9⟩:=fin _ mv av.rw.one av.at_
  refine⟨_,_,mv,J9,g9,av.rw.one,F8.trans f9 (fun b hb e=>by omega),fun e=>absurd e he,fun _=>⟨?_,rfl,J.next,AN _,⟨f9.at_ av.alb f8.tidy (by omega),(av.rw.fr f9 f8.tidy (fun b hb _ e=>by omega)).lo (by omega),av.nil,by omega⟩⟩⟩
  rw[show i+(1+(GJ fl.length).length+fl.length+(Gg C (CX fl 0)).length)=i+1+(GJ fl.length).length+fl.length+(Gg C (CX fl 0)).length by omega]
  exact w8.fr f9 f8.tidy (by omega) (by omega) (fun c hc e=>by have:=lv c hc;omega)
end
def TG (lb:Nat) (r:Int) (mv:V):List V:=[.int .i64 (AA 7),.int .i64 (AA 0),.nils,.sl lb 0 2 (.ex 2),.int .i64 r,mv]
def PG (Pt:H->Prop) (nm:BS) (nv rv tv:V) (F:List V->H->AH):Prop:=∀J,Af J->Pt J->∃J',F [.agg [.str nm,nv,rv,tv]] J=some (.bool true,J')/\Fr AJ J J'
def rN (Pt:H->Prop) (nm:BS) (nv rv tv:V) (C:List Nat) (F G:List V->H->AH):Prop:=∀(lo:Nat) (J:H) (lb:Nat) (A:List Nat) (mv:V),Af J->Pt J->vF lo J lb C A mv->WJ 0 A->(∀s∈A,s<100)->A≠[]->A.length<=100 ->
  (∃J',F [.agg [.str nm,nv,rv,tv],.int .i64 (AA 0),.agg (TG lb (AA (HX A)) mv)] J=some (.bool true,J')/\Fr AJ J J') /\
  (∃w J',G [.agg [.str nm,nv,rv,tv],.int .i64 (AA 0),.agg (TG lb (AA (HX A)) mv)] J=some (.tup [w,.int .i64 (AA 0)],J')/\w.one=true/\Fr AJ J J')
def UD (Pt:H->Prop) (nm:BS) (nv rv tv:V) (F:List V->H->AH):Prop:=∀{J:H} {x:V} {C:List Nat} {fl:List Bool},Af J->Pt J->By J x (nI (Es (Of fl C)))->0<fl.length->fl.length<=100->L0 C ->
  ∃vc er J',F [.agg [.str nm,nv,rv,tv],.int .i64 (AA 0),x] J=some (.tup [.agg vc,.int .i64 (AA er)],J')/\Fr AJ J J'/\(CX fl 0=[]->er=4/\vc=vz)/\(CX fl 0≠[]->er=0/\∃lb mv,mv.one=true/\vc=TG lb (AA (HX (CX fl 0))) mv/\vF J.next J' lb C (CX fl 0) mv)
section
variable {E:EB} {D:Az} {N:Nat} {Sl Fl:List V->H->AH} {m:Nat} {Pt:H->Prop} {nm:BS} {nv rv tv:V} {ty:Nat->Ty} {fd:Nat->Fd}
theorem td (hT:LM Sl Fl m Pt nm nv rv tv ty fd) (hM:JE (D 43)) (hN:H7 (D 42)) (hO:Q9 (D 44)) (hFi:Nq m Pt nm nv rv tv 1 (D 55)):Nq m Pt nm nv rv tv 0 (zC E D (Ao E D) N):=by
 intro J db wb rb cb i v O C R em fl ht hp hw h nc hd h0 h100 hC
 obtain⟨J1,e1,f1,a1,n1⟩:=Ay ht [.ptr db 0]
 obtain⟨J2,e2,f2,a2,n2⟩:=Ay f1.tidy vz
 have f02:Fr AJ J J2:=f1.trans f2 (fun _ _ h=>h)
 have c2:=f2.at_ a1 f1.tidy (fun h=>h)
 have h2:=h.fr f02 ht (fun h=>h) (fun h=>h)
 have lc:=h.c.lt ht
 have ld:=h.d.lt ht
 have lw:=hw.at_.lt ht
 have lr:=hw.pl.at_.lt ht
 have lv:∀c,Ai v c->c<J.next:=fun c hc=>EY.lt hw.pl.by_ ht hc
 have p2:=hT.ptf ht f02 (fun _ h=>h.elim) hp
 obtain⟨e',J3,g3,q1',q2',q3',q6',c3,f3⟩:=cR (E:=E) (D:=D) (ve:=J1.next) (k:=0) (dp:=1) hT hM hN f02.tidy p2 h2 c2 (by omega) (.inl ⟨rfl,rfl⟩) (by decide)
 have p3:=hT.ptf f02.tidy f3 (fun b e=>by rw[e];exact h.mc) p2
 have b3:=f3.at_ c2 f02.tidy (by omega)
 have z3:=f3.at_ a2 f02.tidy (by omega)
 have d3:=f3.at_ h2.d f02.tidy h.dc
 have T3:=hT.row J3 p3
 have w3:=(hw.fr0 f02 ht).fr f3 f02.tidy (fun e=>h.cw e.symm) (fun e=>h.cr e.symm) (fun c hc e=>nc (by cases e;exact hc))
 have o3:=hO J3 db wb rb i 0 v O em _ w3 d3
 obtain⟨J4,e4,f4,a4,n4⟩:=Ay f3.tidy vz
 obtain⟨J5,e5,f5,a5⟩:=Ci f4.tidy a4 [.int .i64 (AA 7),.int .i64 (AA 0),.nils,.nils,.int .i64 (AA 0),.nils]
 have f35:Fr AJ J3 J5:=f4.trans f5 (fun b hb e=>by omega)
 have le2:=f02.le
 have le3:=f3.le
 have le35:=f35.le
 have b5:=f35.at_ b3 f3.tidy (fun h=>h)
 have z5:=f35.at_ z3 f3.tidy (fun h=>h)
 have c35:=f35.at_ c3 f3.tidy (fun h=>h)
 rw[show CU .i64 (AA 0) (AA 1)=AA 1 by decide]at c35
 have hd5:Dd m J5 db wb rb cb nm nv rv tv (AA 1):=⟨f35.at_ d3 f3.tidy (fun h=>h),c35,h.dw,h.dr,h.dc,h.cw,h.cr,h.md,h.mw,h.mr,h.mc⟩
 obtain⟨lb,r,mv,J6,g6,mo,f6,k1,k2⟩:=hFi (J:=J5) (C:=C) (R:=R) (fl:=fl) f35.tidy (hT.ptf f3.tidy f35 (fun _ h=>h.elim) p3) (w3.fr0 f35 f3.tidy) hd5 nc hd h0 h100 hC
 have z6:=f6.at_ z5 f35.tidy (by omega)
 obtain⟨J7,e7,f7,a7⟩:=Ci f6.tidy z6 (TG lb r mv)
 have F5:Fr (fun k=>k=rb\/k=wb\/k=cb) J J5:=((f02.mono (fun _ _ h=>h.elim):Fr (fun k=>k=rb\/k=wb\/k=cb) J J2).trans f3 (fun _ _ h => .inr (.inr h))).trans f35 (fun _ _ h=>h.elim)
 refine⟨lb,r,mv,J7,?_,mo,(F5.trans f6 (fun _ _ h=>h)).trans f7 (fun b hb e=>by omega),fun he=>?_,fun he=>?_⟩
 ·have s5:∀U:H->AH,Dt 6 J3.next 0 (.agg [.int .i64 (AA 7),.int .i64 (AA 0),.nils,.nils,.int .i64 (AA 0),.nils]) J4 U=U J5:=fun U=>by
   rw[Cg a4 rfl]
   show U (EV J4 J3.next (.cells _))=_
   rw[show Hg vz 0 (V.agg [.int .i64 (AA 7),.int .i64 (AA 0),.nils,.nils,.int .i64 (AA 0),.nils]).cells=[.int .i64 (AA 7),.int .i64 (AA 0),.nils,.nils,.int .i64 (AA 0),.nils] from rfl,e5]
  have s7:∀U:H->AH,Dt 6 J1.next 0 (.agg (TG lb r mv)) J6 U=U J7:=fun U=>by
   rw[Cg z6 (by show (true&&true&&Og.allOne (TG lb r mv))=true;unfold TG;simp[Bd,Bo,DN,mo];exact⟨rfl,rfl⟩)]
   show U (EV J6 J1.next (.cells (TG lb r mv)))=_
   rw[e7]
  have lT:∀U:List V->AH,AT 13 tv (AA 0) (fun b o=>BQ E J3 b o 13 U)=U (ty 0).c:=fun U=>T3.all (by decide) U
  have l7:∀U:List V->AH,BQ E J7 J1.next 0 6 U=U (TG lb r mv):=fun U=>(BT a7).trans rfl
  have gd:∀U:CF->H->AH,DA (Ao E D KX OZ [(1,.int .i64 (AA 0)),(2,.int .i64 (AA 1)),(3,.ptr J.next 0),(6,.ptr J1.next 0)] J2) U=U e' J3:=fun U=>by rw[g3];rfl
  have l1:∀U:V->AH,BW e' 1 U=U (.int .i64 (AA 0)):=fun U=>BG q1' rfl
  have l2:∀U:V->AH,BW e' 2 U=U (.int .i64 (AA 1)):=fun U=>BG q2' rfl
  have l3:∀U:V->AH,BW e' 3 U=U (.ptr J.next 0):=fun U=>BG q3' rfl
  have l6:∀U:V->AH,BW e' 6 U=U (.ptr J1.next 0):=fun U=>BG q6' rfl
  have kd:∀U:V->AH,BL E J3 db 4 U=U tv:=fun U=>(AY d3).trans rfl
  have ho:=(ty 0).allOne
  unfold Ty.c at lT ho
  rw[hT.k0]at lT ho
  have hT1:=(ty 0).oneT
  have hT2:=(ty 0).oneI
  have hT3:=(ty 0).oneF
  unfold vz at e2 e4
  unfold TG at s7
  show Qy E D (Ao E D) (Sn E D (Ao E D)) (Zb E D (Ao E D) (Sn E D (Ao E D))) (.ptr db 0) (AA 0) (AA 1) J=_
  have k1:∀K1 K2,Qy E D (Ao E D) K1 K2 (.ptr db 0) (AA 0) (AA 1) J=K2 (AA 0) (AA 1) J.next 0 J1.next 0 J3.next 0 true J5:=by
   intro K1 K2
   unfold Qy
   simp -implicitDefEqProofs only [↓rP,rA,AD,AG,AB,DU,↓e1,↓e2,↓gd,↓l1,↓l2,↓l3,↓l6,↓AY b3,↓o3,↓kd,↓lT,hT1,hT2,hT3,ho,↓e4,↓s5]
  rw[k1]
  unfold Zb
  simp -implicitDefEqProofs only [↓rP,rS,↓AY b5,↓g6,mo,↓s7]
  exact l7 _
 ·obtain⟨j,w6⟩:=k1 he
  exact⟨j,w6.fr f7 f6.tidy (by omega) (by omega) (fun c hc e=>by have:=lv c hc;omega)⟩
 ·obtain⟨w6,hr,lo,_,rv6⟩:=k2 he
  exact⟨w6.fr f7 f6.tidy (by omega) (by omega) (fun c hc e=>by have:=lv c hc;omega),hr,J.next,AN _,⟨f7.at_ rv6.alb f6.tidy (by have:=rv6.lo;omega),(rv6.rw.fr f7 f6.tidy (fun b hb _ e=>by omega)).lo (by omega),rv6.nil,by have:=rv6.lo;omega⟩⟩
theorem uc (hT:LM Sl Fl m Pt nm nv rv tv ty fd) (hm:∀J,Af J->Pt J->m<=J.next) (hMa:PG Pt nm nv rv tv (D 17)) (hW:UA (D 18)) (hS:Nq m Pt nm nv rv tv 0 (D 19)) (hE:T4 (D 20)) (hOk:∀C,L0 C->rN Pt nm nv rv tv C (D 21) (D 22)) :
  UD Pt nm nv rv tv (F8 E D (Ao E D) N):=by
 intro J x C fl ht hp hx h0 h100 hC
 have hm0:=hm J ht hp
 obtain⟨ab,ot⟩:=hT.ab hp
 have o1:=hT.o1
 have o2:=hT.o2
 obtain⟨T,hTx⟩:∃T,T=Of fl C:=⟨_,rfl⟩
 have tb:PK T:=by rw[hTx];exact Uq hC fl
 have tl:=Up hC h100
 rw[<-hTx]at hx tl
 have pl:(Es T).length=Cs T.length:=Dg _
 have pn:Cs T.length=(T.length+7) / 8:=rfl
 obtain⟨J1,e1,f1,a1,n1⟩:=Ay ht [.str nm,nv,rv,tv]
 obtain⟨J2,e2,f2,a2,n2⟩:=Ay f1.tidy vz
 have f02:Fr AJ J J2:=f1.trans f2 (fun _ _ h=>h)
 have t2:=f2.at_ a1 f1.tidy (fun h=>h)
 obtain⟨J3,g3,f3⟩:=hMa J2 f02.tidy (hT.ptf ht f02 (fun _ h=>h.elim) hp)
 have f03:Fr AJ J J3:=f02.trans f3 (fun _ _ h=>h)
 have t3:=f3.at_ t2 f02.tidy (fun h=>h)
 have r3:=f3.at_ a2 f02.tidy (fun h=>h)
 have le03:=f03.le
 have le23:=f3.le
 have fw:Fr AJ J3 ⟨J3.next+8,J3.bl⟩:=(CN (E:=E) (n:=8) (S:=AJ) f3.tidy).fr
 have x3:=hx.fr f03 ht
 obtain⟨wb,rb,v,J4,g4,w4,f4,nr,nw,nv'⟩:=hW ⟨J3.next+8,J3.bl⟩ x (Es T) (x3.fr fw f3.tidy) fw.tidy (mX tb) (by omega)
 have le4:J3.next+8<=J4.next:=f4.le
 have nr:J3.next+8<=rb:=nr
 have nw:J3.next+8<=wb:=nw
 have nv':∀c,Ai v c->J3.next+8<=c:=nv'
 have cell:∀cb,allOne [V.ptr wb 0,.str nm,nv,rv,tv,.ptr cb 0]=true:=fun cb=>by simp only[Bd,Bo,MV,Iu,o1,o2,ot,EN]
 have bx:Ce (.box 72 (.tmp 43)) [(43,.agg [.ptr wb 0,.str nm,nv,rv,tv,.ptr (J3.next+4) 0])] (J3.next+6)=some (.ptr (J3.next+6) 0,.cells [.ptr wb 0,.str nm,nv,rv,tv,.ptr (J3.next+4) 0]):=by
  show (if allOne (V.agg [.ptr wb 0,.str nm,nv,rv,tv,.ptr (J3.next+4) 0]).cells=true then some (V.ptr (J3.next+6) 0,GL.cells (V.agg [.ptr wb 0,.str nm,nv,rv,tv,.ptr (J3.next+4) 0]).cells)else none)=_
  rw[E8,if_pos (cell _)]
 have xo:x.one=true:=EY.one hx
 have tvl:tv.cells=[tv]/\True:=by
  obtain⟨h0,_⟩|⟨tb,c,L,rfl,_,_⟩:=(hT.row J hp).is
  ·omega
  ·exact⟨rfl,trivial⟩
 obtain⟨hz,_⟩|⟨tb',c,L,rfl,_,_⟩:=(hT.row J hp).is
 ·omega
 have go:Fo E D J3 8 0 AJ bU j3 ⟨[(1,.int .i64 (AA 0)),(2,x),(3,.ptr J.next 0),(6,.ptr J1.next 0)],J3.next+8,[J3.bl],[],0,[]⟩ _ ⟨J4.next,(J3.next+6,.cells [.ptr wb 0,.str nm,nv,rv,.sl tb' 0 3 c,.ptr (J3.next+4) 0])::(J3.next+4,.cells [.int .i64 (AA 0)])::J4.bl⟩:=
  B5 x rfl (dU rfl (DI xo)) <|
  IE (.ptr wb 0) (CN f3.tidy) rfl (by decide) (S':=AJ) f4 (fun _ _ h=>h.elim) (fun _ h _ _=>h) (DO (vs:=[x]) rfl (by
   show (x.live&&true)=true
   rw[DI xo];rfl) g4) fun _ _ _ r1=>
  D0 (.agg [.str nm,nv,rv,.sl tb' 0 3 c]) r1 rfl (HI (b:=J.next) (off:=0) (m:=4) rfl t3 rfl rfl f3.tidy (fun h=>h) ab) fun _ r2=>
  B5 (.agg [.int .i64 (AA 0)]) rfl rfl <|
  Th (.ptr (J3.next+4) 0) (.cells [.int .i64 (AA 0)]) 16 r2 rfl (by decide) (by decide) rfl fun _ r3=>
  B5 (.agg [.ptr wb 0,.str nm,nv,rv,.sl tb' 0 3 c,.ptr (J3.next+4) 0]) rfl rfl <|
  Th (.ptr (J3.next+6) 0) (.cells [.ptr wb 0,.str nm,nv,rv,.sl tb' 0 3 c,.ptr (J3.next+4) 0]) 80 r3 rfl (by decide) (by decide) bx fun _ r4=>
  B5 (.ptr (J3.next+6) 0) rfl rfl <|
  Fv r4
 obtain⟨d0,d2⟩:=El (ops:=bU) go
 obtain⟨env,d1,u1,u3,u6,u8⟩:∃env,Ao E D bU j3 [(1,.int .i64 (AA 0)),(2,x),(3,.ptr J.next 0),(6,.ptr J1.next 0)] J3=some (env,⟨J4.next,(J3.next+6,.cells [.ptr wb 0,.str nm,nv,rv,.sl tb' 0 3 c,.ptr (J3.next+4) 0])::(J3.next+4,.cells [.int .i64 (AA 0)])::J4.bl⟩)/\Go.Og.look env 1=some (.int .i64 (AA 0))/\Go.Og.look env 3=some (.ptr J.next 0)/\Go.Og.look env 6=some (.ptr J1.next 0)/\Go.Og.look env 8=some (.ptr (J3.next+6) 0):=⟨_,d0,rfl,rfl,rfl,rfl⟩
 clear d0
 obtain⟨db,hdb⟩:∃db,db=J3.next+6:=⟨_,rfl⟩
 obtain⟨cb,hcb⟩:∃cb,cb=J3.next+4:=⟨_,rfl⟩
 rw[<-hdb,<-hcb]at d1 d2
 rw[<-hdb]at u8
 obtain⟨J5,h5⟩:∃J5,J5=(⟨J4.next,(db,.cells [.ptr wb 0,.str nm,nv,rv,.sl tb' 0 3 c,.ptr cb 0])::(cb,.cells [.int .i64 (AA 0)])::J4.bl⟩:H):=⟨_,rfl⟩
 rw[<-h5]at d1 d2
 have ad:B8 J5 db [.ptr wb 0,.str nm,nv,rv,.sl tb' 0 3 c,.ptr cb 0]:=by
  rw[h5]
  show Ba ((db,_)::_) db=_
  rw[BH,if_pos rfl]
 have ac:B8 J5 cb [.int .i64 (AA 0)]:=by
  rw[h5]
  show Ba ((db,_)::(cb,_)::J4.bl) cb=_
  rw[BH,if_neg (by simp only[];omega),BH,if_pos rfl]
 have f45:Fr (fun k=>k=db\/k=cb) J4 J5:=by
  refine⟨d2.tidy,by rw[h5];exact AN _,fun b hb hn=>?_⟩
  rw[h5]
  show Ba ((db,_)::(cb,_)::J4.bl) b=_
  rw[BH,if_neg (fun e=>hn (.inl e.symm)),BH,if_neg (fun e=>hn (.inr e.symm))]
 have w5:=w4.fr f45 f4.tidy (by omega) (by omega) (fun c hc=>by have:=nv' c hc;omega)
 have hD:Dd m J5 db wb rb cb nm nv rv (.sl tb' 0 3 c) (AA 0):=⟨ad,ac,by omega,by omega,by omega,by omega,by omega,by omega,by omega,by omega,by omega⟩
 have f05:Fr AJ J J5:=f03.trans d2 (fun _ _ h=>h)
 have le05:=f05.le
 have hd:(A1 (Es T)).drop 0=1::(GJ fl.length++(fl.map Ul++(Gg C (CX fl 0)++Bj (8*Cs T.length-T.length) 0))):=by
  rw[CO,U9 tb]
  conv=>lhs;arg 1;rw[hTx]
  unfold Of
  simp only[Ez,Ab]
 obtain⟨lb,r,mv,J6,g6,mo,f6,k1,k2⟩:=hS (J:=J5) (C:=C) (fl:=fl) d2.tidy (hT.ptf ht f05 (fun _ h=>h.elim) hp) w5 hD (fun hc=>by have:=nv' _ hc;omega) hd h0 h100 hC
 have ad6:=f6.at_ ad d2.tidy (by omega)
 have F6:Fr AJ J J6:=f05.trans f6 (fun b hb e=>by omega)
 have r5:=d2.at_ r3 f3.tidy (fun h=>h)
 have r6:=f6.at_ r5 d2.tidy (by omega)
 have t6:=f6.at_ (d2.at_ t3 f3.tidy (fun h=>h)) d2.tidy (by omega)
 have sx:∀U:Nat->AH,BA x U=U (Es T).length:=fun U=>by rw[hx.slen,Bf]
 have gd:∀U:CF->H->AH,DA (Ao E D bU j3 [(1,.int .i64 (AA 0)),(2,x),(3,.ptr J.next 0),(6,.ptr J1.next 0)] J3) U=U env J5:=fun U=>by rw[d1];rfl
 have l1:∀U:V->AH,BW env 1 U=U (.int .i64 (AA 0)):=fun U=>BG u1 rfl
 have l3:∀U:V->AH,BW env 3 U=U (.ptr J.next 0):=fun U=>BG u3 rfl
 have l6:∀U:V->AH,BW env 6 U=U (.ptr J1.next 0):=fun U=>BG u6 rfl
 have l9:∀U:V->AH,BW env 8 U=U (.ptr db 0):=fun U=>BG u8 rfl
 have kw:∀U:V->AH,BL E J6 db 0 U=U (.ptr wb 0):=fun U=>(AY ad6).trans rfl
 have dl:decide (70000<(Es T).length)=false:=decide_eq_false (by omega)
 have dz:decide ((Es T).length=0)=false:=decide_eq_false (by omega)
 have rl:=(hT.row J hp).len.2
 have ho:allOne [V.int .i64 (AA 7),.int .i64 (AA 0),.nils,.sl lb 0 2 (.ex 2),.int .i64 r,mv]=true:=by simp[Bd,Bo,DN,mo];exact⟨rfl,rfl⟩
 have P6:=hT.ptf ht F6 (fun _ h=>h.elim) hp
 unfold vz at e2
 by_cases he:CX fl 0=[]
 ·obtain⟨j,w6⟩:=k1 he
  obtain⟨J7,g7,f7⟩:=hE J6 wb rb j v _ 4 _ w6 f6.tidy (fun e=>by cases e)
  rw[if_neg (by decide)]at g7
  have r7:=f7.at_ r6 f6.tidy (fun h=>h)
  obtain⟨J8,e8,f8,a8⟩:=Ci f7.tidy r7 vz
  refine⟨vz,4,J8,?_,(F6.trans f7 (fun _ _ h=>h)).trans f8 (fun b hb e=>by omega),fun _=>⟨rfl,rfl⟩,fun e=>absurd he e⟩
  have s8:∀U:H->AH,Dt 6 J1.next 0 (.agg vz) J7 U=U J8:=fun U=>by
   rw[Cg r7 rfl]
   show U (EV J7 J1.next (.cells vz))=_
   rw[e8]
  have l8:∀U:List V->AH,BQ E J8 J1.next 0 6 U=U vz:=fun U=>(BT a8).trans rfl
  show fV E D (Ao E D) nm nv rv (.sl tb' 0 3 c) (AA 0) x J=_
  unfold fV G9
  unfold vz at s8
  simp -implicitDefEqProofs only [↓rP,rA,AD,AG,AB,DU,o1,o2,ot,↓e1,↓e2,↓AY t2,↓BT t2,↓rl,↓sx,dl,dz,↓g3,↓gd,↓l1,↓l3,↓l6,↓l9,↓g6,mo,ho,↓kw,↓g7,↓s8]
  exact l8 _
 ·obtain⟨w6,rfl,lo,_,rv6⟩:=k2 he
  have el:0+(1+(GJ fl.length).length+fl.length+(Gg C (CX fl 0)).length)=T.length:=by
   rw[hTx];unfold Of
   simp only[Aj,AL,DH];omega
  rw[el]at w6
  have pn8:T.length<=8*Cs T.length/\8*Cs T.length<T.length+8:=by unfold Cs;omega
  obtain⟨J7,g7,f7⟩:=hE J6 wb rb _ v _ 0 _ w6 f6.tidy (fun _ _=>by rw[pl];omega)
  rw[if_pos rfl,eJ tb]at g7
  have F7:=F6.trans f7 (fun _ _ h=>h)
  have idl:=Tf fl 0
  have ilen:=If fl 0
  have P7:=hT.ptf f6.tidy f7 (fun _ h=>h.elim) P6
  have rv7:=rv6.fr f7 f6.tidy (fun _ _ _ h=>h)
  obtain⟨⟨J8,g8,f8⟩,_⟩:=hOk C hC _ J7 lb (CX fl 0) mv f7.tidy P7 rv7 (Mc fl 0) (fun s hs=>by have:=idl s hs;omega) he (by omega)
  have rv8:=rv7.fr f8 f7.tidy (fun _ _ _ h=>h)
  obtain⟨_,⟨w,J9,g9,wo,f9⟩⟩:=hOk C hC _ J8 lb (CX fl 0) mv f8.tidy (hT.ptf f7.tidy f8 (fun _ h=>h.elim) P7) rv8 (Mc fl 0) (fun s hs=>by have:=idl s hs;omega) he (by omega)
  have rv9:=rv8.fr f9 f8.tidy (fun _ _ _ h=>h)
  have F9:=(F7.trans f8 (fun _ _ h=>h)).trans f9 (fun _ _ h=>h)
  have r9:=f9.at_ (f8.at_ (f7.at_ r6 f6.tidy (fun h=>h)) f7.tidy (fun h=>h)) f8.tidy (fun h=>h)
  have t7:=f7.at_ t6 f6.tidy (fun h=>h)
  have t8:=f8.at_ t7 f7.tidy (fun h=>h)
  obtain⟨JA,eA,fA,aA⟩:=Ci f9.tidy r9 (TG lb (AA (HX (CX fl 0))) mv)
  refine⟨_,0,JA,?_,F9.trans fA (fun b hb e=>by omega),fun e=>absurd e he,fun _=>⟨rfl,lb,mv,mo,rfl,?_⟩⟩
  ·have sA:∀U:H->AH,Dt 6 J1.next 0 (.agg (TG lb (AA (HX (CX fl 0))) mv)) J9 U=U JA:=fun U=>by
    rw[Cg r9 (by show (true&&true&&Og.allOne (TG lb (AA (HX (CX fl 0))) mv))=true;unfold TG;rw[ho];rfl)]
    show U (EV J9 J1.next (.cells (TG lb (AA (HX (CX fl 0))) mv)))=_
    rw[eA]
   have lA:∀U:List V->AH,BQ E JA J1.next 0 6 U=U (TG lb (AA (HX (CX fl 0))) mv):=fun U=>(BT aA).trans rfl
   show fV E D (Ao E D) nm nv rv (.sl tb' 0 3 c) (AA 0) x J=_
   unfold fV G9
   unfold TG at sA g8 g9
   simp -implicitDefEqProofs only [↓rP,rA,AD,AG,AB,DU,o1,o2,ot,↓e1,↓e2,↓AY t2,↓BT t2,↓rl,↓sx,dl,dz,↓g3,↓gd,↓l1,↓l3,↓l6,↓l9,↓g6,mo,ho,↓kw,↓g7,↓BT t7,↓g8,↓BT t8,↓g9,wo,↓sA]
   exact lA _
  ·have led:=d2.le
   have rvA:=rv9.fr fA f9.tidy (fun b hb _ e=>by omega)
   exact⟨rvA.alb,rvA.rw.lo (by omega),rvA.nil,by have:=rvA.lo;omega⟩
end
def Vr (K:Nat) (l:V) (hl:l.one=true) (r:Int) (m:V) (hm:m.one=true):Vc:=⟨AA K,AA 0,.nils,l,r,m,rfl,hl,hm⟩
def sel (b:Bool) (x y:AH):AH:=match b with
 | true=>x
 | false=>y
theorem Yp (x y:AH):sel true x y=x:=rfl
theorem qm (x y:AH):sel false x y=y:=rfl
def fO (ok:Nat->Bool):Nat->Nat->Bool
 | 0,_=>true
 | m+1,k=>ok k&&fO ok m (k+1)
def ACR (F:List V->H->AH) (J0:H) (nT:Nat) (ty:Nat->Ty) (j:Nat) (v:Vc):Prop:=∀(J:H) (p dp:Nat) (nm:BS) (nv rv tv:V) (rest:List V),Af J->Fr AJ J0 J->Ck J p nT ty nm nv rv tv rest->dp<=17->∃J',F [.ptr p 0,.int .i64 (AA j),.agg v.c,.int .i64 (AA dp)] J=some (.bool true,J')/\Fr AJ J J'
def SmA (S:List V->H->AH) (J0:H) (v:Vc) (f:Fd) (b:Bool):Prop:=∀J:H,Af J->Fr AJ J0 J->∃J',S [.agg v.c,.agg [.int .i64 f.d0,.int .i64 f.d1,f.d2,f.d3,.int .i64 f.d4,f.d5]] J=some (.bool b,J')/\Fr AJ J J'
inductive yq (F S:List V->H->AH) (J0:H) (nT:Nat) (ty:Nat->Ty) (lo:Bool) (f:Fd) (v:Vc):Bool->Prop
 | abs (h:v=Vc.abs) (ho:(f.opt || f.has || lo)=true):yq F S J0 nT ty lo f v true
 | val {j:Nat} (h:Cu v.k (AA 0)=false) (hj:f.type=AA j) (hf:ACR F J0 nT ty j v) (hh:f.has=false):yq F S J0 nT ty lo f v true
 | dft {j:Nat} {b:Bool} (h:Cu v.k (AA 0)=false) (hj:f.type=AA j) (hf:ACR F J0 nT ty j v) (hh:f.has=true) (hs:SmA S J0 v f b):yq F S J0 nT ty lo f v (!b)
def Su (F:List V->H->AH):Prop:=∀{J:H},Af J->∃J',F [.agg Vc.abs.c] J=some (.bool true,J')/\Fr AJ J J'
def bS (F:List V->H->AH):Prop:=∀{J:H},Af J->∀(x:Ty) {nf:Nat} {fd:Nat->Fd},GO J 11 nf x.fields (fun k=>(fd k).c)->∀{k:Nat},k<nf->((fd k).opt || (fd k).has || Hk x.root (AA k))=true->∃J',F [.agg x.c,.int .i64 (AA k)] J=some (.bool true,J')/\Fr AJ J J'
section
variable {E:EB} {D:Az} {W:AM} {N:Nat} {J0:H} {p nT:Nat} {ty:Nat->Ty} {nm:BS} {nv rv tv:V} {rest:List V}
theorem AAf (hP:H6 (D 111)):Su (WE E D W N):=by
 intro J ht
 exact Qk hP ht (k:=AA 0) (n:=AA 0) (r:=AA 0) NB.nils NB.nils NB.nils
theorem AF8:bS (bj E D W N):=by
 intro J ht x nf fd hf k hk ho
 obtain⟨J',g,f⟩:=mf (E:=E) (D:=D) (W:=W) (N:=N) ht x hf hk
 rw[ho]at g
 exact⟨J',g,f⟩
theorem mK (hA:Su (D 188)) (hL:bS (D 189)) {J:H} {x:Ty} {nf:Nat} {fd:Nat->Fd} {g:Nat->Vc} {l r m:V} {kk:Int} {i dp q k:Nat} {ok:Bool} (hok:yq (D 59) (D 190) J0 nT ty (Hk x.root (AA k)) (fd k) (g k) ok) (f0:Fr AJ J0 J) (hd:dp<=16) (hlt:k<nf) (hc:Ck J p nT ty nm nv rv tv rest) (hf:GO J 11 nf x.fields fun k=>(fd k).c) (hr:GO J 6 nf l (fun k=>(g k).c)) (qa:B8 J q [.int .i64 kk,.int .i64 (AA 0),.nils,l,r,m]) :
  ∃J2,Fr AJ J J2/\∀K1 K3,JC E D W K1 K3 p 0 (AA i) (AA dp) q 0 x.fields (AA nf) (AA k) x.kind x.tags x.has x.hasLow x.hasHigh x.conMore x.low x.high x.items x.fields x.root x.more x.of_ J=sel ok (K3 p 0 (AA i) (AA dp) q 0 x.fields (AA nf) (AA k) x.kind x.tags x.has x.hasLow x.hasHigh x.conMore x.low x.high x.items x.fields x.root x.more x.of_ J2) (some (.bool false,J2)):=by
 have ht:=f0.tidy
 have rf:∀U,AT 11 x.fields (AA k) (fun b o=>BQ E J b o 11 U)=U (fd k).c:=fun U=>hf.all hlt U
 have rg:∀U,AT 6 l (AA k) (fun b o=>BQ E J b o 6 U)=U (g k).c:=fun U=>hr.all hlt U
 have d1:decide (k<nf)=true:=decide_eq_true hlt
 unfold Fd.c at rf
 cases hok with
 | abs h ho=>
  obtain⟨J1,g1,f1⟩:=hA ht
  obtain⟨J2,g2,f2⟩:=hL f1.tidy x (hf.fr0 f1 ht) hlt ho
  rw[h]at rg
  unfold Vc.c Vc.abs at rg g1
  unfold Ty.c at g2
  refine⟨J2,f1.trans f2 (fun _ _ h=>h),fun K1 K3=>?_⟩
  unfold JC
  simp -implicitDefEqProofs only [↓rP,rA,AD,AG,AB,d1,↓rf,(fd k).one2,(fd k).one3,(fd k).one5,↓AY qa,↓rg,DY,decide_true,↓g1,↓g2,Yp]
 | val hv hj hfit hh=>
  obtain⟨J2,g2,f2⟩:=hfit J p (dp+1) nm nv rv tv rest ht f0 hc (by omega)
  unfold Vc.c at rg g2
  refine⟨J2,f2,fun K1 K3=>?_⟩
  unfold JC
  simp -implicitDefEqProofs only [↓rP,rA,AD,AG,AB,d1,↓rf,(fd k).one2,(fd k).one3,(fd k).one5,↓AY qa,↓rg,(g k).oneB,(g k).oneL,(g k).oneM,hv,hh,hj,BX (show dp+1<=9223372036854775807 by omega),↓g2,Yp]
 | @dft j b hv hj hfit hh hs=>
  obtain⟨J2,g2,f2⟩:=hfit J p (dp+1) nm nv rv tv rest ht f0 hc (by omega)
  obtain⟨J3,g3,f3⟩:=hs J2 f2.tidy (f0.trans f2 (fun _ _ h=>h))
  unfold Vc.c at rg g2 g3
  refine⟨J3,f2.trans f3 (fun _ _ h=>h),fun K1 K3=>?_⟩
  unfold JC
  cases b with
  | true=>simp -implicitDefEqProofs only [↓rP,rA,AD,AG,AB,d1,↓rf,(fd k).one2,(fd k).one3,(fd k).one5,↓AY qa,↓rg,(g k).oneB,(g k).oneL,(g k).oneM,hv,hh,hj,BX (show dp+1<=9223372036854775807 by omega),↓g2,↓g3,Cn,FN,Yp,qm]
  | false=>simp -implicitDefEqProofs only [↓rP,rA,AD,AG,AB,d1,↓rf,(fd k).one2,(fd k).one3,(fd k).one5,↓AY qa,↓rg,(g k).oneB,(g k).oneL,(g k).oneM,hv,hh,hj,BX (show dp+1<=9223372036854775807 by omega),↓g2,↓g3,Cn,FN,Yp,qm]
theorem mL (hA:Su (D 188)) (hL:bS (D 189)) {x:Ty} {nf:Nat} {fd:Nat->Fd} {g:Nat->Vc} {l r m:V} {kk:Int} {i dp q:Nat} {ok:Nat->Bool} (hok:∀k,k<nf->yq (D 59) (D 190) J0 nT ty (Hk x.root (AA k)) (fd k) (g k) (ok k)) (hd:dp<=16) (hnf:nf<=10000) :
  ∀(c n' k:Nat) (J:H),k+c=nf->c<n'->Fr AJ J0 J->Ck J p nT ty nm nv rv tv rest->GO J 11 nf x.fields (fun k=>(fd k).c)->GO J 6 nf l (fun k=>(g k).c)->B8 J q [.int .i64 kk,.int .i64 (AA 0),.nils,l,r,m] ->
   ∃J',RN E D W N n' p 0 (AA i) (AA dp) q 0 x.fields (AA nf) (AA k) x.kind x.tags x.has x.hasLow x.hasHigh x.conMore x.low x.high x.items x.fields x.root x.more x.of_ J=sel (fO ok c k) (Uf E D W N p 0 (AA i) q 0 J') (some (.bool false,J'))/\Fr AJ J J':=by
 intro c
 induction c with
 | zero=>
  intro n' k J hk hn' f0 hc hf hr hq
  obtain⟨n',rfl⟩:∃k,n'=k+1:=⟨n'-1,by omega⟩
  refine⟨J,?_,Fr.refl f0.tidy⟩
  show JC E D W _ _ p 0 (AA i) (AA dp) q 0 x.fields (AA nf) (AA k) _ _ _ _ _ _ _ _ _ _ _ _ _ J=_
  unfold JC
  rw[Ek,decide_eq_false (by omega),Co]
  rfl
 | succ c ih=>
  intro n' k J hk hn' f0 hc hf hr hq
  obtain⟨n',rfl⟩:∃k,n'=k+1:=⟨n'-1,by omega⟩
  have ht:=f0.tidy
  obtain⟨J2,f2,step⟩:=mK (E:=E) (W:=W) (i:=i) hA hL (hok k (by omega)) f0 hd (by omega) hc hf hr hq
  show ∃J',JC E D W _ (Q3 E D W (RN E D W N n')) p 0 (AA i) (AA dp) q 0 x.fields (AA nf) (AA k) _ _ _ _ _ _ _ _ _ _ _ _ _ J=_/\_
  rw[step]
  unfold fO
  cases hokk:ok k with
  | false=>exact⟨J2,rfl,f2⟩
  | true=>
   obtain⟨J3,h3,f3⟩:=ih n' (k+1) J2 (by omega) (by omega) (f0.trans f2 (fun _ _ h=>h)) (hc.fr f2 ht) (hf.fr0 f2 ht) (hr.fr0 f2 ht) (f2.at_ hq ht (fun h=>h))
   refine⟨J3,?_,f2.trans f3 (fun _ _ h=>h)⟩
   rw[Hz,<-h3]
   show Q3 E D W (RN E D W N n') p 0 (AA i) (AA dp) q 0 x.fields (AA nf) (AA k) x.kind x.tags x.has x.hasLow x.hasHigh x.conMore x.low x.high x.items x.fields x.root x.more x.of_ J2=_
   unfold Q3
   rw[BX (by omega)]
theorem Uu (hP:H6 (D 111)) (hA:Su (D 188)) (hL:bS (D 189)) {J:H} {nf K:Nat} {fd:Nat->Fd} {g:Nat->Vc} {l:V} {hl:l.one=true} {r:Int} {mv:V} {hm:mv.one=true} {i dp:Nat} {ok:Nat->Bool} {rb:Bool} (hok:∀k,k<nf->yq (D 59) (D 190) J nT ty (Hk (ty i).root (AA k)) (fd k) (g k) (ok k)) (hd:dp<=16) (hi:i<nT) (hN:nf<N) (hnf:nf<=10000)
  {nm':Nat} (hml:NB mv nm')
  (hR:∀J1,Af J1->Fr AJ J J1->∃J',D 187 [.ptr p 0,.int .i64 (AA i),.agg (Vr K l hl r mv hm).c] J1=some (.bool rb,J')/\Fr AJ J1 J')
  (hG:∀J1,Af J1->Fr AJ J J1->∃J',D 191 [.ptr p 0,.int .i64 (AA i),.agg (Vr K l hl r mv hm).c] J1=some (.bool true,J')/\Fr AJ J1 J')
  (ht:Af J) (hc:Ck J p nT ty nm nv rv tv [.bool false]) (hf:GO J 11 nf (ty i).fields fun k=>(fd k).c) (hr:GO J 6 nf l (fun k=>(g k).c)) :
  ∃J',YN E D W N [.ptr p 0,.int .i64 (AA i),.agg (Vr K l hl r mv hm).c,.int .i64 (AA dp)] J=some (.bool (rb&&fO ok nf 0),J')/\Fr AJ J J':=by
 obtain⟨J1,e1,f1,a1,n1⟩:=Ay ht (Vr K l hl r mv hm).c
 have c1:=hc.fr f1 ht
 have rd:∀U,AT 13 tv (AA i) (fun b o=>BQ E J1 b o 13 U)=U (ty i).c:=fun U=>c1.row.all hi U
 obtain⟨J2,g2,f2⟩:=hP J1 (AA 12) (AA K) (AA 0) r .nils l mv 0 nf nm' f1.tidy NB.nils hr.len hml
 rw[show TR (AA 12) (AA K) (AA 0) 0 nf r nm'=true from rfl]at g2
 have f02:=f1.trans f2 (fun _ _ h=>h)
 obtain⟨J3,g3,f3⟩:=hR J2 f2.tidy f02
 have f03:=f02.trans f3 (fun _ _ h=>h)
 have a2:B8 J2 J.next [.int .i64 (AA K),.int .i64 (AA 0),.nils,l,.int .i64 r,mv]:=f2.at_ a1 f1.tidy (fun h=>h)
 have a3:B8 J3 J.next [.int .i64 (AA K),.int .i64 (AA 0),.nils,l,.int .i64 r,mv]:=f3.at_ a2 f2.tidy (fun h=>h)
 obtain⟨J4,h4,f4⟩:=mL (E:=E) (W:=W) (N:=N) (x:=ty i) (i:=i) (q:=J.next) hA hL hok hd hnf nf N 0 J3 (by omega) hN f03 (hc.fr f03 ht) (hf.fr0 f03 ht) (hr.fr0 f03 ht) a3
 have f04:=f03.trans f4 (fun _ _ h=>h)
 obtain⟨J5,g5,f5⟩:=hG J4 f4.tidy f04
 have a4:B8 J4 J.next [.int .i64 (AA K),.int .i64 (AA 0),.nils,l,.int .i64 r,mv]:=f4.at_ a3 f3.tidy (fun h=>h)
 have hln:=hr.len.2
 have hlf:=hf.len.2
 have e1':DR J (.cells [.int .i64 (AA K),.int .i64 (AA 0),.nils,l,.int .i64 r,mv])=J1:=e1
 have a1':B8 J1 J.next [.int .i64 (AA K),.int .i64 (AA 0),.nils,l,.int .i64 r,mv]:=a1
 have g3':D 187 [.ptr p 0,.int .i64 (AA i),.agg [.int .i64 (AA K),.int .i64 (AA 0),.nils,l,.int .i64 r,mv]] J2=some (.bool rb,J3):=g3
 have g5':D 191 [.ptr p 0,.int .i64 (AA i),.agg [.int .i64 (AA K),.int .i64 (AA 0),.nils,l,.int .i64 r,mv]] J4=some (.bool true,J5):=g5
 unfold vc at g2
 have d1:decide (nf=nf)=true:=decide_eq_true rfl
 cases rb with
 | false=>
  refine⟨J3,?_,f03⟩
  show Nm E D W _ p 0 (AA i) (AA K) (AA 0) .nils l r mv (AA dp) J=_
  unfold Nm
  simp -implicitDefEqProofs only [↓rP,rA,AD,AG,AB,hl,hm,↓e1',↓c1.types,↓rd,Ty.c,(ty i).oneT,(ty i).oneI,(ty i).oneF,↓AY a1',↓BT a1',↓g2,↓AY a2,↓BT a2,↓hln,↓hlf,d1,↓g3',Bool.false_and]
 | true=>
  have key:∀K',Nm E D W K' p 0 (AA i) (AA K) (AA 0) .nils l r mv (AA dp) J=K' p 0 (AA i) (AA dp) J.next 0 (ty i).fields (AA nf) (AA 0) (ty i).kind (ty i).tags (ty i).has (ty i).hasLow (ty i).hasHigh (ty i).conMore (ty i).low (ty i).high (ty i).items (ty i).fields (ty i).root (ty i).more (ty i).of_ J3:=by
   intro K'
   unfold Nm
   simp -implicitDefEqProofs only [↓rP,rA,AD,AG,AB,hl,hm,↓e1',↓c1.types,↓rd,Ty.c,(ty i).oneT,(ty i).oneI,(ty i).oneF,↓AY a1',↓BT a1',↓g2,↓AY a2,↓BT a2,↓hln,↓hlf,d1,↓g3']
  have tail:Uf E D W N p 0 (AA i) J.next 0 J4=some (.bool true,J5):=by
   show Xb E D W p 0 (AA i) J.next 0 J4=_
   unfold Xb
   simp -implicitDefEqProofs only [↓rP,rA,AD,AG,AB,hl,hm,↓BT a4,↓g5']
  rw[Hz]
  cases hb:fO ok nf 0 with
  | true=>
   rw[hb]at h4
   exact⟨J5,((key _).trans h4).trans tail,f04.trans f5 (fun _ _ h=>h)⟩
  | false=>
   rw[hb]at h4
   exact⟨J4,(key _).trans h4,f04⟩
end
section
variable {E:EB} {D:Az} {W:AM} {N:Nat} {p nT:Nat} {ty:Nat->Ty} {nm:BS} {nv rv tv:V} {rest:List V}
theorem mI {J:H} {K i dp:Nat} {l:V} {hl:l.one=true} {r:Int} {m:V} {hm:m.one=true} {fb:Bool} (hK:K=7\/K=8) (ht:Af J) (hc:Ck J p nT ty nm nv rv tv rest) (hi:i<nT) (hd:dp<=17) (hk:(ty i).kind=AA K)
  (hF:∀J1,Af J1->Fr AJ J J1->∃J2,D 115 [.ptr p 0,.int .i64 (AA i),.agg (Vr K l hl r m hm).c,.int .i64 (AA dp)] J1=some (.bool fb,J2)/\Fr AJ J1 J2) :
  ∃J',xg E D W N [.ptr p 0,.int .i64 (AA i),.agg (Vr K l hl r m hm).c,.int .i64 (AA dp)] J=some (.bool fb,J')/\Fr AJ J J':=by
 obtain⟨J1,e1,f1,a1,n1⟩:=Ay ht (Vr K l hl r m hm).c
 obtain⟨J2,g,f2⟩:=hF J1 f1.tidy f1
 have c1:=hc.fr f1 ht
 have rd:∀U,AT 13 tv (AA i) (fun b o=>BQ E J1 b o 13 U)=U (ty i).c:=fun U=>c1.row.all hi U
 have hln:=c1.row.len.2
 unfold Vc.c Vr at e1 a1 g
 have d1:decide (nT<=i)=false:=decide_eq_false (by omega)
 have d2:decide (17<dp)=false:=decide_eq_false (by omega)
 refine⟨J2,?_,f1.trans f2 (fun _ _ h=>h)⟩
 show Vp E D W (fj E D W (fi E D W (sF E D W N))) p 0 (AA i) (AA K) (AA 0) .nils l r m (AA dp) J=_
 unfold Vp fj fi
 rcases hK with rfl|rfl
 ·simp -implicitDefEqProofs only [↓rP,rA,AD,AG,AB,PM,hl,hm,↓e1,↓c1.types,↓hln,d1,d2,↓rd,Ty.c,hk,(ty i).oneT,(ty i).oneI,(ty i).oneF,↓AY a1,↓BT a1,↓g]
 ·simp -implicitDefEqProofs only [↓rP,rA,AD,AG,AB,PM,hl,hm,↓e1,↓c1.types,↓hln,d1,d2,↓rd,Ty.c,hk,(ty i).oneT,(ty i).oneI,(ty i).oneF,↓AY a1,↓BT a1,↓g]
theorem qV {J:H} {i n:Nat} {v:Vc} {fb:Bool} (hn:n<=5000) (ht:Af J) (hr:GO J 13 nT tv fun i=>(ty i).c) (h1:nv.one=true) (h2:rv.one=true) (h3:tv.one=true)
  (hF:∀(J1:H) (p:Nat),Af J1->Fr AJ J J1->Ck J1 p nT ty nm nv rv tv [.bool false]->∃J2,D 59 [.ptr p 0,.int .i64 (AA i),.agg v.c,.int .i64 (AA 1)] J1=some (.bool fb,J2)/\Fr AJ J1 J2)
  (hC:∀J1:H,Af J1->Fr AJ J J1->∃J2,D 60 [.agg v.c] J1=some (.int .i64 (AA n),J2)/\Fr AJ J1 J2) :
  ∃J',xj E D W N [.agg [.str nm,nv,rv,tv],.int .i64 (AA i),.agg v.c] J=some (.bool fb,J')/\Fr AJ J J':=by
 cases fb with
 | true=>exact xa hn ht hr h1 h2 h3 hF hC
 | false=>
  obtain⟨J1,e1,f1,a1,n1⟩:=Ay ht [.str nm,nv,rv,tv]
  obtain⟨J2,e2,f2,a2,n2⟩:=Ay f1.tidy v.c
  obtain⟨J3,e3,f3,a3,n3⟩:=Ay f2.tidy [.str nm,nv,rv,tv,.bool false]
  have f02:=f1.trans f2 (fun _ _ h=>h)
  have f03:=f02.trans f3 (fun _ _ h=>h)
  have r3:=hr.fr0 f03 ht
  have c3:Ck J3 J2.next nT ty nm nv rv tv [.bool false]:=⟨a3,h1,h2,h3,r3,fun b hb e=>by
   subst e
   have lo:=f02.le
   rcases hr.is with ⟨_,rfl⟩|⟨b,c,L,rfl,ha,_⟩
   ·exact hb
   ·have:=ha.lt ht
    have hb:J2.next=b:=hb
    omega⟩
  obtain⟨J4,g4,f4⟩:=hF J3 J2.next f3.tidy f03 c3
  have f04:=f03.trans f4 (fun _ _ h=>h)
  have a12:=f2.at_ a1 f1.tidy (fun h=>h)
  have a23:=f3.at_ a2 f2.tidy (fun h=>h)
  refine⟨J4,?_,f04⟩
  unfold Vc.c at e2 a2 a23 g4
  show Vw E D W nm nv rv tv (AA i) v.k v.n v.b v.l v.r v.m J=_
  unfold Vw
  simp -implicitDefEqProofs only [↓rP,rA,AD,AG,AB,h1,h2,h3,v.oneB,v.oneL,v.oneM,↓e1,↓e2,↓e3,↓BT a12,↓BT a23,↓g4]
end
theorem Yr {A:List Nat} {i:Nat} (h:WJ i A):∀j,2<=j->(j<=i\/j=2)->WJ j (Gt A):=by
 induction h with
 | nil=>intro j _ _;exact .nil _
 | @cons i s r hs hr ih=>
  intro j h2 hj
  by_cases h:2<=s
  ·have e:Gt (s::r)=s::Gt r:=by
    unfold Gt;rw[List.filter_cons_of_pos (by simpa using h)]
   rw[e]
   exact .cons (by omega) (ih (s+1) (by omega) (.inl (AN _)))
  ·have e:Gt (s::r)=Gt r:=by
    unfold Gt;rw[List.filter_cons_of_neg (by simpa using h)]
   rw[e]
   exact ih j h2 (by omega)
theorem Yq {A:List Nat}:∀s∈Gt A,s∈A:=fun s h=>(List.mem_filter.1 h).1
theorem Ow (A:List Nat):(Gt A).length<=A.length:=List.length_filter_le _ _
theorem Us:∀(Rs:List Nat) (us:List V) (k:Nat),Rs.length=us.length->k<Rs.length->lH (Rn Rs us) 2 k [.int .i64 (AA (Rs.getD k 0)),us.getD k .nils]
 | [],_,_,_,h=>by simp at h
 | s::Rs,[],_,h,_=>by simp at h
 | s::Rs,u::us,0,_,_=>⟨by show 0*2+2<=_;simp[Rn],rfl⟩
 | s::Rs,u::us,k+1,h,hk=>by
  obtain⟨h1,h2⟩:=Us Rs us k (by simpa using h) (by simpa using hk)
  refine⟨?_,?_⟩
  ·show (k+1)*2+2<=([V.int .i64 (AA s),u]++Rn Rs us).length
   rw[AL]
   show (k+1)*2+2<=2+(Rn Rs us).length
   omega
  ·show (([V.int .i64 (AA s),u]++Rn Rs us).drop ((k+1)*2)).take 2=_
   rw[show (k+1)*2=2+k*2 by omega,<-IP]
   exact h2
def Zn (J:H) (m:V) (C Rs:List Nat):Prop:=∃us:Nat->V,GO J 2 Rs.length m (fun i=>[.int .i64 (AA (Rs.getD i 0)),us i])/\∀i,i<Rs.length->By J (us i) (nI C)
theorem Zn.fr0 {J J':H} {m:V} {C Rs:List Nat} (h:Zn J m C Rs) (f:Fr AJ J J') (ht:Af J):Zn J' m C Rs:=by
 obtain⟨us,h1,h2⟩:=h
 exact⟨us,h1.fr0 f ht,fun i hi=>(h2 i hi).fr f ht⟩
theorem Rr.i {lo:Nat} {J:H} {m:V} {C Rs:List Nat} (h:Rr lo J m C Rs):Zn J m C Rs:=by
 obtain⟨us,h1,h2,_,h4⟩:=h
 refine⟨fun i=>us.getD i .nils,⟨?_⟩,fun i hi=>?_⟩
 ·have cel:∀k,k<Rs.length->lH (Rn Rs us) 2 k [.int .i64 (AA (Rs.getD k 0)),us.getD k .nils]:=fun k hk=>Us Rs us k h2.symm hk
  rcases h1 with (⟨h0,rfl,_⟩|⟨b,rfl,ha,_,_⟩)|⟨b,rfl,ha,_⟩
  ·exact .inl ⟨h0,rfl⟩
  ·exact .inr ⟨b,_,_,rfl,ha,cel⟩
  ·exact .inr ⟨b,_,_,rfl,ha,cel⟩
 ·obtain⟨u,q1,q2,_⟩:=h4 i Rs[i] (AZ hi)
  have e1:us.getD i .nils=u:=by rw[Ad,q1];rfl
  show By J (us.getD i .nils) _
  rw[e1];exact q2
def Rh:Bool->Vc
 | true=>⟨AA 1,AA 1,.nils,.nils,AA 0,.nils,rfl,rfl,rfl⟩
 | false=>Vc.abs
def gU (x0 x1:Bool):Nat->Vc
 | 0=>Rh x0
 | _=>Rh x1
theorem qi (b:Bool):(Rh b).l = .nils/\(Rh b).r=AA 0:=by cases b<;>exact⟨rfl,rfl⟩
theorem uO (x0 x1:Bool) (k:Nat):(gU x0 x1 k).l = .nils/\(gU x0 x1 k).r=AA 0:=by
 cases k with
 | zero=>exact qi x0
 | succ k=>exact qi x1
theorem Ko {J:H} {lb:Nat} {x0 x1:Bool} {c:Zy} (h:B8 J lb (Oz x0 x1)):GO J 6 2 (.sl lb 0 2 c) fun k=>(gU x0 x1 k).c:=
 ⟨.inr ⟨lb,_,_,rfl,h,fun k hk=>by
  have:k=0\/k=1:=by omega
  rcases this with rfl|rfl<;>cases x0<;>cases x1<;>exact⟨by decide,rfl⟩⟩⟩
def vU (lb r:Nat) (mv:V) (hm:mv.one=true):Vc:=Vr 7 (.sl lb 0 2 (.ex 2)) rfl (AA r) mv hm
structure bQ (J:H) (lb:Nat) (C A:List Nat) (mv:V):Prop where
 alb:B8 J lb (Oz (OP A) (OO A))
 rw:Zn J mv C (Gt A)
 inc:WJ 0 A
 lt:∀s∈A,s<100
 few:A.length<=100
 ct:L0 C
theorem bQ.fr0 {J J':H} {lb:Nat} {C A:List Nat} {mv:V} (h:bQ J lb C A mv) (f:Fr AJ J J') (ht:Af J):bQ J' lb C A mv:=⟨f.at_ h.alb ht (fun h=>h),h.rw.fr0 f ht,h.inc,h.lt,h.few,h.ct⟩
def T6 (F:List V->H->AH):Prop:=∀{J:H} {u:V} {C:List Nat},By J u (nI C)->L0 C->F [u] J=some (.bool true,J)
def gr (Pt:H->Prop) (nm:BS) (nv rv tv:V) (ty:Nat->Ty) (F:List V->H->AH):Prop:=∀{J:H} {p lb:Nat} {mv:V} {hm:mv.one=true} {C A:List Nat},Af J->Ck J p 3 ty nm nv rv tv [.bool false]->Pt J->bQ J lb C A mv->∃J',F [.ptr p 0,.int .i64 (AA 0),.agg (vU lb (HX A) mv hm).c] J=some (.bool true,J')/\Fr AJ J J'
def hU (Pt:H->Prop) (nm:BS) (nv rv tv:V) (ty:Nat->Ty) (F:List V->H->AH):Prop:=∀{J:H} {p:Nat},Af J->Ck J p 3 ty nm nv rv tv [.bool false]->Pt J->∀v:Vc,∃J',F [.ptr p 0,.int .i64 (AA 0),.agg v.c] J=some (.bool true,J')/\Fr AJ J J'
def iA (F:List V->H->AH):Prop:=∀{J:H} {p nT j dp:Nat} {nm:BS} {nv rv tv:V} {ty:Nat->Ty} {rest:List V},Af J->Ck J p nT ty nm nv rv tv rest->j<nT->dp<=17->(ty j).kind=AA 1->∃J',F [.ptr p 0,.int .i64 (AA j),.agg (Rh true).c,.int .i64 (AA dp)] J=some (.bool true,J')/\Fr AJ J J'
def Sr (Pt:H->Prop) (nm:BS) (nv rv tv:V) (ty:Nat->Ty) (F:List V->H->AH):Prop:=∀{J:H} {p lb dp:Nat} {mv:V} {hm:mv.one=true} {C A:List Nat},Af J->Ck J p 3 ty nm nv rv tv [.bool false]->Pt J->bQ J lb C A mv->dp<=16->∃J',F [.ptr p 0,.int .i64 (AA 0),.agg (vU lb (HX A) mv hm).c,.int .i64 (AA dp)] J=some (.bool true,J')/\Fr AJ J J'
def iE (F:List V->H->AH):Prop:=∀{J:H} (v:Vc),Af J->v.l = .nils->∃J',F [.agg v.c] J=some (.int .i64 (AA 1),J')/\Fr AJ J J'
def gv (F:List V->H->AH):Prop:=∀{J:H} (v:Vc) (ru:Int),Af J->v.l = .nils->v.r=AA 0->∃J',F [.agg v.c,.int .i64 ru] J=some (.bool true,J')/\Fr AJ J J'
def vB (F:List V->H->AH):Prop:=∀{J:H} {q:Nat} {ru:Int} (v:Vc),Af J->v.l = .nils->v.r=AA 0->B8 J q [.int .i64 ru]->∃J',F ([]++[.agg v.c]++[.ptr q 0]) J=some (.bool false,J')/\Fr AJ J J'
def iD (F:List V->H->AH):Prop:=∀{J:H} {lb:Nat} {mv:V} {hm:mv.one=true} {C A:List Nat},Af J->bQ J lb C A mv->∃J',F [.agg (vU lb (HX A) mv hm).c] J=some (.int .i64 (AA (1+2)),J')/\Fr AJ J J'
def gu (F:List V->H->AH):Prop:=∀{J:H} {lb:Nat} {mv:V} {hm:mv.one=true} {C A:List Nat},Af J->bQ J lb C A mv->∃J',F [.agg (vU lb (HX A) mv hm).c,.int .i64 (AA 2)] J=some (.bool true,J')/\Fr AJ J J'
def Ze (Pt:H->Prop) (nm:BS) (nv rv tv:V) (F:List V->H->AH):Prop:=∀{J:H} {lb:Nat} {mv:V} {hm:mv.one=true} {C A:List Nat},Af J->Pt J->bQ J lb C A mv->∃J',F [.agg [.str nm,nv,rv,tv],.int .i64 (AA 0),.agg (vU lb (HX A) mv hm).c] J=some (.bool true,J')/\Fr AJ J J'
section
variable {E:EB} {D:Az} {W:AM} {N:Nat} {Sl Fl:List V->H->AH} {m:Nat} {Pt:H->Prop} {nm:BS} {nv rv tv:V} {ty:Nat->Ty} {fd:Nat->Fd}
theorem LM.pn (hT:LM Sl Fl m Pt nm nv rv tv ty fd):∀J J',Af J->Fr AJ J J'->Pt J->Pt J':=fun _ _ ht f hp=>hT.ptf ht f (fun _ h=>h.elim) hp
theorem lV:T6 (kG E D W N):=by
 intro J u C hu hC
 have sl:∀U:Nat->AH,BA u U=U C.length:=fun U=>by rw[hu.slen,Bf]
 have h1:=hC.pos
 have h2:=hC.few
 have d1:decide (0<C.length)=true:=decide_eq_true h1
 have d2:decide (C.length<=70000)=true:=decide_eq_true (by omega)
 show XQ E D W u J=_
 unfold XQ
 simp -implicitDefEqProofs only [↓rP,rA,AD,AG,AB,↓sl,d1,d2]
theorem zo (hT:LM (D 176) Fl m Pt nm nv rv tv ty fd) (hV:T6 (D 182)) (hN:101<N):gr Pt nm nv rv tv ty (bm E D W N):=by
 intro J p lb mv hm C A ht hc hp hr
 obtain⟨J1,e1,f1,a1,n1⟩:=Ay ht (vU lb (HX A) mv hm).c
 have c1:=hc.fr f1 ht
 have rd:∀U,AT 13 tv (AA 0) (fun b o=>BQ E J1 b o 13 U)=U (ty 0).c:=fun U=>c1.row.all (by decide) U
 obtain⟨kv,bl,J2,g2,sl2,f2,_,_⟩:=hT.sl J1 f1.tidy (hT.pn _ _ ht f1 hp)
 have F2:=f1.trans f2 (fun _ _ h=>h)
 have a2:=f2.at_ a1 f1.tidy (fun h=>h)
 obtain⟨us,row,hus⟩:=hr.rw
 have rlen:=Ow A
 have few:=hr.few
 have sl:=row.len.2
 have sk:=sl2.row.len.2
 have ko:=sl2.one
 have hk0:=hT.k0
 have hmo:=hT.mor
 have loop:∀(q n' i lst:Nat) (J3:H),i+q=(Gt A).length->q<n'->WJ lst ((Gt A).drop i)->Fr AJ J2 J3->(Gt A)≠[]->∃J',Uc E D W N n' p 0 (AA 0) J.next 0 (AA lst) mv (AA (Gt A).length) (AA i) (AA 7) (ty 0).tags (ty 0).has (ty 0).hasLow (ty 0).hasHigh (ty 0).conMore (ty 0).low (ty 0).high (ty 0).items (ty 0).fields (ty 0).root (ty 0).more (ty 0).of_ (AA 0) (AA 0) J3=some (.bool true,J')/\Fr AJ J2 J':=by
  intro q
  induction q with
  | zero=>
   intro n' i lst J3 hi hn' hinc f hne
   obtain⟨n',rfl⟩:∃k,n'=k+1:=⟨n'-1,by omega⟩
   have d1:decide (i<(Gt A).length)=false:=decide_eq_false (by omega)
   refine⟨J3,?_,f⟩
   have key:∀K3,Nd E D W (XP E D W) K3 p 0 (AA 0) J.next 0 (AA lst) mv (AA (Gt A).length) (AA i) (AA 7) (ty 0).tags (ty 0).has (ty 0).hasLow (ty 0).hasHigh (ty 0).conMore (ty 0).low (ty 0).high (ty 0).items (ty 0).fields (ty 0).root (ty 0).more (ty 0).of_ (AA 0) (AA 0) J3=some (.bool true,J3):=by
    intro K3
    unfold Nd XP
    simp -implicitDefEqProofs only [↓rP,rA,AD,AG,AB,d1]
   exact key _
  | succ q ih=>
   intro n' i lst J3 hi hn' hinc f hne
   obtain⟨n',rfl⟩:∃k,n'=k+1:=⟨n'-1,by omega⟩
   have hlt:i<(Gt A).length:=by omega
   have F3:Fr AJ J J3:=F2.trans f (fun _ _ h=>h)
   rw[B4 hlt]at hinc
   obtain⟨s,hs⟩:∃s,s=(Gt A)[i]:=⟨_,rfl⟩
   rw[<-hs]at hinc
   have hmem:s∈Gt A:=by rw[hs];exact DK hlt
   have hs100:=hr.lt s (Yq s hmem)
   have hgd:(Gt A).getD i 0=s:=by rw[Ad,AZ hlt,hs];rfl
   cases hinc with
   | cons hls hinc=>
   have ob:=(hus i hlt).fr F3 ht
   have g4:=hV ob hr.ct
   obtain⟨J',g',f'⟩:=ih n' (i+1) (s+1) J3 (by omega) (by omega) hinc f hne
   refine⟨J',?_,f'⟩
   rw[<-g']
   have d1:decide (i<(Gt A).length)=true:=decide_eq_true hlt
   have r1:∀U,AT 2 mv (AA i) (fun b o=>BQ E J3 b o 2 U)=U [.int .i64 (AA s),us i]:=fun U=>by rw[<-hgd];exact(row.fr0 F3 ht).all hlt U
   have bo:(us i).one=true:=EY.one ob
   have a3:=f.at_ a2 F2.tidy (fun h=>h)
   have er:HX A=2:=by
    unfold HX
    cases h:Gt A with
    | nil=>exact absurd h hne
    | cons _ _=>rfl
   have l4:∀U:V->AH,BL E J3 J.next (Ac 0 4) U=U (.int .i64 (AA 2)):=fun U=>Gp a3 (by show some (V.int .i64 (AA (HX A)))=_;rw[er])
   have ho:allOne [V.int .i64 (AA s),us i]=true:=by simp[Bd,Bo,bo,DN]
   have d2:decide (s<lst)=false:=decide_eq_false (by omega)
   have d3:decide (1000<=s)=false:=decide_eq_false (by omega)
   have key:∀K1 K3,Nd E D W K1 K3 p 0 (AA 0) J.next 0 (AA lst) mv (AA (Gt A).length) (AA i) (AA 7) (ty 0).tags (ty 0).has (ty 0).hasLow (ty 0).hasHigh (ty 0).conMore (ty 0).low (ty 0).high (ty 0).items (ty 0).fields (ty 0).root (ty 0).more (ty 0).of_ (AA 0) (AA 0) J3=K3 p 0 (AA 0) J.next 0 (AA (s+1)) mv (AA (Gt A).length) (AA i) (AA 7) (ty 0).tags (ty 0).has (ty 0).hasLow (ty 0).hasHigh (ty 0).conMore (ty 0).low (ty 0).high (ty 0).items (ty 0).fields (ty 0).root (ty 0).more (ty 0).of_ (AA 0) (AA 0) J3:=by
    intro K1 K3
    unfold Nd
    simp -implicitDefEqProofs only [↓rP,rA,AD,AG,AB,DU,d1,↓r1,ho,bo,↓l4,DY,decide_true,d2,d3,↓g4,Cn,BX (show s+1<=9223372036854775807 by omega)]
   refine(key _ _).trans ?_
   show Tw E D W (Uc E D W N n') p 0 (AA 0) J.next 0 (AA (s+1)) mv (AA (Gt A).length) (AA i) (AA 7) (ty 0).tags (ty 0).has (ty 0).hasLow (ty 0).hasHigh (ty 0).conMore (ty 0).low (ty 0).high (ty 0).items (ty 0).fields (ty 0).root (ty 0).more (ty 0).of_ (AA 0) (AA 0) J3=_
   unfold Tw
   rw[BX (show i+1<=9223372036854775807 by omega)]
 have pt:=c1.at_
 simp only[Ez,Cy]at pt
 have hT1:=(ty 0).oneT
 have hT2:=(ty 0).oneI
 have hT3:=(ty 0).oneF
 have ho':=(ty 0).allOne
 unfold Ty.c at rd ho'
 rw[hk0]at rd ho'
 by_cases hne:Gt A=[]
 ·have e0:(Gt A).length=0:=by rw[hne];rfl
  have er:HX A=0:=by unfold HX;rw[hne];rfl
  rw[e0]at sl
  refine⟨J1,?_,f1⟩
  unfold vU Vc.c Vr at e1 a1 ⊢
  rw[er]at e1 a1 ⊢
  show Nf E D W _ p 0 (AA 0) (AA 7) (AA 0) .nils (.sl lb 0 2 (.ex 2)) (AA 0) mv J=_
  unfold Nf G9
  simp -implicitDefEqProofs only [↓rP,rA,AD,AG,AB,DU,hm,↓e1,↓c1.types,↓rd,hT1,hT2,hT3,ho',↓AY a1,↓BT a1,↓sl,DY,decide_true]
 ·have hpos:0<(Gt A).length:=List.length_pos_iff.2 hne
  have er:HX A=2:=by
   unfold HX
   cases h:Gt A with
   | nil=>exact absurd h hne
   | cons _ _=>rfl
  obtain⟨J',g,f⟩:=loop (Gt A).length N 0 2 J2 (by omega) (by omega) (by rw[CO];exact Yr hr.inc 2 (AN _) (.inr rfl)) (Fr.refl f2.tidy) hne
  refine⟨J',?_,F2.trans f (fun _ _ h=>h)⟩
  rw[<-g]
  have d0:decide ((Gt A).length=0)=false:=decide_eq_false (by omega)
  unfold vU Vc.c Vr at e1 a1 a2 ⊢
  rw[er]at e1 a1 a2 ⊢
  have key:∀K2,Nf E D W K2 p 0 (AA 0) (AA 7) (AA 0) .nils (.sl lb 0 2 (.ex 2)) (AA 2) mv J=K2 p 0 (AA 0) J.next 0 (AA 2) mv (AA (Gt A).length) (AA 0) (AA 7) (ty 0).tags (ty 0).has (ty 0).hasLow (ty 0).hasHigh (ty 0).conMore (ty 0).low (ty 0).high (ty 0).items (ty 0).fields (ty 0).root (ty 0).more (ty 0).of_ (AA 0) (AA 0) J2:=by
   intro K2
   unfold Nf G9
   simp -implicitDefEqProofs only [↓rP,rA,AD,AG,AB,DU,hm,↓e1,↓c1.types,↓rd,hT1,hT2,hT3,ho',↓AY a1,↓BT a1,↓sl,DY,d0,show decide (2=1)=false from rfl,hmo,Cn,FN,decide_true,↓BT pt,c1.n1,c1.r1,c1.t1,↓g2,↓CM ko,↓sk,↓AY a2]
   rfl
  exact key _
theorem AAK (hT:LM (D 176) Fl m Pt nm nv rv tv ty fd) (hN:2<N):hU Pt nm nv rv tv ty (YJ E D W N):=by
 intro J p ht hc hp v
 exact dy (i:=0) (nf:=2) (fd:=fd) hT.pn hT.sl (by simpa using hN) (by decide) ht hp hc (by decide) ⟨hT.k0,hT.frow J hp,by decide⟩ (fun k hk=>by
  have:k=0\/k=1:=by simpa using hk
  omega) (fun k hk=>(hT.fty k (by
  have:k=0\/k=1:=by simpa using hk
  omega)).2.2.2) v
theorem AAO (hP:H6 (D 111)):iA (xg E D W N):=by
 intro J p nT j dp nm nv rv tv ty rest ht hc hi hd hk
 obtain⟨J1,e1,f1,a1,n1⟩:=Ay ht (Rh true).c
 have c1:=hc.fr f1 ht
 obtain⟨J2,g2,f2⟩:=hP J1 (AA 1) (AA 1) (AA 1) (AA 0) .nils .nils .nils 0 0 0 f1.tidy NB.nils NB.nils NB.nils
 have a2:=f2.at_ a1 f1.tidy (fun h=>h)
 have rd:∀U,AT 13 tv (AA j) (fun b o=>BQ E J1 b o 13 U)=U (ty j).c:=fun U=>c1.row.all hi U
 have hp:TR (AA 1) (AA 1) (AA 1) 0 0 (AA 0) 0=true:=rfl
 have hl:=c1.row.len
 rw[hp]at g2
 unfold Rh Vc.c at e1 a1 a2 ⊢
 unfold vc at g2
 have d1:decide (nT<=j)=false:=decide_eq_false (by omega)
 have d2:decide (17<dp)=false:=decide_eq_false (by omega)
 refine⟨J2,?_,f1.trans f2 (fun _ _ h=>h)⟩
 show Vp E D W _ p 0 (AA j) (AA 1) (AA 1) .nils .nils (AA 0) .nils (AA dp) J=_
 unfold Vp
 simp -implicitDefEqProofs only [↓rP,rA,AD,AG,AB,PM,↓e1,↓c1.types,↓hl.2,d1,d2,↓rd,Ty.c,hk,(ty j).oneT,(ty j).oneI,(ty j).oneF,↓AY a1,↓BT a1,↓g2,↓AY a2]
theorem AAQ (hT:LM Sl Fl m Pt nm nv rv tv ty fd) (hP:H6 (D 111)) (hA:Su (D 188)) (hL:bS (D 189)) (hV:iA (D 59)) (hR:gr Pt nm nv rv tv ty (D 187)) (hG:hU Pt nm nv rv tv ty (D 191)) (hN:100<N):Sr Pt nm nv rv tv ty (YN E D W N):=by
 intro J p lb dp mv hm C A ht hc hp hr hd
 obtain⟨us,row,_⟩:=hr.rw
 have key:=Uu (E:=E) (W:=W) (N:=N) (K:=7) (l := .sl lb 0 2 (.ex 2)) (hl:=rfl) (r:=AA (HX A)) (mv:=mv) (hm:=hm) (ok:=fun _=>true) (rb:=true) (g:=gU (OP A) (OO A)) (fd:=fd) (J:=J) (p:=p) (i:=0) (dp:=dp) (nf:=2) hP hA hL (fun k hk=>by
  have hgk:∃b,gU (OP A) (OO A) k=Rh b:=by
   cases k with
   | zero=>exact⟨_,rfl⟩
   | succ k=>exact⟨_,rfl⟩
  obtain⟨b,e⟩:=hgk
  cases b with
  | true=>
   rw[e]
   exact .val rfl (hT.fty k hk).1 (fun J1 p1 dp1 nm1 nv1 rv1 tv1 rest1 h1 f hc1 hd1=>hV h1 hc1 (by omega) hd1 (hT.kd k hk)) (hT.fty k hk).2.2.1
  | false=>
   refine .abs e ?_
   rw[hT.root]
   have:Hk (AA 0) (AA k)=true:=by rw[HN];exact decide_eq_true (CH _)
   rw[this,Bool.or_true]) hd (by omega) (by omega) (by omega) row.len
  (fun J1 h1 f=>hR h1 (hc.fr f ht) (hT.pn _ _ ht f hp) (hr.fr0 f ht))
  (fun J1 h1 f=>hG h1 (hc.fr f ht) (hT.pn _ _ ht f hp) (vU lb (HX A) mv hm)) ht hc (hT.frow J hp) (Ko hr.alb)
 exact key
theorem AAN (hT:LM Sl Fl m Pt nm nv rv tv ty fd) (hF:Sr Pt nm nv rv tv ty (D 115)):Sr Pt nm nv rv tv ty (xg E D W N):=by
 intro J p lb dp mv hm C A ht hc hp hr hd
 exact mI (K:=7) (.inl rfl) ht hc (by omega) (by omega) hT.k0 (fun J1 h1 f=>hF h1 (hc.fr f ht) (hT.pn _ _ ht f hp) (hr.fr0 f ht) hd)
theorem AAc (hN:0<N):iE (sW E D W N):=fun v ht hl=>ZC (n:=0) (g:=fun _=>v) (by omega) (by omega) ht ⟨.inl ⟨rfl,hl⟩⟩ (fun _ k hk=>absurd hk (PM _))
theorem AAb (hC:iE (D 60)) (hN:100<N):iD (sW E D W N):=by
 intro J lb mv hm C A ht hr
 exact ZC (v:=vU lb (HX A) mv hm) (n:=2) (g:=gU (OP A) (OO A)) (by omega) (by omega) ht (Ko hr.alb) (fun J1 k hk f=>hC (gU (OP A) (OO A) k) f.tidy (uO _ _ k).1)
theorem zq {D':Az} (hC:iF (D 116) D'):gv (xe E D W N):=fun v ru ht hl hr=>Ys (n:=0) (g:=fun _=>v) hC (by omega) (by rw[hr];rfl) ht ⟨.inl ⟨rfl,hl⟩⟩ (fun _ _ k hk=>absurd hk (PM _))
theorem AF1 (hR:gv (D 61)):vB (bq E D W N):=fun v ht hl hr ha=>cf (fun J1 h1 f=>hR v _ h1 hl hr) ht ha
theorem zp {D':Az} (hC:iF (D 116) D') (h1:vB (D' 117)):gu (xe E D W N):=by
 intro J lb mv hm C A ht hr
 have hv:(Cu (AA (HX A)) (AA 0) || Cu (AA (HX A)) (AA 2))=true:=by
  unfold HX
  cases Gt A<;>rfl
 exact Ys hC (v:=vU lb (HX A) mv hm) (n:=2) (g:=gU (OP A) (OO A)) (by omega) hv ht (Ko hr.alb) (fun J1 q1 k hk f ha=>h1 (gU (OP A) (OO A) k) f.tidy (uO _ _ k).1 (uO _ _ k).2 ha)
theorem AAP (hT:LM Sl Fl m Pt nm nv rv tv ty fd) (hV:Sr Pt nm nv rv tv ty (D 59)) (hC:iD (D 60)):Ze Pt nm nv rv tv (xj E D W N):=by
 intro J lb mv hm C A ht hp hr
 exact qV (n:=1+2) (by omega) ht (hT.row J hp) hT.o1 hT.o2 (hT.ab hp).2 (fun J1 p h1 f hc=>hV h1 hc (hT.pn _ _ ht f hp) (hr.fr0 f ht) (by decide)) (fun J1 h1 f=>hC h1 (hr.fr0 f ht))
end
def Mw (F:List V->H->AH) (x:Ty) (v0:Vc) (S:List Nat) (B:List Bool) (g:Nat->Vc) (nT:Nat) (ty:Nat->Ty) (nf:Nat) (fd:Nat->Fd) (My:Nat) (Q:H->Prop):Prop:=∀{J0 J:H} {eb w:Nat} {u sv bv:V} {bl:Nat->Nat} {L:List Nat} {nm:BS} {nv rv tv:V} {lo:Nat},
 Af J0->Q J0->Tb J0 nT ty nv rv tv->Iq J0 x nf fd->GO J0 6 nf v0.l (fun k=>(g k).c)->Wk J0 J eb w u [.str nm,nv,rv,tv] L->Sk J w u sv S bl->Bk J w u bv B->L.length<900000->V.beq sv sv=true->V.beq bv bv=true->V.beq (.agg [.str nm,nv,rv,tv]) (.agg [.str nm,nv,rv,tv])=true ->
 J0.next<=lo->lo<=J.next->eb<lo->(∀b,Ai sv b->b<lo)->(∀j,j<S.length->bl j<lo)->(∀b,Ai bv b->lo<=b) ->
 ∃Y u' J',F [.ptr eb 0,.agg x.c,.agg v0.c,sv,bv] J=some (.tup [],J')/\Pw J' w u' (L++Y)/\Y.length<=My/\Fr (fun c=>Ht w u c\/lo<=c) J J'/\∀b,Ai u' b->Ai u b\/J.next<=b
def Mu (F:List V->H->AH):Prop:=∀(J:H) (w p:Nat) (u x:V) (L O:List Nat),Pw J w u L->Af J->L.length<5000000->O.length<16384->(∀c∈O,c<256)->B8 J p [x]->By J x (nI O) ->
 ∃X u' J',(0<X.length/\X.length<=8*O.length+40)/\F [.ptr w 0,.sl p 0 1 (.ex 1)] J=some (.tup [],J')/\D1 J w u J' u' (L++X)
section
variable {E:EB} {D D':Az} {N:Nat} {nT:Nat} {ty:Nat->Ty} {nm:BS} {nv rv tv:V} {nf:Nat} {fd:Nat->Fd} {g:Nat->Vc} {ab:Nat->Bool} {X:Nat->List Nat} {K S:List Nat}
theorem aW {P:H->Prop} (hPf:∀J J',Af J->Fr AJ J J'->P J->P J') {i:Nat} (hOS:PE P S i nm nv rv tv (D 176)) (hA:RC (D 188) nf g ab) (hC:V3 (D 204) D')
    (hq:∀(J:H) (q k:Nat) (l:V) (hl:l.one=true) (r:Int) (mv:V) (hm:mv.one=true),Af J->GO J 6 nf l (fun k=>(g k).c)->k<nf->B8 J q (Vc.sq l hl r mv hm).c->∃J',D' 205 ([]++[.int .i64 (AA k)]++[.ptr q 0]) J=some (.bool (!ab k),J')/\Fr AJ J J')
    (hCB:oO (D 206)) (hFl:Gq (D 118)) (hOF:Zd P i nm nv rv tv (ty i).root K (D 103)) (hSo:Mv (D 207) nT ty nf fd g ab X)
    {l:V} {hl:l.one=true} {r:Int} {mv:V} {hm:mv.one=true} {nm':Nat} (hml:NB mv nm') {My:Nat} {Q:H->Prop} (hMy:My<=400000) (hAd:(decide (0<nm') || (S.map fun k=>!ab k).any id)=true->Mw (D 208) (ty i) (Vc.sq l hl r mv hm) S (S.map fun k=>!ab k) g nT ty nf fd My Q)
    (hS:∀k∈S,k<nf) (hSl:S.length<=1000) (hKn:∀k∈K,k<nf) (hKl:K.length<400) (hX:∀k,(X k).length<=1000) (hN:1001<N)
    {J0 J:H} (ht0:Af J0) (hP:P J0) (hQ0:Q J0) (T:Tb J0 nT ty nv rv tv) (hi:i<nT) (hs:Iq J0 (ty i) nf fd) (hr:GO J0 6 nf l fun k=>(g k).c) {eb w:Nat} {u:V} {L:List Nat} (wk:Wk J0 J eb w u [.str nm,nv,rv,tv] L) (hL:L.length<400000)
    (hxb:V.beq (.agg (ty i).c) (.agg (ty i).c)=true) (hvb:V.beq (.agg (Vc.sq l hl r mv hm).c) (.agg (Vc.sq l hl r mv hm).c)=true) (htb:V.beq (.agg [.str nm,nv,rv,tv]) (.agg [.str nm,nv,rv,tv])=true)
    (hsb:∀(J:H) (sv:V) (bl:Nat->Nat),JT J sv S bl->V.beq sv sv=true) :
    ∃Z u' J',YL E D (Ao E D) N [.ptr eb 0,.int .i64 (AA i),.agg (Vc.sq l hl r mv hm).c] J=some (.tup [],J') /\
      D1 J w u J' u' (L++Z)/\(if(ty i).more=true then 1 else 0)<=Z.length/\Z.length<=1+1001*K.length+My:=by
  obtain⟨J1,e1,f1,a1,n1⟩:=Ay wk.tidy (Vc.sq l hl r mv hm).c
  obtain⟨J2,e2,f2,a2,n2⟩:=Ay f1.tidy [.int .i64 (AA 0),.nils,.bool false,.bool false,.bool false,.bool false,.int .i64 (AA 0),.int .i64 (AA 0),.nils,.nils,.int .i64 (AA 0),.bool false,.int .i64 (AA 0)]
  obtain⟨J3,e3,f3,a3⟩:=Ci f2.tidy a2 (ty i).c
  have l1:=f1.le
  have l2:=f2.le
  have f13:Fr AJ J1 J3:=f2.trans f3 (fun b hb e=>by omega)
  have f03:=f1.trans f13 (fun _ _ h=>h)
  have w1:=wk.fr f1
  have w3:=wk.fr f03
  have b3:=f13.at_ a1 f1.tidy (fun h=>h)
  have x3:Kp J3 w u J1.next (ty i).c:=Kp.new wk.pw wk.tidy l1 f13.tidy a3
  have v3:Kp J3 w u J.next (Vc.sq l hl r mv hm).c:=Kp.new wk.pw wk.tidy (AN _) f13.tidy b3
  obtain⟨sv,bl,J4,g4,sl,f4,nsv,nbl⟩:=hOS J3 f13.tidy (hPf _ _ ht0 w3.f hP)
  have w4:=w3.fr f4
  have x4:=x3.fr f4 w3.tidy
  have v4:=v3.fr f4 w3.tidy
  obtain⟨bv,J5,g5,f5,h5⟩:=WM (N:=N) (E:=E) (W:=Ao E D) (i:=i) (eb:=eb) (q6:=J1.next) hA hC hq hS hSl w4.tidy (hr.fr0 w4.f ht0) v4.a sl S.length N 0 .nils J4 (by omega) (by omega) (Fr.refl w4.tidy) (Nw.nil J4 J4 1)
  have w5:=w4.fr f5
  have x5:=x4.fr f5 w4.tidy
  have v5:=v4.fr f5 w4.tidy
  have l03:=f03.le
  have l4:=f4.le
  have s4:Sk J4 w u sv S bl:=⟨sl,fun b hb=>E4.pw wk.pw wk.tidy (Ae l03 (nsv b hb)) (by
    rcases sl.row.is with ⟨_,rfl⟩|⟨b',c,M,rfl,ha,_⟩
    · exact hb.elim
    · have h:b=b':=hb
      subst h;exact ha.lt w4.tidy),fun j hj=>E4.pw wk.pw wk.tidy (Ae l03 (nbl j hj)) ((sl.at_ j _ (AZ hj)).lt w4.tidy)⟩
  have s5:=s4.fr f5 w4.tidy
  have b5:Bk J5 w u bv (S.map fun k=>!ab k):=⟨by rw[DH];exact h5.1,fun b hb=>E4.pw wk.pw wk.tidy (by have:=h5.2 b hb;omega) (h5.1.lt w5.tidy hb)⟩
  have gc:=hCB J5 bv (S.map fun k=>!ab k) b5.d.src (by rw[DH];exact hSl)
  have a5v:=v5.a
  have a5x:=x5.a
  obtain⟨u6,J6,g6,s6⟩:∃u6 J6,(∀K3,Nk E D (Ao E D) K3 eb 0 (AA i) J.next 0 J1.next 0 sv bv J5=K3 eb 0 (AA i) J.next 0 J1.next 0 sv bv (decide (0<nm') || (S.map fun k=>!ab k).any id) J6)/\D1 J5 w u J6 u6 (L++(if(ty i).more=true then [W0 (decide (0<nm') || (S.map fun k=>!ab k).any id)] else [])):=by
    generalize hla:(S.map fun k=>!ab k).any id=la at *
    unfold Vc.sq Vc.c at a5v
    unfold Ty.c at a5x
    have ml:=hml.2
    cases hmo:(ty i).more with
    | true=>
      obtain⟨u6,J6,g6,s6⟩:=hFl J5 eb w u L (decide (0<nm') || la) _ w5.e w5.pw w5.tidy (by omega)
      refine⟨u6,J6,fun K3=>?_,by rw[if_pos rfl];exact s6⟩
      rw[hmo]at a5x
      unfold Nk
      by_cases h0:0<nm'
      · rw[decide_eq_true h0,Bool.true_or]at g6
        simp -implicitDefEqProofs only [↓rP,rA,AD,AG,AB,↓AY a5v,↓ml,decide_eq_true h0,↓AY a5x,↓g6]
      · rw[decide_eq_false h0,DL]at g6
        simp -implicitDefEqProofs only [↓rP,rA,AD,AG,AB,↓AY a5v,↓ml,decide_eq_false h0,↓gc,↓AY a5x,↓g6]
    | false=>
      refine⟨u,J5,fun K3=>?_,by rw[if_neg (by decide),Am];exact D1.refl w5.pw w5.tidy⟩
      rw[hmo]at a5x
      unfold Nk
      by_cases h0:0<nm'
      · simp -implicitDefEqProofs only [↓rP,rA,AD,AG,AB,↓AY a5v,↓ml,decide_eq_true h0,↓AY a5x]
      · simp -implicitDefEqProofs only [↓rP,rA,AD,AG,AB,↓AY a5v,↓ml,decide_eq_false h0,↓gc,↓AY a5x]
  have w6:=w5.step s6
  have x6:=x5.step s6 w5.tidy
  have v6:=v5.step s6 w5.tidy
  have S6:=s5.step s6 w5.tidy
  have B6:=b5.step s6 w5.tidy
  have len6:(L++(if(ty i).more=true then [W0 (decide (0<nm') || (S.map fun k=>!ab k).any id)] else [])).length<=L.length+1:=by rw[AL];split<;>simp
  generalize hLa:(decide (0<nm') || (S.map fun k=>!ab k).any id)=la at *
  obtain⟨e',u7,J7,g7,q0,q5,q6,q7,q8,q11,s7⟩:=Wg (E:=E) (later:=la) (sv:=sv) (bv:=bv) hPf hOF hSo ht0 hP T hs hr hKn hKl w6 x6 v6 (by omega) hxb hvb htb
  have w7:=w6.step s7
  have a7x:=(x6.step s7 w6.tidy).a
  have a7v:=(v6.step s7 w6.tidy).a
  have S7:=S6.step s7 w6.tidy
  have B7:=B6.step s7 w6.tidy
  have f05:Fr AJ J J5:=(f03.trans f4 (fun _ _ h=>h)).trans f5 (fun _ _ h=>h)
  have hbo:=Sd (ab:=ab) hX K
  have hpo:=Pn (fun k=>(fd k).op) ab K
  have len7:((L++(if(ty i).more=true then [W0 la] else []))++(Po (fun k=>(fd k).op) ab K++KE ab X K)).length<900000:=by
    simp only[AL]at len6 ⊢;omega
  have l34:J.next<=J4.next:=by have:=f4.le;omega
  have f47:J4.next<=J7.next:=by have:=f5.le;have:=s6.f.le;have:=s7.f.le;omega
  obtain⟨Y,u8,J8,g8,p8,ly8,f8,nm8⟩:∃Y u8 J8,Tx E D (Ao E D) eb 0 (AA i) J.next 0 J1.next 0 sv bv la J6=some (.tup [],J8)/\Pw J8 w u8 ((L++(if(ty i).more=true then [W0 la] else []))++((Po (fun k=>(fd k).op) ab K++KE ab X K)++Y))/\Y.length<=My/\Fr (fun c=>Ht w u6 c\/J4.next<=c) J6 J8/\∀b,Ai u8 b->Ai u6 b\/J6.next<=b:=by
    have gd:∀U:CF->H->AH,DA (Ao E D N1 RU [(0,.ptr eb 0),(1,.int .i64 (AA i)),(5,.ptr J.next 0),(6,.ptr J1.next 0),(7,sv),(8,bv),(11,.bool la)] J6) U=U e' J7:=fun U=>by rw[g7];rfl
    have m0:∀U:V->AH,BW e' 0 U=U (.ptr eb 0):=fun U=>BG q0 rfl
    have m5:∀U:V->AH,BW e' 5 U=U (.ptr J.next 0):=fun U=>BG q5 rfl
    have m6:∀U:V->AH,BW e' 6 U=U (.ptr J1.next 0):=fun U=>BG q6 rfl
    have m7:∀U:V->AH,BW e' 7 U=U sv:=fun U=>BG q7 (DI sl.one)
    have m8:∀U:V->AH,BW e' 8 U=U bv:=fun U=>BG q8 (DI h5.1.one)
    have m11:∀U:V->AH,BW e' 11 U=U (.bool la):=fun U=>BG q11 rfl
    unfold Tx
    cases la with
    | false=>
      refine⟨[],u7,J7,?_,by rw[Am];exact s7.wr,CH _,s7.f.mono (fun _ _ h => .inl h),s7.g⟩
      simp -implicitDefEqProofs only [↓rP,rS,↓gd,↓m0,↓m5,↓m6,↓m7,↓m8,↓m11]
    | true=>
      have nsv':∀b,Ai sv b->b<J4.next:=fun b hb=>by
        rcases sl.row.is with ⟨_,rfl⟩|⟨b',c,M,rfl,ha,_⟩
        · exact hb.elim
        · have h:b=b':=hb
          subst h;exact ha.lt w4.tidy
      obtain⟨Y,u8,J8,g8,p8,ly8,f8,nm8⟩:=hAd rfl (lo:=J4.next) ht0 hQ0 T hs hr w7 S7 B7 len7 (hsb _ _ _ S7.s) (by
        rcases B7.d with (⟨_,h,_⟩|⟨b,h,_⟩)|⟨b,h,_⟩<;>rw[h]<;>exact As _ rfl) htb (by have:=wk.f.le;omega) f47 (by have:=wk.e.lt wk.tidy;omega) nsv' (fun j hj=>(sl.at_ j _ (AZ hj)).lt w4.tidy) (fun b hb=>h5.2 b hb)
      refine⟨Y,u8,J8,?_,by rw[Ab]at p8;exact p8,ly8,(s7.f.mono (fun _ _ h => .inl h):Fr (fun c=>Ht w u6 c\/J4.next<=c) J6 J7).trans f8 (fun b hb e=>by
        rcases e with e|e
        · rcases e with e | e
          · exact .inl (.inl e)
          · rcases s7.g b e with h | h
            · exact .inl (.inr h)
            · omega
        · exact .inr e),fun b hb=>(nm8 b hb).elim (s7.g b) (fun h => .inr (Ae s7.f.le h))⟩
      unfold Ty.c at a7x g8
      unfold Vc.sq Vc.c at a7v g8
      simp -implicitDefEqProofs only [↓rP,rS,↓gd,↓m0,↓m5,↓m6,↓m7,↓m8,↓m11,↓BT a7x,↓BT a7v,(ty i).oneT,(ty i).oneI,(ty i).oneF,hl,hm,↓g8]
  refine⟨_,u8,J8,?_,⟨by rw[Ab]at p8;exact p8,?_,?_⟩,?_,?_⟩
  · have rd:∀U,AT 13 tv (AA i) (fun b o=>BQ E J1 b o 13 U)=U (ty i).c:=fun U=>(T.row.fr0 w1.f ht0).all hi U
    have st:∀U:H->AH,Dt 13 J1.next 0 (.agg (ty i).c) J2 U=U J3:=fun U=>by
      rw[Cg a2 (by unfold Ty.c;simp[E8,Bd,Bo,DN,Gu,(ty i).oneT,(ty i).oneI,(ty i).oneF])]
      show U (EV J2 J1.next (.cells (ty i).c))=_
      rw[e3]
    have ee:=w1.e
    have e3e:=w3.e
    have n1':=T.n1
    have r1':=T.r1
    have t1':=T.t1
    have lsv:=sl.row.len.2
    have tb3:∀U:List V->AH,BQ E J3 eb 1 4 U=U [.str nm,nv,rv,tv]:=fun U=>(BT e3e).trans rfl
    have tv1:∀U:V->AH,BL E J1 eb 4 U=U tv:=fun U=>(AY ee).trans rfl
    unfold Ty.c at rd st
    unfold Vc.sq Vc.c at e1
    have k0:∀K2,Q0 E D (Ao E D) K2 eb 0 (AA i) (AA 7) (AA 0) .nils l r mv J=K2 eb 0 (AA i) J.next 0 J1.next 0 sv .nils sv (AA S.length) (AA 0) J4:=by
      intro K2
      unfold Q0
      simp -implicitDefEqProofs only [↓rP,rS,hl,hm,↓e1,↓tv1,↓rd,↓e2,↓st,↓tb3,n1',r1',t1',↓g4,↓CM sl.one,↓lsv]
    show Q0 E D (Ao E D) (Ud E D (Ao E D) N N) eb 0 (AA i) (AA 7) (AA 0) .nils l r mv J=_
    rw[k0,g5]
    show Nk E D (Ao E D) (Tx E D (Ao E D)) eb 0 (AA i) J.next 0 J1.next 0 sv bv J5=_
    rw[g6,g8]
  · have F6:Fr (Ht w u) J J6:=(f05.mono (fun _ _ h=>h.elim):Fr (Ht w u) J J5).trans s6.f (fun _ _ h=>h)
    refine F6.trans f8 (fun b hb e=>?_)
    rcases e with e|e
    · rcases e with e | e
      · exact .inl e
      · rcases s6.g b e with h | h
        · exact .inr h
        · have:=f05.le;omega
    · omega
  · intro b hb
    rcases nm8 b hb with h|h
    · rcases s6.g b h with h | h
      · exact .inl h
      · exact .inr (Ae f05.le h)
    · exact .inr (Ae (Ae f05.le s6.f.le) h)
  · simp only[AL]
    split<;>simp
  · simp only[AL]
    split<;>simp<;>omega
section
variable {W:AM}
theorem mm (hJ:PH (D 198)) (hC:Xx (D 199)) (hP:O9 (D 200)) (hO:PB (D 124)) (hE:T5 (D 124)) (hN:4<N):Mu (YM E D W N):=by
 intro J w p u x L O h ht hl hO' hc ap hx
 obtain⟨M,rfl⟩:∃k,N=k+3:=⟨N-3,by omega⟩
 obtain⟨y,J1,g1,n1,f1⟩:=hJ J p x O ht ap hx (by omega)
 obtain⟨cv,J2,g2,hcv,f2⟩:=hC J1 O.length f1.tidy (by omega)
 have f02:Fr AJ J J2:=f1.trans f2 (fun _ _ h=>h)
 have le1:=f1.le
 have y2:=n1.fr f2 f1.tidy
 have h2:=h.fr f02 ht
 have oc:∀b,Ai cv b->E4 J2 w u b:=fun b hb=>E4.pw h ht (by have:=hcv.2 b hb;omega) (hcv.1.lt f2.tidy hb)
 have oy:∀c,Ai y c->E4 J2 w u c:=fun c hc=>E4.pw h ht (n1.2 c hc) (y2.1.lt f2.tidy hc)
 have sc:=hcv.1.src
 have sl:∀U:Nat->AH,BA cv U=U (VT O.length).length:=fun U=>hcv.1.slen
 have sy:∀U:Nat->AH,BA y U=U O.length:=fun U=>by rw[n1.by_.slen,Bf]
 have k0:∀K,KN E D W K (.ptr w 0) (.sl p 0 1 (.ex 1)) J=K (.ptr w 0) y cv (AA (VT O.length).length) (AA 0) J2:=by
  intro K
  unfold KN
  simp -implicitDefEqProofs only [↓rP,rS,↓g1,↓CM n1.1.one,↓sy,↓g2,↓CM hcv.1.one,↓sl]
 have done:∀(t:V) (m:Nat) (J:H) (R:V->V->V->Int->Int->H->AH),Fb E D W R (.ptr w 0) t cv (AA m) (AA m) J=some (.tup [],J):=by
  intro t m J R
  unfold Fb
  simp -implicitDefEqProofs only [↓rP,rA,AD,AG,AB,CD]
 show ∃X u' J',_/\KN E D W (Fb E D W (Fb E D W (Fb E D W (Ue E D W (M+3) M)))) (.ptr w 0) (.sl p 0 1 (.ex 1)) J=_/\_
 rw[k0]
 have h1:O.length<16384:=hO'
 ·have ec:VT O.length=[O.length]:=by unfold VT;rw[if_pos h1]
  rw[ec]at sc
  obtain⟨X3,u3,J3,l3,g3,s3⟩:=hP J2 w u L O.length h2 f2.tidy (by omega) (.inl h1)
  have y3:By J3 y (nI O):=s3.row f2.tidy oy y2.by_
  obtain⟨u4,J4,g4,s4⟩:=hO J3 w u3 y _ O s3.wr s3.f.tidy (by rw[AL];omega) (by omega) hc y3 (fun c hc=>s3.off (oy c hc))
  have gz:=Yn (E:=E) (Sq.of y3) (GH.cap1 y2.1)
  rw[Bf]at gz
  have pre:CP 1 y none (some (.int .i64 (AA O.length))) none=some y:=by
   have:=gz fun v=>some (v,J)
   cases hs:CP 1 y none (some (.int .i64 (AA O.length))) none with
   | none=>rw[hs]at this;cases this
   | some v=>rw[hs]at this;cases this;rfl
  obtain⟨t,gt⟩:=TL (E:=E) (Sq.of y3) (GH.cap1 y2.1)
  rw[Bf]at gt
  have suf:CP 1 y (some (.int .i64 (AA O.length))) none none=some t:=by
   have:=gt fun v=>some (v,J)
   cases hs:CP 1 y (some (.int .i64 (AA O.length))) none none with
   | none=>rw[hs]at this;cases this
   | some v=>rw[hs]at this;cases this;rfl
  have k1:=mF (E:=E) (W:=W) pre suf sc (i:=0) rfl (by simp) (by simp) g3 g4
  rw[ec]
  refine⟨X3++A1 O,u4,J4,by simp only[AL,Cv];omega,?_,by have:=D1.behind f02 (s3.trans s4);rw[Ab]at this;exact this⟩
  exact(k1 _).trans (done _ 1 _ _)
end
end
end
end Go.Proofs.YtcpdffccolffaaaGreatDoor
