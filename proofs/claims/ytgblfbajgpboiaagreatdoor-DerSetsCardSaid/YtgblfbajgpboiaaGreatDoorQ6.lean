/- What the last text leans on, part 7 of 7: merged out of smaller texts. No condition. -/
import Derived.Test.YtgblfbajgpboiaaGreatDoorChecked
import Derived.Test.YtgblfbajgpboiaaGreatDoorCards
import Derived.KernelRfl
import Derived.Test.YtgblfbajgpboiaaGreatDoorQ5
open Int renaming ofNat -> AA,negSucc -> Az,ofNat_eq_natCast -> Db,tmod -> Lo,toNat_of_nonneg -> ot
open Nat renaming reduceEqDiff -> AB,reduceLeDiff -> AD,reduceLT -> AE,le_refl -> AK,add -> AP,ble_eq -> Ac,ble -> Ag,beq -> Ak,lt_or_ge -> Av,zero_add -> BA,le_trans -> Bc,eq_of_beq_eq_true -> Bo,mul_one -> B8,mod_eq_of_lt -> CY,not_lt_zero -> Cw,lt_irrefl -> C7,zero_le -> DZ,add_assoc -> D3,mul_le_mul_right -> EL,min -> Ex,beq_refl -> F9,le_add_right -> GF,add_sub_cancel_left -> IL,sub_self -> JG,add_zero -> JH,mod_lt -> QI
open Bool renaming and_eq_true -> AG,and_true -> A8,true_and -> Co,false_eq_true -> DE,false_or -> Dc,not_false -> FJ,or_true -> tO,false_and -> ABe
open List renaming getElem?_eq_getElem -> AM,length_cons -> AN,length_append -> AS,getElem?_eq_some_iff -> AY,mem_cons_self -> Ab,getElem?_map -> Aw,mem_cons -> Ax,length_set -> A9,mem_cons_of_mem -> BM,length_nil -> BQ,getElem?_append_right -> BR,getD_eq_getElem?_getD -> BT,eq_nil_of_length_eq_zero -> BW,length_take -> BY,getElem?_cons_succ -> Bb,getElem?_drop -> Bm,map_cons -> B3,length_drop -> CA,length_map -> CD,getElem?_take_of_lt -> CG,drop_drop -> CJ,getElem?_append_left -> CR,mem_singleton -> Cn,mem_of_getElem? -> DA,drop_eq_getElem_cons -> DB,getElem?_set_self -> DD,append_assoc -> DN,take_of_length_le -> Dj,mem_append -> EA,append_nil -> EC,take_length -> EN,not_mem_nil -> E5,drop_zero -> FI,take_add_one -> FW,nil_append -> Ff,mem_map -> GA,cons_append -> GG,map_nil -> HJ,length -> HK,take_zero -> IM,all_cons -> Jf,set_append_right -> KH,getElem?_set_ne -> Lm,drop_eq_nil_of_le -> Tx,take_append_drop -> WW,flatMap_append -> oq,pairwise_cons -> ABa,drop_left -> ABc
open Option renaming bind_eq_some_iff -> AV,map_eq_some_iff -> Aa,map_some -> CC,bind_some -> C0
open BitVec renaming ofInt -> BG
set_option linter.all false
set_option maxRecDepth 100000
namespace Go.Proofs.YtgblfbajgpboiaaGreatDoor
open Go Go.Og
noncomputable section
def AKz (tl:List Dr) (f:Bj) (tg:Nat × Nat):Prop:=∃t,tl[f.type]? = some t/\t.kind≠9/\t.tags=[tg]
structure ZC (tl:List Dr) (fs:List Bj) (tgs:List (Nat × Nat)):Prop where
 len:tgs.length=fs.length
 of:∀(k:Nat) (f:Bj) (tg:Nat × Nat),fs[k]? = some f->tgs[k]? = some tg->AKz tl f tg
 nd:tgs.Nodup
 few:fs.length<=5000
def XS (m:Cg) (F:List V->H->AF):Prop:=∀{U0 U:H} {xb:Nat} {nv tv dv lv fv:V} {tl:List Dr} {Q:Nat->Prop} {fs:List Bj} {tgs:List (Nat × Nat)} (op:Bool),Mk U0 U xb m nv tv dv tl lv Q->DL U 11 fs.length fv (Ir fs)->ZC tl fs tgs ->
 ∃U',F [.ptr xb 0,fv,.bool op] U=some (.bool true,U')/\Fr AL U U'
def TK (m:Cg) (F:List V->H->AF):Prop:=∀{U0 U:H} {xb:Nat} {nv tv dv lv:V} {tl:List Dr} {Q:Nat->Prop} {t:Dr} {u:V × V × V} {tgs:List (Nat × Nat)},Mk U0 U xb m nv tv dv tl lv Q->t.kind≠7->u.1.one=true->u.2.1.one=true->DL U 11 t.fields.length u.2.2 (Ir t.fields)->ZC tl t.fields tgs ->
 ∃U',F [.ptr xb 0,.agg (t.c u)] U=some (.bool true,U')/\Fr AL U U'
section
variable {E:EB} {D:Ai} {N:Nat}
theorem fz (hB:Zn (D 137)) {m:Cg} {U0 U:H} {xb k:Nat} {nv tv dv lv fv sv:V} {tl:List Dr} {Q:Nat->Prop} {fs:List Bj} {f:Bj} {tg:Nat × Nat} {ws:List V} (op:Bool) (h:Mk U0 U xb m nv tv dv tl lv Q) (hf:DL U 11 fs.length fv (Ir fs)) {t:Dr} {u:V × V × V} (hk:fs[k]? = some f) (h3:t.tags=[tg]) (hu:∀U',Fr AL U U'->eh U' lv f.type t u) (hs:DM U 1 ws.length sv ws) (hl:ws.length<=5000) (sx:∀b,AJ sv b->b≠xb/\¬AJ fv b) :
  ∃e' sv' U',AT E D M8 P7 [(0,.ptr xb 0),(1,fv),(2,.bool op),(7,sv),(8,.int .i64 (AA k))] U=some (e',U')/\Go.Og.look e' 0=some (.ptr xb 0)/\Go.Og.look e' 1=some fv/\Go.Og.look e' 2=some (.bool op)/\Go.Og.look e' 7=some sv'/\Go.Og.look e' 8=some (.int .i64 (AA k)) /\
   DM U' 1 (ws.length+1) sv' (ws++[u.1])/\(∀b,AJ sv' b->AJ sv b\/U.next<=b)/\Fr (AJ sv) U U':=by
 have hti:=h.ht
 have hx:=h.a
 unfold UZ at hx
 have fw:Fr AL U ⟨U.next+14,U.bl⟩:=(CO (E:=E) (n:=14) (S:=AL) hti).fr
 have g1:=hB (hu _ fw) h3
 have uo:=(hu _ fw).tg.one
 obtain⟨U2,e2⟩:∃U2,U2=(⟨U.next+14,(U.next+11,.cells [u.1])::U.bl⟩:H):=⟨_,rfl⟩
 have f2:Fr (fun k=>k=U.next+11) ⟨U.next+14,U.bl⟩ U2:=by
  rw[e2]
  refine⟨fun b hb=>?_,AK _,fun b hb hn=>?_⟩
  ·have hb:U.next+14<=b:=hb
   show BU ((U.next+11,_)::U.bl) b=none
   rw[Au,if_neg (by simp only[];omega)]
   exact fw.tidy b hb
  ·show BU ((U.next+11,_)::U.bl) b=_
   rw[Au,if_neg (by simp only[];omega)]
 have a2:CQ U2 (U.next+11) [u.1]:=by
  rw[e2]
  show BU ((U.next+11,_)::U.bl) _=_
  rw[Au,if_pos rfl]
 have xs:DL U2 1 1 (V.sl (U.next+11) 0 1 (.ex 1)) [u.1] := .inr ⟨_,_,_,_,rfl,a2,AK _,rfl⟩
 have sl:∀b,AJ sv b->b<U.next:=fun b hb=>hs.lt hti hb
 obtain⟨sv',U3,g3,d3,m3,f3⟩:=Du (E:=E) (bytes:=24) ((hs.fr fw hti (fun _ _ h=>h)).fr f2 fw.tidy (fun b hb e=>by have:=sl b hb;omega)) f2.tidy xs (by simp only[BC,BP,uo,A8]) (by unfold Bw;simp only[AG,Ac];omega)
 have n2:U2.next=U.next+14:=by rw[e2]
 obtain⟨fb,fo,fc,L,hfv,hfa,hfl,hfm⟩:∃b o c L,fv = .sl b o fs.length c/\CQ U b L/\o+fs.length*11<=L.length/\Ir fs=(L.drop o).take (fs.length*11):=by
  have hlt:=(AY.1 hk).1
  rcases hf with ⟨h0,_,_⟩|⟨b,o,c,L,e1,e2,e3,e4⟩
  ·omega
  ·exact⟨b,o,c,L,e1,e2,e3,e4⟩
 have hkl:k<fs.length:=(AY.1 hk).1
 have hLk:L[fo+k*11+1]? = some (.int .i64 (AA f.type)):=by
  have:=Y0 fs k f hk
  rw[hfm,CG (by omega),Bm]at this
  rw[D3];exact this
 have lvo:lv.one=true:=by
  obtain⟨ws,h1,_⟩:=h.w
  exact h1.one
 have lvb:V.beq lv lv=true:=by
  obtain⟨ws,h1,_⟩:=h.w
  exact QZ h1
 have svo:=hs.one
 have svo':=d3.one
 have fvo:=hf.one
 have nx:¬AJ sv xb:=fun e=>(sx _ e).1 rfl
 have nf:¬AJ sv fb:=fun e=>(sx _ e).2 (by rw[hfv];rfl)
 have go:Ll E D U 14 0 (AJ sv) M8 P7 ⟨[(0,.ptr xb 0),(1,fv),(2,.bool op),(7,sv),(8,.int .i64 (AA k))],U.next+14,[U.bl],[],0,[]⟩ _ U3:=
  Eo sv rfl (Fw rfl (Cp svo)) <|
  Eo (.ptr xb 0) rfl rfl <|
  Eo (.ptr xb 0) rfl rfl <|
  Eo (.ptr xb 5) rfl rfl <|
  N0 lv (CO hti) rfl (DC (b:=xb) (off:=5) rfl hx rfl hti nx lvb) fun _ r1=>
  Eo fv rfl (Fw rfl (Cp fvo)) <|
  Eo (.int .i64 (AA k)) rfl rfl <|
  Eo (.ptr fb (fo+k*11)) rfl (Fx hfv rfl hkl) <|
  Eo (.ptr fb (fo+k*11+1)) rfl rfl <|
  N0 (.int .i64 (AA f.type)) r1 rfl (DC (b:=fb) (off:=fo+k*11+1) rfl hfa hLk hti nf (B0 _ rfl)) fun _ r2=>
  QW u.1 r2 rfl (by decide) (S':=AL) (Fr.refl fw.tidy) (fun _ _ h=>h.elim) (fun _ h _ _=>h) (H6 (vs:=[lv,.int .i64 (AA f.type)]) rfl (by
   show (lv.live&&true)=true
   rw[Cp lvo];rfl) g1) fun _ _ _ r3=>
  xk (.sl (U.next+11) 0 1 (.ex 1)) (.cells [u.1]) 2048 r3 rfl (by decide) (by decide) (W7 rfl uo) fun _ r4=>
  QW sv' (by rw[<-e2]at r4;exact r4) rfl (by decide) (S':=AJ sv) f3 (fun _ _ h=>h) (fun b h h1 _=>by have:=sl b h;omega) (H7 rfl rfl g3) fun _ _ _ r5=>
  Eo sv' rfl (Fw rfl (Cp svo')) <|
  O5 r5
 obtain⟨d1,d2⟩:=ME (ops:=M8) go
 exact⟨_,sv',U3,d1,rfl,rfl,rfl,rfl,rfl,d3,fun b hb=>(m3 b hb).imp id (fun e=>by omega),d2⟩
theorem wo {m:Cg} (hB:Zn (D 137)) (hW:XR (D 136)) (hD:Xe (D 138)) (hN:10000<N):XS m (fF E D (AT E D) N):=by
  intro U0 U xb nv tv dv lv fv tl Q fs tgs op h hf ht
  have hti:=h.ht
  obtain⟨hlen,hof,hnd,hfew⟩:=ht
  have xl:=h.a.lt hti
  have loop:∀(q i n:Nat) (U1:H) (sv:V) (ws:List V),i+q=fs.length->q<n->ws.length=i->Fr AL U U1->DM U1 1 ws.length sv ws->(∀b,AJ sv b->U.next<=b)->zN U ws (tgs.take i) ->
      ∃U',TR E D (AT E D) N n xb 0 fv op sv (AA i) U1=some (.bool true,U')/\Fr AL U U':=by
    intro q
    induction q with
    | zero=>
      intro i n U1 sv ws hi hn hwl f hs na ho
      obtain⟨n,rfl⟩:∃k,n=k+1:=⟨n-1,by omega⟩
      have sl:∀J:Nat->AF,A0 fv J=J fs.length:=fun J=>hf.slen
      have d1:decide (i<fs.length)=false:=decide_eq_false (by omega)
      rw[Dj (by omega)]at ho
      have ho1:zN U1 ws tgs:=⟨ho.1,fun k w t hk ht=>⟨(ho.2 k w t hk ht).1.fr f hti (fun _ _ h=>h),(ho.2 k w t hk ht).2⟩⟩
      obtain⟨U2,g2,f2⟩:=hD f.tidy hs.src ho1 hnd (by omega)
      refine⟨U2,?_,f.trans f2 (fun _ _ h=>h)⟩
      have key:∀R,Pk E D (AT E D) (XI E D (AT E D)) R xb 0 fv op sv (AA i) U1=some (.bool true,U2):=by
        intro R
        unfold Pk XI
        simp -implicitDefEqProofs only [↓rP,rA,AB,AE,AD,↓sl,d1,↓g2]
      exact key _
    | succ q ih=>
      intro i n U1 sv ws hi hn hwl f hs na ho
      obtain⟨n,rfl⟩:∃k,n=k+1:=⟨n-1,by omega⟩
      have hlt:i<fs.length:=by omega
      obtain⟨fd,hfd⟩:∃fd,fs[i]? = some fd:=⟨fs[i],AM hlt⟩
      obtain⟨tg,htg⟩:∃tg,tgs[i]? = some tg:=⟨tgs[i],AM (by omega)⟩
      have hto:=hof i fd tg hfd htg
      have sl:∀J:Nat->AF,A0 fv J=J fs.length:=fun J=>hf.slen
      have d1:decide (i<fs.length)=true:=decide_eq_true hlt
      have h1:=h.fr f (fun _ h=>h.elim) (fun _ h=>h.elim)
      have hf1:=hf.fr f hti (fun _ _ h=>h)
      have hx1:=h1.a
      unfold UZ at hx1
      obtain⟨t,ht1,ht2,ht3⟩:=hto
      obtain⟨u,hu,hfr⟩:=h.ty ht1
      have gW:=hW (hfr U1 f) ht2
      have rf:∀J,AW 11 fv (AA i) (fun b o=>EG E U1 b (AP o 1) J)=J (.int .i64 (AA fd.type)):=fun J=>Gi hf1 hlt (by decide) (Y0 fs i fd hfd) J
      obtain⟨e',sv',U2,g2,t0,t1,t2,t7,t8,d2,m2,f2⟩:=fz (E:=E) (D:=D) hB op h1 hf1 hfd ht3 (fun U' f'=>hfr U' (f.trans f' (fun _ _ h=>h))) hs (by omega) (fun b hb=>⟨fun e=>by have:=na b hb;omega,fun e=>by have:=na b hb;have:=hf.lt hti e;omega⟩)
      have le:=f.le
      have f02:Fr AL U U2:=f.trans f2 (fun b hb e=>by have:=na b e;omega)
      have s0:DL U 2 1 u.1 (T2 [tg]):=by
        have:=hu.tg.s
        rw[ht3]at this
        exact this
      have b2:V.beq u.1 u.1=true:=by
        obtain⟨b,e⟩:=hu.tg.e (by rw[ht3];rfl)
        rw[e];exact B0 _ rfl
      obtain⟨U',g',f'⟩:=ih (i+1) n U2 sv' (ws++[u.1]) (by omega) (by omega) (by rw[AS,hwl];rfl) f02 (by rw[AS];exact d2) (fun b hb=>(m2 b hb).elim (na b) (fun e=>by omega)) (by
        rw[show tgs.take (i+1)=tgs.take i++[tg] from by rw[FW,htg];rfl]
        have hl2:(tgs.take i).length=i:=by rw[BY];omega
        refine⟨by rw[AS,AS,hwl,hl2];rfl,fun k w' t' hk' ht'=>?_⟩
        rcases Av k i with hki|hki
        · rw[CR (by omega)]at hk'
          rw[CR (by omega)]at ht'
          exact ho.2 k w' t' hk' ht'
        · rw[BR (by omega)]at hk'
          rw[BR (by omega)]at ht'
          rw[hwl]at hk'
          rw[hl2]at ht'
          obtain⟨j,hj⟩:∃j,k-i=j:=⟨_,rfl⟩
          rw[hj]at hk' ht'
          cases j with
          | succ j=>simp at hk'
          | zero=>cases hk';cases ht';exact⟨s0,b2⟩)
      refine⟨U',?_,f'⟩
      have gd:∀J:B6->H->AF,Cc (AT E D M8 P7 [(0,.ptr xb 0),(1,fv),(2,.bool op),(7,sv),(8,.int .i64 (AA i))] U1) J=J e' U2:=fun J=>by rw[g2];rfl
      have y0:∀J:V->AF,BL e' 0 J=J (.ptr xb 0):=fun J=>BH t0 rfl
      have y1:∀J:V->AF,BL e' 1 J=J fv:=fun J=>BH t1 (Cp hf.one)
      have y2:∀J:V->AF,BL e' 2 J=J (.bool op):=fun J=>BH t2 rfl
      have y7:∀J:V->AF,BL e' 7 J=J sv':=fun J=>BH t7 (Cp d2.one)
      have y8:∀J:V->AF,BL e' 8 J=J (.int .i64 (AA i)):=fun J=>BH t8 rfl
      have key:∀K R,Pk E D (AT E D) K R xb 0 fv op sv (AA i) U1=R xb 0 fv op sv' (AA (i+1)) U2:=by
        intro K R
        unfold Pk
        simp -implicitDefEqProofs only [↓rP,rA,AB,AE,AD,↓sl,d1,↓AZ hx1,↓rf,↓gW,↓gd,↓y0,↓y1,↓y2,↓y7,↓y8,A3 (show i+1<=9223372036854775807 by omega)]
      exact(key _ _).trans g'
  show ∃U',Sx E D (AT E D) (TR E D (AT E D) N N) xb 0 fv op U=_/\_
  have key:∀K,Sx E D (AT E D) K xb 0 fv op U=K xb 0 fv op .nils (AA 0) U:=fun K=>by unfold Sx;rfl
  rw[key]
  exact loop fs.length 0 N U .nils [] (by omega) (by omega) rfl (Fr.refl hti) (DM.nil _ _) (fun b hb=>hb.elim) ⟨by simp,fun k w t h _=>by simp at h⟩
theorem r7 {m:Cg} (hT:XS m (D 124)):TK m (fJ E D (AT E D) N):=by
 intro U0 U xb nv tv dv lv tl Q t u tgs h hk o1 o2 hf ht
 have hti:=h.ht
 obtain⟨U1,e1,f1,a1,n1⟩:=JI hti (t.c u)
 obtain⟨U2,g2,f2⟩:=hT t.more (h.fr f1 (fun _ h=>h.elim) (fun _ h=>h.elim)) (hf.fr f1 hti (fun _ _ h=>h)) ht
 refine⟨U2,?_,f1.trans f2 (fun _ _ h=>h)⟩
 have d7:decide (t.kind=7)=false:=decide_eq_false hk
 have o3:=hf.one
 unfold Dr.c at e1 a1
 show S1 E D (AT E D) (Xm E D (AT E D) N N) (.ptr xb 0) (AA t.kind) u.1 t.con.has t.con.hasLow t.con.hasHigh t.con.more t.con.low t.con.high u.2.1 u.2.2 (AA t.root) t.more (AA t.of_) U=_
 have key:∀K,S1 E D (AT E D) K (.ptr xb 0) (AA t.kind) u.1 t.con.has t.con.hasLow t.con.hasHigh t.con.more t.con.low t.con.high u.2.1 u.2.2 (AA t.root) t.more (AA t.of_) U=some (.bool true,U2):=by
  intro K
  unfold S1
  simp -implicitDefEqProofs only [↓rP,rA,AB,AE,AD,o1,o2,o3,↓e1,↓AZ a1,d7,↓g2]
 exact key _
end
theorem MI:∀(l:List Bj) (i:Nat) (f:Bj),l[i]? = some f->((Ir l).drop (i*11)).take 11=f.c
 | [],i,f,h=>by simp at h
 | x::l,0,f,h=>by simp at h;subst h;rfl
 | x::l,i+1,f,h=>by
  have h:l[i]? = some f:=by simpa using h
  show ((x.c++Ir l).drop ((i+1)*11)).take 11=_
  rw[show (i+1)*11=11+i*11 by omega,<-CJ,show (x.c++Ir l).drop 11=Ir l from rfl]
  exact MI l i f h
theorem xp {l:List Bj} {i j:Nat} {f:Bj} {c:V} (h:l[i]? = some f) (hj:j<11) (hc:f.c[j]? = some c):(Ir l)[i*11+j]? = some c:=by
 rw[<-MI l i f h,CG hj,Bm]at hc
 exact hc
theorem UB (v:V) (l:List Bj):∀(tl:List Dr) (ws:List (V × V × V)) (i:Nat) (t:Dr) (u:V × V × V),ws.length=tl.length->tl[i]? = some t->ws[i]? = some u->FC (Dd tl ws) (i*13+9) [v]=Dd (tl.set i { t with fields:=l }) (ws.set i (u.1,u.2.1,v))
 | x::tl,y::ws,0,t,u,_,h,h'=>by
  simp at h;subst h
  simp at h';subst h'
  show FC (x.c y++Dd tl ws) 9 _=({ x with fields:=l }:Dr).c (y.1,y.2.1,v)++Dd tl ws
  generalize Dd tl ws=z
  cases z<;>rfl
 | x::tl,y::ws,i+1,t,u,h,hi,hu=>by
  have ih:=UB v l tl ws i t u (by simpa using h) (by simpa using hi) (by simpa using hu)
  show FC (x.c y++Dd tl ws) ((i+1)*13+9) _=x.c y++Dd (tl.set i { t with fields:=l }) (ws.set i (u.1,u.2.1,v))
  rw[<-ih,show (i+1)*13+9=(x.c y).length+(i*13+9)by show _=13+_;omega,IU]
 | [],_,_,_,_,_,h,_=>by simp at h
 | _::_,[],_,_,_,h,_,_=>by simp at h
section
variable {U0 U U':H} {xb:Nat} {m:Cg} {nv tv dv lv:V} {tl:List Dr} {Q:Nat->Prop}
theorem Mk.fld (h:Mk U0 U xb m nv tv dv tl lv Q) {i:Nat} {t:Dr} {v:V} {l:List Bj} (hi:tl[i]? = some t) (hv:DL U 11 l.length v (Ir l)) (hn:∀b,AJ v b->b≠xb/\¬AJ lv b/\¬Q b) :
  ∃b U',(∀J:Nat->Nat->AF,AW 13 lv (AA i) J=J b (i*13))/\(∀J:H->AF,DX 1 b (AP (i*13) 9) v U J=J U')/\Mk U0 U' xb m nv tv dv (tl.set i { t with fields:=l }) lv Q/\Fr (AJ lv) U U':=by
 obtain⟨ws,h1,h2,h3⟩:=h.w
 have hlt:i<tl.length:=(AY.1 hi).1
 obtain⟨w0,hw0⟩:∃w,ws[i]? = some w:=⟨ws[i],AM (by omega)⟩
 have hlen:=Ha tl ws h2
 obtain⟨b,cp,he,hb⟩:∃b cp,lv = .sl b 0 tl.length cp/\CQ U b (Dd tl ws):=by
  rcases h1 with (⟨h0,_⟩|⟨b,hv,ha,_⟩)|⟨b,hv,ha,_⟩
  ·omega
  ·exact⟨b,_,hv,ha⟩
  ·exact⟨b,_,hv,ha⟩
 obtain⟨U',g,f,a⟩:=Wd (off:=i*13+9) (y:=v) h.ht hb hv.one (by omega)
 rw[UB v l tl ws i t w0 h2 hi hw0]at a
 have nmb:∀x,AJ lv x↔x=b:=fun x=>by rw[he];exact Iff.rfl
 have f':Fr (AJ lv) U U':=f.mono fun x _ e=>(nmb x).2 e
 refine⟨b,U',fun J=>?_,g,⟨f'.at_ h.a h.ht (fun e=>(h.lx _ e).1 rfl),⟨ws.set i (w0.1,w0.2.1,v),?_,by rw[A9,A9,h2],fun k t1 w hk hw=>?_⟩,h.lx,h.qx,h.x0,h.f.trans f' (fun x _ e=>by have:=(h.lx x e).2.1;omega)⟩,f'⟩
 ·rw[he,Cb hlt]
  show J b (0+i*13)=_
  rw[BA]
 ·rw[A9]
  have e13:(Dd (tl.set i { t with fields:=l }) (ws.set i (w0.1,w0.2.1,v))).length=tl.length*13:=by rw[Ha _ _ (by rw[A9,A9,h2]),A9]
  rcases h1 with (⟨h0,_⟩|⟨b',hv',ha,h0,hl⟩)|⟨b',hv',ha,hl⟩
  ·omega
  ·have:b'=b:=by rw[he]at hv';cases hv';rfl
   subst this
   exact .inl (.inr ⟨b',hv',a,h0,e13⟩)
  ·have:b'=b:=by rw[he]at hv';cases hv';rfl
   subst this
   exact .inr ⟨b',hv',a,e13⟩
 ·by_cases hk':i=k
  ·subst hk'
   rw[DD hlt]at hk
   rw[DD (by omega)]at hw
   cases hk
   cases hw
   obtain⟨x1,x2,x3,x4⟩:=h3 i t w0 hi hw0
   refine⟨x1.fr f' h.ht (fun x hx e=>(x4 x (.inl hx)).2.1 e),x2.fr f' h.ht (fun x hx e=>(x4 x (.inr (.inl hx))).2.1 e),hv.fr f' h.ht (fun x hx e=>(hn x hx).2.1 e),fun x hx=>?_⟩
   rcases hx with hx|hx|hx
   ·exact x4 x (.inl hx)
   ·exact x4 x (.inr (.inl hx))
   ·exact hn x hx
  ·rw[Lm hk']at hk hw
   obtain⟨x1,x2,x3,x4⟩:=h3 k t1 w hk hw
   exact⟨x1.fr f' h.ht (fun x hx e=>(x4 x (.inl hx)).2.1 e),x2.fr f' h.ht (fun x hx e=>(x4 x (.inr (.inl hx))).2.1 e),x3.fr f' h.ht (fun x hx e=>(x4 x (.inr (.inr hx))).2.1 e),x4⟩
end
def H2 (T:Ja) (d:Nat):List Bj->List Dr->Option (List Bj × List Dr)
 | [],tl=>some ([],tl)
 | f::fs,tl=>(T (d+1) f.type tl).bind fun r=>(H2 T d fs r.2).map fun q=>({ f with type:=r.1 }::q.1,q.2)
def sG (fs:List Bj):Prop:=∀(j k:Nat) (f g:Bj),j<k->fs[j]? = some f->fs[k]? = some g->(BB f.name).beq (BB g.name)=false
def Ka (m:Cg) (T:Ja) (F:List V->H->AF):Prop:=∀{U0 U:H} {xb:Nat} {nv tv dv lv iv fv:V} {tl tl':List Dr} {d i:Nat} {nd:Am} {Q:Nat->Prop} {fs':List Bj} {tgs:List (Nat × Nat)} {t:Dr},Ar U0->N5 U0 m nv tv dv->Mk U0 U xb m nv tv dv tl lv Q->(∀b,Q b->b<U.next)->d<=800 ->
 iv.one=true->DL U 11 nd.fields.length fv (Ir nd.fields)->(∀b,AJ fv b->b<U0.next)->m.tg≠2->nd.fields≠[]->sG nd.fields->nd.fields.length<=5000->H2 T d nd.fields tl=some (fs',tl')->tl'[i]? = some t->t.kind≠7->ZC (tl'.set i { t with fields:=fs' }) fs' tgs ->
 ∃lv' U',F [.ptr xb 0,.int .i64 (AA i),.agg (nd.c iv fv),.int .i64 (AA d)] U=some (.tup [],U')/\Mk U0 U' xb m nv tv dv (tl'.set i { t with fields:=fs' }) lv' Q/\(∀b,AJ lv' b->AJ lv b\/U.next<=b)/\Fr (fun b=>b=xb\/AJ lv b) U U'
section
variable {E:EB} {D:Ai} {N:Nat}
theorem iu (l:List Bj) (f:Bj):Ir (l++[f])=Ir l++f.c:=by unfold Ir;simp
theorem qV {U:H} {xb nb fb k:Nat} {iv fv l:V} {nd:Am} {i d:Int} {g:Bj} {c:List V} (hn:CQ U nb (nd.c iv fv)) (hf:DL U 11 nd.fields.length fv (Ir nd.fields)) (hk:nd.fields[k]? = some g) (ha:CQ U fb (.str (BB g.name)::c)) (hnm:sG nd.fields) (hl:nd.fields.length<=5000)
  {K7:Nat->Nat->Int->Int->Nat->Nat->Bool->V->Int->Nat->Nat->H->AF} {L:Nat->Nat->Nat->Int->Int->Nat->Nat->Bool->V->Int->Nat->Nat->Int->H->AF}
  (hL:∀n a b x y e f q v z g h w s,L (n+1) a b x y e f q v z g h w s=ZK E D (AT E D) K7 (j3 E D (AT E D) (L n)) a b x y e f q v z g h w s):∀(q j n:Nat),j+q=k->q<n ->
  L n xb 0 i d nb 0 true l (AA k) fb 0 (AA j) U=K7 xb 0 i d nb 0 true l (AA k) fb 0 U:=by
 have hkl:k<nd.fields.length:=(AY.1 hk).1
 intro q
 induction q with
 | zero=>
  intro j n hj hn'
  obtain⟨n,rfl⟩:∃q,n=q+1:=⟨n-1,by omega⟩
  have d1:decide (j<k)=false:=decide_eq_false (by omega)
  rw[hL]
  unfold ZK
  simp -implicitDefEqProofs only [↓rP,rA,AB,AE,AD,d1]
 | succ q ih=>
  intro j n hj hn'
  obtain⟨n,rfl⟩:∃q,n=q+1:=⟨n-1,by omega⟩
  have d1:decide (j<k)=true:=decide_eq_true (by omega)
  obtain⟨x,hx⟩:∃x,nd.fields[j]? = some x:=⟨nd.fields[j],AM (by omega)⟩
  have hb:=hnm j k x g (by omega) hx hk
  have rd:∀J,AW 11 fv (AA j) (fun b o=>EG E U b o J)=J (.str (BB x.name)):=fun J=>Gi (off:=0) hf (by omega) (by decide) (xp hx (by decide) rfl) J
  have hn1:=hn
  unfold Am.c at hn1
  rw[hL]
  refine Eq.trans ?_ (ih (j+1) n (by omega) (by omega))
  unfold ZK j3
  simp -implicitDefEqProofs only [↓rP,rA,AB,AE,AD,d1,↓AZ hn1,↓rd,↓AZ ha,hb,A3 (show j+1<=9223372036854775807 by omega)]
end
section
variable {E:EB} {D:Ai} {N:Nat}
theorem Qp {m:Cg} {T:Ja} (hT:Gk m T (D 27)) (hA:TK m (D 103)) (hN:10000<N):Ka m T (F82 E D (AT E D) N):=by
  intro U0 U xb nv tv dv lv iv fv tl tl' d i nd Q fs' tgs t ht0 hs0 h hQ hd io hf hfb htg hne hnm hl hs hti hk7 htgs
  have ht:=h.ht
  have le0:=h.f.le
  have fo:=hf.one
  have lx:=h.a.lt ht
  obtain⟨U1,e1,f1,a1,n1⟩:=JI ht (nd.c iv fv)
  have h1:Mk U0 U1 xb m nv tv dv tl lv (fun b=>Q b\/b=U.next\/AJ .nils b):=(h.ext (Q':=fun b=>Q b\/b=U.next\/AJ .nils b) (fun b q=>by
    rcases q with q|q|q
    · exact .inl q
    · exact .inr (by omega)
    · exact q.elim)).fr f1 (fun _ e=>e.elim) (fun _ e=>e.elim)
  have loop:∀(fs:List Bj) (k n:Nat) (gs fs2:List Bj) (Uk:H) (lk lvk:V) (tlk:List Dr),nd.fields.drop k=fs->fs.length<n->gs.length=k->k+fs.length=nd.fields.length->H2 T d fs tlk=some (fs2,tl')->gs++fs2=fs'->Mk U0 Uk xb m nv tv dv tlk lvk (fun b=>Q b\/b=U.next\/AJ lk b)->CQ Uk U.next (nd.c iv fv)->DM Uk 11 gs.length lk (Ir gs)->(∀b,AJ lk b->U.next<b)->(∀b,AJ lvk b->AJ lv b\/U.next<b)->Fr (fun b=>b=xb\/AJ lv b) U Uk->U.next<Uk.next ->
      ∃lv' U',lu E D (AT E D) N n xb 0 (AA i) (AA d) U.next 0 true lk (AA k) Uk=some (.tup [],U')/\Mk U0 U' xb m nv tv dv (tl'.set i { t with fields:=fs' }) lv' Q/\(∀b,AJ lv' b->AJ lv b\/U.next<=b)/\Fr (fun b=>b=xb\/AJ lv b) U U':=by
    intro fs
    induction fs with
    | nil=>
      intro k n gs fs2 Uk lk lvk tlk hdr hn hgl hkl hs2 hgf hk an hlk nlk nlv f lt
      obtain⟨n,rfl⟩:∃q,n=q+1:=⟨n-1,by omega⟩
      cases hs2
      rw[EC]at hgf
      subst hgf
      obtain⟨t',et⟩:∃t',t'=({ t with fields:=gs }:Dr):=⟨_,rfl⟩
      have hlt:i<tl'.length:=(AY.1 hti).1
      have hk0:Mk U0 Uk xb m nv tv dv tl' lvk Q:=hk.ext fun b q => .inl (.inl q)
      obtain⟨b,U2,g1,g2,h2,f2⟩:=hk0.fld hti hlk.src (fun b hb=>⟨fun e=>by have:=nlk b hb;omega,fun e=>(hk.lx b e).2.2 (.inr (.inr hb)),fun q=>by have:=nlk b hb;have:=hQ b q;omega⟩)
      have g2':∀J:H->AF,DX 1 b (i*13+9) lk Uk J=J U2:=g2
      rw[<-et]at h2 htgs
      obtain⟨u,hu,_⟩:=h2.ty (DD hlt)
      have hfd:=hu.fd
      have ek:t'.kind=t.kind:=by rw[et]
      have ef:t'.fields=gs:=by rw[et]
      obtain⟨U3,g3,f3⟩:=hA h2 (by rw[ek];exact hk7) hu.tg.one hu.it.one hfd (by rw[ef];exact htgs)
      have ldn:∀J:List V->AF,Bv E U2 b (i*13) 13 J=J (t'.c u):=fun J=>by
        have:=hu.rd E J
        rw[g1]at this
        exact this
      have h3:=h2.fr f3 (fun _ e=>e.elim) (fun _ e=>e.elim)
      rw[et]at h3
      refine⟨lvk,U3,?_,h3,fun b hb=>(nlv b hb).imp id (fun e=>by omega),(f.trans f2 (fun b hb e=>(nlv b e).elim .inr (fun e=>by omega))).trans f3 (fun _ _ e=>e.elim)⟩
      have sl:∀J:Nat->AF,A0 fv J=J nd.fields.length:=fun J=>hf.slen
      have d1:decide (k<nd.fields.length)=false:=decide_eq_false (by simp only[BQ]at hkl;omega)
      have hx:=hk.a
      have hx2:=h2.a
      unfold UZ at hx hx2
      unfold Am.c at an
      unfold Dr.c at ldn g3
      show RB E D (AT E D) (ZL E D (AT E D)) _ xb 0 (AA i) (AA d) U.next 0 true lk (AA k) Uk=_
      have key:∀K8,RB E D (AT E D) (ZL E D (AT E D)) K8 xb 0 (AA i) (AA d) U.next 0 true lk (AA k) Uk=some (.tup [],U3):=by
        intro K8
        unfold RB ZL
        simp -implicitDefEqProofs only [↓rP,rA,AB,AE,AD,↓AZ an,↓sl,d1,↓AZ hx,↓g1,↓g2,↓g2',↓AZ hx2,↓ldn,↓g3]
      exact key _
    | cons g fs ih=>
      intro k n gs fs2 Uk lk lvk tlk hdr hn hgl hkl hs2 hgf hk an hlk nlk nlv f lt
      obtain⟨n,rfl⟩:∃q,n=q+1:=⟨n-1,by omega⟩
      obtain⟨⟨r,tl2⟩,hr,hs2⟩:=AV.1 hs2
      obtain⟨⟨fs3,tl3⟩,hq3,he⟩:=Aa.1 hs2
      cases he
      have hkt:=hk.ht
      have hgk:nd.fields[k]? = some g:=by
        have:=congrArg (fun l=>l[0]?) hdr
        simpa using this
      have hkl':k<nd.fields.length:=(AY.1 hgk).1
      obtain⟨Ua,ea,fa,aa,na⟩:=JI hkt [.str ⟨0,0⟩,.int .i64 (AA 0),.bool false,.bool false,.int .i64 (AA 0),.int .i64 (AA 0),.nils,.nils,.int .i64 (AA 0),.nils,.int .i64 (AA 0)]
      obtain⟨Ub,eb,fb,ab⟩:=Yk fa.tidy aa g.c
      have sb:∀J:H->AF,DX 11 Uk.next 0 (.agg g.c) Ua J=J Ub:=fun J=>by
        rw[ER aa rfl]
        show J (GP Ua Uk.next (.cells g.c))=_
        rw[eb]
      have fab:Fr (fun b=>b=Uk.next) Uk Ub:=(fa.mono (fun _ _ e=>e.elim):Fr (fun b=>b=Uk.next) Uk Ua).trans fb (fun _ _ e=>e)
      have leb:=fab.le
      have lfk:Uk.next<Ub.next:=ab.lt fb.tidy
      have hb:Mk U0 Ub xb m nv tv dv tlk lvk (fun b=>(Q b\/b=U.next\/AJ lk b)\/b=Uk.next):=(hk.ext (Q':=fun b=>(Q b\/b=U.next\/AJ lk b)\/b=Uk.next) (fun b q=>q.imp id (fun e=>by omega))).fr fab (fun b e => .inl (by omega)) (fun b e=>by have:=hk.f.le;omega)
      have lkl:∀b,AJ lk b->b<Uk.next:=fun b e=>hlk.lt hkt e
      obtain⟨lv2,Uc,gc,hc,mc,fc⟩:=hT ht0 hs0 hb (fun b q=>by
        rcases q with (q|q|q)|q
        · have:=hQ b q;omega
        · omega
        · have:=lkl b q;omega
        · omega) (show d+1<=900 by omega) hr
      have lvl:∀b,AJ lvk b->b<Uk.next:=fun b e=>hk.llt e
      have ac:=fc.at_ ab fb.tidy (fun e=>e.elim (fun e=>by omega) (fun e=>by have:=lvl _ e;omega))
      obtain⟨Ud,gd,fd,ad⟩:=Wd (off:=1) (y := .int .i64 (AA r)) hc.ht ac rfl (show 1<11 by decide)
      have ad:CQ Ud Uk.next (Bj.c { g with type:=r }):=ad
      have lec:=fc.le
      have hd':=hc.fr fd (fun b e => .inr (.inr e)) (fun b e=>by have:=hk.f.le;omega)
      obtain⟨Ue,ee,fe,ae,ne⟩:=JI fd.tidy (Bj.c { g with type:=r })
      have he':=hd'.fr fe (fun _ e=>e.elim) (fun _ e=>e.elim)
      have xs:DL Ue 11 1 (.sl Ud.next 0 1 (.ex 1)) (Bj.c { g with type:=r }) := .inr ⟨_,_,_,_,rfl,ae,AK _,rfl⟩
      have led:=fd.le
      have lee:=fe.le
      have hlk1:DM Ue 11 gs.length lk (Ir gs):=(((hlk.fr fab hkt (fun b hb e=>by have:=lkl b hb;omega)).fr fc fb.tidy (fun b hb e=>e.elim (fun e=>by have:=nlk b hb;omega) (fun e=>(hk.lx b e).2.2 (.inr (.inr hb))))).fr fd hc.ht (fun b hb e=>by have:=lkl b hb;omega)).fr fe fd.tidy (fun _ _ e=>e)
      obtain⟨lk',Uf,gf,df,mf,ff⟩:=Du (E:=E) (bytes:=136) hlk1 fe.tidy xs rfl (by unfold Bw;simp only[AG,Ac];omega)
      have hf':Mk U0 Uf xb m nv tv dv tl2 lv2 (fun b=>((Q b\/b=U.next\/AJ lk b)\/b=Uk.next)\/Ue.next<=b):=(he'.ext (Q':=fun b=>((Q b\/b=U.next\/AJ lk b)\/b=Uk.next)\/Ue.next<=b) (fun b q=>q)).fr ff (fun b e => .inr (.inl (.inl (.inr (.inr e))))) (fun b e=>by have:=nlk b e;omega)
      have hnext:Mk U0 Uf xb m nv tv dv tl2 lv2 (fun b=>Q b\/b=U.next\/AJ lk' b):=hf'.ext fun b q=>by
        rcases q with q|q|q
        · exact .inl (.inl (.inl (.inl q)))
        · exact .inl (.inl (.inl (.inr (.inl q))))
        · exact(mf b q).elim (fun e => .inl (.inl (.inl (.inr (.inr e))))) (fun e => .inl (.inr e))
      have anb:CQ Ub U.next (nd.c iv fv):=fab.at_ an hkt (by omega)
      have anc:=fc.at_ anb fb.tidy (fun e=>e.elim (fun e=>by omega) (fun e=>(hk.lx _ e).2.2 (.inr (.inl rfl))))
      have anf:=ff.at_ (fe.at_ (fd.at_ anc hc.ht (by omega)) fd.tidy (fun e=>e)) fe.tidy (fun e=>by have:=nlk _ e;omega)
      have F1:Fr (fun b=>b=xb\/AJ lv b) U Ub:=f.trans fab (fun b hb e=>by omega)
      have F2:Fr (fun b=>b=xb\/AJ lv b) U Uc:=F1.trans fc (fun b hb e=>e.imp id (fun e=>(nlv b e).elim id (fun e=>by omega)))
      have F3:Fr (fun b=>b=xb\/AJ lv b) U Ud:=F2.trans fd (fun b hb e=>by omega)
      have F4:Fr (fun b=>b=xb\/AJ lv b) U Ue:=F3.trans fe (fun b hb e=>e.elim)
      have F5:Fr (fun b=>b=xb\/AJ lv b) U Uf:=F4.trans ff (fun b hb e=>by have:=nlk b e;omega)
      have lef:=ff.le
      obtain⟨lv',U',g',H',M',F'⟩:=ih (k+1) n (gs++[{ g with type:=r }]) fs3 Uf lk' lv2 tl2 (by rw[<-CJ,hdr];rfl) (by simp only[AN]at hn;omega) (by rw[AS,hgl];rfl) (by simp only[AN]at hkl;omega) hq3 (by rw[<-hgf,DN];rfl) hnext anf (by
        rw[AS,iu]
        exact df) (fun b hb=>(mf b hb).elim (nlk b) (fun e=>by omega)) (fun b hb=>(mc b hb).elim (nlv b) (fun e => .inr (by omega))) F5 (by omega)
      refine⟨lv',U',?_,H',M',F'⟩
      have sl:∀J:Nat->AF,A0 fv J=J nd.fields.length:=fun J=>hf.slen
      have d1:decide (k<nd.fields.length)=true:=decide_eq_true hkl'
      have hx:=hk.a
      have hxd:=hd'.a
      unfold UZ at hx hxd
      have hfk:DL Uk 11 nd.fields.length fv (Ir nd.fields):=hf.fr f ht (fun b hb e=>e.elim (fun e=>by have:=hfb b hb;have:=h.x0;omega) (fun e=>by have:=hfb b hb;have:=(h.lx b e).2.1;omega))
      have rd:∀J,AW 11 fv (AA k) (fun b o=>Bv E Uk b o 11 J)=J g.c:=fun J=>Iv hfk hkl' (MI _ _ _ hgk) (by decide) J
      have hfb2:DL Ub 11 nd.fields.length fv (Ir nd.fields):=hfk.fr fab hkt (fun b hb e=>by have:=hfb b hb;have:=hk.f.le;omega)
      have k5:∀K4 K8,RB E D (AT E D) K4 K8 xb 0 (AA i) (AA d) U.next 0 true lk (AA k) Uk=K8 xb 0 (AA i) (AA d) U.next 0 true lk (AA k) Uk.next 0 (AA 0) Ub:=by
        intro K4 K8
        unfold Am.c at an
        unfold Bj.c at rd sb
        unfold RB
        simp -implicitDefEqProofs only [↓rP,rA,AB,AE,AD,↓AZ an,↓sl,d1,↓AZ hx,↓rd,↓ea,↓sb]
      have k8:∀R5,Zu E D (AT E D) N R5 N xb 0 (AA i) (AA d) U.next 0 true lk (AA k) Uk.next 0 (AA 0) Ub=RQ E D (AT E D) N R5 xb 0 (AA i) (AA d) U.next 0 true lk (AA k) Uk.next 0 Ub:=fun R5=>
        qV (K7:=RQ E D (AT E D) N R5) (L:=Zu E D (AT E D) N R5) anb hfb2 hgk ab hnm hl (fun _ _ _ _ _ _ _ _ _ _ _ _ _ _=>rfl) k 0 N (by omega) (by omega)
      have adn:Ba .i64 (AA d) (AA 1)=AA (d+1):=A3 (by omega)
      have k7:∀R5,RQ E D (AT E D) N R5 xb 0 (AA i) (AA d) U.next 0 true lk (AA k) Uk.next 0 Ub=R5 xb 0 (AA i) (AA d) U.next 0 true lk' (AA (k+1)) Uf:=by
        intro R5
        have uo:=df.one
        unfold Bj.c at ab ad ee
        show j4 E D (AT E D) (XD E D (AT E D) (XB E D (AT E D) (j5 E D (AT E D) R5))) xb 0 (AA i) (AA d) U.next 0 true lk (AA k) Uk.next 0 Ub=_
        unfold j4 XD XB j5
        have sub11:∀(a b c d e f g h i j k:V) (J:List V->AF),EI [a,b,c,d,e,f,g,h,i,j,k] 0 11 J=J [a,b,c,d,e,f,g,h,i,j,k]:=fun _ _ _ _ _ _ _ _ _ _ _ J=>rfl
        simp -implicitDefEqProofs only [↓rP,rA,AB,AE,AD,↓AZ ab,adn,↓gc,↓gd,↓AZ hxd,↓AZ ad,↓BX ad,↓sub11,↓ee,↓gf,↓Bl uo,A3 (show k+1<=9223372036854775807 by omega)]
      exact(k5 _ _).trans ((k8 _).trans ((k7 _).trans g'))
  have a1':=a1
  obtain⟨lv',U',g',H',M',F'⟩:=loop nd.fields 0 N [] fs' U1 .nils lv tl rfl (by omega) rfl (by omega) hs (by simp) h1 a1 (DM.nil _ _) (fun b hb=>hb.elim) (fun b hb => .inl hb) (f1.mono fun _ _ e=>e.elim) (by omega)
  refine⟨lv',U',?_,H',M',F'⟩
  have hx1:=h1.a
  unfold UZ at hx1
  have mark:∀(q k n:Nat),k+q=nd.fields.length->q<n->Zv E D (AT E D) N n xb 0 (AA i) (AA d) U.next 0 true (AA k) U1=V4 E D (AT E D) N xb 0 (AA i) (AA d) U.next 0 true U1:=by
    intro q
    induction q with
    | zero=>
      intro k n hk hn
      obtain⟨n,rfl⟩:∃q,n=q+1:=⟨n-1,by omega⟩
      have sl:∀J:Nat->AF,A0 fv J=J nd.fields.length:=fun J=>hf.slen
      have d1:decide (k<nd.fields.length)=false:=decide_eq_false (by omega)
      have key:∀K1 R2,VU E D (AT E D) K1 R2 xb 0 (AA i) (AA d) U.next 0 true (AA k) U1=K1 xb 0 (AA i) (AA d) U.next 0 true U1:=by
        intro K1 R2
        unfold Am.c at a1
        unfold VU
        simp -implicitDefEqProofs only [↓rP,rA,AB,AE,AD,↓AZ a1,↓sl,d1]
      exact key _ _
    | succ q ih=>
      intro k n hk hn
      obtain⟨n,rfl⟩:∃q,n=q+1:=⟨n-1,by omega⟩
      have sl:∀J:Nat->AF,A0 fv J=J nd.fields.length:=fun J=>hf.slen
      have d1:decide (k<nd.fields.length)=true:=decide_eq_true (by omega)
      obtain⟨g,hg⟩:∃g,nd.fields[k]? = some g:=⟨nd.fields[k],AM (by omega)⟩
      have hf1:=hf.fr f1 ht (fun _ _ e=>e)
      have rd:∀J,AW 11 fv (AA k) (fun b o=>Bv E U1 b o 11 J)=J g.c:=fun J=>Iv hf1 (by omega) (MI _ _ _ hg) (by decide) J
      have key:∀K1 R2,VU E D (AT E D) K1 R2 xb 0 (AA i) (AA d) U.next 0 true (AA k) U1=R2 xb 0 (AA i) (AA d) U.next 0 true (AA (k+1)) U1:=by
        intro K1 R2
        unfold Am.c at a1
        unfold Bj.c at rd
        unfold VU
        simp -implicitDefEqProofs only [↓rP,rA,AB,AE,AD,↓AZ a1,↓sl,d1,↓rd,A3 (show k+1<=9223372036854775807 by omega)]
      exact(key _ _).trans (ih (k+1) n (by omega) (by omega))
  have dtg:decide (m.tg=2)=false:=decide_eq_false htg
  have dne:decide (nd.fields.length=0)=false:=decide_eq_false fun e=>hne (BW e)
  have k0:∀K2,ZM E D (AT E D) K2 xb 0 (AA i) (AA nd.kind) (BB nd.name) nd.mHas nd.mNum (AA nd.mMode) nd.con.has nd.con.hasLow nd.con.hasHigh nd.con.more nd.con.low nd.con.high iv fv (AA nd.root) nd.more (AA nd.of_) (AA d) U=K2 xb 0 (AA i) (AA d) U.next 0 true (AA 0) U1:=by
    intro K2
    unfold Am.c at e1
    unfold ZM
    simp -implicitDefEqProofs only [↓rP,rA,AB,AE,AD,io,fo,↓e1,↓AZ hx1,dtg]
  have k1:V4 E D (AT E D) N xb 0 (AA i) (AA d) U.next 0 true U1=Z5 E D (AT E D) N xb 0 (AA i) (AA d) U.next 0 true U1:=by
    have key:∀K3,j6 E D (AT E D) K3 xb 0 (AA i) (AA d) U.next 0 true U1=K3 xb 0 (AA i) (AA d) U.next 0 true U1:=by
      intro K3
      have sl:∀J:Nat->AF,A0 fv J=J nd.fields.length:=fun J=>hf.slen
      unfold Am.c at a1
      unfold j6
      cases h9:decide (nd.kind=9)with
      | true=>simp -implicitDefEqProofs only [↓rP,rA,AB,AE,AD,↓AZ a1,h9,↓sl,dne]
      | false=>simp -implicitDefEqProofs only [↓rP,rA,AB,AE,AD,↓AZ a1,h9]
    exact key _
  show ZM E D (AT E D) (Zv E D (AT E D) N N) xb 0 (AA i) (AA nd.kind) (BB nd.name) nd.mHas nd.mNum (AA nd.mMode) nd.con.has nd.con.hasLow nd.con.hasHigh nd.con.more nd.con.low nd.con.high iv fv (AA nd.root) nd.more (AA nd.of_) (AA d) U=_
  rw[k0,mark nd.fields.length 0 N (by omega) (by omega),k1]
  exact g'
end
abbrev sH:=Nat->Am->List Dr->Option (Nat × List Dr)
def Zq (m:Cg) (nd:Am) (i:Nat) (t:Dr) (fs:List Bj) (tl:List Dr):Prop:=m.tg≠2/\nd.fields≠[]/\sG nd.fields/\nd.fields.length<=5000/\t.kind≠7/\∃tgs,ZC (tl.set i { t with fields:=fs }) fs tgs
def JJ (m:Cg) (T:Ja):sH:=fun d nd tl=>match decide (nd.kind=8)with
 | false=>Yo T d nd tl
 | true=>match decide (d<=16)&&decide (tl.length<300)with
  | false=>none
  | true=>(H2 T d nd.fields (tl++[HD nd])).bind fun r=>match r.2[tl.length]? with
   | none=>none
   | some t=>@ite _ (Zq m nd tl.length t r.1 r.2) (Classical.propDecidable _) (some (tl.length,r.2.set tl.length { t with fields:=r.1 })) none
def MW (m:Cg) (M:sH) (F:List V->H->AF):Prop:=∀{U0 U:H} {xb:Nat} {nv tv dv lv iv fv:V} {tl tl':List Dr} {d i:Nat} {nd:Am} {Q:Nat->Prop},Ar U0->N5 U0 m nv tv dv->Mk U0 U xb m nv tv dv tl lv Q->(∀b,Q b->b<U.next)->d<=900->DL U 3 nd.items.length iv (iT nd.items)->DL U 11 nd.fields.length fv (Ir nd.fields)->(∀b,AJ fv b->b<U0.next)->M d nd tl=some (i,tl') ->
 ∃lv' U',F [.ptr xb 0,.agg (nd.c iv fv),.int .i64 (AA d)] U=some (.int .i64 (AA i),U')/\Mk U0 U' xb m nv tv dv tl' lv' Q/\(∀b,AJ lv' b->AJ lv b\/U.next<=b)/\Fr (fun b=>b=xb\/AJ lv b) U U'
theorem N5.nd2 {U:H} {m:Cg} {nv tv dv:V} (h:N5 U m nv tv dv) (ht:Ar U) {k:Nat} {nd:Am} (hk:m.ns[k]? = some nd) :
  ∃iv fv,(∀U',Fr AL U U'->∀(E:EB) (J:List V->AF),AW 16 dv (AA k) (fun b o=>Bv E U' b o 16 J)=J (nd.c iv fv))/\DL U 3 nd.items.length iv (iT nd.items)/\DL U 11 nd.fields.length fv (Ir nd.fields):=by
 obtain⟨ws,h1,h2,h3⟩:=h.d
 have hlt:k<m.ns.length:=(AY.1 hk).1
 obtain⟨u,hu⟩:∃u,ws[k]? = some u:=⟨ws[k],AM (by omega)⟩
 obtain⟨a,b⟩:=h3 k nd u hk hu
 exact⟨u.1,u.2,fun U' f E J=>Iv (E:=E) (h1.fr f ht (fun _ _ h=>h)) hlt (SY _ _ _ _ _ hk hu) (by decide) J,a,b⟩
section
variable {E:EB} {D:Ai} {N:Nat}
theorem Yp {m:Cg} {T:Ja} (hU:Zh (D 79)) (hC:OM (D 80)) (hT:Gk m T (D 27)) (hFd:Ka m T (D 82)):MW m (JJ m T) (F47 E D (AT E D) N):=by
 intro U0 U xb nv tv dv lv iv fv tl tl' d i nd Q ht0 hs0 h hQ hd hi hf hfb hs
 have io:=hi.one
 have fo:=hf.one
 unfold JJ at hs
 cases hk8:decide (nd.kind=8)with
 | false=>
  rw[hk8]at hs
  exact xU hU hC hT ht0 hs0 h hQ (by omega) io fo hs
 | true=>
  rw[hk8]at hs
  have hk:=of_decide_eq_true hk8
  dsimp only at hs
  cases hgd:(decide (d<=16)&&decide (tl.length<300))with
  | false=>rw[hgd]at hs;cases hs
  | true=>
   rw[hgd]at hs
   simp only[AG,decide_eq_true_eq]at hgd
   obtain⟨hd16,hl⟩:=hgd
   obtain⟨⟨fs',tl7⟩,hfs,hs⟩:=AV.1 hs
   dsimp only at hs
   cases ht7:tl7[tl.length]? with
   | none=>rw[ht7]at hs;cases hs
   | some t=>
    rw[ht7]at hs
    dsimp only at hs
    by_cases hok:Zq m nd tl.length t fs' tl7
    ·rw[if_pos hok]at hs
     cases hs
     obtain⟨k1,k2,k3,k4,k5,tgs,k6⟩:=hok
     have ht:=h.ht
     obtain⟨U1,e1,f1,a1,n1⟩:=JI ht (nd.c iv fv)
     obtain⟨U2,e2,f2,a2,n2⟩:=JI f1.tidy [.int .i64 (AA 0),.nils,.bool false,.bool false,.bool false,.bool false,.int .i64 (AA 0),.int .i64 (AA 0),.nils,.nils,.int .i64 (AA 0),.bool false,.int .i64 (AA 0)]
     obtain⟨U3,e3,f3,a3⟩:=Yk f2.tidy a2 ((HD nd).c (.nils,.nils,.nils))
     have s3:∀J:H->AF,DX 13 U1.next 0 (.agg [.int .i64 (AA nd.kind),.nils,.bool nd.con.has,.bool nd.con.hasLow,.bool nd.con.hasHigh,.bool nd.con.more,.int .i64 nd.con.low,.int .i64 nd.con.high,.nils,.nils,.int .i64 (AA nd.root),.bool nd.more,.int .i64 (AA 0)]) U2 J=J U3:=fun J=>by
      rw[ER a2 rfl]
      show J (GP U2 U1.next (.cells ((HD nd).c (.nils,.nils,.nils))))=_
      rw[e3]
     have gU:=hU U3 nd.kind (by omega)
     obtain⟨U4,e4,f4,a4,n4⟩:=JI f3.tidy [.int .i64 (AA 0),.int .i64 (AA (fp nd.kind))]
     have a34:=f4.at_ a3 f3.tidy (fun h=>h)
     obtain⟨U5,g5,f5,a5⟩:=Wd (off:=1) (y := .sl U3.next 0 1 (.ex 1)) f4.tidy a34 rfl (show 1<13 by decide)
     have a5:CQ U5 U1.next ((HD nd).c (.sl U3.next 0 1 (.ex 1),.nils,.nils)):=a5
     have le1:=f1.le
     have le2:=f2.le
     have le3:=f3.le
     have le4:=f4.le
     have lg:U1.next<U2.next:=a2.lt f2.tidy
     have lt4:U3.next<U4.next:=a4.lt f4.tidy
     have a45:=f5.at_ a4 f4.tidy (by omega)
     have f05:Fr (fun b=>U.next<=b) U U5:=((((f1.mono (fun _ _ h=>h.elim):Fr (fun b=>U.next<=b) U U1).trans f2 (fun _ _ h=>h.elim)).trans f3 (fun b _ e=>by omega)).trans f4 (fun _ _ h=>h.elim)).trans f5 (fun b _ e=>by omega)
     have h5:=h.fr f05 (fun _ h => .inl h) (fun b e=>by have:=h.f.le;omega)
     have lx:=h.a.lt ht
     obtain⟨e',u,U6,g6,t0,t2,t4,t7,h6,m6,f6⟩:=h5.push (E:=E) (D:=D) (nd:=nd) (gb:=U1.next) (tb:=U3.next) (eb:=U.next) (dd:=AA d) (ii:=AA tl.length) hl a5 a45 (by omega) (fun e=>by have:=h.llt e;omega) (by omega) (fun e=>by have:=h.llt e;omega) (fun q=>by have:=hQ _ q;omega) (fun b q=>by have:=hQ b q;have:=f05.le;omega)
     have le05:=f05.le
     have a15:CQ U5 U.next (nd.c iv fv):=f5.at_ (f4.at_ (f3.at_ (f2.at_ a1 f1.tidy (fun h=>h)) f2.tidy (by omega)) f3.tidy (fun h=>h)) f4.tidy (by omega)
     have a16:=f6.at_ a15 f5.tidy (fun e=>e.elim (by omega) (fun e=>by have:=h.llt e;omega))
     have f06:Fr (fun b=>b=xb\/AJ lv b) U U6:=by
      refine Fr.trans (f05.mono fun b hb e=>?_) f6 (fun b _ e=>e)
      omega
     have hx:=h.a
     have hx1:=f1.at_ hx ht (fun h=>h)
     unfold UZ at hx1
     unfold Am.c at a1 a16 e1
     unfold HD Dr.c at a3
     have sl1:∀J:Nat->AF,A0 lv J=J tl.length:=fun J=>h.len
     have d1:decide (16<d)=false:=decide_eq_false (by omega)
     have d2:decide (300<=tl.length)=false:=decide_eq_false (by omega)
     have h9:decide (nd.kind=9)=false:=decide_eq_false (by omega)
     have sub1:∀J:List V->AF,EI [.int .i64 (AA nd.kind),.str (BB nd.name),.bool nd.mHas,.int .i64 nd.mNum,.int .i64 (AA nd.mMode),.bool nd.con.has,.bool nd.con.hasLow,.bool nd.con.hasHigh,.bool nd.con.more,.int .i64 nd.con.low,.int .i64 nd.con.high,iv,fv,.int .i64 (AA nd.root),.bool nd.more,.int .i64 (AA nd.of_)] 5 6 J=J [.bool nd.con.has,.bool nd.con.hasLow,.bool nd.con.hasHigh,.bool nd.con.more,.int .i64 nd.con.low,.int .i64 nd.con.high]:=fun J=>by
      rw[D6 (by simp)];rfl
     have a13:=f3.at_ (f2.at_ a1 f1.tidy (fun h=>h)) f2.tidy (by omega)
     have key0:∀K1,PW E D (AT E D) K1 xb 0 (AA nd.kind) (BB nd.name) nd.mHas nd.mNum (AA nd.mMode) nd.con.has nd.con.hasLow nd.con.hasHigh nd.con.more nd.con.low nd.con.high iv fv (AA nd.root) nd.more (AA nd.of_) (AA d) U=K1 xb 0 (AA d) U.next 0 (AA tl.length) U1.next 0 U5:=by
      intro K1
      unfold PW
      simp -implicitDefEqProofs only [↓rP,rA,AB,AE,AD,io,fo,↓e1,d1,↓AZ hx1,↓sl1,d2,↓AZ a1,↓BX a1,↓sub1,↓e2,↓s3,↓AZ a13,h9,↓gU,↓e4,↓g5]
     have gd:∀J:B6->H->AF,Cc (AT E D Nk Kv [(0,.ptr xb 0),(2,.int .i64 (AA d)),(4,.ptr U.next 0),(7,.int .i64 (AA tl.length)),(8,.ptr U1.next 0)] U5) J=J e' U6:=fun J=>by rw[g6];rfl
     have m0:∀J:V->AF,BL e' 0 J=J (.ptr xb 0):=fun J=>BH t0 rfl
     have m2:∀J:V->AF,BL e' 2 J=J (.int .i64 (AA d)):=fun J=>BH t2 rfl
     have m4:∀J:V->AF,BL e' 4 J=J (.ptr U.next 0):=fun J=>BH t4 rfl
     have m7':∀J:V->AF,BL e' 7 J=J (.int .i64 (AA tl.length)):=fun J=>BH t7 rfl
     have i6:DL U6 11 nd.fields.length fv (Ir nd.fields):=hf.fr f06 ht (fun b hb e=>e.elim (fun e=>by have:=hfb b hb;have:=h.x0;omega) (fun e=>by have:=hfb b hb;have:=(h.lx b e).2.1;omega))
     obtain⟨lv7,U7,g7,h7,m7,f7⟩:=hFd ht0 hs0 h6 (fun b q=>by have:=hQ b q;have:=f06.le;omega) (by omega) io i6 hfb k1 k2 k3 k4 hfs ht7 k5 k6
     have mu:∀b,AJ u b->AJ lv b\/U.next<=b:=fun b hb=>(m6 b hb).imp id (fun h=>by omega)
     have le06:=f06.le
     refine⟨lv7,U7,?_,h7,fun b hb=>(m7 b hb).elim (mu b) (fun e => .inr (by omega)),f06.trans f7 (fun b hb e=>e.imp id (fun e=>(mu b e).elim id (fun e=>by omega)))⟩
     unfold Am.c at g7
     have sub16:∀J:List V->AF,EI [.int .i64 (AA nd.kind),.str (BB nd.name),.bool nd.mHas,.int .i64 nd.mNum,.int .i64 (AA nd.mMode),.bool nd.con.has,.bool nd.con.hasLow,.bool nd.con.hasHigh,.bool nd.con.more,.int .i64 nd.con.low,.int .i64 nd.con.high,iv,fv,.int .i64 (AA nd.root),.bool nd.more,.int .i64 (AA nd.of_)] 0 16 J=J [.int .i64 (AA nd.kind),.str (BB nd.name),.bool nd.mHas,.int .i64 nd.mNum,.int .i64 (AA nd.mMode),.bool nd.con.has,.bool nd.con.hasLow,.bool nd.con.hasHigh,.bool nd.con.more,.int .i64 nd.con.low,.int .i64 nd.con.high,iv,fv,.int .i64 (AA nd.root),.bool nd.more,.int .i64 (AA nd.of_)]:=fun J=>by
      rw[D6 (by simp)];rfl
     show PW E D (AT E D) (Kq E D (AT E D) (Kp E D (AT E D) (FR E D (AT E D)) (MR E D (AT E D) (FR E D (AT E D))) (NW E D (AT E D) (FR E D (AT E D))))) xb 0 (AA nd.kind) (BB nd.name) nd.mHas nd.mNum (AA nd.mMode) nd.con.has nd.con.hasLow nd.con.hasHigh nd.con.more nd.con.low nd.con.high iv fv (AA nd.root) nd.more (AA nd.of_) (AA d) U=_
     rw[key0]
     simp only[hk]at a16 g7 sub16
     unfold Kq Kp NW FR
     simp -implicitDefEqProofs only [↓rP,rA,AB,AE,AD,↓gd,↓m0,↓m2,↓m4,↓m7',↓AZ a16,↓BX a16,↓sub16,↓g7]
    ·rw[if_neg hok]at hs;cases hs
end
def Oo (m:Cg) (M:sH):Ja:=fun d k tl=>match m.ns[k]? with
 | none=>none
 | some nd=>match decide (nd.kind=11)with
  | true=>none
  | false=>(M d nd tl).bind fun r=>match nd.mHas with
   | false=>some r
   | true=>match r.2[r.1]? with
    | none=>none
    | some t=>match decide (t.tags.length=1)&&(decide (0<=nd.mNum)&&decide (nd.mNum<=268435456))with
     | false=>none
     | true=>some (r.1,r.2.set r.1 { t with tags:=T8 nd.mNum.toNat (Qq m nd) t.tags })
def GV (m:Cg):Nat->Ja
 | 0=>fun _ _ _=>none
 | q+1=>Oo m (JJ m (GV m q))
section
variable {E:EB} {D:Ai} {N:Nat}
theorem Yh {m:Cg} {M:sH} (hM:MW m M (D 47)) (hS:TG m (D 48)) (hW:TF m (D 49)):Gk m (Oo m M) (F27 E D (AT E D) N):=by
 intro U0 U xb nv tv dv lv tl tl' d k i Q ht0 hs0 h hQ hd hs
 unfold Oo at hs
 cases hn:m.ns[k]? with
 | none=>rw[hn]at hs;cases hs
 | some nd=>
  rw[hn]at hs
  dsimp only at hs
  cases h11:decide (nd.kind=11)with
  | true=>rw[h11]at hs;cases hs
  | false=>
   rw[h11]at hs
   obtain⟨⟨i3,tl3⟩,hs3,hs⟩:=AV.1 hs
   dsimp only at hs
   have ht:=h.ht
   obtain⟨iv,fv,rd0,hi,hf⟩:=hs0.nd2 ht0 hn
   have rd:=rd0 U h.f E
   obtain⟨U1,e1,f1,a1,n1⟩:=JI ht [.int .i64 (AA 0),.str ⟨0,0⟩,.bool false,.int .i64 (AA 0),.int .i64 (AA 0),.bool false,.bool false,.bool false,.bool false,.int .i64 (AA 0),.int .i64 (AA 0),.nils,.nils,.int .i64 (AA 0),.bool false,.int .i64 (AA 0)]
   obtain⟨U2,e2,f2,a2⟩:=Yk f1.tidy a1 (nd.c iv fv)
   have ho:An (nd.c iv fv)=true:=by
    unfold Am.c
    simp only[BC,BP,Ed,Dg,ET,hi.one,hf.one,A8]
   have s2:∀J:H->AF,DX 16 U.next 0 (.agg (nd.c iv fv)) U1 J=J U2:=fun J=>by
    rw[ER a1 (by
     rw[Cl,ho,OB]
     rfl),Cl]
    show J (GP U1 U.next (.cells (nd.c iv fv)))=_
    rw[e2]
   have f02:Fr (fun b=>U.next<=b) U U2:=(f1.mono (fun _ _ h=>h.elim):Fr (fun b=>U.next<=b) U U1).trans f2 (fun b _ e=>by omega)
   have h2:=h.fr f02 (fun _ h => .inl h) (fun b e=>by have:=h.f.le;omega)
   have le:=f02.le
   obtain⟨lv',U3,g3,h3,m3,f3⟩:=hM ht0 hs0 h2 (fun b q=>by have:=hQ b q;omega) hd (hi.fr h2.f ht0 (fun _ _ e=>e)) (hf.fr h2.f ht0 (fun _ _ e=>e)) (fun b hb=>hf.lt ht0 hb) hs3
   have lx:=h.a.lt ht
   have a3:=f3.at_ a2 f2.tidy (fun e=>e.elim (by omega) (fun e=>by have:=h.llt e;omega))
   have hx:=h.a
   have hx3:=h3.a
   have m03:∀b,AJ lv' b->AJ lv b\/U.next<=b:=fun b hb=>(m3 b hb).imp id (fun h=>by omega)
   have f03:Fr (fun b=>b=xb\/AJ lv b) U U3:=Fr.trans (f02.mono fun b hb e=>by omega) f3 (fun b _ e=>e)
   unfold UZ at hx hx3
   unfold Am.c at rd s2 a2 a3 g3
   have sub:∀J:List V->AF,EI [.int .i64 (AA nd.kind),.str (BB nd.name),.bool nd.mHas,.int .i64 nd.mNum,.int .i64 (AA nd.mMode),.bool nd.con.has,.bool nd.con.hasLow,.bool nd.con.hasHigh,.bool nd.con.more,.int .i64 nd.con.low,.int .i64 nd.con.high,iv,fv,.int .i64 (AA nd.root),.bool nd.more,.int .i64 (AA nd.of_)] 0 16 J=J [.int .i64 (AA nd.kind),.str (BB nd.name),.bool nd.mHas,.int .i64 nd.mNum,.int .i64 (AA nd.mMode),.bool nd.con.has,.bool nd.con.hasLow,.bool nd.con.hasHigh,.bool nd.con.more,.int .i64 nd.con.low,.int .i64 nd.con.high,iv,fv,.int .i64 (AA nd.root),.bool nd.more,.int .i64 (AA nd.of_)]:=fun J=>by
    rw[D6 (by simp)];rfl
   have key:∀K1,ZV E D (AT E D) K1 xb 0 (AA k) (AA d) U=K1 xb 0 U.next 0 (AA i3) U3:=by
    intro K1
    unfold ZV
    simp -implicitDefEqProofs only [↓rP,rA,AB,AE,AD,↓AZ hx,↓rd,↓e1,↓s2,↓AZ a2,h11,↓BX a2,↓sub,↓g3]
   show ∃lv' U',ZV E D (AT E D) (Pa E D (AT E D) (Nc E D (AT E D)) (RF E D (AT E D) (Nc E D (AT E D)))) xb 0 (AA k) (AA d) U=_/\_
   rw[key]
   cases hm:nd.mHas with
   | false=>
    rw[hm]at hs
    cases hs
    refine⟨lv',U3,?_,h3,m03,f03⟩
    rw[hm]at a3
    unfold Pa Nc
    simp -implicitDefEqProofs only [↓rP,rA,AB,AE,AD,↓AZ hx3,↓AZ a3]
   | true=>
    rw[hm]at hs
    dsimp only at hs
    cases ht3:tl3[i3]? with
    | none=>rw[ht3]at hs;cases hs
    | some t=>
     rw[ht3]at hs
     dsimp only at hs
     cases hc:(decide (t.tags.length=1)&&(decide (0<=nd.mNum)&&decide (nd.mNum<=268435456)))with
     | false=>rw[hc]at hs;cases hs
     | true=>
      rw[hc]at hs
      cases hs
      simp only[AG,decide_eq_true_eq]at hc
      obtain⟨h1,n0,n1'⟩:=hc
      obtain⟨n,hn'⟩:∃n:Nat,nd.mNum=AA n:=⟨nd.mNum.toNat,(ot n0).symm⟩
      have hQ3:∀b,Q b->b<U3.next:=fun b q=>by have:=hQ b q;have:=f03.le;omega
      obtain⟨U4,g4,h4,f4⟩:=hW (n:=n) (Qq m nd) h3 hQ3 ht3 h1 (by rw[hn']at n1';simp only[Db]at n1';omega)
      have gs:=hS h3 ht3 h1
      have hnt:nd.mNum.toNat=n:=by rw[hn'];rfl
      refine⟨lv',U4,?_,by rw[hnt];exact h4,m03,f03.trans f4 (fun b hb e=>(m03 b e).elim .inr (fun h=>by omega))⟩
      rw[hm,hn']at a3
      unfold Qq at g4
      cases h2m:decide (nd.mMode=2)with
      | true=>
       rw[h2m]at g4
       have g4:D 49 [.ptr xb 0,.int .i64 (AA i),.int .i64 (AA n),.int .i64 (AA 1)] U3=some (.tup [],U4):=g4
       unfold Pa RF Nc
       simp -implicitDefEqProofs only [↓rP,rA,AB,AE,AD,↓AZ hx3,↓AZ a3,h2m,↓g4]
      | false=>
       rw[h2m,Dc]at g4
       cases h0m:decide (nd.mMode=0)with
       | false=>
        rw[h0m,ABe]at g4
        have g4:D 49 [.ptr xb 0,.int .i64 (AA i),.int .i64 (AA n),.int .i64 (AA 0)] U3=some (.tup [],U4):=g4
        unfold Pa RF Nc
        simp -implicitDefEqProofs only [↓rP,rA,AB,AE,AD,↓AZ hx3,↓AZ a3,h2m,h0m,↓g4]
       | true=>
        rw[h0m,Co]at g4
        cases htg:decide (m.tg=0)with
        | true=>
         rw[htg]at g4
         have g4:D 49 [.ptr xb 0,.int .i64 (AA i),.int .i64 (AA n),.int .i64 (AA 0)] U3=some (.tup [],U4):=g4
         unfold Pa RF Nc
         simp -implicitDefEqProofs only [↓rP,rA,AB,AE,AD,↓AZ hx3,↓AZ a3,h2m,h0m,htg,↓g4]
        | false=>
         rw[htg]at g4
         have g4:D 49 [.ptr xb 0,.int .i64 (AA i),.int .i64 (AA n),.int .i64 (AA 1)] U3=some (.tup [],U4):=g4
         unfold Pa RF Nc
         simp -implicitDefEqProofs only [↓rP,rA,AB,AE,AD,↓AZ hx3,↓AZ a3,h2m,h0m,htg,↓gs,↓g4]
end
theorem AC6 (r:List Nat):Hx DI (44::r)=1:=by
 unfold DI
 rw[CF (by decide +kernel) (by decide +kernel)]
 rw[CF (by decide +kernel) (by decide +kernel)]
 rw[CF (by decide +kernel) (by decide +kernel)]
 rw[CF (by decide +kernel) (by decide +kernel)]
 rw[CF (by decide +kernel) (by decide +kernel)]
 rw[CF (by decide +kernel) (by decide +kernel)]
 rw[CF (by decide +kernel) (by decide +kernel)]
 rw[CF (by decide +kernel) (by decide +kernel)]
 rw[CF (by decide +kernel) (by decide +kernel)]
 rw[CF (by decide +kernel) (by decide +kernel)]
 rw[CF (by decide +kernel) (by decide +kernel)]
 exact Mn (t:=BS.mk 1 44) (s:=r) (by rw[show (BS.mk 1 44).nats=[44] from by decide +kernel];rfl)
theorem AC5 (r:List Nat):Hx DI (123::r)=1:=by
 unfold DI
 rw[CF (by decide +kernel) (by decide +kernel)]
 rw[CF (by decide +kernel) (by decide +kernel)]
 rw[CF (by decide +kernel) (by decide +kernel)]
 rw[CF (by decide +kernel) (by decide +kernel)]
 rw[CF (by decide +kernel) (by decide +kernel)]
 exact Mn (t:=BS.mk 1 123) (s:=r) (by rw[show (BS.mk 1 123).nats=[123] from by decide +kernel];rfl)
theorem AC3 (r:List Nat):Hx DI (125::r)=1:=by
 unfold DI
 rw[CF (by decide +kernel) (by decide +kernel)]
 rw[CF (by decide +kernel) (by decide +kernel)]
 rw[CF (by decide +kernel) (by decide +kernel)]
 rw[CF (by decide +kernel) (by decide +kernel)]
 rw[CF (by decide +kernel) (by decide +kernel)]
 rw[CF (by decide +kernel) (by decide +kernel)]
 exact Mn (t:=BS.mk 1 125) (s:=r) (by rw[show (BS.mk 1 125).nats=[125] from by decide +kernel];rfl)
def DK (n:Nat):List Nat:=Cj 19 n
theorem rM (n:Nat) (hn:n<50):∀d∈DK n,Gv d=true:=by
 have:∀k:Fin 50,∀d∈DK k.val,Gv d=true:=by decide +kernel
 exact this ⟨n,hn⟩
theorem Y3 (n:Nat) (hn:n<50):(DK n).length<=2:=by
 have:∀k:Fin 50,(DK k.val).length<=2:=by decide +kernel
 exact this ⟨n,hn⟩
theorem jG (n:Nat) (hn:n<50):Qn (102::DK n)=false/\wj (BB (102::DK n))=false:=by
 have:∀k:Fin 50,Qn (102::DK k.val)=false/\wj (BB (102::DK k.val))=false:=by decide +kernel
 exact this ⟨n,hn⟩
theorem dt (a b:Nat) (ha:a<50) (hb:b<50) (h:a≠b):(BB (102::DK a)).beq (BB (102::DK b))=false:=by
 have:∀x y:Fin 50,x≠y->(BB (102::DK x.val)).beq (BB (102::DK y.val))=false:=by decide +kernel
 exact this ⟨a,ha⟩ ⟨b,hb⟩ (fun e=>h (Fin.mk.inj e))
theorem Y2 (n:Nat) (hn:n<50) {r:List Nat} (hd:Gv (r.headD 0)=false) (hl:LP (r.headD 0)=false):∃m ds,DK n=GB m ds/\IB m ds r/\L5 (DK n)=AA n:=
 qQ (v:=AA n) ⟨by simp only[Db];omega,by simp only[Db];omega⟩ hd hl
theorem Yi:∀(w:List Nat) (t:List Nat),(∀d∈w,Gv d=true)->NN (w++32::t)=w.length
 | [],t,_=>rfl
 | d::w,t,h=>by
  have hd:=h d Ab
  have ih:=Yi w t (fun x hx=>h x (BM _ hx))
  show NN (d::(w++32::t))=_
  rw[Jt]
  have:fQ d (w++32::t)=true:=by unfold fQ;rw[hd,tO,Bool.true_or]
  rw[this]
  show NN (w++32::t)+1=_
  rw[ih];rfl
def dsF (w t:List Nat):List Nat:=32::102::(w++32::91::(w++93::32::73::78::84::69::71::69::82::t))
def dsR:List Nat->List Nat
 | []=>32::125::32::69::78::68::[]
 | n::l=>44::dsF (DK n) (dsR l)
def IH (n:Nat) (l:List Nat):List Nat:=77::32::68::69::70::73::78::73::84::73::79::78::83::32::73::77::80::76::73::67::73::84::32::84::65::71::83::32::58::58::61::32::66::69::71::73::78::32::83::32::58::58::61::32::83::69::84::32::123::dsF (DK n) (dsR l)
inductive oB:List Nat->List CK->Prop
 | nil {p1 p2 p3:Nat}:oB [] [(6,[125],p1),(5,[69,78,68],p2),(0,[],p3)]
 | cons {n p0 p1 p2 p3 p4 p5:Nat} {l:List Nat} {ts:List CK} (h:oB l ts):oB (n::l) ((6,[44],p0)::(2,102::DK n,p1)::(6,[91],p2)::(3,DK n,p3)::(6,[93],p4)::(5,[73,78,84,69,71,69,82],p5)::ts)
theorem jF {N len n:Nat} {t:List Nat} {ts:List CK} (hn:n<50) (ht:∃c u,t=c::u/\(c=44\/c=32)) (h:JZ (N+10) len t ts):∃p1 p2 p3 p4 p5,JZ (N+10) len (dsF (DK n) t) ((2,102::DK n,p1)::(6,[91],p2)::(3,DK n,p3)::(6,[93],p4)::(5,[73,78,84,69,71,69,82],p5)::ts):=by
 have s1:∃p5,JZ (N+10) len (32::73::78::84::69::71::69::82::t) ((5,[73,78,84,69,71,69,82],p5)::ts):=by
  obtain⟨c,u,e,hc⟩:=ht
  rw[e]at h ⊢
  rcases hc with rfl|rfl
  ·exact⟨_,.one (FX rfl rfl) (Fq (n:=7) rfl rfl rfl rfl (by decide +kernel) (by decide +kernel)) h⟩
  ·exact⟨_,.one (FX rfl rfl) (Fq (n:=7) rfl rfl rfl rfl (by decide +kernel) (by decide +kernel)) h⟩
 obtain⟨p5,s1⟩:=s1
 have s2:JZ (N+10) len (93::32::73::78::84::69::71::69::82::t) ((6,[93],_)::(5,[73,78,84,69,71,69,82],p5)::ts) := .one (OU rfl rfl) (Iu (AC2 _ _ (by decide)) (by decide) rfl rfl rfl rfl (by decide) (by decide) (by decide)) s1
 obtain⟨m,ds,e,ok,_⟩:=Y2 n hn (r:=93::32::73::78::84::69::71::69::82::t) rfl rfl
 have s3:=iG ok s2
 have c3:=qg ok
 rw[<-e]at s3 c3
 have s4:JZ (N+10) len (32::91::(DK n++93::32::73::78::84::69::71::69::82::t)) ((6,[91],_)::(3,DK n,_)::(6,[93],_)::(5,[73,78,84,69,71,69,82],p5)::ts) := .one (FX rfl rfl) (Iu (n:=1) (by obtain⟨c,u,e,hc⟩:=c3;rw[e];exact AC4 _ _ hc) (by decide) rfl rfl rfl rfl (by decide) (by decide) (by decide)) s3
 have hd:=rM n hn
 have wd:=jG n hn
 have nl:NN (102::(DK n++32::91::(DK n++93::32::73::78::84::69::71::69::82::t)))=(DK n).length+1:=by
  rw[Jt]
  have:fQ 102 (DK n++32::91::(DK n++93::32::73::78::84::69::71::69::82::t))=true:=rfl
  rw[this]
  show NN _+1=_
  rw[Yi _ _ hd]
 refine⟨_,_,_,_,p5,.one (FX rfl rfl) (Fq (n:=(DK n).length+1) nl ?_ ?_ rfl wd.1 ?_) s4⟩
 ·show 102::(DK n++_).take (DK n).length=_
  rw[List.take_left]
 ·show (DK n++_).drop (DK n).length=_
  rw[ABc]
 ·rw[wd.2];rfl
theorem jJ (l:List Nat):∃c u,dsR l=c::u/\(c=44\/c=32):=by
 cases l with
 | nil=>exact⟨_,_,rfl,.inr rfl⟩
 | cons n l=>exact⟨_,_,rfl,.inl rfl⟩
theorem AD9 (N len:Nat):∀(l:List Nat),(∀n∈l,n<50)->∃ts,JZ (N+10) len (dsR l) ts/\oB l ts
 | [],_=>⟨_,.one (FX rfl rfl) (Iu (AC3 _) (by decide) rfl rfl rfl rfl (by decide) (by decide) (by decide)) (.one (FX rfl rfl) (Fq (n:=3) rfl rfl rfl rfl (by decide +kernel) (by decide +kernel)) (.fin rfl)),.nil⟩
 | n::l,h=>by
  obtain⟨ts,t1,f1⟩:=AD9 N len l (fun x hx=>h x (BM _ hx))
  obtain⟨p1,p2,p3,p4,p5,t2⟩:=jF (h n Ab) (jJ l) t1
  exact⟨_,.one (OU rfl rfl) (Iu (AC6 _) (by decide) rfl rfl rfl rfl (by decide) (by decide) (by decide)) t2,.cons f1⟩
theorem rJ {N len:Nat} {t:List Nat} {ts:List CK} (h:JZ (N+10) len t ts):∃q0 q1 q2 q3 q4 q5 q6 q7 q8 q9,JZ (N+10) len (77::32::68::69::70::73::78::73::84::73::79::78::83::32::73::77::80::76::73::67::73::84::32::84::65::71::83::32::58::58::61::32::66::69::71::73::78::32::83::32::58::58::61::32::83::69::84::32::123::t) ((1,[77],q0)::(5,[68,69,70,73,78,73,84,73,79,78,83],q1)::(5,[73,77,80,76,73,67,73,84],q2)::(5,[84,65,71,83],q3)::(6,[58,58,61],q4)::(5,[66,69,71,73,78],q5)::(1,[83],q6)::(6,[58,58,61],q7)::(5,[83,69,84],q8)::(6,[123],q9)::ts):=by
 have s9:JZ (N+10) len (32::123::t) ((6,[123],_)::ts) := .one (FX rfl rfl) (Iu (AC5 _) (by decide) rfl rfl rfl rfl (by decide) (by decide) (by decide)) h
 have s8:JZ (N+10) len (32::83::69::84::32::123::t) ((5,[83,69,84],_)::(6,[123],_)::ts) := .one (FX rfl rfl) (Fq (n:=3) rfl rfl rfl rfl (by decide +kernel) (by decide +kernel)) s9
 have s7:JZ (N+10) len (32::58::58::61::32::83::69::84::32::123::t) ((6,[58,58,61],_)::(5,[83,69,84],_)::(6,[123],_)::ts) := .one (FX rfl rfl) (Iu (gP _) (by decide) rfl rfl rfl rfl (by decide) (by decide) (by decide)) s8
 have s6:JZ (N+10) len (32::83::32::58::58::61::32::83::69::84::32::123::t) ((1,[83],_)::(6,[58,58,61],_)::(5,[83,69,84],_)::(6,[123],_)::ts) := .one (FX rfl rfl) (Fq (n:=1) rfl rfl rfl rfl (by decide +kernel) (by decide +kernel)) s7
 have s5:JZ (N+10) len (32::66::69::71::73::78::32::83::32::58::58::61::32::83::69::84::32::123::t) ((5,[66,69,71,73,78],_)::(1,[83],_)::(6,[58,58,61],_)::(5,[83,69,84],_)::(6,[123],_)::ts) := .one (FX rfl rfl) (Fq (n:=5) rfl rfl rfl rfl (by decide +kernel) (by decide +kernel)) s6
 have s4:JZ (N+10) len (32::58::58::61::32::66::69::71::73::78::32::83::32::58::58::61::32::83::69::84::32::123::t) ((6,[58,58,61],_)::(5,[66,69,71,73,78],_)::(1,[83],_)::(6,[58,58,61],_)::(5,[83,69,84],_)::(6,[123],_)::ts) := .one (FX rfl rfl) (Iu (gP _) (by decide) rfl rfl rfl rfl (by decide) (by decide) (by decide)) s5
 have s3:JZ (N+10) len (32::84::65::71::83::32::58::58::61::32::66::69::71::73::78::32::83::32::58::58::61::32::83::69::84::32::123::t) ((5,[84,65,71,83],_)::(6,[58,58,61],_)::(5,[66,69,71,73,78],_)::(1,[83],_)::(6,[58,58,61],_)::(5,[83,69,84],_)::(6,[123],_)::ts) := .one (FX rfl rfl) (Fq (n:=4) rfl rfl rfl rfl (by decide +kernel) (by decide +kernel)) s4
 have s2:JZ (N+10) len (32::73::77::80::76::73::67::73::84::32::84::65::71::83::32::58::58::61::32::66::69::71::73::78::32::83::32::58::58::61::32::83::69::84::32::123::t) ((5,[73,77,80,76,73,67,73,84],_)::(5,[84,65,71,83],_)::(6,[58,58,61],_)::(5,[66,69,71,73,78],_)::(1,[83],_)::(6,[58,58,61],_)::(5,[83,69,84],_)::(6,[123],_)::ts) := .one (FX rfl rfl) (Fq (n:=8) rfl rfl rfl rfl (by decide +kernel) (by decide +kernel)) s3
 have s1:JZ (N+10) len (32::68::69::70::73::78::73::84::73::79::78::83::32::73::77::80::76::73::67::73::84::32::84::65::71::83::32::58::58::61::32::66::69::71::73::78::32::83::32::58::58::61::32::83::69::84::32::123::t) ((5,[68,69,70,73,78,73,84,73,79,78,83],_)::(5,[73,77,80,76,73,67,73,84],_)::(5,[84,65,71,83],_)::(6,[58,58,61],_)::(5,[66,69,71,73,78],_)::(1,[83],_)::(6,[58,58,61],_)::(5,[83,69,84],_)::(6,[123],_)::ts) := .one (FX rfl rfl) (Fq (n:=11) rfl rfl rfl rfl (by decide +kernel) (by decide +kernel)) s2
 have s0:JZ (N+10) len (77::32::68::69::70::73::78::73::84::73::79::78::83::32::73::77::80::76::73::67::73::84::32::84::65::71::83::32::58::58::61::32::66::69::71::73::78::32::83::32::58::58::61::32::83::69::84::32::123::t) ((1,[77],_)::(5,[68,69,70,73,78,73,84,73,79,78,83],_)::(5,[73,77,80,76,73,67,73,84],_)::(5,[84,65,71,83],_)::(6,[58,58,61],_)::(5,[66,69,71,73,78],_)::(1,[83],_)::(6,[58,58,61],_)::(5,[83,69,84],_)::(6,[123],_)::ts) := .one (OU rfl rfl) (Fq (n:=1) rfl rfl rfl rfl (by decide +kernel) (by decide +kernel)) s1
 exact⟨_,_,_,_,_,_,_,_,_,_,s0⟩
theorem qy (N len n:Nat) (l:List Nat) (hn:n<50) (hl:∀x∈l,x<50):∃q0 q1 q2 q3 q4 q5 q6 q7 q8 q9 p1 p2 p3 p4 p5 ts,JZ (N+10) len (IH n l) ((1,[77],q0)::(5,[68,69,70,73,78,73,84,73,79,78,83],q1)::(5,[73,77,80,76,73,67,73,84],q2)::(5,[84,65,71,83],q3)::(6,[58,58,61],q4)::(5,[66,69,71,73,78],q5)::(1,[83],q6)::(6,[58,58,61],q7)::(5,[83,69,84],q8)::(6,[123],q9)::(2,102::DK n,p1)::(6,[91],p2)::(3,DK n,p3)::(6,[93],p4)::(5,[73,78,84,69,71,69,82],p5)::ts)/\oB l ts:=by
 obtain⟨ts,t1,f1⟩:=AD9 N len l hl
 obtain⟨p1,p2,p3,p4,p5,t2⟩:=jF hn (jJ l) t1
 obtain⟨q0,q1,q2,q3,q4,q5,q6,q7,q8,q9,t3⟩:=rJ t2
 exact⟨q0,q1,q2,q3,q4,q5,q6,q7,q8,q9,p1,p2,p3,p4,p5,ts,t3,f1⟩
def Mc (n:Nat):Am:=⟨2,[],true,AA n,0,⟨false,false,false,false,0,0⟩,[],[],0,false,0⟩
def FD:Nat->List Nat->List Bj
 | _,[]=>[]
 | i,n::l=>⟨102::DK n,i,false,0⟩::FD (i+1) l
theorem Hk:∀(l:List Nat) (i:Nat),(FD i l).length=l.length
 | [],_=>rfl
 | _::l,i=>by show (FD (i+1) l).length+1=_;rw[Hk l];rfl
theorem ADt (a4:Nat) (t:CK) (l:List CK):EJ (BS.mk 8 6073459554577832005) ((5,[73,78,84,69,71,69,82],a4)::t::l)=(false,(5,[73,78,84,69,71,69,82],a4)::t::l):=by kernel_rfl
theorem ADu (a4:Nat) (t:CK) (l:List CK):EJ (BS.mk 8 6073459554577829193) ((5,[73,78,84,69,71,69,82],a4)::t::l)=(false,(5,[73,78,84,69,71,69,82],a4)::t::l):=by kernel_rfl
theorem xR {w:List Nat} {a1 a2 a3 a4:Nat} {t5:CK} {l:List CK} (h:xV w=false):Ot ((6,[91],a1)::(3,w,a2)::(6,[93],a3)::(5,[73,78,84,69,71,69,82],a4)::t5::l)=some ((true,L5 w,0),(5,[73,78,84,69,71,69,82],a4)::t5::l):=by
 have h':(Ci (L5 w) (AA 0) || Ci (AA 268435456) (L5 w))=false:=h
 unfold Ot
 simp only[ADv,xQ,C0,h',ADs,ADt,ADu]
theorem rN (n:Nat) (hn:n<50):xV (DK n)=false:=by
 have:∀k:Fin 50,xV (DK k.val)=false:=by decide +kernel
 exact this ⟨n,hn⟩
theorem yG (n:Nat) (hn:n<50):L5 (DK n)=AA n:=(Y2 n hn (r:=[]) rfl rfl).choose_spec.choose_spec.2.2
theorem yM (T:Er) (v:Int) (d p q:Nat) (t:CK) (l:List CK) (ns:List Am):JM T d (Hz (true,v,0)) ((5,[73,78,84,69,71,69,82],p)::(6,[44],q)::t::l) ns=some (⟨2,[],true,v,0,⟨false,false,false,false,0,0⟩,[],[],0,false,0⟩,(6,[44],q)::t::l,ns):=by kernel_rfl
theorem yN (T:Er) (v:Int) (d p q:Nat) (t:CK) (l:List CK) (ns:List Am):JM T d (Hz (true,v,0)) ((5,[73,78,84,69,71,69,82],p)::(6,[125],q)::t::l) ns=some (⟨2,[],true,v,0,⟨false,false,false,false,0,0⟩,[],[],0,false,0⟩,(6,[125],q)::t::l,ns):=by kernel_rfl
theorem oB.hd {l:List Nat} {ts:List CK} (h:oB l ts):∃c q t u,ts=(6,c,q)::t::u/\(c=[44]\/c=[125]):=by
 cases h with
 | nil=>exact⟨_,_,_,_,rfl,.inr rfl⟩
 | cons h=>exact⟨_,_,_,_,rfl,.inl rfl⟩
theorem yC {T:Er} {n d p2 p3 p4 p5:Nat} {l:List Nat} {ts:List CK} {ns:List Am} (hn:n<50) (hd:d<=16) (hl:ns.length<300) (h:oB l ts):Lt T d ((6,[91],p2)::(3,DK n,p3)::(6,[93],p4)::(5,[73,78,84,69,71,69,82],p5)::ts) ns=some (ns.length,ts,ns++[Mc n]):=by
 obtain⟨c,q,t,u,rfl,hc⟩:=h.hd
 have e:Mc n=⟨2,[],true,L5 (DK n),0,⟨false,false,false,false,0,0⟩,[],[],0,false,0⟩:=by rw[yG n hn];rfl
 rw[e]
 refine wm (by rfl) hd hl (xR (rN n hn)) ?_
 rcases hc with rfl|rfl
 ·exact yM _ _ _ _ _ _ _ _
 ·exact yN _ _ _ _ _ _ _ _
theorem iU (q:Nat) (t:CK) (l:List CK):EJ (BS.mk 8 5494759122808361039) ((6,[44],q)::t::l)=(false,(6,[44],q)::t::l):=by kernel_rfl
theorem iV (q:Nat) (t:CK) (l:List CK):EJ (BS.mk 8 5494759122808361039) ((6,[125],q)::t::l)=(false,(6,[125],q)::t::l):=by kernel_rfl
theorem iW (q:Nat) (t:CK) (l:List CK):EJ (BS.mk 7 23727827094750532) ((6,[44],q)::t::l)=(false,(6,[44],q)::t::l):=by kernel_rfl
theorem iZ (q:Nat) (t:CK) (l:List CK):EJ (BS.mk 7 23727827094750532) ((6,[125],q)::t::l)=(false,(6,[125],q)::t::l):=by kernel_rfl
theorem Q0 {T:Er} {n d p1 p2 p3 p4 p5:Nat} {l:List Nat} {ts:List CK} {ns:List Am} {nd:Am} (hn:n<50) (hd:d<=15) (hl:ns.length<300) (hk:nd.kind=8) (h:oB l ts):I7 (Lt T) d nd ((2,102::DK n,p1)::(6,[91],p2)::(3,DK n,p3)::(6,[93],p4)::(5,[73,78,84,69,71,69,82],p5)::ts) ns=some ({ nd with fields:=nd.fields++[⟨102::DK n,ns.length,false,0⟩] },ts,ns++[Mc n]):=by
 have k:JK 2 ((2,102::DK n,p1)::(6,[91],p2)::(3,DK n,p3)::(6,[93],p4)::(5,[73,78,84,69,71,69,82],p5)::ts)=some (102::DK n,(6,[91],p2)::(3,DK n,p3)::(6,[93],p4)::(5,[73,78,84,69,71,69,82],p5)::ts):=rfl
 unfold I7
 rw[k,C0]
 dsimp only
 rw[yC hn (by omega) hl h,C0]
 dsimp only
 rw[decide_eq_false (show ¬nd.kind=9 by omega)]
 dsimp only
 obtain⟨c,q,t,u,rfl,hc⟩:=h.hd
 rcases hc with rfl|rfl
 ·rw[iU]
  dsimp only
  rw[iW]
 ·rw[iV]
  dsimp only
  rw[iZ]
theorem tV (w:List Nat) (p1:Nat) (t:CK) (l:List CK) (T:Er) (d:Nat) (nd:Am) (ns:List Am) (h:nd.more=false):Lx T d nd ((2,w,p1)::t::l) ns=I7 T d nd ((2,w,p1)::t::l) ns:=by
 unfold Lx
 rw[h]
 rfl
theorem ql (q:Nat) (t:CK) (l:List CK):EJ (BS.mk 1 44) ((6,[44],q)::t::l)=(true,t::l):=by kernel_rfl
theorem qm (q:Nat) (t:CK) (l:List CK):EJ (BS.mk 1 44) ((6,[125],q)::t::l)=(false,(6,[125],q)::t::l):=by kernel_rfl
theorem AKM (q:Nat) (t:CK) (l:List CK):D8 (BS.mk 1 125) ((6,[125],q)::t::l)=some (t::l):=by kernel_rfl
theorem rK {T:Er} {d:Nat} (hd:d<=15):∀(l:List Nat) {n k p1 p2 p3 p4 p5:Nat} {ts:List CK} {ns:List Am} {nd:Am},oB l ts->n<50->(∀x∈l,x<50)->ns.length+l.length<300->l.length<k->nd.kind=8->nd.more=false ->
  ∃p q,NQ (Lt T) d k nd ((2,102::DK n,p1)::(6,[91],p2)::(3,DK n,p3)::(6,[93],p4)::(5,[73,78,84,69,71,69,82],p5)::ts) ns=some ({ nd with fields:=nd.fields++FD ns.length (n::l),root:=nd.fields.length+l.length+1 },[(5,[69,78,68],p),(0,[],q)],ns++(n::l).map Mc):=by
 intro l
 induction l with
 | nil=>
  intro n k p1 p2 p3 p4 p5 ts ns nd h hn hl hns hk hkd hm
  obtain⟨k,rfl⟩:∃j,k=j+1:=⟨k-1,by omega⟩
  have hf:=Q0 (T:=T) (d:=d) (p1:=p1) (p2:=p2) (p3:=p3) (p4:=p4) (p5:=p5) (nd:=nd) (ns:=ns) hn hd (by simp only[BQ]at hns;omega) hkd h
  cases h with
  | @nil p q r=>
   refine⟨q,r,?_⟩
   show ((Lx (Lt T) d nd _ ns).bind _)=_
   rw[tV _ _ _ _ _ _ _ _ hm,hf,C0]
   dsimp only
   rw[qm]
   dsimp only
   rw[AKM]
   simp only[CC,hm,DE,if_false,AS,AN,BQ,B3,HJ,FD,JH]
 | cons x l ih=>
  intro n k p1 p2 p3 p4 p5 ts ns nd h hn hl hns hk hkd hm
  obtain⟨k,rfl⟩:∃j,k=j+1:=⟨k-1,by omega⟩
  have hf:=Q0 (T:=T) (d:=d) (p1:=p1) (p2:=p2) (p3:=p3) (p4:=p4) (p5:=p5) (nd:=nd) (ns:=ns) hn hd (by simp only[AN]at hns;omega) hkd h
  cases h with
  | @cons _ a0 a1 a2 a3 a4 a5 _ ts h=>
   obtain⟨p,q,g⟩:=ih (n:=x) (k:=k) (p1:=a1) (p2:=a2) (p3:=a3) (p4:=a4) (p5:=a5) (ns:=ns++[Mc n]) (nd:={ nd with fields:=nd.fields++[⟨102::DK n,ns.length,false,0⟩] }) h (hl x Ab) (fun y hy=>hl y (BM _ hy)) (by simp only[AS,AN,BQ]at hns ⊢;omega) (by simp only[AN]at hk;omega) hkd hm
   refine⟨p,q,?_⟩
   show ((Lx (Lt T) d nd _ ns).bind _)=_
   rw[tV _ _ _ _ _ _ _ _ hm,hf,C0]
   dsimp only
   rw[ql]
   dsimp only
   rw[g]
   have e1:(ns++[Mc n]).length=ns.length+1:=by simp
   rw[e1]
   simp only[DN,GG,Ff,AS,AN,BQ,B3,FD]
   congr 4
   omega
def Wy (n:Nat) (l:List Nat):Am:=⟨8,[],false,0,0,⟨false,false,false,false,0,0⟩,[],FD 1 (n::l),l.length+1,false,0⟩
def VF (n:Nat) (l:List Nat):Cg:=⟨[77],1,[[83]],[0],Wy n l::(n::l).map Mc⟩
theorem jg (T:Er) (p q:Nat) (t:CK) (l:List CK) (ns:List Am):JM T 0 (Hz (false,0,0)) ((5,[83,69,84],p)::(6,[123],q)::t::l) ns=H3 T 0 { Hz (false,0,0)with kind:=8 } (t::l) ns:=by kernel_rfl
theorem iJ (p:Nat) (t:CK) (l:List CK):Ot ((5,[83,69,84],p)::t::l)=some ((false,0,0),(5,[83,69,84],p)::t::l):=by kernel_rfl
theorem qn (T:Er) (d:Nat) (nd:Am) (w:List Nat) (p1:Nat) (t:CK) (l:List CK) (ns:List Am):H3 T d nd ((2,w,p1)::t::l) ns=NQ T d 1000 nd ((2,w,p1)::t::l) ns:=rfl
theorem qZ (T:Er) (p0 p1 p2 p3 p4 p5:Nat) (t:CK) (l:List CK):qb T ((1,[77],p0)::(5,[68,69,70,73,78,73,84,73,79,78,83],p1)::(5,[73,77,80,76,73,67,73,84],p2)::(5,[84,65,71,83],p3)::(6,[58,58,61],p4)::(5,[66,69,71,73,78],p5)::t::l)=(N1 T 50 [] [] [] (t::l)).bind fun r=>match r.2.2.2 with
 | []=>none
 | e::_=>match decide (e.1=0)with
  | true=>some ⟨[77],1,r.1,r.2.1,r.2.2.1⟩
  | false=>none:=by kernel_rfl
theorem yE {n:Nat} {l:List Nat} {q0 q1 q2 q3 q4 q5 q6 q7 q8 q9 p1 p2 p3 p4 p5:Nat} {ts:List CK} (hn:n<50) (hl:∀x∈l,x<50) (h9:l.length<20) (h:oB l ts):qb (IS 2) ((1,[77],q0)::(5,[68,69,70,73,78,73,84,73,79,78,83],q1)::(5,[73,77,80,76,73,67,73,84],q2)::(5,[84,65,71,83],q3)::(6,[58,58,61],q4)::(5,[66,69,71,73,78],q5)::(1,[83],q6)::(6,[58,58,61],q7)::(5,[83,69,84],q8)::(6,[123],q9)::(2,102::DK n,p1)::(6,[91],p2)::(3,DK n,p3)::(6,[93],p4)::(5,[73,78,84,69,71,69,82],p5)::ts)=some (VF n l):=by
 obtain⟨p,q,g⟩:=rK (T:=IS 0) (d:=0) (by decide) l (n:=n) (k:=1000) (p1:=p1) (p2:=p2) (p3:=p3) (p4:=p4) (p5:=p5) (ns:=[Gm]) (nd:={ Hz (false,0,0)with kind:=8 }) h hn hl (by simp only[AN,BQ];omega) (by omega) rfl rfl
 have ty:IS 2 0 ((5,[83,69,84],q8)::(6,[123],q9)::(2,102::DK n,p1)::(6,[91],p2)::(3,DK n,p3)::(6,[93],p4)::(5,[73,78,84,69,71,69,82],p5)::ts) []=some (0,[(5,[69,78,68],p),(0,[],q)],Wy n l::(n::l).map Mc):=by
  show Lt (IS 1) 0 _ []=_
  unfold Lt
  dsimp only
  rw[show eR (5,[83,69,84],q8)=true from by kernel_rfl,iJ]
  show ((JM (IS 1) 0 (Hz (false,0,0)) _ [Gm]).map fun s=>(0,s.2.1,s.2.2.set 0 s.1))=_
  rw[jg,qn]
  show ((NQ (Lt (IS 0)) 0 1000 _ _ [Gm]).map fun s=>(0,s.2.1,s.2.2.set 0 s.1))=_
  rw[g]
  show some (0,_,([Gm]++(n::l).map Mc).set 0 _)=_
  have e:(([]:List Bj).length+l.length+1)=l.length+1:=by simp
  show some (0,[(5,[69,78,68],p),(0,[],q)],({ Hz (false,0,0)with kind:=8,fields:=[]++FD 1 (n::l),root:=([]:List Bj).length+l.length+1 }:Am)::(n::l).map Mc)=_
  rw[e]
  rfl
 rw[qZ,jn (n:=49) (by decide) ty,ry]
 rfl
theorem AD8 (n:Nat) (l:List Nat) (h9:l.length<20):Ki (VF n l):=by
 refine⟨fun nd h=>?_,⟨?_,show 1<=40 by decide⟩,rfl,fun i hi=>?_⟩
 ·have h:nd=Wy n l\/∃x,nd=Mc x:=by
   rcases Ax.1 h with h|h
   ·exact .inl h
   ·obtain⟨x,_,e⟩:=GA.1 h
    exact .inr ⟨x,e.symm⟩
  rcases h with rfl|⟨x,rfl⟩
  ·refine⟨show (8:Nat)≠11 by decide,show (8:Nat)<=10 by decide,?_⟩
   show (FD 1 (n::l)).length<=5000
   rw[Hk];simp only[AN];omega
  ·exact⟨show (2:Nat)≠11 by decide,show (2:Nat)<=10 by decide,show (0:Nat)<=5000 by decide⟩
 ·show (Wy n l::(n::l).map Mc).length<=300
  simp only[AN,CD];omega
 ·have hi:i<1:=hi
  have:i=0:=by omega
  subst this;rfl
def AEA:X7:=⟨false,false,false,false,0,0⟩
def Km (x:Nat):Dr:=⟨2,[(2,x)],AEA,[],[],0,false,0⟩
def ud (n:Nat) (l:List Nat):Dr:=⟨8,[(0,17)],AEA,[],FD 1 (n::l),l.length+1,false,0⟩
def My (n:Nat) (l:List Nat):List Dr:=ud n l::(n::l).map Km
theorem rH {m:Cg} {k x d:Nat} {tl:List Dr} (hk:m.ns[k]? = some (Mc x)) (hm:m.tg=1) (hx:x<50) (hd:d<=16) (hl:tl.length<300):GV m 1 d k tl=some (tl.length,tl++[Km x]):=by
  show Oo m (JJ m (GV m 0)) d k tl=_
  unfold Oo
  rw[hk]
  dsimp only
  have h11:decide ((Mc x).kind=11)=false:=rfl
  have h8:decide ((Mc x).kind=8)=false:=rfl
  have mk:JJ m (GV m 0) d (Mc x) tl=some (tl.length,tl++[HD (Mc x)]):=by
    unfold JJ
    rw[h8]
    dsimp only
    unfold Yo
    rw[show Ys (Mc x).kind=true from rfl,decide_eq_true hd,decide_eq_true hl,show ra (Mc x).kind=true from rfl]
    rfl
  rw[h11,mk]
  show (match (tl++[HD (Mc x)])[tl.length]? with
        | none=>none
        | some t=>match decide (t.tags.length=1)&&(decide (0<=AA x)&&decide (AA x<=268435456))with
          | false=>none
          | true=>some (tl.length,(tl++[HD (Mc x)]).set tl.length { t with tags:=T8 (AA x).toNat (Qq m (Mc x)) t.tags }))=_
  have e:(tl++[HD (Mc x)])[tl.length]? = some (HD (Mc x)):=by simp
  rw[e]
  dsimp only
  have c:(decide ((HD (Mc x)).tags.length=1)&&(decide (0<=AA x)&&decide (AA x<=268435456)))=true:=by
    simp only[AG,decide_eq_true_eq,Db]
    exact⟨rfl,by omega,by omega⟩
  rw[c]
  dsimp only
  rw[KH _ _ (AK _),JG]
  have mi:Qq m (Mc x)=true:=by
    unfold Qq
    rw[hm];rfl
  rw[mi]
  rfl
theorem PA {m:Cg} (hm:m.tg=1):∀(l:List Nat) (i:Nat) (tl:List Dr),(∀(j x:Nat),l[j]? = some x->m.ns[i+j]? = some (Mc x))->(∀x∈l,x<50)->tl.length=i->i+l.length<300->H2 (GV m 1) 0 (FD i l) tl=some (FD i l,tl++l.map Km)
 | [],i,tl,_,_,_,_=>by simp[FD,H2]
 | x::l,i,tl,h,h50,ht,hl=>by
  have hn:=rH (d:=0+1) (tl:=tl) (h 0 x rfl) hm (h50 x Ab) (by decide) (by simp only[AN]at hl;omega)
  have ih:=PA hm l (i+1) (tl++[Km x]) (fun j y hj=>by
   have:=h (j+1) y (by simpa using hj)
   rwa [show i+(j+1)=i+1+j by omega]at this) (fun y hy=>h50 y (BM _ hy)) (by rw[AS,ht];rfl) (by simp only[AN]at hl;omega)
  show ((GV m 1 (0+1) (i+0) tl).bind fun r=>(H2 (GV m 1) 0 (FD (i+1) l) r.2).map fun q=>(({ name:=102::DK x,type:=r.1,opt:=false,group:=0 }:Bj)::q.1,q.2))=_
  rw[hn,C0]
  dsimp only
  rw[ih,ht]
  show some ((⟨102::DK x,i,false,0⟩:Bj)::FD (i+1) l,(tl++[Km x])++l.map Km)=_
  rw[DN]
  rfl
theorem J0:∀(l:List Nat) (i k:Nat) (f:Bj),(FD i l)[k]? = some f->∃x,l[k]? = some x/\f=⟨102::DK x,i+k,false,0⟩
 | [],i,k,f,h=>by simp[FD]at h
 | x::l,i,0,f,h=>by simp[FD]at h;exact⟨x,rfl,h.symm⟩
 | x::l,i,k+1,f,h=>by
  have h:(FD (i+1) l)[k]? = some f:=by simpa[FD]using h
  obtain⟨y,hy,e⟩:=J0 l (i+1) k f h
  exact⟨y,by simpa using hy,by rw[e,show i+1+k=i+(k+1)by omega]⟩
theorem jD {l:List Nat} (h50:∀x∈l,x<50) (hnd:l.Nodup) (i:Nat):sG (FD i l):=by
 intro j k f g hjk hf hg
 obtain⟨x,hx,rfl⟩:=J0 l i j f hf
 obtain⟨y,hy,rfl⟩:=J0 l i k g hg
 refine dt x y (h50 x (DA hx)) (h50 y (DA hy)) fun e=>?_
 subst e
 have hj:=(AY.1 hx).1
 have:=(List.getElem?_inj hj hnd).1 (hx.trans hy.symm)
 omega
theorem Wl {l:List Nat} (h:l.Nodup):(l.map fun x=>((2:Nat),x)).Nodup:=by
 exact List.pairwise_map.2 (List.Pairwise.imp (fun hne e=>hne (by injection e)) h)
theorem jC {n:Nat} {l:List Nat} (h50:∀x∈n::l,x<50) (hnd:(n::l).Nodup) (h9:l.length<20):Mo (GV (VF n l) 2) [0] [] []=some ([0],My n l):=by
 have q:GV (VF n l) 2 0 0 []=some (0,My n l):=by
  show Oo (VF n l) (JJ (VF n l) (GV (VF n l) 1)) 0 0 []=_
  unfold Oo
  show ((JJ (VF n l) (GV (VF n l) 1) 0 (Wy n l) []).bind fun r=>some r)=_
  have fs:=PA (m:=VF n l) rfl (n::l) 1 [HD (Wy n l)] (fun j x hj=>by
   show (Wy n l::(n::l).map Mc)[1+j]? = _
   rw[show 1+j=j+1 by omega,Bb,Aw,hj];rfl) h50 rfl (by simp only[AN];omega)
  have mk:JJ (VF n l) (GV (VF n l) 1) 0 (Wy n l) []=some (0,My n l):=by
   unfold JJ
   rw[show decide ((Wy n l).kind=8)=true from rfl]
   show ((H2 (GV (VF n l) 1) 0 (FD 1 (n::l)) [HD (Wy n l)]).bind fun r=>match r.2[0]? with
    | none=>none
    | some t=>@ite _ (Zq (VF n l) (Wy n l) 0 t r.1 r.2) (Classical.propDecidable _) (some (0,r.2.set 0 { t with fields:=r.1 })) none)=_
   rw[fs,C0]
   show @ite _ (Zq (VF n l) (Wy n l) 0 (HD (Wy n l)) (FD 1 (n::l)) ([HD (Wy n l)]++(n::l).map Km)) (Classical.propDecidable _) (some (0,My n l)) none=_
   rw[if_pos]
   refine⟨show (1:Nat)≠2 by decide,fun e=>?_,jD h50 hnd 1,?_,show (8:Nat)≠7 by decide,(n::l).map fun x=>(2,x),?_,fun k f tg hf hg=>?_,Wl hnd,?_⟩
   ·have:=congrArg HK e
    have h2:(FD 1 (n::l)).length=0:=this
    rw[Hk]at h2;simp at h2
   ·show (FD 1 (n::l)).length<=5000
    rw[Hk];simp only[AN];omega
   ·rw[Hk,CD]
   ·obtain⟨x,hx,rfl⟩:=J0 _ _ _ _ hf
    rw[Aw,hx]at hg
    cases hg
    refine⟨Km x,?_,show (2:Nat)≠9 by decide,rfl⟩
    show (({ HD (Wy n l)with fields:=FD 1 (n::l) }:Dr)::(n::l).map Km)[1+k]? = _
    rw[show 1+k=k+1 by omega,Bb,Aw,hx];rfl
   ·rw[Hk];simp only[AN];omega
  rw[mk];rfl
 show (GV (VF n l) 2 0 0 []).bind (fun r=>Mo (GV (VF n l) 2) [] r.2 ([]++[r.1]))=_
 rw[q];rfl
structure lh (U:H) (esz n:Nat) (v:V) (g:Nat->List V):Prop where
 s:∃m,DL U esz n v m/\∀k,k<n->(m.drop (k*esz)).take esz=g k
section
variable {U U':H} {esz n:Nat} {v:V} {g:Nat->List V}
theorem lh.len (h:lh U esz n v g):P5 v n:=by
 obtain⟨m,s,_⟩:=h.s
 exact⟨s.one,fun J=>s.slen⟩
theorem lh.fr0 (h:lh U esz n v g) (f:Fr AL U U') (ht:Ar U):lh U' esz n v g:=by
 obtain⟨m,s,c⟩:=h.s
 exact⟨m,s.fr f ht (fun _ _ h=>h),c⟩
theorem lh.all {E:EB} (h:lh U esz n v g) {k:Nat} (hk:k<n) (hz:0<esz) (J:List V->AF):AW esz v (AA k) (fun b o=>Bv E U b o esz J)=J (g k):=by
 obtain⟨m,s,c⟩:=h.s
 exact Iv s hk (c k hk) hz J
theorem lh.el (h:lh U esz n v g) {k:Nat} (hk:k<n):∃b o c L,v = .sl b o n c/\CQ U b L/\∀(j:Nat) (w:V),j<esz->(g k)[j]? = some w->L[o+k*esz+j]? = some w:=by
 obtain⟨m,s,c⟩:=h.s
 rcases s with ⟨h0,_⟩|⟨b,o,cp,L,e,ha,hle,hm⟩
 ·omega
 ·refine⟨b,o,cp,L,e,ha,fun j w hj hw=>?_⟩
  rw[<-c k hk,CG hj,Bm,hm]at hw
  have hmul:k*esz+esz<=n*esz:=by rw[<-Nat.succ_mul];exact EL _ hk
  rw[CG (by omega),Bm]at hw
  rw[D3];exact hw
end
def AD6 (f:Bj):Fd:=⟨BB f.name,AA f.type,f.opt,false,AA 0,AA 0,.nils,.nils,AA 0,.nils,AA f.group,rfl,rfl,rfl⟩
theorem w7 {U:H} {fs:List Bj} {v:V} (h:DL U 11 fs.length v (Ir fs)):lh U 11 fs.length v fun k=>(AD6 (fs.getD k ⟨[],0,false,0⟩)).c:=by
 refine⟨_,h,fun k hk=>?_⟩
 have e:fs[k]? = some (fs.getD k ⟨[],0,false,0⟩):=by rw[BT,AM hk];rfl
 rw[MI fs k _ e];rfl
structure Kt (U:H) (x:Ty) (nf:Nat) (fd:Nat->Fd):Prop where
 kind:x.kind=AA 8
 row:lh U 11 nf x.fields fun k=>(fd k).c
 small:nf<=1000
 root:x.root=AA nf
theorem Kt.fr {U U':H} {x:Ty} {nf:Nat} {fd:Nat->Fd} (h:Kt U x nf fd) (f:Fr AL U U') (ht:Ar U):Kt U' x nf fd:=⟨h.kind,h.row.fr0 f ht,h.small,h.root⟩
def Vc.st (l:V) (h:l.one=true) (r:Int) (m:V) (hm:m.one=true):Vc:=⟨AA 8,AA 0,.nils,l,r,m,rfl,h,hm⟩
def S5 (F:List V->H->AF):Prop:=∀{U:H} {nT i:Nat} {ty:Nat->Ty} {nm:BS} {nv rv tv:V},Ar U->IA U 13 nT tv (fun i=>(ty i).c)->nv.one=true->rv.one=true->i<nT->∃U',F [.agg [.str nm,nv,rv,tv],.int .i64 (AA i)] U=some (.agg (ty i).c,U')/\Fr AL U U'
def TD (F:List V->H->AF):Prop:=∀{U:H} {nT i nf:Nat} {ty:Nat->Ty} {fd:Nat->Fd} {nm:BS} {nv rv tv:V},Ar U->IA U 13 nT tv (fun i=>(ty i).c)->nv.one=true->rv.one=true->i<nT->Kt U (ty i) nf fd->∃U',F [.agg [.str nm,nv,rv,tv],.int .i64 (AA i)] U=some (.nils,U')/\Fr AL U U'
section
variable {E:EB} {D:Ai} {W:AH} {N:Nat}
theorem pN:S5 (oE E D W N):=by
 intro U nT i ty nm nv rv tv ht hr h1 h2 hi
 obtain⟨U1,e1,f1,a1,n1⟩:=Ca ht [.str nm,nv,rv,tv]
 have r1:=hr.fr0 f1 ht
 have hl:=hr.len
 have rd:∀J,AW 13 tv (AA i) (fun b o=>Bv E U1 b o 13 J)=J (ty i).c:=fun J=>r1.all hi J
 refine⟨U1,?_,f1⟩
 have h3:=hl.1
 have d1:decide (nT<=i)=false:=decide_eq_false (by omega)
 show XH E D W nm nv rv tv (AA i) U=_
 unfold XH
 simp -implicitDefEqProofs only [↓rP,rA,AB,AE,AD,h1,h2,h3,↓e1,Cw,↓AZ a1,↓hl.2,d1,↓rd,Ty.c,(ty i).oneT,(ty i).oneI,(ty i).oneF]
theorem gz (n:Nat) (hN:0<N) (U:H):fE E D W N [.int .i64 (AA n),.int .i64 (AA n)] U=some (.nils,U):=by
 obtain⟨N,rfl⟩:∃k,N=k+1:=⟨N-1,by omega⟩
 show Sv E D W (Sw E D W) (Xj E D W (N+1) N) (AA n) .nils (AA n) U=_
 have d1:decide (n<n)=false:=decide_eq_false (C7 n)
 have key:∀R,Sv E D W (Sw E D W) R (AA n) .nils (AA n) U=some (.nils,U):=fun R=>by
  unfold Sv Sw
  rw[C5,d1,Bz]
 exact key _
theorem xN (hT:S5 (D 130)) (hP:∀(n:Nat) (U:H),D 131 [.int .i64 (AA n),.int .i64 (AA n)] U=some (.nils,U)) (hN:0<N):TD (fI E D W N):=by
 intro U nT i nf ty fd nm nv rv tv ht hr h1 h2 hi hs
 obtain⟨N,rfl⟩:∃k,N=k+1:=⟨N-1,by omega⟩
 obtain⟨U1,e1,f1,a1,n1⟩:=Ca ht [.str nm,nv,rv,tv]
 obtain⟨U2,g2,f2⟩:=hT (nm:=nm) f1.tidy (hr.fr0 f1 ht) h1 h2 hi
 have h3:=hr.len.1
 refine⟨U2,?_,f1.trans f2 (fun _ _ h=>h)⟩
 unfold Ty.c at g2
 have lf:=hs.row.len
 have gp:=hP nf U2
 have hk:=hs.kind
 have hrt:=hs.root
 have mx:Nz (AA nf) (AA 0)=AA nf:=by rw[iI,Nat.max_eq_left (DZ _)]
 show S0 E D W (Xl E D W (N+1) (N+1)) nm nv rv tv (AA i) U=_
 have key:∀K,S0 E D W K nm nv rv tv (AA i) U=K .nils .nils (AA 0) (AA 0) (AA 8) (ty i).tags (ty i).has (ty i).hasLow (ty i).hasHigh (ty i).conMore (ty i).low (ty i).high (ty i).items (ty i).fields (AA nf) (ty i).more (ty i).of_ U2:=by
  intro K
  unfold S0
  rw[hk,hrt]at g2
  simp -implicitDefEqProofs only [↓rP,rA,AB,AE,AD,h1,h2,h3,↓e1,↓BX a1,↓g2,(ty i).oneT,(ty i).oneI,(ty i).oneF,↓lf.2,mx,↓gp]
 rw[key]
 show Sy E D W (Sz E D W) _ .nils .nils (AA 0) (AA 0) _ _ _ _ _ _ _ _ _ _ _ _ _ U2=_
 have k2:∀K3,Sy E D W (Sz E D W) K3 .nils .nils (AA 0) (AA 0) (AA 8) (ty i).tags (ty i).has (ty i).hasLow (ty i).hasHigh (ty i).conMore (ty i).low (ty i).high (ty i).items (ty i).fields (AA nf) (ty i).more (ty i).of_ U2=some (.nils,U2):=fun K3=>by
  unfold Sy Sz
  rw[C5,decide_eq_false (C7 0),Bz]
  all_goals rfl
 exact k2 _
theorem dZ {U:H} {p nT i nf:Nat} {ty:Nat->Ty} {fd:Nat->Fd} {nm:BS} {nv rv tv:V} (hS:TD (D 111)) (hN:0<N) (ht:Ar U) (hc:Ck U p nT ty nm nv rv tv [.bool false]) (hi:i<nT) (hs:Kt U (ty i) nf fd) (v:Vc) :
  ∃U',F93 E D W N [.ptr p 0,.int .i64 (AA i),.agg v.c] U=some (.bool true,U')/\Fr AL U U':=by
 obtain⟨N,rfl⟩:∃k,N=k+1:=⟨N-1,by omega⟩
 obtain⟨U1,e1,f1,a1,n1⟩:=Ca ht v.c
 have c1:=hc.fr f1 ht
 have rd:∀J,AW 13 tv (AA i) (fun b o=>Bv E U1 b o 13 J)=J (ty i).c:=fun J=>c1.row.all hi J
 obtain⟨U2,g2,f2⟩:=hS (nm:=nm) f1.tidy c1.row c1.n1 c1.r1 hi (hs.fr f1 ht)
 have pt:=c1.at_
 refine⟨U2,?_,f1.trans f2 (fun _ _ h=>h)⟩
 unfold Vc.c at e1 a1
 simp only[GG,Ff]at pt
 have key:∀K,ZJ E D W K p 0 (AA i) v.k v.n v.b v.l v.r v.m U=K U.next 0 .nils (AA 0) (AA 0) (ty i).kind (ty i).tags (ty i).has (ty i).hasLow (ty i).hasHigh (ty i).conMore (ty i).low (ty i).high (ty i).items (ty i).fields (ty i).root (ty i).more (ty i).of_ U2:=by
  intro K
  unfold ZJ
  simp -implicitDefEqProofs only [↓rP,rA,AB,AE,AD,c1.n1,c1.r1,c1.t1,v.oneB,v.oneL,v.oneM,↓e1,↓c1.types,↓rd,Ty.c,(ty i).oneT,(ty i).oneI,(ty i).oneF,↓BX pt,↓g2]
 show ZJ E D W (lp E D W (N+1) (N+1)) p 0 (AA i) v.k v.n v.b v.l v.r v.m U=_
 rw[key]
 show ZH E D W (ZI E D W) _ _ U.next 0 .nils (AA 0) (AA 0) _ _ _ _ _ _ _ _ _ _ _ _ _ U2=_
 have k0:∀K3 K5,ZH E D W (ZI E D W) K3 K5 U.next 0 .nils (AA 0) (AA 0) (ty i).kind (ty i).tags (ty i).has (ty i).hasLow (ty i).hasHigh (ty i).conMore (ty i).low (ty i).high (ty i).items (ty i).fields (ty i).root (ty i).more (ty i).of_ U2=some (.bool true,U2):=by
  intro K3 K5
  unfold ZH ZI
  rw[C5,decide_eq_false (C7 0),Bz]
  all_goals rfl
 exact k0 _ _
end
def AHG (F:List V->H->AF) (nT:Nat) (ty:Nat->Ty) (f:Fd) (v:Vc):Prop:=Bt v.k (AA 0)=false/\f.has=false/\∃j,f.type=AA j/\lK F nT ty j v
section
variable {E:EB} {D:Ai} {W:AH} {N:Nat} {U U':H} {p nT:Nat} {ty:Nat->Ty} {nm:BS} {nv rv tv:V} {rest:List V}
theorem xC (ht:Ar U) (hc:Ck U p nT ty nm nv rv tv rest) {i:Nat} (hi:i<nT) (v:Vc) (hm:v.m = .nils) (hr:v.r=AA 0) :
  ∃U',F90 E D W N [.ptr p 0,.int .i64 (AA i),.agg v.c] U=some (.bool true,U')/\Fr AL U U':=by
 obtain⟨U1,e1,f1,a1,n1⟩:=Ca ht v.c
 have c1:=hc.fr f1 ht
 have rd:∀J,AW 13 tv (AA i) (fun b o=>Bv E U1 b o 13 J)=J (ty i).c:=fun J=>c1.row.all hi J
 refine⟨U1,?_,f1⟩
 show j1 E D W _ p 0 (AA i) v.k v.n v.b v.l v.r v.m U=_
 unfold j1
 unfold Vc.c at e1 a1
 rw[hm,hr]at e1 a1
 rw[hm,hr]
 simp -implicitDefEqProofs only [↓rP,rA,AB,AE,AD,v.oneB,v.oneL,↓e1,↓c1.types,↓rd,Ty.c,(ty i).oneT,(ty i).oneI,(ty i).oneF,↓AZ a1,↓BX a1]
theorem gX {v:Vc} {ru:Int} {q:Nat} (hq:∀U1:H,Ar U1->Fr AL U U1->∃U2,D 17 [.agg v.c,.int .i64 ru] U1=some (.bool true,U2)/\Fr AL U1 U2) (ht:Ar U) (ha:CQ U q [.int .i64 ru]) :
  ∃U',F33 E D W N ([]++[.agg v.c]++[.ptr q 0]) U=some (.bool false,U')/\Fr AL U U':=by
 obtain⟨U1,e1,f1,a1,n1⟩:=Ca ht v.c
 obtain⟨U2,g2,f2⟩:=hq U1 f1.tidy f1
 have a2:=f1.at_ ha ht (fun h=>h)
 refine⟨U2,?_,f1.trans f2 (fun _ _ h=>h)⟩
 unfold Vc.c at e1 a1 g2
 show kl E D W v.k v.n v.b v.l v.r v.m (.ptr q 0) U=_
 unfold kl
 simp -implicitDefEqProofs only [↓rP,rA,AB,AE,AD,v.oneB,v.oneL,v.oneM,↓e1,↓BX a1,↓AZ a2,↓g2]
theorem pX {x:Ty} {nf:Nat} {fd:Nat->Fd} {g:Nat->Vc} {l:V} {r:Int} {mv:V} {i dp q k j:Nat} (hv:Bt (g k).k (AA 0)=false) (hh:(fd k).has=false) (hj:(fd k).type=AA j) (hfit:lK (D 30) nT ty j (g k)) (hd:dp<=16) (hlt:k<nf) (ht:Ar U) (hc:Ck U p nT ty nm nv rv tv rest) (hs:Kt U x nf fd) (hr:IA U 6 nf l (fun k=>(g k).c)) (qa:CQ U q [.int .i64 (AA 8),.int .i64 (AA 0),.nils,l,.int .i64 r,mv]) :
  ∃U2,Fr AL U U2/\∀K1 K3,RD E D W K1 K3 p 0 (AA i) (AA dp) q 0 x.fields (AA nf) (AA k) x.kind x.tags x.has x.hasLow x.hasHigh x.conMore x.low x.high x.items x.fields x.root x.more x.of_ U=K3 p 0 (AA i) (AA dp) q 0 x.fields (AA nf) (AA k) x.kind x.tags x.has x.hasLow x.hasHigh x.conMore x.low x.high x.items x.fields x.root x.more x.of_ U2:=by
 have rf:∀J,AW 11 x.fields (AA k) (fun b o=>Bv E U b o 11 J)=J (fd k).c:=fun J=>hs.row.all hlt (by decide) J
 have rg:∀J,AW 6 l (AA k) (fun b o=>Bv E U b o 6 J)=J (g k).c:=fun J=>hr.all hlt J
 have d1:decide (k<nf)=true:=decide_eq_true hlt
 obtain⟨U2,g2,f2⟩:=hfit U p (dp+1) nm nv rv tv rest ht hc (by omega)
 unfold Vc.c at rg g2
 unfold Fd.c at rf
 refine⟨U2,f2,fun K1 K3=>?_⟩
 unfold RD
 simp -implicitDefEqProofs only [↓rP,rA,AB,AE,AD,d1,↓rf,(fd k).one2,(fd k).one3,(fd k).one5,↓AZ qa,↓rg,(g k).oneB,(g k).oneL,(g k).oneM,hv,hh,hj,A3 (show dp+1<=9223372036854775807 by omega),↓g2]
theorem pY {x:Ty} {nf:Nat} {fd:Nat->Fd} {g:Nat->Vc} {l:V} {hl:l.one=true} {r:Int} {mv:V} {hm:mv.one=true} {i dp q:Nat} (hF:∀k,k<nf->AHG (D 30) nT ty (fd k) (g k)) (hd:dp<=16) :
  ∀(m n' k:Nat) (U:H),k+m=nf->m<n'->Ar U->Ck U p nT ty nm nv rv tv rest->Kt U x nf fd->IA U 6 nf l (fun k=>(g k).c)->CQ U q (Vc.st l hl r mv hm).c ->
   ∃U',Zy E D W N n' p 0 (AA i) (AA dp) q 0 x.fields (AA nf) (AA k) x.kind x.tags x.has x.hasLow x.hasHigh x.conMore x.low x.high x.items x.fields x.root x.more x.of_ U=mm E D W N p 0 (AA i) q 0 U'/\Fr AL U U':=by
 intro m
 induction m with
 | zero=>
  intro n' k U hk hn' ht hc hs hr hq
  obtain⟨n',rfl⟩:∃k,n'=k+1:=⟨n'-1,by omega⟩
  refine⟨U,?_,Fr.refl ht⟩
  show RD E D W _ _ p 0 (AA i) (AA dp) q 0 x.fields (AA nf) (AA k) _ _ _ _ _ _ _ _ _ _ _ _ _ U=_
  unfold RD
  rw[C5,decide_eq_false (by omega),Bz]
 | succ m ih=>
  intro n' k U hk hn' ht hc hs hr hq
  obtain⟨n',rfl⟩:∃k,n'=k+1:=⟨n'-1,by omega⟩
  have hlt:k<nf:=by omega
  have sm:=hs.small
  have step:∃U2,Fr AL U U2/\∀K1 K3,RD E D W K1 K3 p 0 (AA i) (AA dp) q 0 x.fields (AA nf) (AA k) x.kind x.tags x.has x.hasLow x.hasHigh x.conMore x.low x.high x.items x.fields x.root x.more x.of_ U=K3 p 0 (AA i) (AA dp) q 0 x.fields (AA nf) (AA k) x.kind x.tags x.has x.hasLow x.hasHigh x.conMore x.low x.high x.items x.fields x.root x.more x.of_ U2:=by
   obtain⟨hv,hh,j,hj,hfit⟩:=hF k hlt
   exact pX hv hh hj hfit hd hlt ht hc hs hr hq
  obtain⟨U2,f2,step⟩:=step
  obtain⟨U3,h3,f3⟩:=ih n' (k+1) U2 (by omega) (by omega) f2.tidy (hc.fr f2 ht) (hs.fr f2 ht) (hr.fr0 f2 ht) (f2.at_ hq ht (fun h=>h))
  refine⟨U3,?_,f2.trans f3 (fun _ _ h=>h)⟩
  refine(step _ _).trans ?_
  show kL E D W (Zy E D W N n') p 0 (AA i) (AA dp) q 0 x.fields (AA nf) (AA k) x.kind x.tags x.has x.hasLow x.hasHigh x.conMore x.low x.high x.items x.fields x.root x.more x.of_ U2=_
  unfold kL
  rw[A3 (by omega)]
  exact h3
theorem UJ (hP:H9 (D 51)) {nf:Nat} {fd:Nat->Fd} {g:Nat->Vc} {l:V} {hl:l.one=true} {r:Int} {mv:V} {hm:mv.one=true} {i dp:Nat} (hF:∀k,k<nf->AHG (D 30) nT ty (fd k) (g k)) (hd:dp<=16) (hi:i<nT) (hN:nf<N)
  {nm':Nat} (hml:P5 mv nm')
  (hR:∀U1,Ar U1->Fr AL U U1->∃U',D 90 [.ptr p 0,.int .i64 (AA i),.agg (Vc.st l hl r mv hm).c] U1=some (.bool true,U')/\Fr AL U1 U')
  (hG:∀U1,Ar U1->Fr AL U U1->∃U',D 93 [.ptr p 0,.int .i64 (AA i),.agg (Vc.st l hl r mv hm).c] U1=some (.bool true,U')/\Fr AL U1 U')
  (ht:Ar U) (hc:Ck U p nT ty nm nv rv tv [.bool false]) (hs:Kt U (ty i) nf fd) (hr:IA U 6 nf l (fun k=>(g k).c)) :
  ∃U',F56 E D W N [.ptr p 0,.int .i64 (AA i),.agg (Vc.st l hl r mv hm).c,.int .i64 (AA dp)] U=some (.bool true,U')/\Fr AL U U':=by
 obtain⟨U1,e1,f1,a1,n1⟩:=Ca ht (Vc.st l hl r mv hm).c
 have c1:=hc.fr f1 ht
 have rd:∀J,AW 13 tv (AA i) (fun b o=>Bv E U1 b o 13 J)=J (ty i).c:=fun J=>c1.row.all hi J
 obtain⟨U2,g2,f2⟩:=hP U1 (AA 12) (AA 8) (AA 0) r .nils l mv 0 nf nm' f1.tidy P5.nils hr.len hml
 rw[show SS (AA 12) (AA 8) (AA 0) 0 nf r nm'=true from rfl]at g2
 have f02:=f1.trans f2 (fun _ _ h=>h)
 obtain⟨U3,g3,f3⟩:=hR U2 f2.tidy f02
 have f03:=f02.trans f3 (fun _ _ h=>h)
 have a2:CQ U2 U.next [.int .i64 (AA 8),.int .i64 (AA 0),.nils,l,.int .i64 r,mv]:=f2.at_ a1 f1.tidy (fun h=>h)
 have a3:CQ U3 U.next (Vc.st l hl r mv hm).c:=f3.at_ a2 f2.tidy (fun h=>h)
 obtain⟨U4,h4,f4⟩:=pY (W:=W) (N:=N) (i:=i) (q:=U.next) hF hd nf N 0 U3 (by omega) hN f3.tidy (hc.fr f03 ht) (hs.fr f03 ht) (hr.fr0 f03 ht) a3
 have f04:=f03.trans f4 (fun _ _ h=>h)
 obtain⟨U5,g5,f5⟩:=hG U4 f4.tidy f04
 have a4:CQ U4 U.next [.int .i64 (AA 8),.int .i64 (AA 0),.nils,l,.int .i64 r,mv]:=f4.at_ a3 f3.tidy (fun h=>h)
 refine⟨U5,?_,f04.trans f5 (fun _ _ h=>h)⟩
 have hln:=hr.len.2
 have hlf:=hs.row.len.2
 have e1':Br U (.cells [.int .i64 (AA 8),.int .i64 (AA 0),.nils,l,.int .i64 r,mv])=U1:=e1
 have a1':CQ U1 U.next [.int .i64 (AA 8),.int .i64 (AA 0),.nils,l,.int .i64 r,mv]:=a1
 have g3':D 90 [.ptr p 0,.int .i64 (AA i),.agg [.int .i64 (AA 8),.int .i64 (AA 0),.nils,l,.int .i64 r,mv]] U2=some (.bool true,U3):=g3
 have g5':D 93 [.ptr p 0,.int .i64 (AA i),.agg [.int .i64 (AA 8),.int .i64 (AA 0),.nils,l,.int .i64 r,mv]] U4=some (.bool true,U5):=g5
 unfold vc at g2
 have d1:decide (nf=nf)=true:=decide_eq_true rfl
 have key:∀K,kN E D W K p 0 (AA i) (AA 8) (AA 0) .nils l r mv (AA dp) U=K p 0 (AA i) (AA dp) U.next 0 (ty i).fields (AA nf) (AA 0) (ty i).kind (ty i).tags (ty i).has (ty i).hasLow (ty i).hasHigh (ty i).conMore (ty i).low (ty i).high (ty i).items (ty i).fields (ty i).root (ty i).more (ty i).of_ U3:=by
  intro K
  unfold kN
  simp -implicitDefEqProofs only [↓rP,rA,AB,AE,AD,hl,hm,↓e1',↓c1.types,↓rd,Ty.c,(ty i).oneT,(ty i).oneI,(ty i).oneF,↓AZ a1',↓BX a1',↓g2,↓AZ a2,↓BX a2,↓hln,↓hlf,d1,↓g3']
 have tail:mm E D W N p 0 (AA i) U.next 0 U4=some (.bool true,U5):=by
  show kM E D W p 0 (AA i) U.next 0 U4=_
  unfold kM
  simp -implicitDefEqProofs only [↓rP,rS,hl,hm,↓BX a4,↓g5']
 exact((key _).trans h4).trans tail
theorem de {i dp:Nat} {l:V} {hl:l.one=true} {r:Int} {mv:V} {hm:mv.one=true} {U1 U2:H} (ht:Ar U) (hc:Ck U p nT ty nm nv rv tv rest) (hi:i<nT) (hd:dp<=17) (hk:(ty i).kind=AA 8)
  (e1:Br U (.cells (Vc.st l hl r mv hm).c)=U1) (g:D 56 [.ptr p 0,.int .i64 (AA i),.agg (Vc.st l hl r mv hm).c,.int .i64 (AA dp)] U1=some (.bool true,U2)) :
  vZ E D W N [.ptr p 0,.int .i64 (AA i),.agg (Vc.st l hl r mv hm).c,.int .i64 (AA dp)] U=some (.bool true,U2):=by
 obtain⟨U1',e1',f1,a1,n1⟩:=Ca ht (Vc.st l hl r mv hm).c
 obtain rfl:U1'=U1:=e1'.symm.trans e1
 have c1:=hc.fr f1 ht
 have rd:∀J,AW 13 tv (AA i) (fun b o=>Bv E U1' b o 13 J)=J (ty i).c:=fun J=>c1.row.all hi J
 have hln:=c1.row.len.2
 unfold Vc.c Vc.st at e1 a1 g ⊢
 have d1:decide (nT<=i)=false:=decide_eq_false (by omega)
 have d2:decide (17<dp)=false:=decide_eq_false (by omega)
 show Vl E D W (kq E D W (kp E D W (vH E D W N))) p 0 (AA i) (AA 8) (AA 0) .nils l r mv (AA dp) U=_
 unfold Vl kq kp
 simp -implicitDefEqProofs only [↓rP,rA,AB,AE,AD,Cw,hl,hm,↓e1,↓c1.types,↓hln,d1,d2,↓rd,Ty.c,hk,(ty i).oneT,(ty i).oneI,(ty i).oneF,↓AZ a1,↓BX a1,↓g]
end
def Kg (n:Nat):List Nat:=if n<31 then [128+n,1,n] else [159,n,1,n]
theorem yH (n:Nat) (h:n<50):nI (Kg n)=WV 2 false n [AA n]:=by
 have:∀k:Fin 50,nI (Kg k.val)=WV 2 false k.val [AA k.val]:=by decide +kernel
 exact this ⟨n,h⟩
theorem rO (n:Nat) (h:n<50):nI (L4 (Wc (AA n)) (FM (AA n)))=[AA n]:=by
 have:∀k:Fin 50,nI (L4 (Wc (AA k.val)) (FM (AA k.val)))=[AA k.val]:=by decide +kernel
 exact this ⟨n,h⟩
theorem Y4 (n:Nat):(Kg n).length<=4/\3<=(Kg n).length:=by unfold Kg;split<;>simp
theorem jA {U:H} {n k:Nat} {v:V} {l:List V} (h:DM U 1 n v l) (hk:k<n):∃u,Cs 1 v (some (.int .i64 (AA k))) none none=some u/\DL U 1 (n-k) u (l.drop k):=by
 have go:∀{b:Nat} {c:Ri},(c = .op 1\/c = .ex n)->CQ U b l->l.length=n*1->v = .sl b 0 n c->∃u,Cs 1 v (some (.int .i64 (AA k))) none none=some u/\DL U 1 (n-k) u (l.drop k):=by
  intro b c hc ha hl hv
  subst hv
  have hb:Ag k n=true:=by rw[Ac];omega
  have hbn:Ag n n=true:=by rw[Ac];omega
  have hne:Ak k n=false:=by
   cases e:Ak k n with
   | false=>rfl
   | true=>exact absurd (Bo e) (by omega)
  have hne':Ak n k=false:=by
   cases e:Ak n k with
   | false=>rfl
   | true=>exact absurd (Bo e) (by omega)
  have src:∀c',DL U 1 (n-k) (.sl b (0+k*1) (n-k) c') (l.drop k):=fun c' => .inr ⟨b,0+k*1,c',l,rfl,ha,by omega,by
   rw[BA,B8,B8,Dj (by rw[CA];omega)]⟩
  rcases hc with rfl|rfl
  ·refine⟨_,?_,src (.op 1)⟩
   unfold Cs
   simp only[ov,show G0 none n=some n from rfl,hb,hbn,hne]
   rfl
  ·refine⟨_,?_,src (.ex (n-k))⟩
   unfold Cs
   simp only[ov,show G0 none n=some n from rfl,hb,hbn,hne']
   rfl
 rcases h with (⟨h0,hv,hl⟩|⟨b,hv,ha,h0,hl⟩)|⟨b,hv,ha,hl⟩
 ·omega
 ·exact go (.inl rfl) ha hl hv
 ·exact go (.inr rfl) ha hl hv
def El (U:H) (u:V) (n:Nat):Prop:=DM U 1 (Kg n).length u (Je (nI (Kg n)))/\V.beq u u=true
theorem El.fr {S:Nat->Prop} {U U':H} {u:V} {n:Nat} (h:El U u n) (f:Fr S U U') (ht:Ar U) (hn:∀b,AJ u b->¬S b):El U' u n:=⟨h.1.fr f ht hn,h.2⟩
theorem By.get {E:EB} {U:H} {x:V} {n k:Nat} {l:List V} {c:Int} (h:DL U 1 n x l) (hk:l[k]? = some (.int .u8 c)) (J:V->AF):AW 1 x (AA k) (fun b o=>EG E U b o J)=J (.int .u8 c):=by
 have hlen:=h.length
 have hlt:=(AY.1 hk).1
 exact Gi (off:=0) h (by omega) (by decide) (by rw[B8];exact hk) J
def S6 (F:List V->H->AF):Prop:=∀{U:H} {u:V} {n k:Nat} {l:List V},DL U 1 k u (.int .u8 (AA n)::l)->31<=n->n<50->F [u] U=some (.tup [.int .u64 (AA n),.int .i64 (AA 1),.int .i64 (AA 0)],U)
def XT (F:List V->H->AF):Prop:=∀{U:H} {u:V} {n:Nat},El U u n->n<50->F [u] U=some (.tup [.int .i64 (AA n),.int .i64 (AA ((Kg n).length-3)),.int .i64 (AA 0)],U)
def XU (F:List V->H->AF):Prop:=∀{U:H} {u:V} {k:Nat} {l:List V},DL U 1 k u (.int .u8 (AA 1)::l)->F [u] U=some (.tup [.int .i64 (AA 1),.int .i64 (AA 1),.int .i64 (AA 0)],U)
def S7 (F:List V->H->AF):Prop:=∀{U:H} {u:V} {n:Nat},Ar U->El U u n->n<50->∃a c U',F [u] U=some (.tup [.agg [.int .i64 (AA 2),.int .i64 (AA n)],.bool false,.int .i64 a,.int .i64 c,.int .i64 (AA 0)],U')/\Fr AL U U'
def TI (F:List V->H->AF):Prop:=∀{U:H} {u:V} {n:Nat},Ar U->El U u n->n<50->∃U',F [u] U=some (.agg [.int .i64 (AA 2),.int .i64 (AA n)],U')/\Fr AL U U'
def Xb (F:List V->H->AF):Prop:=∀{U:H} (a b:Nat),Ar U->∃U',F [.agg [.int .i64 (AA 2),.int .i64 (AA a)],.agg [.int .i64 (AA 2),.int .i64 (AA b)]] U=some (.bool (decide (a<b)),U')/\Fr AL U U'
def ON (F:List V->H->AF):Prop:=∀{U:H} {u v:V} {a b:Nat},Ar U->El U u a->El U v b->a<50->b<50->∃r U',F [u,v] U=some (.int .i64 r,U')/\Ci r (AA 0)=decide (a<b)/\Fr AL U U'
section
variable {E:EB} {D:Ai} {W:AH} {N:Nat}
theorem pQ (hN:0<N):S6 (fA E D W N):=by
 intro U u n k l h h31 h50
 obtain⟨N,rfl⟩:∃k,N=k+1:=⟨N-1,by omega⟩
 have r0:∀J,AW 1 u (AA 0) (fun b o=>EG E U b o J)=J (.int .u8 (AA n)):=fun J=>By.get h rfl J
 have hl:=h.length
 have sl:∀J:Nat->AF,A0 u J=J k:=fun J=>h.slen
 have d0:decide (0<k)=true:=decide_eq_true (by simp only[AN]at hl;omega)
 have d1:decide (n=128)=false:=decide_eq_false (by omega)
 have d2:decide (n<128)=true:=decide_eq_true (by omega)
 have e:Ny .u64 (SM .u64 (AA 0) 7) (BE .u64 (JE .u8 (AA n) (AA 127)))=AA n:=by
  have:∀k:Fin 50,Ny .u64 (SM .u64 (AA 0) 7) (BE .u64 (JE .u8 (AA k.val) (AA 127)))=AA k.val:=by decide +kernel
  exact this ⟨n,h50⟩
 have s57:Bt (Kc .u64 (AA 0) 57) (AA 0)=true:=by decide +kernel
 have key0:∀K,Sn E D W K u U=K (AA 0) u (AA k) (AA 0) U:=fun K=>by
  unfold Sn
  exact sl _
 show Sn E D W (Sm E D W (XE E D W) _) u U=_
 rw[key0]
 have key:∀R,Sm E D W (XE E D W) R (AA 0) u (AA k) (AA 0) U=some (.tup [.int .u64 (AA n),.int .i64 (AA 1),.int .i64 (AA 0)],U):=fun R=>by
  unfold Sm
  simp -implicitDefEqProofs only [↓rP,rS,KX,C5,d0,↓r0,decide_true,d1,s57,d2,e,show Ba .i64 (AA 0) (AA 1)=AA 1 from rfl]
 exact key _
theorem wu (hG:S6 (D 142)):XT (oD E D W N):=by
 intro U u n h h50
 have s:=h.1.src
 show Su E D W u U=_
 by_cases h31:n<31
 ·have eB:Kg n=[128+n,1,n]:=if_pos h31
  rw[eB]at s ⊢
  have r0:∀J,AW 1 u (AA 0) (fun b o=>EG E U b o J)=J (.int .u8 (AA (128+n))):=fun J=>By.get s rfl J
  have e:BE .i64 (JE .u8 (AA (128+n)) (AA 31))=AA n:=by
   have:∀k:Fin 31,BE .i64 (JE .u8 (AA (128+k.val)) (AA 31))=AA k.val:=by decide +kernel
   exact this ⟨n,h31⟩
  have d1:decide (n<31)=true:=decide_eq_true h31
  unfold Su
  simp -implicitDefEqProofs only [↓rP,rS,C5,↓r0,e,d1]
  rfl
 ·have eB:Kg n=[159,n,1,n]:=if_neg h31
  have hd:=h.1
  rw[eB]at s hd ⊢
  have r0:∀J,AW 1 u (AA 0) (fun b o=>EG E U b o J)=J (.int .u8 (AA 159)):=fun J=>By.get s rfl J
  obtain⟨w,g,sw⟩:=jA hd (k:=1) (by simp)
  have sw:DL U 1 3 w (.int .u8 (AA n)::[.int .u8 (AA 1),.int .u8 (AA n)]):=sw
  have g2:=hG sw (by omega) h50
  have e:BE .i64 (JE .u8 (AA 159) (AA 31))=AA 31:=by decide +kernel
  have gk:∀J:V->AF,gK (Cs 1 u (some (.int .i64 (AA 1))) none none) J=J w:=fun J=>by rw[g];rfl
  have d1:decide (n<31)=false:=decide_eq_false h31
  have d2:decide (268435456<n)=false:=decide_eq_false (by omega)
  have wi:BE .i64 (AA n)=AA n:=BZ (show n<=9223372036854775807 by omega)
  unfold Su
  simp -implicitDefEqProofs only [↓rP,rS,KX,C5,decide_true,↓r0,e,C7,decide_false,↓gk,↓g2,d1,d2,wi]
  rfl
theorem wv:XU (oC E D W N):=by
 intro U u k l h
 have hl:=h.length
 have sl:∀J:Nat->AF,A0 u J=J k:=fun J=>h.slen
 have r0:∀J,AW 1 u (AA 0) (fun b o=>EG E U b o J)=J (.int .u8 (AA 1)):=fun J=>By.get h rfl J
 have d0:decide (k=0)=false:=decide_eq_false (by simp only[AN]at hl;omega)
 have d1:decide (1<128)=true:=rfl
 show XG E D W u U=_
 unfold XG
 simp -implicitDefEqProofs only [↓rP,rS,KX,C5,↓sl,d0,↓r0,d1,show BE .i64 (AA 1)=AA 1 from rfl]
theorem xa:Xb (F97 E D W N):=by
 intro U a b ht
 obtain⟨U1,e1,f1,a1,n1⟩:=Ca ht [.int .i64 (AA 2),.int .i64 (AA a)]
 obtain⟨U2,e2,f2,a2,n2⟩:=Ca f1.tidy [.int .i64 (AA 2),.int .i64 (AA b)]
 have a12:=f2.at_ a1 f1.tidy (fun h=>h)
 refine⟨U2,?_,f1.trans f2 (fun _ _ h=>h)⟩
 show jy E D W (AA 2) (AA a) (AA 2) (AA b) U=_
 unfold jy
 simp -implicitDefEqProofs only [↓rP,rA,AB,AE,AD,↓e1,↓e2,↓AZ a12,↓AZ a2]
theorem pO (hN:XT (D 133)) (hL:XU (D 134)):S7 (oG E D (AT E D) N):=by
 intro U u n ht h h50
 obtain⟨U1,e1,f1,a1,n1⟩:=Ca ht [.int .i64 (AA 0),.int .i64 (AA 0)]
 have h1:=h.fr f1 ht (fun _ _ h=>h)
 have g1:=hN h1 h50
 have lB:=Y4 n
 have sl:∀J:Nat->AF,A0 u J=J (Kg n).length:=fun J=>h.1.slen
 have d0:decide ((Kg n).length=0)=false:=decide_eq_false (by omega)
 obtain⟨q,hq⟩:∃q,q=(Kg n).length-3:=⟨_,rfl⟩
 rw[<-hq]at g1
 have ad:Ba .i64 (AA 1) (AA q)=AA (1+q):=A3 (by omega)
 obtain⟨w,gw,sw⟩:=jA h1.1 (k:=1+q) (by omega)
 have sw:DL U1 1 2 w (.int .u8 (AA 1)::[.int .u8 (AA n)]):=by
  have e:(Kg n).length-(1+q)=2:=by omega
  rw[e]at sw
  have e2:(Je (nI (Kg n))).drop (1+q)=[.int .u8 (AA 1),.int .u8 (AA n)]:=by
   subst hq
   unfold Kg
   split<;>rfl
  rwa [e2]at sw
 have g2:=hL sw
 have gk:∀J:V->AF,gK (Cs 1 u (some (.int .i64 (AA (1+q)))) none none) J=J w:=fun J=>by rw[gw];rfl
 obtain⟨b,c,L,hu,ha,hL0⟩:∃b c L,u = .sl b 0 (Kg n).length c/\CQ U1 b L/\L[0]? = some (.int .u8 (AA ((Kg n).getD 0 0))):=by
  have e0:(Je (nI (Kg n)))[0]? = some (.int .u8 (AA ((Kg n).getD 0 0))):=by unfold Kg;split<;>rfl
  rcases h1.1 with (⟨h0,_,_⟩|⟨b,hv,ha,_,_⟩)|⟨b,hv,ha,_⟩
  ·omega
  ·exact⟨b,_,_,hv,ha,e0⟩
  ·exact⟨b,_,_,hv,ha,e0⟩
 obtain⟨x,hx⟩:∃x,x=(Kg n).getD 0 0:=⟨_,rfl⟩
 rw[<-hx]at hL0
 have ex:(AA x).fdiv (2 ^ (Ex (AA 6).toNat 8))=AA 2/\IntKind.wrap .u8 (BG 8 (AA x) &&& BG 8 (AA 32)).toNat=AA 0:=by
  have:∀k:Fin 50,(AA ((Kg k.val).getD 0 0)).fdiv (2 ^ (Ex (AA 6).toNat 8))=AA 2/\IntKind.wrap .u8 (BG 8 (AA ((Kg k.val).getD 0 0)) &&& BG 8 (AA 32)).toNat=AA 0:=by decide +kernel
  rw[hx];exact this ⟨n,h50⟩
 have fw:Fr AL U1 ⟨U1.next+22,U1.bl⟩:=(CO (E:=E) (n:=22) (S:=AL) f1.tidy).fr
 have lt1:=a1.lt f1.tidy
 have bne:b≠U.next:=fun e=>by
  have:b<U.next:=h.1.lt ht (by rw[hu];rfl)
  omega
 have st:∃U4,Dx E D (.store 2 (.tmp 2) (.tmp 45)) [(2,.ptr U.next 0),(45,.agg [.int .i64 (AA 2),.int .i64 (AA n)])] ⟨U1.next+22,U1.bl⟩=some (.dead,U4)/\Fr (fun k=>k=U.next) ⟨U1.next+22,U1.bl⟩ U4/\CQ U4 U.next [.int .i64 (AA 2),.int .i64 (AA n)]:=by
  obtain⟨U4,q1,q2,q3⟩:=Jl (E:=E) (D:=D) (n:=2) (x := .tmp 2) (y := .tmp 45) (e:=[(2,.ptr U.next 0),(45,.agg [.int .i64 (AA 2),.int .i64 (AA n)])]) fw.tidy (fw.at_ a1 f1.tidy (fun h=>h)) rfl (show (CP [(2,.ptr U.next 0),(45,.agg [.int .i64 (AA 2),.int .i64 (AA n)])] (.tmp 45)).cells=[.int .i64 (AA 2),.int .i64 (AA n)] from rfl) rfl
  exact⟨U4,q1,q2,q3⟩
 obtain⟨U4,g4,f4,a4⟩:=st
 have ub:=h.2
 have uo:=h.1.one
 have a6:Ba .i64 (AA (1+q)) (AA 1)=AA (1+q+1):=A3 (by omega)
 have w5:=(OJ .i64 (AA 1) (AA q)).symm.trans ad
 have w6:=(OJ .i64 (AA (1+q)) (AA 1)).symm.trans a6
 have go:Ew (JQ E U1 22 TU _ U4) E D U1 22 0 TV TU ⟨[(0,u),(2,.ptr U.next 0),(7,.int .i64 (AA n)),(8,.int .i64 (AA q)),(10,.int .i64 (AA 1)),(11,.int .i64 (AA 1))],U1.next+22,[U1.bl],[],0,[]⟩:=
  B5 u rfl (Fw rfl (Cp uo)) <|
  B5 (.ptr b (0+0*1)) rfl (Fx hu rfl (by omega)) <|
  G8 (.int .u8 (AA x)) (CO (S:=fun k=>k=U.next) f1.tidy) rfl (DC (b:=b) (off:=0+0*1) rfl ha hL0 f1.tidy bne (B0 _ rfl)) fun r1=>
  B5 (.int .u8 (AA 2)) rfl (congrArg (fun z=>some (V.int .u8 z)) ex.1) <|
  B5 (.int .i64 (AA 2)) rfl rfl <|
  B5 (.int .i64 (AA n)) rfl rfl <|
  B5 (.agg [.int .i64 (AA 2),.int .i64 (AA n)]) rfl rfl <|
  B5 u rfl (Fw rfl (Cp uo)) <|
  B5 (.ptr b (0+0*1)) rfl (Fx hu rfl (by omega)) <|
  G8 (.int .u8 (AA x)) r1 rfl (DC (b:=b) (off:=0+0*1) rfl ha hL0 f1.tidy bne (B0 _ rfl)) fun r2=>
  B5 (.int .u8 (AA 0)) rfl (congrArg (fun z=>some (V.int .u8 z)) ex.2) <|
  B5 (.bool false) rfl rfl <|
  B5 (.int .i64 (AA 1)) rfl rfl <|
  B5 (.int .i64 (AA q)) rfl rfl <|
  B5 (.int .i64 (AA (1+q))) rfl (congrArg (fun z=>some (V.int .i64 z)) w5) <|
  B5 (.int .i64 (AA 1)) rfl rfl <|
  B5 (.int .i64 (AA (1+q+1))) rfl (congrArg (fun z=>some (V.int .i64 z)) w6) <|
  MC .dead r2 rfl (by decide) (S':=fun k=>k=U.next) f4 (fun _ _ h=>h) (fun b h h1 _=>by omega) g4 fun _ _ r3=>
  B5 (.bool false) rfl rfl <|
  B5 (.int .i64 (AA 1)) rfl rfl <|
  B5 (.int .i64 (AA (1+q+1))) rfl rfl <|
  B5 (.int .i64 (AA 0)) rfl rfl <|
  Yw r3
 have d:=Gt (ops:=TV) go
 refine⟨AA 1,AA (1+q+1),U4,?_,(f1.trans fw (fun _ _ h=>h)).trans f4 (fun b hb e=>by omega)⟩
 show XJ E D (AT E D) u U=_
 unfold XJ
 have sub2:∀(p q:V) (J:List V->AF),EI [p,q] 0 2 J=J [p,q]:=fun _ _ _=>rfl
 simp -implicitDefEqProofs only [↓rP,rS,KX,decide_true,↓e1,↓sl,d0,↓g1,ad,↓gk,↓g2]
 rw[d]
 simp -implicitDefEqProofs only [↓rP,rS]
 show Bv E U4 U.next 0 2 _=_
 rw[BX a4]
 rfl
theorem qq (hT:S7 (D 120)):TI (F96 E D W N):=by
 intro U u n ht h h50
 obtain⟨a,c,U1,g1,f1⟩:=hT ht h h50
 refine⟨U1,?_,f1⟩
 show jz E D W u U=_
 unfold jz
 simp -implicitDefEqProofs only [↓rP,rS,↓g1]
theorem ri (hF:TI (D 96)) (hL:Xb (D 97)):ON (F63 E D W N):=by
 intro U u v a b ht hu hv ha hb
 obtain⟨U1,g1,f1⟩:=hF ht hu ha
 obtain⟨U2,g2,f2⟩:=hF f1.tidy (hv.fr f1 ht (fun _ _ h=>h)) hb
 obtain⟨U3,g3,f3⟩:=hL a b f2.tidy
 obtain⟨U4,g4,f4⟩:=hL b a f3.tidy
 have f03:=(f1.trans f2 (fun _ _ h=>h)).trans f3 (fun _ _ h=>h)
 show ∃r U',Va E D W u v U=_/\_
 cases h1:decide (a<b)with
 | true=>
  rw[h1]at g3
  refine⟨Az 0,U3,?_,rfl,f03⟩
  unfold Va
  simp -implicitDefEqProofs only [↓rP,rS,↓g1,↓g2,↓g3]
 | false=>
  rw[h1]at g3
  cases h2:decide (b<a)with
  | true=>
   rw[h2]at g4
   refine⟨AA 1,U4,?_,rfl,f03.trans f4 (fun _ _ h=>h)⟩
   unfold Va
   simp -implicitDefEqProofs only [↓rP,rS,↓g1,↓g2,↓g3,↓g4]
  | false=>
   rw[h2]at g4
   refine⟨AA 0,U4,?_,rfl,f03.trans f4 (fun _ _ h=>h)⟩
   unfold Va
   simp -implicitDefEqProofs only [↓rP,rS,↓g1,↓g2,↓g3,↓g4]
end
abbrev Rf:=V × Nat
def Le (a b:Rf):Prop:=a.2<=b.2
def Rh (U:H) (b:Nat) (vs:List Rf):Prop:=∀p∈vs,El U p.1 p.2/\p.2<50/\¬AJ p.1 b
theorem Rh.fr {U U':H} {b:Nat} {vs:List Rf} (h:Rh U b vs) (f:Fr (fun k=>k=b) U U') (ht:Ar U):Rh U' b vs:=fun p hp=>⟨(h p hp).1.fr f ht (fun c hc e=>(h p hp).2.2 (e ▸ hc)),(h p hp).2⟩
theorem Rh.fr0 {U U':H} {b:Nat} {vs:List Rf} (h:Rh U b vs) (f:Fr AL U U') (ht:Ar U):Rh U' b vs:=h.fr (f.mono fun _ _ e=>e.elim) ht
theorem Rh.perm {U:H} {b:Nat} {vs ws:List Rf} (h:Rh U b vs) (p:ws.Perm vs):Rh U b ws:=fun x hx=>h x (p.mem_iff.1 hx)
def XW (F:List V->H->AF):Prop:=∀{U:H} {b:Nat} {c:Ri} {vs:List Rf},Ar U->CQ U b (vs.map fun p=>p.1)->Rh U b vs->vs.length<=19 ->
 ∃vs' U',F [.sl b 0 vs.length c,.fn 63 [] []] U=some (.tup [],U')/\vs'.Perm vs/\vs'.Pairwise Le/\CQ U' b (vs'.map fun p=>p.1)/\Rh U' b vs'/\Fr (fun k=>k=b) U U'
def XV (F:List V->H->AF):Prop:=∀{U:H} {b:Nat} {c:Ri} {vs:List Rf},Ar U->CQ U b (vs.map fun p=>p.1)->Rh U b vs->vs.length<=19 ->
 ∃vs' U',F [.sl b 0 vs.length c,.int .i64 (AA vs.length),.fn 63 [] []] U=some (.tup [],U')/\vs'.Perm vs/\vs'.Pairwise Le/\CQ U' b (vs'.map fun p=>p.1)/\Rh U' b vs'/\Fr (fun k=>k=b) U U'
def lH (F:List V->H->AF):Prop:=∀{U:H} {b:Nat} {c:Ri} {vs:List Rf},Ar U->CQ U b (vs.map fun p=>p.1)->Rh U b vs->vs.length<=19 ->
 ∃vs' U',F [.sl b 0 vs.length c,.int .i64 (AA 0),.int .i64 (AA vs.length),.fn 63 [] []] U=some (.tup [],U')/\vs'.Perm vs/\vs'.Pairwise Le/\CQ U' b (vs'.map fun p=>p.1)/\Rh U' b vs'/\Fr (fun k=>k=b) U U'
theorem gG {U:H} {b o:Nat} {l:List V} {y:V} (ht:Ar U) (ha:CQ U b l) (hy:y.one=true) (ho:o<l.length):∃U',(∀J:H->AF,DX 1 b o y U J=J U')/\Fr (fun k=>k=b) U U'/\CQ U' b (l.set o y):=by
 obtain⟨U',g,f,a⟩:=Wd (off:=o) (y:=y) ht ha hy ho
 refine⟨U',g,f,?_⟩
 have e:FC l o [y]=l.set o y:=by
  clear a g ha
  induction l generalizing o with
  | nil=>simp at ho
  | cons x l ih=>
   cases o with
   | zero=>cases l<;>rfl
   | succ o=>show x::FC l o [y]=x::l.set o y;rw[ih (by simpa using ho)]
 rw[<-e];exact a
section
variable {E:EB} {D:Ai} {W:AH} {N:Nat}
theorem AD1 (hC:ON (D 63)) {b n:Nat} {c:Ri} {i:Int} (hn:n<=19)
    {K2:V->Int->Int->V->Int->H->AF} {L:Nat->V->Int->Int->V->Int->Int->H->AF}
    (hL:∀k v a q f x y s,L (k+1) v a q f x y s=Po E D W K2 (L k) v a q f x y s):∀(k:Nat) (l:List Rf) (x:Rf) (m r:List Rf) (n':Nat) (U:H),l.length=k->k<n'->(l++x::(m++r)).length=n->Ar U->CQ U b ((l++x::(m++r)).map fun p=>p.1)->Rh U b (l++x::(m++r))->(l++m).Pairwise Le->(∀y∈m,Le x y) ->
    ∃vs U',L n' (.sl b 0 n c) (AA 0) (AA n) (.fn 63 [] []) i (AA k) U=K2 (.sl b 0 n c) (AA 0) (AA n) (.fn 63 [] []) i U'/\vs.Perm (l++x::m)/\vs.Pairwise Le/\CQ U' b ((vs++r).map fun p=>p.1)/\Rh U' b (vs++r)/\Fr (fun k=>k=b) U U':=by
  intro k
  induction k with
  | zero=>
    intro l x m r n' U hl hn' hln ht ha he hs hx
    obtain⟨n',rfl⟩:∃q,n'=q+1:=⟨n'-1,by omega⟩
    have:l=[]:=BW hl
    subst this
    refine⟨x::m,U,?_,List.Perm.refl _,?_,ha,he,Fr.refl ht⟩
    · rw[hL]
      unfold Po
      simp -implicitDefEqProofs only [↓rP,rA,AB,AE,AD,C7]
    · exact ABa.2 ⟨hx,hs⟩
  | succ k ih=>
    intro l x m r n' U hl hn' hln ht ha he hs hx
    obtain⟨n',rfl⟩:∃q,n'=q+1:=⟨n'-1,by omega⟩
    obtain⟨l',y,rfl⟩:∃l' y,l=l'++[y]:=by
      rcases List.eq_nil_or_concat l with h|⟨l',y,h⟩
      · rw[h]at hl;simp at hl
      · exact⟨l',y,by rw[h,List.concat_eq_append]⟩
    have hl':l'.length=k:=by simpa using hl
    have hyl:(l'++[y])++x::(m++r)=l'++y::x::(m++r):=by simp
    rw[hyl]at ha he hln
    have hy:=he y (by simp)
    have hxx:=he x (by simp)
    obtain⟨rr,U1,g1,e1,f1⟩:=hC ht hxx.1 hy.1 hxx.2.1 hy.2.1
    have hmap:(l'++y::x::(m++r)).map (fun p=>p.1)=l'.map (fun p=>p.1)++y.1::x.1::(m++r).map (fun p=>p.1):=by simp
    have hml:(l'.map fun p=>p.1).length=k:=by rw[CD,hl']
    have gk:(l'.map (fun p=>p.1)++y.1::x.1::(m++r).map (fun p=>p.1))[k]? = some y.1:=by
      rw[BR (by omega),hml,JG];rfl
    have gk1:(l'.map (fun p=>p.1)++y.1::x.1::(m++r).map (fun p=>p.1))[k+1]? = some x.1:=by
      rw[BR (by omega),hml,IL];rfl
    rw[hmap]at ha
    have hkn:k+1<n:=by
      have:=congrArg HK hmap
      simp only[CD,AS,AN]at this hln
      omega
    have ia:∀(j:Nat),j<n->∀J:Nat->Nat->AF,AW 1 (.sl b 0 n c) (AA j) J=J b j:=fun j hj J=>by
      rw[Cb hj]
      show J b (0+j*1)=_
      rw[BA,B8]
    have i1:=ia (k+1) hkn
    have i0:=ia k (by omega)
    have sb:Dp .i64 (AA (k+1)) (AA 1)=AA k:=by rw[Fs (by omega) (by omega)];rfl
    have d0:decide (0<k+1)=true:=decide_eq_true (by omega)
    have l1:∀(U2:H),Fr AL U U2->(∀J:V->AF,EG E U2 b (k+1) J=J x.1)/\∀J:V->AF,EG E U2 b k J=J y.1:=fun U2 f2=>
      ⟨fun J=>I4 (f2.at_ ha ht (fun h=>h)) gk1,fun J=>I4 (f2.at_ ha ht (fun h=>h)) gk⟩
    have lx:=(l1 U (Fr.refl ht)).1
    have ly:=(l1 U (Fr.refl ht)).2
    have lx1:=(l1 U1 f1).1
    have ly1:=(l1 U1 f1).2
    have a1:=f1.at_ ha ht (fun h=>h)
    have cv:∀J:V->H->AF,M1 D (.fn 63 [] []) [x.1,y.1] U J=J (.int .i64 rr) U1:=fun J=>by
      show CM (D 63 [x.1,y.1] U) J=_
      rw[g1];rfl
    by_cases hlt:x.2<y.2
    · rw[decide_eq_true hlt]at e1
      have oy:y.1.one=true:=hy.1.1.one
      have ox:x.1.one=true:=hxx.1.1.one
      obtain⟨U2,g2,f2,a2⟩:=gG (o:=k+1) (y:=y.1) f1.tidy a1 oy (by simp only[AS,AN,hml];omega)
      obtain⟨U3,g3,f3,a3⟩:=gG (o:=k) (y:=x.1) f2.tidy a2 ox (by simp only[A9,AS,AN,hml];omega)
      have e3:((l'.map (fun p=>p.1)++y.1::x.1::(m++r).map (fun p=>p.1)).set (k+1) y.1).set k x.1=(l'++x::(y::m++r)).map fun p=>p.1:=by
        rw[KH _ _ (by omega),KH _ _ (by omega),hml,IL,JG]
        simp
      rw[e3]at a3
      have F:Fr (fun k=>k=b) U U3:=((f1.mono fun _ _ e=>e.elim:Fr (fun k=>k=b) U U1).trans f2 (fun _ _ e=>e)).trans f3 (fun _ _ e=>e)
      have hp:(l'++x::(y::m++r)).Perm (l'++y::x::(m++r)):=List.Perm.append_left _ (List.Perm.swap ..)
      have he3:=(he.fr F ht).perm hp
      obtain⟨vs,U4,g4,p4,s4,a4,E4,f4⟩:=ih l' x (y::m) r n' U3 hl' (by omega) (by rw[<-hln];exact hp.length_eq) f3.tidy a3 he3 (by rw[DN]at hs;exact hs) (fun z hz=>by
        rcases Ax.1 hz with rfl|hz
        · exact Nat.le_of_lt hlt
        · exact hx z hz)
      refine⟨vs,U4,?_,p4.trans ?_,s4,a4,E4,F.trans f4 (fun _ _ e=>e)⟩
      · rw[hL,<-g4]
        unfold Po
        simp -implicitDefEqProofs only [↓rP,rA,AB,AE,AD,d0,↓i1,↓i0,sb,↓lx,↓ly,↓cv,e1,↓lx1,↓ly1,↓g2,↓g3]
      · rw[DN]
        exact List.Perm.append_left _ (List.Perm.swap ..)
    · rw[decide_eq_false hlt]at e1
      refine⟨(l'++[y])++x::m,U1,?_,List.Perm.refl _,?_,?_,?_,f1.mono fun _ _ e=>e.elim⟩
      · rw[hL]
        unfold Po
        simp -implicitDefEqProofs only [↓rP,rA,AB,AE,AD,d0,↓i1,↓i0,sb,↓lx,↓ly,↓cv,e1]
      · rw[List.pairwise_append]at hs ⊢
        obtain⟨h1,h2,h3⟩:=hs
        refine⟨h1,ABa.2 ⟨hx,h2⟩,fun a ha' z hz=>?_⟩
        rcases Ax.1 hz with rfl|hz
        · have hay:a.2<=y.2:=by
            rcases EA.1 ha' with h|h
            · rw[List.pairwise_append]at h1
              exact h1.2.2 a h y (by simp)
            · rw[Cn.1 h];exact AK _
          show a.2<=z.2
          omega
        · exact h3 a ha' z hz
      · have e:((l'++[y])++x::m++r)=l'++y::x::(m++r):=by simp
        rw[e,hmap];exact a1
      · have e:((l'++[y])++x::m++r)=l'++y::x::(m++r):=by simp
        rw[e];exact he.fr0 f1 ht
theorem ie (hC:ON (D 63)) (hN:30<N):lH (fG E D W N):=by
 intro U b c vs ht ha he hn
 obtain⟨n,hnn⟩:∃n,n=vs.length:=⟨_,rfl⟩
 have outer:∀(q i n':Nat) (s r:List Rf) (U1:H),i+q=n->q<n'->s.length=i->(s++r).Perm vs->s.Pairwise Le->Ar U1->CQ U1 b ((s++r).map fun p=>p.1)->Rh U1 b (s++r)->Fr (fun k=>k=b) U U1 ->
   ∃vs' U',Lk E D W N n' (.sl b 0 n c) (AA 0) (AA n) (.fn 63 [] []) (AA i) U1=some (.tup [],U')/\vs'.Perm vs/\vs'.Pairwise Le/\CQ U' b (vs'.map fun p=>p.1)/\Rh U' b vs'/\Fr (fun k=>k=b) U U':=by
  intro q
  induction q with
  | zero=>
   intro i n' s r U1 hi hn' hs hp hso ht1 ha1 he1 f1
   obtain⟨n',rfl⟩:∃q,n'=q+1:=⟨n'-1,by omega⟩
   have hlen:=hp.length_eq
   have:r=[]:=BW (by rw[AS]at hlen;omega)
   subst this
   rw[EC]at hp ha1 he1
   refine⟨s,U1,?_,hp,hso,ha1,he1,f1⟩
   have d1:decide (i<n)=false:=decide_eq_false (by omega)
   show Pp E D W _ (.sl b 0 n c) (AA 0) (AA n) (.fn 63 [] []) (AA i) U1=_
   unfold Pp
   rw[C5,d1,Bz]
   all_goals rfl
  | succ q ih=>
   intro i n' s r U1 hi hn' hs hp hso ht1 ha1 he1 f1
   obtain⟨n',rfl⟩:∃q,n'=q+1:=⟨n'-1,by omega⟩
   have hlen:=hp.length_eq
   obtain⟨x,r,rfl⟩:∃x r',r=x::r':=by
    cases r with
    | nil=>rw[EC]at hlen;omega
    | cons x r=>exact⟨x,r,rfl⟩
   obtain⟨ws,U2,g2,p2,s2,a2,e2,f2⟩:=AD1 (E:=E) (W:=W) hC (b:=b) (n:=n) (c:=c) (i:=AA i) (by omega) (K2:=nq E D W N (Lk E D W N n')) (L:=Xk E D W N (Lk E D W N n')) (fun _ _ _ _ _ _ _ _=>rfl) i s x [] r N U1 hs (by omega) (by rw[hnn,<-hlen];rfl) ht1 ha1 he1 (by rw[EC];exact hso) (fun y hy=>by simp at hy)
   have hwl:ws.length=i+1:=by rw[p2.length_eq,AS,hs];rfl
   have hp2:(ws++r).Perm vs:=by
    refine List.Perm.trans ?_ hp
    have:=p2.append_right r
    simpa using this
   obtain⟨vs',U3,g3,h3⟩:=ih (i+1) n' ws r U2 (by omega) (by omega) hwl hp2 s2 f2.tidy a2 e2 (f1.trans f2 (fun _ _ e=>e))
   refine⟨vs',U3,?_,h3⟩
   have d1:decide (i<n)=true:=decide_eq_true (by omega)
   have k1:∀K3,Pp E D W K3 (.sl b 0 n c) (AA 0) (AA n) (.fn 63 [] []) (AA i) U1=K3 (.sl b 0 n c) (AA 0) (AA n) (.fn 63 [] []) (AA i) (AA i) U1:=fun K3=>by
    unfold Pp
    rw[C5,d1,Cy]
   refine(k1 _).trans (g2.trans ?_)
   show XK E D W (Lk E D W N n') (.sl b 0 n c) (AA 0) (AA n) (.fn 63 [] []) (AA i) U2=_
   unfold XK
   rw[A3 (by omega)]
   exact g3
 show ∃vs' U',XM E D W (Lk E D W N N) (.sl b 0 vs.length c) (AA 0) (AA vs.length) (.fn 63 [] []) U=_/\_
 have k0:∀K,XM E D W K (.sl b 0 n c) (AA 0) (AA n) (.fn 63 [] []) U=K (.sl b 0 n c) (AA 0) (AA n) (.fn 63 [] []) (AA 1) U:=fun K=>rfl
 rw[<-hnn,k0]
 cases vs with
 | nil=>
  obtain⟨N,rfl⟩:∃q,N=q+1:=⟨N-1,by omega⟩
  refine⟨[],U,?_,List.Perm.refl _,List.Pairwise.nil,ha,he,Fr.refl ht⟩
  subst hnn
  rfl
 | cons x r=>
  exact outer (n-1) 1 N [x] r U (by simp only[AN]at hnn;omega) (by omega) rfl (List.Perm.refl _) (List.pairwise_singleton _ _) ht ha he (Fr.refl ht)
theorem gE (hI:lH (D 118)) (hN:0<N):XV (F95 E D W N):=by
 intro U b c vs ht ha he hn
 obtain⟨N,rfl⟩:∃q,N=q+1:=⟨N-1,by omega⟩
 obtain⟨vs',U1,g1,h1⟩:=hI (c:=c) ht ha he hn
 refine⟨vs',U1,?_,h1⟩
 have d1:decide (20<=vs.length)=false:=decide_eq_false (by omega)
 have d2:decide (20<vs.length)=false:=decide_eq_false (by omega)
 show ZF E D W (ZG E D W (ZE E D W _)) _ (.sl b 0 vs.length c) (AA vs.length) (.fn 63 [] []) (AA 20) (AA 0) (AA 20) U=_
 have key:∀K5 R2,ZF E D W (ZG E D W (ZE E D W K5)) R2 (.sl b 0 vs.length c) (AA vs.length) (.fn 63 [] []) (AA 20) (AA 0) (AA 20) U=some (.tup [],U1):=fun K5 R2=>by
  unfold ZF ZG ZE
  simp -implicitDefEqProofs only [↓rP,rA,AB,AE,AD,d1,↓g1,d2]
 exact key _ _
theorem wz (hS:XV (D 95)):XW (F62 E D W N):=by
 intro U b c vs ht ha he hn
 obtain⟨vs',U1,g1,h1⟩:=hS (c:=c) ht ha he hn
 refine⟨vs',U1,?_,h1⟩
 show kF E D W (.sl b 0 vs.length c) (.fn 63 [] []) U=_
 unfold kF
 simp -implicitDefEqProofs only [↓rP,rS,↓g1]
end
structure Ku (U:H) (nT i:Nat) (ty:Nat->Ty) (xs:List Nat) (fd:Nat->Fd) (jt:Nat->Nat):Prop where
 st:Kt U (ty i) xs.length fd
 ft:∀k,k<xs.length->(fd k).type=AA (jt k)/\(fd k).has=false/\jt k<nT/\(ty (jt k)).kind=AA 2/\(ty (jt k)).has=false/\(ty (jt k)).conMore=false
 tg:∀k x,xs[k]? = some x->QM U [(2,x)] (ty (jt k)).tags
 tags:QM U [(0,17)] (ty i).tags
 lt:∀x∈xs,x<50
 few:xs.length<=10
 pos:0<xs.length
 bi:V.beq (ty i).items (ty i).items=true
 i:i<nT
theorem Ku.fr {U U':H} {nT i:Nat} {ty:Nat->Ty} {xs:List Nat} {fd:Nat->Fd} {jt:Nat->Nat} (h:Ku U nT i ty xs fd jt) (f:Fr AL U U') (ht:Ar U):Ku U' nT i ty xs fd jt:=
 ⟨h.st.fr f ht,h.ft,fun k x hk=>(h.tg k x hk).fr f ht (fun _ _ h=>h),h.tags.fr f ht (fun _ _ h=>h),h.lt,h.few,h.pos,h.bi,h.i⟩
def gV (xs:List Nat) (k:Nat):Vc:=Vc.int (AA (xs.getD k 0))
theorem Yx {xs:List Nat} {k x:Nat} (h:xs[k]? = some x):xs.getD k 0=x:=by rw[BT,h];rfl
def Xf (F:List V->H->AF):Prop:=∀{U:H} (n:Int),Ar U->∃U',F [.agg (Fa n)] U=some (.bool false,U')/\Fr AL U U'
def Zl (F:List V->H->AF):Prop:=∀{U:H} {p nT j x:Nat} {ty:Nat->Ty} {nm:BS} {nv rv tv:V},Ar U->Ck U p nT ty nm nv rv tv []->j<nT->(ty j).kind=AA 2->QM U [(2,x)] (ty j).tags->x<50 ->
 ∃u U',F [.ptr p 0,.int .i64 (AA j),.agg (Fa (AA x))] U=some (u,U')/\El U' u x/\(∀b,AJ u b->U.next<=b)/\Fr AL U U'
theorem xz {E:EB} {F:List V->H->AF} (h:yl E F):Zl F:=by
  intro U p nT j x ty nm nv rv tv ht hc hj hk hT hx
  obtain⟨u,U',g,n,f⟩:=h (v:=Vc.int (AA x)) (tl:=[(2,x)]) ht hc hj hk hT ⟨.inl rfl,fun t ht=>by
    rw[Cn.1 ht];exact⟨.inr rfl,by show x<16384;omega⟩⟩ (.int ⟨by simp only[Db];omega,by simp only[Db];omega⟩)
  have e:Qo false [(2,x)] (nI (L4 (Wc (AA x)) (FM (AA x))))=nI (Kg x):=by
    show WV 2 false x _=_
    rw[rO x hx,yH x hx]
  rw[e]at n
  have d:=n.1
  rw[KO]at d
  refine⟨u,U',g,⟨d,?_⟩,n.2,f⟩
  exact QZ d
section
variable {E:EB} {D:Ai} {W:AH} {N:Nat}
theorem yS (hP:H9 (D 51)):Xf (F61 E D W N):=by
 intro U n ht
 obtain⟨U',g,f⟩:=jv (E:=E) (W:=W) (N:=N) hP ht (k:=AA 2) (n:=n) (r:=AA 0) P5.nils P5.nils P5.nils
 exact⟨U',g,f⟩
theorem jO (hE:Zl (D 18)) {U:H} {p nT i k x xb wb yb:Nat} {ty:Nat->Ty} {xs:List Nat} {fd:Nat->Fd} {jt:Nat->Nat} {nm:BS} {nv rv tv lv l:V} {ws:List V} {n:Nat} (ht:Ar U) (hc:Ck U p nT ty nm nv rv tv []) (hs:Ku U nT i ty xs fd jt) (hk:xs[k]? = some x) (ax:CQ U xb (ty i).c) (aw:CQ U wb (Fa (AA x))) (hl:DM U 1 ws.length lv ws) (hw:ws.length<=100) (lx:∀b,AJ lv b->b≠xb/\b≠wb/\¬AJ (ty i).fields b) (lo:l.one=true) :
  ∃e' lv' u U',AT E D RX WA [(0,.ptr p 0),(4,.ptr xb 0),(5,.ptr yb 0),(7,lv),(8,.int .i64 (AA k)),(9,.ptr wb 0),(13,l),(14,.int .i64 (AA n)),(15,.int .i64 (AA k))] U=some (e',U')/\Go.Og.look e' 0=some (.ptr p 0)/\Go.Og.look e' 4=some (.ptr xb 0)/\Go.Og.look e' 5=some (.ptr yb 0)/\Go.Og.look e' 7=some lv'/\Go.Og.look e' 13=some l/\Go.Og.look e' 14=some (.int .i64 (AA n))/\Go.Og.look e' 15=some (.int .i64 (AA k)) /\
   DM U' 1 (ws.length+1) lv' (ws++[u])/\El U' u x/\(∀b,AJ u b->U.next<=b/\¬AJ lv' b)/\(∀b,AJ lv' b->AJ lv b\/U.next<=b)/\Fr (AJ lv) U U':=by
 have hkl:k<xs.length:=(AY.1 hk).1
 obtain⟨t1,t2,t3,t4,_,_⟩:=hs.ft k hkl
 have fw:Fr AL U ⟨U.next+13,U.bl⟩:=(CO (E:=E) (n:=13) (S:=AL) ht).fr
 obtain⟨u,U1,g1,e1,nu,f1⟩:=hE (x:=x) (nm:=nm) fw.tidy (hc.fr fw ht) t3 t4 ((hs.tg k x hk).fr fw ht (fun _ _ h=>h)) (hs.lt x (DA hk))
 have nu:∀b,AJ u b->U.next+13<=b:=nu
 have le1:U.next+13<=U1.next:=f1.le
 have uo:u.one=true:=e1.1.one
 obtain⟨U2,h2⟩:∃U2,U2=(⟨U1.next,(U.next+10,.cells [u])::U1.bl⟩:H):=⟨_,rfl⟩
 have f2:Fr (fun k=>k=U.next+10) U1 U2:=by
  rw[h2]
  refine⟨fun b hb=>?_,AK _,fun b hb hn=>?_⟩
  ·have hb:U1.next<=b:=hb
   show BU ((U.next+10,_)::U1.bl) b=none
   rw[Au,if_neg (by simp only[];omega)]
   exact f1.tidy b hb
  ·show BU ((U.next+10,_)::U1.bl) b=_
   rw[Au,if_neg (by simp only[];omega)]
 have a2:CQ U2 (U.next+10) [u]:=by
  rw[h2]
  show BU ((U.next+10,_)::U1.bl) _=_
  rw[Au,if_pos rfl]
 have e2:El U2 u x:=e1.fr f2 f1.tidy (fun b hb e=>by have:=nu b hb;omega)
 have xs2:DL U2 1 1 (V.sl (U.next+10) 0 1 (.ex 1)) [u] := .inr ⟨_,_,_,_,rfl,a2,AK _,rfl⟩
 have ll:∀b,AJ lv b->b<U.next:=fun b hb=>hl.lt ht hb
 obtain⟨lv',U3,g3,d3,m3,f3⟩:=Du (E:=E) (bytes:=24) (((hl.fr fw ht (fun _ _ h=>h)).fr f1 fw.tidy (fun _ _ h=>h)).fr f2 f1.tidy (fun b hb e=>by have:=ll b hb;omega)) f2.tidy xs2 (by simp only[BC,BP,uo,A8]) (by unfold Bw;simp only[AG,Ac];omega)
 have n2:U2.next=U1.next:=by rw[h2]
 have ul:∀b,AJ u b->b<U1.next:=fun b hb=>e1.1.lt f1.tidy hb
 have m3':∀b,AJ lv' b->AJ lv b\/U1.next<=b:=fun b hb=>(m3 b hb).imp id (fun e=>by omega)
 obtain⟨fb,fo,fc,L,hfv,hfa,hfL⟩:=hs.st.row.el hkl
 have hLk:=hfL 1 (.int .i64 (AA (jt k))) (by decide) (by rw[<-t1];rfl)
 have lvo:=hl.one
 have fo1:=(ty i).oneF
 have axc:=ax
 unfold Ty.c at axc
 have fbeq:V.beq (ty i).fields (ty i).fields=true:=by rw[hfv];exact B0 _ rfl
 have nx:¬AJ lv xb:=fun e=>(lx _ e).1 rfl
 have nw:¬AJ lv wb:=fun e=>(lx _ e).2.1 rfl
 have nf:¬AJ lv fb:=fun e=>(lx _ e).2.2 (by rw[hfv];rfl)
 have ibeq:V.beq (.agg (Fa (AA x))) (.agg (Fa (AA x)))=true:=by unfold Fa vc;exact B0 _ rfl
 have go:Ll E D U 13 0 (AJ lv) RX WA ⟨[(0,.ptr p 0),(4,.ptr xb 0),(5,.ptr yb 0),(7,lv),(8,.int .i64 (AA k)),(9,.ptr wb 0),(13,l),(14,.int .i64 (AA n)),(15,.int .i64 (AA k))],U.next+13,[U.bl],[],0,[]⟩ _ U3:=
  Eo lv rfl (Fw rfl (Cp lvo)) <|
  Eo (.ptr p 0) rfl rfl <|
  Eo (.ptr xb 9) rfl rfl <|
  N0 (ty i).fields (CO ht) rfl (DC (b:=xb) (off:=9) rfl axc rfl ht nx fbeq) fun _ r1=>
  Eo (.int .i64 (AA k)) rfl rfl <|
  Eo (.ptr fb (fo+k*11)) rfl (Fx hfv rfl hkl) <|
  Eo (.ptr fb (fo+k*11+1)) rfl rfl <|
  N0 (.int .i64 (AA (jt k))) r1 rfl (DC (b:=fb) (off:=fo+k*11+1) rfl hfa hLk ht nf (B0 _ rfl)) fun _ r2=>
  N0 (.agg (Fa (AA x))) r2 rfl (KM (b:=wb) (off:=0) rfl aw rfl rfl ht nw ibeq) fun _ r3=>
  QW u r3 rfl (by decide) (S':=AL) f1 (fun _ _ h=>h.elim) (fun _ h _ _=>h) (H6 (vs:=[.ptr p 0,.int .i64 (AA (jt k)),.agg (Fa (AA x))]) rfl rfl g1) fun _ _ _ r4=>
  xk (.sl (U.next+10) 0 1 (.ex 1)) (.cells [u]) 1024 r4 rfl (by decide) (by decide) (W7 rfl uo) fun _ r5=>
  QW lv' (by rw[<-h2]at r5;exact r5) rfl (by decide) (S':=AJ lv) f3 (fun _ _ h=>h) (fun b h h1 _=>by have:=ll b h;omega) (H7 rfl rfl g3) fun _ _ _ r6=>
  Eo lv' rfl (Fw rfl (Cp d3.one)) <|
  O5 r6
 obtain⟨d1,d2⟩:=ME (ops:=RX) go
 exact⟨_,lv',u,U3,d1,rfl,rfl,rfl,rfl,rfl,rfl,rfl,d3,e2.fr f3 f2.tidy (fun b hb e=>by have:=nu b hb;have:=ll b e;omega),fun b hb=>⟨by have:=nu b hb;omega,fun e=>(m3' b e).elim (fun e=>by have:=nu b hb;have:=ll b e;omega) (fun e=>by have:=ul b hb;omega)⟩,fun b hb=>(m3' b hb).imp id (fun e=>by omega),d2⟩
def Xd (F:List V->H->AF):Prop:=∀{U:H} {p nT i:Nat} {ty:Nat->Ty} {xs:List Nat} {fd:Nat->Fd} {jt:Nat->Nat} {nm:BS} {nv rv tv l:V} {ho:l.one=true},Ar U->Ck U p nT ty nm nv rv tv []->Ku U nT i ty xs fd jt->IA U 6 xs.length l (fun k=>(gV xs k).c) ->
 ∃(u:V) (vs:List Rf) (U':H),F [.ptr p 0,.agg (ty i).c,.agg (Vc.st l ho (AA 0) .nils rfl).c] U=some (u,U')/\(vs.map fun q:Rf=>q.2).Perm xs/\vs.Pairwise Le/\IA U' 1 vs.length u (fun k=>[(vs.getD k (.nils,0)).1])/\(∀q∈vs,El U' q.1 q.2)/\Fr AL U U'
theorem dy (hA:Xf (D 61)) (hE:Zl (D 18)) (hS:XW (D 62)) (hN:30<N):Xd (F36 E D (AT E D) N):=by
  intro U p nT i ty xs fd jt nm nv rv tv l ho ht hc hs hr
  obtain⟨U1,e1,f1,a1,n1⟩:=Ca ht (ty i).c
  obtain⟨U2,e2,f2,a2,n2⟩:=Ca f1.tidy (Vc.st l ho (AA 0) .nils rfl).c
  have f02:=f1.trans f2 (fun _ _ h=>h)
  have a12:=f2.at_ a1 f1.tidy (fun h=>h)
  have few:=hs.few
  have loop:∀(q k n':Nat) (U3:H) (lv:V) (vs:List Rf),k+q=xs.length->q<n'->vs.map (fun e:Rf=>e.2)=xs.take k->Fr AL U2 U3->DM U3 1 vs.length lv (vs.map fun e=>e.1)->(∀b,AJ lv b->U2.next<=b)->(∀e∈vs,El U3 e.1 e.2/\∀b,AJ e.1 b->¬AJ lv b) ->
      ∃(lv':V) (vs':List Rf) (U':H),Z0 E D (AT E D) N n' (.ptr p 0) U.next 0 U1.next 0 lv l (AA xs.length) (AA k) U3=Z7 E D (AT E D) N U.next 0 U1.next 0 lv' U'/\vs'.map (fun e:Rf=>e.2)=xs/\DM U' 1 vs'.length lv' (vs'.map fun e=>e.1)/\(∀b,AJ lv' b->U2.next<=b)/\(∀e∈vs',El U' e.1 e.2/\∀b,AJ e.1 b->¬AJ lv' b)/\Fr AL U2 U':=by
    intro q
    induction q with
    | zero=>
      intro k n' U3 lv vs hk hn' hv f3 hl nl he
      obtain⟨n',rfl⟩:∃q,n'=q+1:=⟨n'-1,by omega⟩
      rw[Dj (by omega)]at hv
      refine⟨lv,vs,U3,?_,hv,hl,nl,he,f3⟩
      have d1:decide (k<xs.length)=false:=decide_eq_false (by omega)
      show Vi E D (AT E D) _ _ (.ptr p 0) U.next 0 U1.next 0 lv l (AA xs.length) (AA k) U3=_
      unfold Vi
      rw[C5,d1,Bz]
    | succ q ih=>
      intro k n' U3 lv vs hk hn' hv f3 hl nl he
      obtain⟨n',rfl⟩:∃q,n'=q+1:=⟨n'-1,by omega⟩
      have hlt:k<xs.length:=by omega
      obtain⟨x,hx⟩:∃x,xs[k]? = some x:=⟨xs[k],AM hlt⟩
      have gk:(gV xs k).c=Fa (AA x):=by unfold gV;rw[Yx hx];rfl
      have f03:Fr AL U U3:=f02.trans f3 (fun _ _ h=>h)
      have rd:∀J,AW 6 l (AA k) (fun b o=>Bv E U3 b o 6 J)=J (Fa (AA x)):=fun J=>by
        rw[<-gk];exact(hr.fr0 f03 ht).all hlt J
      obtain⟨U4,e4,f4,a4,n4⟩:=Ca f3.tidy [.int .i64 (AA 0),.int .i64 (AA 0),.nils,.nils,.int .i64 (AA 0),.nils]
      obtain⟨U5,e5,f5,a5⟩:=Mr f4.tidy a4 (Fa (AA x))
      have s5:∀J:H->AF,DX 6 U3.next 0 (.agg (Fa (AA x))) U4 J=J U5:=fun J=>by
        rw[ER a4 (by unfold Fa vc;rfl)]
        show J (GP U4 U3.next (.cells (Fa (AA x))))=_
        rw[e5]
      obtain⟨U6,g6,f6⟩:=hA (AA x) f5.tidy
      have le3:=f3.le
      have f36:Fr AL U3 U6:=(f4.trans f5 (fun b hb e=>by omega)).trans f6 (fun _ _ h=>h)
      have a6:=f6.at_ a5 f5.tidy (fun h=>h)
      have f06:=f03.trans f36 (fun _ _ h=>h)
      have f26:=f3.trans f36 (fun _ _ h=>h)
      have le02:=f02.le
      have le12:=f2.le
      have le01:=f1.le
      have ltx:U.next<U2.next:=(f2.at_ a1 f1.tidy (fun h=>h)).lt f2.tidy
      have a16:CQ U6 U.next (ty i).c:=f26.at_ a12 f2.tidy (fun h=>h)
      have hlen:vs.length=k:=by
        have:=congrArg HK hv
        rw[CD,BY]at this
        omega
      obtain⟨e',lv',u,U7,g7,t0,t4,t5,t7,t13,t14,t15,d7,eu,nu,m7,f7⟩:=jO (E:=E) (D:=D) hE (U:=U6) (yb:=U1.next) (l:=l) (n:=xs.length) (nm:=nm) (ws:=vs.map fun e=>e.1) f06.tidy (hc.fr f06 ht) (hs.fr f06 ht) hx a16 a6 (by rw[CD];exact hl.fr f36 f3.tidy (fun _ _ h=>h)) (by rw[CD];omega) (fun b hb=>⟨fun e=>by have:=nl b hb;omega,fun e=>by have:b<U3.next:=hl.lt f3.tidy hb;omega,fun e=>by
        have:=nl b hb
        have:b<U.next:=by
          obtain⟨m,s,_⟩:=hs.st.row.s
          exact s.lt ht e
        omega⟩) ho
      rw[CD]at d7
      have le26:=f26.le
      obtain⟨lv2,vs2,U',g',h1,h2,h3,h4,h5⟩:=ih (k+1) n' U7 lv' (vs++[(u,x)]) (by omega) (by omega) (by
        rw[List.map_append,hv,FW,hx];rfl) (f26.trans f7 (fun b hb e=>by have:=nl b e;omega)) (by
        rw[AS,List.map_append]
        exact d7) (fun b hb=>(m7 b hb).elim (nl b) (fun e=>by omega)) (fun e he'=>by
        rcases EA.1 he' with h|h
        · obtain⟨q1,q2⟩:=he e h
          have lt3:∀b,AJ e.1 b->b<U3.next:=fun b hb=>q1.1.lt f3.tidy hb
          refine⟨(q1.fr f36 f3.tidy (fun _ _ h=>h)).fr f7 f06.tidy (fun b hb=>q2 b hb),fun b hb e1=>(m7 b e1).elim (q2 b hb) (fun e2=>?_)⟩
          have:=lt3 b hb
          have:=f36.le
          omega
        · rw[Cn.1 h]
          exact⟨eu,fun b hb=>(nu b hb).2⟩)
      refine⟨lv2,vs2,U',?_,h1,h2,h3,h4,h5⟩
      have d1:decide (k<xs.length)=true:=decide_eq_true hlt
      have gd:∀J:B6->H->AF,Cc (AT E D RX WA [(0,.ptr p 0),(4,.ptr U.next 0),(5,.ptr U1.next 0),(7,lv),(8,.int .i64 (AA k)),(9,.ptr U3.next 0),(13,l),(14,.int .i64 (AA xs.length)),(15,.int .i64 (AA k))] U6) J=J e' U7:=fun J=>by rw[g7];rfl
      have y0:∀J:V->AF,BL e' 0 J=J (.ptr p 0):=fun J=>BH t0 rfl
      have y4:∀J:V->AF,BL e' 4 J=J (.ptr U.next 0):=fun J=>BH t4 rfl
      have y5:∀J:V->AF,BL e' 5 J=J (.ptr U1.next 0):=fun J=>BH t5 rfl
      have y7:∀J:V->AF,BL e' 7 J=J lv':=fun J=>BH t7 (Cp d7.one)
      have Me:∀J:V->AF,BL e' 13 J=J l:=fun J=>BH t13 (Cp ho)
      have Ji:∀J:V->AF,BL e' 14 J=J (.int .i64 (AA xs.length)):=fun J=>BH t14 rfl
      have YB:∀J:V->AF,BL e' 15 J=J (.int .i64 (AA k)):=fun J=>BH t15 rfl
      have key:∀K1 R2,Vi E D (AT E D) K1 (kh E D (AT E D) R2) (.ptr p 0) U.next 0 U1.next 0 lv l (AA xs.length) (AA k) U3=R2 (.ptr p 0) U.next 0 U1.next 0 lv' l (AA xs.length) (AA (k+1)) U7:=by
        intro K1 R2
        unfold Fa vc at rd s5 a5 g6
        unfold Vi kh
        simp -implicitDefEqProofs only [↓rP,rA,AB,AE,AD,d1,↓rd,↓e4,↓s5,↓BX a5,↓g6,↓gd,↓y0,↓y4,↓y5,↓y7,↓Me,↓Ji,↓YB,A3 (show k+1<=9223372036854775807 by omega)]
      exact(key _ _).trans g'
  obtain⟨lv,vs,U3,g3,hv,hl,nl,he,f3⟩:=loop xs.length 0 N U2 .nils [] (by omega) (by omega) (by simp) (Fr.refl f2.tidy) (DM.nil _ _) (fun b hb=>hb.elim) (fun e h=>by simp at h)
  have hlen:vs.length=xs.length:=by rw[<-hv,CD]
  have pos:=hs.pos
  obtain⟨b,c,hlv,hab⟩:∃b c,lv = .sl b 0 vs.length c/\CQ U3 b (vs.map fun e=>e.1):=by
    rcases hl with (⟨h0,_,_⟩|⟨b,hv,ha,_,_⟩)|⟨b,hv,ha,_⟩
    · omega
    · exact⟨b,_,hv,ha⟩
    · exact⟨b,_,hv,ha⟩
  have hE3:Rh U3 b vs:=fun e h=>⟨(he e h).1,hs.lt _ (by rw[<-hv];exact GA.2 ⟨e,h,rfl⟩),fun hn=>(he e h).2 b hn (by rw[hlv];rfl)⟩
  obtain⟨vs',U4,g4,p4,s4,a4,E4,f4⟩:=hS (c:=c) f3.tidy hab hE3 (by omega)
  have hvl:vs'.length=vs.length:=p4.length_eq
  have nb:U2.next<=b:=nl b (by rw[hlv];rfl)
  have le02:=f02.le
  have f04:Fr AL U U4:=(f02.trans f3 (fun _ _ h=>h)).trans f4 (fun k hk e=>by omega)
  refine⟨lv,vs',U4,?_,?_,s4,?_,fun q hq=>(E4 q hq).1,f04⟩
  · have a13:CQ U3 U.next (ty i).c:=f3.at_ a12 f2.tidy (fun h=>h)
    have a23:=f3.at_ a2 f2.tidy (fun h=>h)
    unfold Vc.c Vc.st at e2 a2 a23
    unfold Ty.c at e1 a13
    have hk8:=hs.st.kind
    have hln:=hr.len.2
    have oT:=(ty i).oneT
    have oI:=(ty i).oneI
    have oF:=(ty i).oneF
    have lo3:=hl.one
    have key0:∀K,ZU E D (AT E D) K (.ptr p 0) (ty i).kind (ty i).tags (ty i).has (ty i).hasLow (ty i).hasHigh (ty i).conMore (ty i).low (ty i).high (ty i).items (ty i).fields (ty i).root (ty i).more (ty i).of_ (AA 8) (AA 0) .nils l (AA 0) .nils U=K (.ptr p 0) U.next 0 U1.next 0 .nils l (AA xs.length) (AA 0) U2:=by
      intro K
      unfold ZU
      simp -implicitDefEqProofs only [↓rP,rA,AB,AE,AD,oT,oI,oF,ho,↓e1,↓e2,↓AZ a2,↓hln]
    show ZU E D (AT E D) (Z0 E D (AT E D) N N) (.ptr p 0) (ty i).kind (ty i).tags (ty i).has (ty i).hasLow (ty i).hasHigh (ty i).conMore (ty i).low (ty i).high (ty i).items (ty i).fields (ty i).root (ty i).more (ty i).of_ (AA 8) (AA 0) .nils l (AA 0) .nils U=_
    rw[key0,g3]
    obtain⟨M,hM⟩:∃q,N=q+1:=⟨N-1,by omega⟩
    show ZT E D (AT E D) (lz E D (AT E D) N N) U.next 0 U1.next 0 lv U3=_
    have k1:∀K5,ZT E D (AT E D) K5 U.next 0 U1.next 0 lv U3=K5 U.next 0 lv .nils (AA 0) (AA 0) U3:=by
      intro K5
      unfold ZT
      simp -implicitDefEqProofs only [↓rP,rA,AB,AE,AD,↓AZ a23]
    rw[k1]
    have k5:∀R5,kf E D (AT E D) (kg E D (AT E D) (kc E D (AT E D))) R5 U.next 0 lv .nils (AA 0) (AA 0) U3=some (lv,U4):=by
      intro R5
      rw[hk8]at a13
      unfold kf kg kc
      have g4':D 62 [lv,.fn 63 [] []] U3=some (.tup [],U4):=by rw[hlv];exact g4
      simp -implicitDefEqProofs only [↓rP,rA,AB,AE,AD,C7,↓AZ a13,↓g4']
    subst hM
    exact k5 _
  · have:=p4.map (fun q:Rf=>q.2)
    rw[hv]at this
    exact this
  · rw[hlv,<-hvl]
    refine⟨.inr ⟨b,c,_,rfl,a4,fun k hk=>⟨by rw[CD];omega,?_⟩⟩⟩
    rw[B8]
    have e1:vs'[k]? = some (vs'.getD k (.nils,0)):=by rw[BT,AM hk];rfl
    have e2:(vs'.map fun e=>e.1)[k]? = some (vs'.getD k (.nils,0)).1:=by rw[Aw,e1];rfl
    obtain⟨hk2,e3⟩:=AY.1 e2
    rw[DB hk2,e3];rfl
end
def Zf (E:EB) (F:List V->H->AF):Prop:=∀{U:H} {l:List (Nat × Nat)} {tv v:V} {n:Nat} {pv:Nat->V} {pl:Nat->List Int} (made:Bool),Ar U->DL U 2 l.length tv (T2 l)->ZD l->IA U 1 n v (fun k=>[pv k])->(∀k,k<n->Bx E U (pv k) (pl k))->n<=10000->(Fc pl n 0).length<50000->Lj F [tv,.bool made,v] U (Qo made l (Fc pl n 0))
theorem ACs {E:EB} {F:List V->H->AF} (h:Zf E F):sB E F:=fun {U l tv v p x} made ht hs hok hr hp hl=>by
 have:=h (n:=1) (pv:=fun _=>p) (pl:=fun _=>x) made ht hs hok hr (fun k hk=>hp) (by decide) (by simp[Fc];omega)
 have e1:Fc (fun _=>x) 1 0=x:=by simp[Fc]
 rw[e1]at this
 exact this
def FU (ys:List Nat):List Int:=ys.flatMap fun x=>nI (Kg x)
theorem jY (ys:List Nat):∀(m i:Nat),i+m=ys.length->Fc (fun k=>nI (Kg (ys.getD k 0))) m i=FU (ys.drop i)
 | 0,i,h=>by rw[Tx (by omega)];rfl
 | m+1,i,h=>by
  have hi:i<ys.length:=by omega
  have e:ys.getD i 0=ys[i]:=by rw[BT,AM hi];rfl
  rw[DB hi]
  show nI (Kg (ys.getD i 0))++Fc _ m (i+1)=nI (Kg ys[i])++FU (ys.drop (i+1))
  rw[e,jY ys m (i+1) (by omega)]
theorem J1:∀ys:List Nat,(FU ys).length<=4*ys.length
 | []=>by simp[FU]
 | y::ys=>by
  have ih:=J1 ys
  have:=(Y4 y).1
  show (nI (Kg y)++FU ys).length<=_
  rw[AS,KO,AN]
  omega
def Zm (F:List V->H->AF):Prop:=∀{U:H} {p nT i:Nat} {ty:Nat->Ty} {xs:List Nat} {fd:Nat->Fd} {jt:Nat->Nat} {nm:BS} {nv rv tv l:V} {ho:l.one=true},Ar U->Ck U p nT ty nm nv rv tv []->Ku U nT i ty xs fd jt->IA U 6 xs.length l (fun k=>(gV xs k).c) ->
 ∃(u:V) (ys:List Nat) (U':H),F [.ptr p 0,.int .i64 (AA i),.agg (Vc.st l ho (AA 0) .nils rfl).c] U=some (u,U')/\ys.Perm xs/\ys.Pairwise (fun a b=>a<=b)/\Nb U U' u (WV 0 true 17 (FU ys))/\Fr AL U U'
section
variable {E:EB} {D:Ai} {W:AH} {N:Nat}
theorem fi (hJ:HG E (D 58)) (hE:lM E (D 59)) (hN:4<N):Zf E (F34 E D W N):=by
 intro U l tv v n pv pl made ht hs hok hr hp hn9 hl
 obtain⟨N,rfl⟩:∃m,N=m+5:=⟨N-5,by omega⟩
 obtain⟨u1,U1,g1,h1,f1⟩:=hJ (pl:=pl) ht hr hp (by omega) hn9
 obtain⟨x,ex⟩:∃x,x=Fc pl n 0:=⟨_,rfl⟩
 rw[<-ex]at h1 hl ⊢
 have one:∀(U0:H) (u:V) (y:List Int) (t:Nat × Nat) (mk:Bool),Fr AL U U0->Nb U U0 u y->((t.1=0\/t.1=2)/\t.2<16384)->y.length<60000 ->
   ∃U2 u3 U3,Br U0 (.cells [u])=U2/\D 59 [.agg [.int .i64 (AA t.1),.int .i64 (AA t.2)],.bool mk,.sl U0.next 0 1 (.ex 1)] U2=some (u3,U3)/\Nb U U3 u3 (WV t.1 mk t.2 y)/\Fr AL U U3:=fun U0 u y t mk f0 hu htg hy=>by
  obtain⟨U2,e2,f2,a2,n2⟩:=Yl f0.tidy [u]
  obtain⟨u3,U3,g3,h3,f3⟩:=hE (U:=U2) (n:=1) (pv:=fun _=>u) (pl:=fun _=>y) mk f2.tidy htg.1 htg.2 (gg a2) (fun k hk=>Bx.of (hu.fr f2 f0.tidy).by_ f2.tidy) (by simp[Fc];omega) (by omega)
  have f02:=f0.trans f2 (fun _ _ h=>h)
  have e:Fc (fun _=>y) 1 0=y:=by simp[Fc]
  rw[e]at h3
  exact⟨U2,u3,U3,e2,g3,h3.mono f02.le,f02.trans f3 (fun _ _ h=>h)⟩
 have sl:∀J:Nat->AF,A0 tv J=J l.length:=fun J=>hs.slen
 have key0:∀K,kj E D W K tv made v U=K tv made u1 (Dp .i64 (AA l.length) (AA 1)) U1:=fun K=>by
  have o1:=h1.1.one
  unfold kj
  simp -implicitDefEqProofs only [↓rP,rA,AB,AE,AD,↓g1,↓Bl o1,↓sl]
 have endd:∀(R:V->Bool->V->Int->H->AF) (u:V) (U':H),Na E D W (um E D W) R tv made u (Az 0) U'=some (u,U'):=fun R u U'=>rfl
 obtain⟨hlen,htags⟩:=hok
 match l,hlen,hs,htags,sl,key0 with
 | [t],_,hs,htags,sl,key0=>
  obtain⟨U2,u3,U3,e2,g3,h3,f3⟩:=one U1 u1 x t made f1 h1 (htags t (by simp)) (by omega)
  have rd:=SH (E:=E) (hs.fr f1 ht (fun _ _ h=>h)) (i:=0) (t:=t) rfl (by simp)
  have o1:=h1.1.one
  have o3:=h3.1.one
  have fl1:∀J:List V->AF,D9 [(0,1,u1)] [V.nils] J=J [u1]:=fun J=>Go.Og.fill1 o1 J
  have fl3:∀J:List V->AF,D9 [(0,1,u3)] [V.nils] J=J [u3]:=fun J=>Go.Og.fill1 o3 J
  have oo1:An [u1]=true:=by simp[BC,BP,o1]
  have oo3:An [u3]=true:=by simp[BC,BP,o3]
  have sb:Dp .i64 (AA 1) (AA 1)=AA 0:=rfl
  have sb2:Dp .i64 (AA 0) (AA 1)=Az 0:=rfl
  have sl:∀J:Nat->AF,A0 tv J=J 1:=sl
  have step:∀K R,Na E D W K R tv made u1 (AA 0) U1=R tv made u3 (Az 0) U3:=fun K R=>by
   unfold Na
   cases made with
   | true=>simp -implicitDefEqProofs only [↓rP,rA,AB,AE,AD,↓rd,↓fl1,o1,↓e2,↓g3,↓Bl o3,sb2,AK]
   | false=>simp -implicitDefEqProofs only [↓rP,rA,AB,AE,AD,↓rd,↓sl,sb,C7,↓fl1,o1,↓e2,↓g3,↓Bl o3,sb2,AK]
  refine⟨u3,U3,?_,h3,f3⟩
  exact(key0 _).trans ((step _ _).trans (endd _ _ _))
 | [t,s],_,hs,htags,sl,key0=>
  obtain⟨U2,u3,U3,e2,g3,h3,f3⟩:=one U1 u1 x s made f1 h1 (htags s (by simp)) (by omega)
  have le:=Y1 s.1 made s.2 x
  obtain⟨U4,u5,U5,e4,g5,h5,f5⟩:=one U3 u3 _ t true f3 h3 (htags t (by simp)) (by omega)
  have rd1:=SH (E:=E) (hs.fr f1 ht (fun _ _ h=>h)) (i:=1) (t:=s) rfl (by simp)
  have rd0:=SH (E:=E) (hs.fr f3 ht (fun _ _ h=>h)) (i:=0) (t:=t) rfl (by simp)
  have o1:=h1.1.one
  have o3:=h3.1.one
  have fl1:∀J:List V->AF,D9 [(0,1,u1)] [V.nils] J=J [u1]:=fun J=>Go.Og.fill1 o1 J
  have fl3:∀J:List V->AF,D9 [(0,1,u3)] [V.nils] J=J [u3]:=fun J=>Go.Og.fill1 o3 J
  have oo1:An [u1]=true:=by simp[BC,BP,o1]
  have oo3:An [u3]=true:=by simp[BC,BP,o3]
  have o5:=h5.1.one
  have sb:Dp .i64 (AA 2) (AA 1)=AA 1:=rfl
  have sb1:Dp .i64 (AA 1) (AA 1)=AA 0:=rfl
  have sb2:Dp .i64 (AA 0) (AA 1)=Az 0:=rfl
  have sl:∀J:Nat->AF,A0 tv J=J 2:=sl
  have d01:decide (0<=1)=true:=rfl
  have l01:decide (0<1)=true:=rfl
  have step1:∀K R,Na E D W K R tv made u1 (AA 1) U1=R tv made u3 (AA 0) U3:=fun K R=>by
   unfold Na
   cases made with
   | true=>simp -implicitDefEqProofs only [↓rP,rA,AB,AE,AD,↓rd1,↓fl1,o1,↓e2,↓g3,↓Bl o3,sb1,d01]
   | false=>simp -implicitDefEqProofs only [↓rP,rA,AB,AE,AD,↓rd1,↓sl,sb,C7,↓fl1,o1,↓e2,↓g3,↓Bl o3,sb1,d01]
  have step0:∀K R,Na E D W K R tv made u3 (AA 0) U3=R tv made u5 (Az 0) U5:=fun K R=>by
   unfold Na
   cases made with
   | true=>simp -implicitDefEqProofs only [↓rP,rA,AB,AE,AD,↓rd0,↓fl3,o3,↓e4,↓g5,↓Bl o5,sb2,AK]
   | false=>simp -implicitDefEqProofs only [↓rP,rA,AB,AE,AD,↓rd0,↓sl,sb,l01,↓fl3,o3,↓e4,↓g5,↓Bl o5,sb2,AK]
  refine⟨u5,U5,?_,h5,f5⟩
  exact(key0 _).trans ((step1 _ _).trans ((step0 _ _).trans (endd _ _ _)))
end
section
variable {E:EB} {D:Ai} {N:Nat}
theorem jT (hF:Xd (D 36)) (hW:Zf E (D 34)):Zm (F18 E D (AT E D) N):=by
 intro U p nT i ty xs fd jt nm nv rv tv l ho ht hc hs hr
 have hi:=hs.i
 obtain⟨U1,e1,f1,a1,n1⟩:=Ca ht (Vc.st l ho (AA 0) .nils rfl).c
 have c1:=hc.fr f1 ht
 have rd:∀J,AW 13 tv (AA i) (fun b o=>Bv E U1 b o 13 J)=J (ty i).c:=fun J=>c1.row.all hi J
 obtain⟨U2,e2,f2,a2,n2⟩:=Ca f1.tidy [.int .i64 (AA 0),.nils,.bool false,.bool false,.bool false,.bool false,.int .i64 (AA 0),.int .i64 (AA 0),.nils,.nils,.int .i64 (AA 0),.bool false,.int .i64 (AA 0)]
 obtain⟨U3,e3,f3,a3⟩:=Mr f2.tidy a2 (ty i).c
 have f02:=f1.trans f2 (fun _ _ h=>h)
 have le1:=f1.le
 have f03:Fr AL U U3:=f02.trans f3 (fun c hc h=>by have h:c=U1.next:=h;omega)
 have a13:CQ U3 U.next (Vc.st l ho (AA 0) .nils rfl).c:=f3.at_ (f2.at_ a1 f1.tidy (fun h=>h)) f2.tidy (by show ¬U.next=U1.next;omega)
 have st:∀J:H->AF,DX 13 U1.next 0 (.agg (ty i).c) U2 J=J U3:=fun J=>by
  rw[ER a2 (by unfold Ty.c;simp[Cl,BC,BP,Ed,ET,(ty i).oneT,(ty i).oneI,(ty i).oneF])]
  show J (GP U2 U1.next (.cells (ty i).c))=_
  rw[e3]
 have ttp:=fun J=>c1.types (E:=E) (J:=J)
 have hT3:=hs.tags.fr f03 ht (fun _ _ h=>h)
 obtain⟨fv,vs,U4,g4,p4,s4,r4,E4,f4⟩:=hF (U:=⟨U3.next+8,U3.bl⟩) (ho:=ho) (nm:=nm) (f3.tidy.wide 8) ((hc.fr f03 ht).fr (CO (E:=E) (n:=8) (S:=AL) f3.tidy).fr f3.tidy) ((hs.fr f03 ht).fr (CO (E:=E) (n:=8) (S:=AL) f3.tidy).fr f3.tidy) ((hr.fr0 f03 ht).fr0 (CO (E:=E) (n:=8) (S:=AL) f3.tidy).fr f3.tidy)
 have le4:U3.next+8<=U4.next:=f4.le
 have f34:Fr AL U3 U4:=f4.wide
 obtain⟨ys,hys⟩:∃ys,ys=vs.map fun q:Rf=>q.2:=⟨_,rfl⟩
 rw[<-hys]at p4
 have hyl:ys.length=vs.length:=by rw[hys,CD]
 have few:=hs.few
 have hpl:=p4.length_eq
 have gy:∀k,k<vs.length->ys.getD k 0=(vs.getD k (.nils,0)).2:=fun k hk=>by
  rw[hys,BT,BT,Aw,AM hk];rfl
 have ec:Fc (fun k=>nI (Kg (ys.getD k 0))) vs.length 0=FU ys:=by
  have:=jY ys vs.length 0 (by omega)
  rw[this,FI]
 have bl:=J1 ys
 obtain⟨u,U5,g5,h5,f5⟩:=hW (U:=U4) (l:=[(0,17)]) (pv:=fun k=>(vs.getD k (.nils,0)).1) (pl:=fun k=>nI (Kg (ys.getD k 0))) true f4.tidy (hT3.fr f34 f3.tidy (fun _ _ h=>h)).s ⟨.inl rfl,fun t h=>by
  rw[Cn.1 h];exact⟨.inl rfl,by decide⟩⟩ r4 (fun k hk=>by
  have hm:vs.getD k (.nils,0)∈vs:=by
   rw[BT,AM hk]
   exact List.getElem_mem hk
  have:=(E4 _ hm).1
  rw[gy k hk]
  refine Bx.of (l:=nI (Kg (vs.getD k (.nils,0)).2)) ?_ f4.tidy
  have s:=this.src
  unfold By
  rw[KO]
  exact s) (by omega) (by rw[ec];omega)
 rw[ec]at h5
 have h5:Nb U4 U5 u (WV 0 true 17 (FU ys)):=h5
 refine⟨u,ys,U5,?_,p4,?_,h5.mono (Bc f03.le f34.le),(f03.trans f34 (fun _ _ h=>h)).trans f5 (fun _ _ h=>h)⟩
 ·have hk:=hs.st.kind
  have a3f:=a3
  have bC:V.beq (.agg (ty i).c) (.agg (ty i).c)=true:=by
   have b1:=Od hs.tags
   have b3:V.beq (ty i).fields (ty i).fields=true:=by
    obtain⟨m,s,_⟩:=hs.st.row.s
    exact Ly s
   have b2:=hs.bi
   unfold Ty.c
   show Kh [_,_,_,_,_,_,_,_,_,_,_,_,_] [_,_,_,_,_,_,_,_,_,_,_,_,_]=true
   simp only[Kh,b1,b2,b3,B0 (.int .i64 _) rfl,B0 (.bool _) rfl,A8]
  have bV:V.beq (.agg (Vc.st l ho (AA 0) .nils rfl).c) (.agg (Vc.st l ho (AA 0) .nils rfl).c)=true:=by
   have b1:V.beq l l=true:=by
    rcases hr.is with ⟨_,e⟩|⟨b,c,L,e,_⟩<;>rw[e]<;>exact B0 _ rfl
   unfold Vc.c Vc.st
   show Kh [_,_,_,_,_,_] [_,_,_,_,_,_]=true
   simp only[Kh,b1,B0 (.int .i64 _) rfl,B0 .nils rfl,A8]
  have oT:=(ty i).oneT
  have fo:fv.one=true:=r4.len.1
  have a3c:=a3
  unfold Ty.c at a3c
  have go:Ll E D U3 8 0 AL RY WB ⟨[(0,.ptr p 0),(5,.ptr U.next 0),(7,.ptr U1.next 0)],U3.next+8,[U3.bl],[],0,[]⟩ _ U5:=
   Eo (.ptr U1.next 1) rfl rfl <|
   N0 (ty i).tags (CO f3.tidy) rfl (DC (b:=U1.next) (off:=1) rfl a3c rfl f3.tidy (fun h=>h) (Od hs.tags)) fun _ r1=>
   Eo (.ptr p 0) rfl rfl <|
   N0 (.agg (ty i).c) r1 rfl (KM (b:=U1.next) (off:=0) rfl a3 rfl rfl f3.tidy (fun h=>h) bC) fun _ r2=>
   N0 (.agg (Vc.st l ho (AA 0) .nils rfl).c) r2 rfl (KM (b:=U.next) (off:=0) rfl a13 rfl rfl f3.tidy (fun h=>h) bV) fun _ r3=>
   QW fv r3 rfl (by decide) f4 (fun _ _ h=>h) (fun _ h _ _=>h) (H6 (vs:=[.ptr p 0,.agg (ty i).c,.agg (Vc.st l ho (AA 0) .nils rfl).c]) rfl rfl g4) fun _ _ _ r4=>
   QW u r4 rfl (by decide) f5 (fun _ _ h=>h) (fun _ h _ _=>h) (H6 (vs:=[(ty i).tags,.bool true,fv]) rfl (by rw[Jf,Cp oT];show (true&&(true&&(fv.live&&true)))=true;rw[Cp fo];rfl) g5) fun _ _ _ r5=>
   Eo u rfl (Fw rfl (Cp h5.1.one)) <|
   O5 r5
  obtain⟨d1,d2⟩:=ME (ops:=RY) go
  obtain⟨env,d1,l6⟩:∃env,AT E D RY WB [(0,.ptr p 0),(5,.ptr U.next 0),(7,.ptr U1.next 0)] U3=some (env,U5)/\Go.Og.look env 6=some u:=⟨_,d1,rfl⟩
  have gd:∀J:B6->H->AF,Cc (AT E D RY WB [(0,.ptr p 0),(5,.ptr U.next 0),(7,.ptr U1.next 0)] U3) J=J env U5:=fun J=>by rw[d1];rfl
  have m6:∀J:V->AF,BL env 6 J=J u:=fun J=>BH l6 (Cp h5.1.one)
  unfold Vc.c Vc.st at e1 a13
  unfold Ty.c at rd st a3
  have key:∀K,Il E D (AT E D) K p 0 (AA i) (AA 8) (AA 0) .nils l (AA 0) .nils U=K p 0 U.next 0 U1.next 0 (AA 8) false U3:=fun K=>by
   unfold Il
   simp -implicitDefEqProofs only [↓rP,rA,AB,AE,AD,ho,↓e1,↓ttp,↓rd,(ty i).oneT,(ty i).oneI,(ty i).oneF,↓e2,↓st,↓AZ a3,hk]
  show Il E D (AT E D) (V6 E D (AT E D) N) p 0 (AA i) (AA 8) (AA 0) .nils l (AA 0) .nils U=some (u,U5)
  refine(key _).trans ?_
  show MT E D (AT E D) _ (Pd E D (AT E D) (RH E D (AT E D))) p 0 U.next 0 U1.next 0 (AA 8) false U3=_
  unfold MT Pd
  simp -implicitDefEqProofs only [↓rP,rA,AB,AE,AD,↓gd,↓m6]
 ·rw[hys]
  exact List.pairwise_map.2 s4
end
section
variable {E:EB} {D:Ai} {W:AH} {N:Nat} {nT:Nat} {ty:Nat->Ty} {nm:BS} {nv rv tv:V}
theorem rX {i:Nat} {xs:List Nat} {fd:Nat->Fd} {jt:Nat->Nat} {l:V} {ho:l.one=true} {U:H} (ht:Ar U) (hr:IA U 13 nT tv fun i=>(ty i).c) (h1:nv.one=true) (h2:rv.one=true) (h3:tv.one=true) (hs:Ku U nT i ty xs fd jt) (hl:IA U 6 xs.length l (fun k=>(gV xs k).c))
  (hFi:∀U1,Ar U1->Fr AL U U1->∃U',D 16 [.agg [.str nm,nv,rv,tv],.int .i64 (AA i),.agg (Vc.st l ho (AA 0) .nils rfl).c] U1=some (.bool true,U')/\Fr AL U1 U')
  (hRu:∀U1,Ar U1->Fr AL U U1->∃U',D 17 [.agg (Vc.st l ho (AA 0) .nils rfl).c,.int .i64 (AA 1)] U1=some (.bool true,U')/\Fr AL U1 U')
  (hE:Zm (D 18)) :
  ∃(b:V) (ys:List Nat) (U':H),F10 E D W N [.agg [.str nm,nv,rv,tv],.int .i64 (AA i),.agg (Vc.st l ho (AA 0) .nils rfl).c] U=some (.tup [b,.int .i64 (AA 0)],U')/\ys.Perm xs/\ys.Pairwise (fun a b=>a<=b)/\Nb U U' b (WV 0 true 17 (FU ys))/\Fr AL U U':=by
 obtain⟨U1,e1,f1,a1,n1⟩:=Ca ht [.str nm,nv,rv,tv]
 obtain⟨U2,e2,f2,a2,n2⟩:=Ca f1.tidy (Vc.st l ho (AA 0) .nils rfl).c
 have f02:=f1.trans f2 (fun _ _ h=>h)
 obtain⟨U3,g3,f3⟩:=hFi U2 f02.tidy f02
 have f03:=f02.trans f3 (fun _ _ h=>h)
 obtain⟨U4,g4,f4⟩:=hRu U3 f03.tidy f03
 have f04:=f03.trans f4 (fun _ _ h=>h)
 obtain⟨U5,e5,f5,a5,n5⟩:=Ca f04.tidy [.str nm,nv,rv,tv]
 have f05:=f04.trans f5 (fun _ _ h=>h)
 have r5:=hr.fr0 f05 ht
 have c5:Ck U5 U4.next nT ty nm nv rv tv []:=⟨a5,h1,h2,h3,r5,fun b hb e=>by
  subst e
  have lo:=f04.le
  rcases hr.is with ⟨_,rfl⟩|⟨b,c,L,rfl,ha,_⟩
  ·exact hb
  ·have:=ha.lt ht
   have hb:U4.next=b:=hb
   omega⟩
 obtain⟨u,ys,U6,g6,p6,q6,h6,f6⟩:=hE (U:=U5) (ho:=ho) f05.tidy c5 (hs.fr f05 ht) (hl.fr0 f05 ht)
 refine⟨u,ys,U6,?_,p6,q6,h6.mono f05.le,f05.trans f6 (fun _ _ h=>h)⟩
 have a12:=f2.at_ a1 f1.tidy (fun h=>h)
 have a13:=f3.at_ a12 f02.tidy (fun h=>h)
 have a14:=f4.at_ a13 f03.tidy (fun h=>h)
 have a23:=f3.at_ a2 f02.tidy (fun h=>h)
 have a24:=f4.at_ a23 f03.tidy (fun h=>h)
 have a25:=f5.at_ a24 f04.tidy (fun h=>h)
 have sl:=h6.by_.slen
 have nl:=yA 0 true 17 (FU ys)
 have xl:=J1 ys
 have pl:=p6.length_eq
 have few:=hs.few
 have d7:decide (70000<(WV 0 true 17 (FU ys)).length)=false:=decide_eq_false (by omega)
 have o6:=h6.1.one
 unfold Vc.c Vc.st at e2 a2 a23 a24 a25 g3 g4 g6
 show lE E D W nm nv rv tv (AA i) (AA 8) (AA 0) .nils l (AA 0) .nils U=_
 unfold lE
 simp -implicitDefEqProofs only [↓rP,rA,AB,AE,AD,h1,h2,h3,ho,↓e1,↓BX a12,↓e2,↓BX a2,↓g3,↓BX a23,↓g4,↓BX a14,↓e5,↓BX a25,↓g6,↓Bl o6,↓sl,d7]
end
def Pu (F:List V->H->AF):Prop:=∀{nT j:Nat} {ty:Nat->Ty} {n:Int},j<nT->(ty j).kind=AA 2->(ty j).has=false->lK F nT ty j (Vc.int n)
def Xc (F:List V->H->AF):Prop:=∀{U:H} {p nT i nf:Nat} {ty:Nat->Ty} {fd:Nat->Fd} {nm:BS} {nv rv tv:V},Ar U->Ck U p nT ty nm nv rv tv [.bool false]->i<nT->Kt U (ty i) nf fd->∀v:Vc,∃U',F [.ptr p 0,.int .i64 (AA i),.agg v.c] U=some (.bool true,U')/\Fr AL U U'
def XY (F:List V->H->AF):Prop:=∀{U:H} {p nT i:Nat} {ty:Nat->Ty} {nm:BS} {nv rv tv:V} {rest:List V},Ar U->Ck U p nT ty nm nv rv tv rest->i<nT->∀v:Vc,v.m = .nils->v.r=AA 0->∃U',F [.ptr p 0,.int .i64 (AA i),.agg v.c] U=some (.bool true,U')/\Fr AL U U'
def M7 (F:List V->H->AF):Prop:=∀{U:H} {p nT i:Nat} {ty:Nat->Ty} {xs:List Nat} {fd:Nat->Fd} {jt:Nat->Nat} {nm:BS} {nv rv tv l:V} {ho:l.one=true},Ar U->Ck U p nT ty nm nv rv tv [.bool false]->Ku U nT i ty xs fd jt->IA U 6 xs.length l (fun k=>(gV xs k).c) ->
 ∃U',F [.ptr p 0,.int .i64 (AA i),.agg (Vc.st l ho (AA 0) .nils rfl).c,.int .i64 (AA 1)] U=some (.bool true,U')/\Fr AL U U'
def ur (F:List V->H->AF):Prop:=∀{U:H} (v:Vc),Ar U->v.l = .nils->∃U',F [.agg v.c] U=some (.int .i64 (AA 1),U')/\Fr AL U U'
def uq (F:List V->H->AF):Prop:=∀{U:H} (v:Vc) (ru:Int),Ar U->v.l = .nils->v.r=AA 0->∃U',F [.agg v.c,.int .i64 ru] U=some (.bool true,U')/\Fr AL U U'
def lG (F:List V->H->AF):Prop:=∀{U:H} {q:Nat} {ru:Int} (v:Vc),Ar U->v.l = .nils->v.r=AA 0->CQ U q [.int .i64 ru]->∃U',F ([]++[.agg v.c]++[.ptr q 0]) U=some (.bool false,U')/\Fr AL U U'
def lN (F:List V->H->AF):Prop:=∀{U:H} {xs:List Nat} {l:V} {ho:l.one=true},Ar U->xs.length<=1000->IA U 6 xs.length l (fun k=>(gV xs k).c)->∃U',F [.agg (Vc.st l ho (AA 0) .nils rfl).c] U=some (.int .i64 (AA (1+xs.length)),U')/\Fr AL U U'
def lF (F:List V->H->AF):Prop:=∀{U:H} {xs:List Nat} {l:V} {ho:l.one=true} (ru:Int),Ar U->xs.length<=1000->IA U 6 xs.length l (fun k=>(gV xs k).c)->∃U',F [.agg (Vc.st l ho (AA 0) .nils rfl).c,.int .i64 ru] U=some (.bool true,U')/\Fr AL U U'
def TH (F:List V->H->AF):Prop:=∀{U:H} {nT i:Nat} {ty:Nat->Ty} {xs:List Nat} {fd:Nat->Fd} {jt:Nat->Nat} {nm:BS} {nv rv tv l:V} {ho:l.one=true},Ar U->IA U 13 nT tv (fun i=>(ty i).c)->nv.one=true->rv.one=true->tv.one=true->Ku U nT i ty xs fd jt->IA U 6 xs.length l (fun k=>(gV xs k).c) ->
 ∃U',F [.agg [.str nm,nv,rv,tv],.int .i64 (AA i),.agg (Vc.st l ho (AA 0) .nils rfl).c] U=some (.bool true,U')/\Fr AL U U'
def TJ (F:List V->H->AF):Prop:=∀{n0 n:Nat} {U:H} {az:List (List Nat)} {rs l:List Nat} {nm:BS} {u rv lv vl:V} {ho:vl.one=true},Ar U->QN n0 U az rs (My n l) u rv lv->(∀x∈n::l,x<50)->l.length<=9->IA U 6 (n::l).length vl (fun k=>(gV (n::l) k).c) ->
 ∃(b:V) (ys:List Nat) (U':H),F [.agg [.str nm,u,rv,lv],.int .i64 (AA 0),.agg (Vc.st vl ho (AA 0) .nils rfl).c] U=some (.tup [b,.int .i64 (AA 0)],U')/\ys.Perm (n::l)/\ys.Pairwise (fun a b=>a<=b)/\Nb U U' b (WV 0 true 17 (FU ys))/\Fr AL U U'
section
variable {E:EB} {D:Ai} {W:AH} {N:Nat}
theorem ir (hP:H9 (D 51)) (hW:Ps (D 52)):Pu (vZ E D W N):=fun hj hk hh=>fun U p dp nm nv rv tv rest ht hc hd=>
 dg hP hW ht hc hj hd hk (by unfold N7;rw[hh,FJ,Bool.true_or,tO])
theorem xi (hS:TD (D 111)) (hN:0<N):Xc (F93 E D W N):=fun ht hc hi hs v=>dZ hS hN ht hc hi hs v
theorem xD:XY (F90 E D W N):=fun ht hc hi v hm hr=>xC ht hc hi v hm hr
theorem UI (hP:H9 (D 51)) (hI:Pu (D 30)) (hR:XY (D 90)) (hG:Xc (D 93)) (hN:100<N):M7 (F56 E D W N):=by
 intro U p nT i ty xs fd jt nm nv rv tv l ho ht hc hs hr
 have few:=hs.few
 exact UJ (g:=gV xs) hP (fun k hk=>by
  obtain⟨t1,t2,t3,t4,t5,t6⟩:=hs.ft k hk
  exact⟨rfl,t2,jt k,t1,hI t3 t4 t5⟩) (by decide) hs.i (by omega) P5.nils
  (fun U1 h1 f=>hR h1 (hc.fr f ht) hs.i _ rfl rfl)
  (fun U1 h1 f=>hG h1 (hc.fr f ht) hs.i (hs.st.fr f ht) _) ht hc hs.st hr
theorem cy (hF:M7 (D 56)):M7 (vZ E D W N):=by
 intro U p nT i ty xs fd jt nm nv rv tv l ho ht hc hs hr
 obtain⟨U1,e1,f1,a1,n1⟩:=Ca ht (Vc.st l ho (AA 0) .nils rfl).c
 obtain⟨U2,g2,f2⟩:=hF (ho:=ho) f1.tidy (hc.fr f1 ht) (hs.fr f1 ht) (hr.fr0 f1 ht)
 exact⟨U2,de ht hc hs.i (by decide) hs.st.kind e1 g2,f1.trans f2 (fun _ _ h=>h)⟩
theorem AEC (hC:ur (D 31)) (hN:10000<N):lN (F31 E D W N):=by
 intro U xs l ho ht hl hr
 exact Y5 (v:=Vc.st l ho (AA 0) .nils rfl) (g:=gV xs) (by omega) (by omega) ht hr (fun U1 k hk f=>hC (gV xs k) f.tidy rfl)
theorem ADA (hR:uq (D 17)):lG (F33 E D W N):=by
 intro U q ru v ht hl hr ha
 exact gX (fun U1 h1 f=>hR v ru h1 hl hr) ht ha
theorem AC9 {D':Ai} (hC:sF (D 32) D') (h1:lG (D' 33)):lF (F17 E D W N):=by
 intro U xs l ho ru ht hl hr
 exact YT hC (v:=Vc.st l ho (AA 0) .nils rfl) (g:=gV xs) (by omega) rfl ht hr (fun U1 q k hk f ha=>h1 (gV xs k) f.tidy rfl rfl ha)
theorem qp (hV:M7 (D 30)) (hC:lN (D 31)):TH (F16 E D W N):=by
 intro U nT i ty xs fd jt nm nv rv tv l ho ht hr h1 h2 h3 hs hl
 have few:=hs.few
 exact ABK (v:=Vc.st l ho (AA 0) .nils rfl) (n:=1+xs.length) (by omega) ht hr h1 h2 h3
  (fun U1 p t1 f hc=>hV t1 hc (hs.fr f ht) (hl.fr0 f ht))
  (fun U1 t1 f=>hC t1 (by omega) (hl.fr0 f ht))
theorem VE {n:Nat} {l:List Nat} {k x:Nat} (h:(n::l)[k]? = some x):(My n l)[k+1]? = some (Km x):=by
 unfold My
 rw[Bb,Aw,h];rfl
theorem xy (hF:TH (D 16)) (hRu:lF (D 17)) (hE:Zm (D 18)):TJ (F10 E D W N):=by
 intro n0 n U az rs l nm u rv lv vl ho ht hs h50 h9 hl
 obtain⟨ty,row,is⟩:=hs.rows
 obtain⟨o1,o2,o3⟩:=hs.one4
 have i0:=is 0 (ud n l) rfl
 have hll:(FD 1 (n::l)).length=(n::l).length:=Hk _ _
 have hlen:(My n l).length=(n::l).length+1:=by unfold My;simp
 have fd0:DL U 11 (FD 1 (n::l)).length (ty 0).fields (Ir (FD 1 (n::l))):=i0.fields
 have hset:Ku U (My n l).length 0 ty (n::l) (fun k=>AD6 ((FD 1 (n::l)).getD k ⟨[],0,false,0⟩)) (fun k=>k+1):=by
  refine⟨⟨i0.kind,?_,by simp only[AN];omega,i0.root⟩,fun k hk=>?_,fun k x hk=>?_,i0.tags,h50,by simp only[AN];omega,by simp,Ly i0.items,by omega⟩
  ·have:=w7 fd0
   rw[hll]at this
   exact this
  ·have hk':k<(FD 1 (n::l)).length:=by omega
   have e:(FD 1 (n::l))[k]? = some ((FD 1 (n::l)).getD k ⟨[],0,false,0⟩):=by rw[BT,AM hk'];rfl
   obtain⟨x,hx,ef⟩:=J0 _ _ _ _ e
   have ik:=is (k+1) _ (VE hx)
   rw[ef]
   exact⟨by show AA (1+k)=_;rw[Nat.add_comm],rfl,by omega,ik.kind,ik.has,ik.conMore⟩
  ·exact(is (k+1) _ (VE hk)).tags
 have few:=hset.few
 exact rX (xs:=n::l) (ho:=ho) ht row o1 o2 o3 hset hl
  (fun U1 t1 f=>hF t1 (row.fr0 f ht) o1 o2 o3 (hset.fr f ht) (hl.fr0 f ht))
  (fun U1 t1 f=>hRu _ t1 (by omega) (hl.fr0 f ht)) hE
end
def Ec (k:Nat) (l:List Nat):List Nat:=l.drop k++l.take k
theorem SO (k:Nat) (l:List Nat):(Ec k l).length=l.length:=by unfold Ec;rw[AS,CA,BY];omega
theorem UN (k:Nat) (l:List Nat):(Ec k l).Perm l:=by
 unfold Ec
 have h:=List.perm_append_comm (l₁:=l.drop k) (l₂:=l.take k)
 rw[WW]at h
 exact h
theorem YU {k i:Nat} {l:List Nat} (hk:k<l.length) (hi:i<l.length):(Ec k l)[i]? = l[(i+k) % l.length]? := by
 unfold Ec
 rcases Av i (l.length-k)with h|h
 ·rw[CR (by rw[CA];exact h),Bm,CY (by omega),Nat.add_comm]
 ·rw[BR (by rw[CA];exact h),CA,CG (by omega)]
  have e:(i+k) % l.length=i-(l.length-k):=by
   rw[Nat.mod_eq_sub_mod (by omega),CY (by omega)]
   omega
  rw[e]
def PC:List Nat:=[77,32,68,69,70,73,78,73,84,73,79,78,83,32,73,77,80,76,73,67,73,84,32,84,65,71,83,32,58,58,61,32,66,69,71,73,78,32,83,32,58,58,61,32,83,69,84,32,123,32]
def Wx:List Nat:=[32,125,32,69,78,68]
def G2 (w:List Nat):List Nat:=102::(w++32::91::(w++[93,32,73,78,84,69,71,69,82]))
def DU:List Nat->List Nat
 | []=>[]
 | x::l=>G2 (DK x)++l.flatMap fun y=>44::32::G2 (DK y)
theorem ju {l:List Nat} (h:l≠[]) (y:Nat):DU (l++[y])=(DU l++[44,32])++G2 (DK y):=by
 cases l with
 | nil=>exact absurd rfl h
 | cons x l=>
  show G2 (DK x)++(l++[y]).flatMap _=((G2 (DK x)++l.flatMap _)++[44,32])++_
  rw[oq]
  simp
theorem jI:∀l:List Nat,dsR l=(l.flatMap fun y=>44::32::G2 (DK y))++Wx
 | []=>rfl
 | n::l=>by
  show 44::dsF (DK n) (dsR l)=_
  rw[jI l]
  unfold dsF
  rw[List.flatMap_cons]
  unfold G2
  simp
theorem KY (n:Nat) (l:List Nat):(PC++DU (n::l))++Wx=IH n l:=by
 unfold IH
 rw[jI]
 unfold dsF DU G2 PC
 simp
theorem jH (x:Nat) (hx:x<50):∀c∈DK x,c<256:=by
 have:∀k:Fin 50,∀c∈DK k.val,c<256:=by decide +kernel
 exact this ⟨x,hx⟩
theorem Yy (x:Nat) (hx:x<50):(∀c∈G2 (DK x),c<256)/\(G2 (DK x)).length<=20:=by
 have:∀k:Fin 50,(∀c∈G2 (DK k.val),c<256)/\(G2 (DK k.val)).length<=20:=by decide +kernel
 exact this ⟨x,hx⟩
theorem OK:∀(l:List Nat),(∀x∈l,x<50)->(∀c∈DU l,c<256)/\(DU l).length<=30*l.length:=by
 have go:∀(l:List Nat),(∀x∈l,x<50)->(∀c∈l.flatMap (fun y=>44::32::G2 (DK y)),c<256)/\(l.flatMap (fun y=>44::32::G2 (DK y))).length<=30*l.length:=by
  intro l
  induction l with
  | nil=>intro _;exact⟨fun c h=>by simp at h,by simp⟩
  | cons x l ih=>
   intro h
   obtain⟨a,b⟩:=ih (fun y hy=>h y (BM _ hy))
   obtain⟨c,d⟩:=Yy x (h x Ab)
   rw[List.flatMap_cons]
   refine⟨fun z hz=>?_,by simp only[AS,AN];omega⟩
   rcases EA.1 hz with hz|hz
   ·rcases Ax.1 hz with rfl|hz
    ·decide
    ·rcases Ax.1 hz with rfl|hz
     ·decide
     ·exact c z hz
   ·exact a z hz
 intro l
 cases l with
 | nil=>intro _;exact⟨fun c h=>by simp[DU]at h,by simp[DU]⟩
 | cons x l=>
  intro h
  obtain⟨a,b⟩:=go l (fun y hy=>h y (BM _ hy))
  obtain⟨c,d⟩:=Yy x (h x Ab)
  show (∀z∈G2 (DK x)++_,z<256)/\(G2 (DK x)++_).length<=_
  refine⟨fun z hz=>(EA.1 hz).elim (c z) (a z),?_⟩
  rw[AS,AN];omega
theorem Lv {x y:AO} {em:B6} {a b:List Nat} (hx:CP em x = .str (BB a)) (hy:CP em y = .str (BB b)) (ha:∀c∈a,c<256) (hb:∀c∈b,c<256) (hl:a.length+b.length<=1000000):BV (.bin .add .none x y) em=some (.str (BB (a++b))):=by
 show G5 .add .none (CP em x) (CP em y)=_
 rw[hx,hy]
 show UF .add (BB a) (BB b)=_
 unfold UF
 rw[show Ag (AP (BB a).len (BB b).len) 1000000000000=true from II (by rw[FT,FT];show a.length+b.length<=_;omega),SV ha hb]
theorem AEc:BS.mk 1 102=BB [102]:=by decide +kernel
theorem ug:BS.mk 2 23328=BB [32,91]:=by decide +kernel
theorem uf:BS.mk 2 8236=BB [44,32]:=by decide +kernel
theorem AEG:BS.mk 9 1517625048984539701341=BB [93,32,73,78,84,69,71,69,82]:=by decide +kernel
theorem bP0:BS.mk 50 327632657439666379000588799368074089870184164557754827699467780837579140917348969856314753296955196148228008736788324429=BB PC:=by decide +kernel
theorem bP1:BS.mk 6 75102957894944=BB Wx:=by decide +kernel
theorem F0 {l m:List Nat} (h1:∀c∈l,c<256) (h2:∀c∈m,c<256):∀c∈l++m,c<256:=fun c hc=>(EA.1 hc).elim (h1 c) (h2 c)
section
variable {E:EB} {D:Ai} {N:Nat}
theorem rF (hDg:Gx 19 (D 6)) {U:H} {xs a:List Nat} {i x:Nat} {v v6 v10 v12:V} (ht:Ar U) (hv:DM U 1 xs.length v (HX xs)) (hi:xs[i]? = some x) (hx:x<50) (ha:∀c∈a,c<256) (hl:a.length<=5000) :
  ∃e' U',AT E D ey n6 [(5,.str (BB a)),(6,v6),(7,v),(10,v10),(11,.int .i64 (AA i)),(12,v12)] U=some (e',U')/\Go.Og.look e' 5=some (.str (BB (a++G2 (DK x))))/\Go.Og.look e' 6=some v6/\Go.Og.look e' 7=some v/\Go.Og.look e' 10=some v10/\Go.Og.look e' 11=some (.int .i64 (AA i))/\Go.Og.look e' 12=some v12/\Fr AL U U':=by
 have fw:Fr AL U ⟨U.next+19,U.bl⟩:=(CO (E:=E) (n:=19) (S:=AL) ht).fr
 have hil:i<xs.length:=(AY.1 hi).1
 obtain⟨U1,g1,f1⟩:=hDg ⟨U.next+19,U.bl⟩ x fw.tidy (by show x<100000000000000000000;omega) (by omega)
 obtain⟨U2,g2,f2⟩:=hDg U1 x f1.tidy (by show x<100000000000000000000;omega) (by omega)
 have g1:D 6 [.int .u64 (AA x)] ⟨U.next+19,U.bl⟩=some (.str (BB (DK x)),U1):=g1
 have g2:D 6 [.int .u64 (AA x)] U1=some (.str (BB (DK x)),U2):=g2
 obtain⟨b,c,hvb,hab⟩:∃b c,v = .sl b 0 xs.length c/\CQ U b (HX xs):=by
  rcases hv with (⟨h0,_,_⟩|⟨b,hv,ha,_,_⟩)|⟨b,hv,ha,_⟩
  ·omega
  ·exact⟨b,_,hv,ha⟩
  ·exact⟨b,_,hv,ha⟩
 have hg:(HX xs)[0+i*1]? = some (.int .i64 (AA x)):=by
  rw[BA,B8];unfold HX;rw[Aw,hi];rfl
 have vo:=hv.one
 have lw:=jH x hx
 have nw:=Y3 x hx
 have cv:∀{em:B6},CP em (.tmp 87) = .int .i64 (AA x)->BV (.conv (.toInt .u64) (.tmp 87)) em=some (.int .u64 (AA x)):=fun {em} h=>by
  show (match CP em (.tmp 87)with
   | .int _ n=>some (V.int .u64 (IntKind.u64.wrap n))
   | _=>none)=_
  rw[h]
  show some (V.int .u64 (IntKind.u64.wrap (AA x)))=_
  rw[<-DO,BZ (show x<=18446744073709551615 by omega)]
 have cv2:∀{em:B6},CP em (.tmp 95) = .int .i64 (AA x)->BV (.conv (.toInt .u64) (.tmp 95)) em=some (.int .u64 (AA x)):=fun {em} h=>by
  show (match CP em (.tmp 95)with
   | .int _ n=>some (V.int .u64 (IntKind.u64.wrap n))
   | _=>none)=_
  rw[h]
  show some (V.int .u64 (IntKind.u64.wrap (AA x)))=_
  rw[<-DO,BZ (show x<=18446744073709551615 by omega)]
 have l1:∀c∈([102]:List Nat),c<256:=by decide
 have l2:∀c∈([32,91]:List Nat),c<256:=by decide
 have l3:∀c∈([93,32,73,78,84,69,71,69,82]:List Nat),c<256:=by decide
 have h1:=F0 ha l1
 have h2:=F0 h1 lw
 have h3:=F0 h2 l2
 have h4:=F0 h3 lw
 have e1:∀{em:B6} {s:BS} {l:List Nat},s=BB l->CP em (.con (.str s)) = .str (BB l):=fun h=>by rw[h];rfl
 have go:Ll E D U 19 0 AL ey n6 ⟨[(5,.str (BB a)),(6,v6),(7,v),(10,v10),(11,.int .i64 (AA i)),(12,v12)],U.next+19,[U.bl],[],0,[]⟩ _ U2:=
  Eo (.str (BB a)) rfl rfl <|
  Eo (.str (BB (a++[102]))) rfl (Lv rfl (e1 AEc) ha l1 (by simp;omega)) <|
  Eo v rfl (Fw rfl (Cp vo)) <|
  Eo (.int .i64 (AA i)) rfl rfl <|
  Eo (.ptr b (0+i*1)) rfl (Fx hvb rfl hil) <|
  N0 (.int .i64 (AA x)) (CO ht) rfl (DC (b:=b) (off:=0+i*1) rfl hab hg ht (fun h=>h) (B0 _ rfl)) fun _ r1=>
  Eo (.int .u64 (AA x)) rfl (cv rfl) <|
  QW (.str (BB (DK x))) r1 rfl (by decide) f1 (fun _ _ h=>h) (fun _ h _ _=>h) (H6 (vs:=[.int .u64 (AA x)]) rfl rfl g1) fun _ _ _ r2=>
  Eo (.str (BB ((a++[102])++DK x))) rfl (Lv rfl rfl h1 lw (by simp;omega)) <|
  Eo (.str (BB (((a++[102])++DK x)++[32,91]))) rfl (Lv rfl (e1 ug) h2 l2 (by simp;omega)) <|
  Eo v rfl (Fw rfl (Cp vo)) <|
  Eo (.int .i64 (AA i)) rfl rfl <|
  Eo (.ptr b (0+i*1)) rfl (Fx hvb rfl hil) <|
  N0 (.int .i64 (AA x)) r2 rfl (DC (b:=b) (off:=0+i*1) rfl hab hg ht (fun h=>h) (B0 _ rfl)) fun _ r3=>
  Eo (.int .u64 (AA x)) rfl (cv2 rfl) <|
  QW (.str (BB (DK x))) r3 rfl (by decide) f2 (fun _ _ h=>h) (fun _ h _ _=>h) (H6 (vs:=[.int .u64 (AA x)]) rfl rfl g2) fun _ _ _ r4=>
  Eo (.str (BB ((((a++[102])++DK x)++[32,91])++DK x))) rfl (Lv rfl rfl h3 lw (by simp;omega)) <|
  Eo (.str (BB (((((a++[102])++DK x)++[32,91])++DK x)++[93,32,73,78,84,69,71,69,82]))) rfl (Lv rfl (e1 AEG) h4 l3 (by simp;omega)) <|
  Eo (.str (BB (((((a++[102])++DK x)++[32,91])++DK x)++[93,32,73,78,84,69,71,69,82]))) rfl rfl <|
  O5 r4
 obtain⟨d1,d2⟩:=ME (ops:=ey) go
 have et:((((a++[102])++DK x)++[32,91])++DK x)++[93,32,73,78,84,69,71,69,82]=a++G2 (DK x):=by unfold G2;simp
 rw[et]at d1
 exact⟨_,U2,d1,rfl,rfl,rfl,rfl,rfl,rfl,d2⟩
end
structure ArI (E:EB) (v:V) (n:Nat) (f:Nat->Int):Prop where
 len:∀J:Nat->AF,A0 v J=J n
 rd:∀(U:H) (i:Nat) (J:V->AF),i<n->BU U.bl 50=none->AW 1 v (AA i) (fun b o=>EG E U b o J)=J (.int .i64 (f i))
def Zp (F:List V->H->AF):Prop:=∀(U:H),Ar U->∃U',F [] U=some (.bool true,U')/\Fr AL U U'
theorem AJ8 (v:Int):BE .u64 v=v % 18446744073709551616:=by rw[DO];rfl
theorem tY (a:Int) (m:Nat) (h0:0<m) (hm:m<=1000000):∃r:Nat,r<m/\BE .i64 (Lo (BE .u64 a) (AA m))=AA r:=by
 obtain⟨k,hk⟩:∃k:Nat,BE .u64 a=AA k:=by
  rw[AJ8]
  exact Int.eq_ofNat_of_zero_le (Int.emod_nonneg _ (by decide))
 have h2:Lo (AA k) (AA m)=AA (k % m):=rfl
 have:=QI k h0
 exact⟨k % m,this,by rw[hk,h2];exact BZ (show k % m<=9223372036854775807 by omega)⟩
theorem VS {xs:List Nat} {i x:Nat} (h:xs[i]? = some x):(match decide (0<i)with
  | true=>DU (xs.take i)++[44,32]
  | false=>DU (xs.take i))++G2 (DK x)=DU (xs.take (i+1)):=by
 have hi:=(AY.1 h).1
 rw[FW,h]
 cases i with
 | zero=>
  show DU (xs.take 0)++G2 (DK x)=DU (xs.take 0++[x])
  rw[IM]
  show []++G2 (DK x)=G2 (DK x)++[].flatMap _
  simp
 | succ i=>
  rw[decide_eq_true (Nat.succ_pos i)]
  exact(ju (fun e=>by
   have:=congrArg HK e
   rw[BY]at this
   simp only[BQ]at this
   omega) x).symm
section
variable {E:EB} {D:Ai} {N:Nat}
theorem yD (hDg:Gx 19 (D 6)) {xs:List Nat} {k:Nat} {v:V} (h50:∀x∈xs,x<50) (hk:k<xs.length) (hl:xs.length<=10):∀(q i n':Nat) (U:H),i+q=xs.length->q<n'->Ar U->DM U 1 xs.length v (HX xs) ->
    ∃U',se E D (AT E D) N n' (BB (DU (xs.take i))) (BB (DU ((Ec k xs).take i))) v (AA k) (AA i) U=mq E D (AT E D) N (BB (DU xs)) (BB (DU (Ec k xs))) v (AA k) U'/\Fr AL U U':=by
  have hrl:=SO k xs
  have r50:∀x∈Ec k xs,x<50:=fun x hx=>h50 x ((UN k xs).mem_iff.1 hx)
  intro q
  induction q with
  | zero=>
    intro i n' U hi hn' ht hv
    obtain⟨n',rfl⟩:∃q,n'=q+1:=⟨n'-1,by omega⟩
    have hi:i=xs.length:=by omega
    subst hi
    refine⟨U,?_,Fr.refl ht⟩
    rw[EN,<-hrl,EN,hrl]
    have d1:decide (xs.length<xs.length)=false:=decide_eq_false (C7 _)
    have sl:∀J:Nat->AF,A0 v J=J xs.length:=fun J=>hv.slen
    have key:∀K3 K6,kR E D (AT E D) K3 K6 (BB (DU xs)) (BB (DU (Ec k xs))) v (AA k) (AA xs.length) U=K3 (BB (DU xs)) (BB (DU (Ec k xs))) v (AA k) U:=by
      intro K3 K6
      unfold kR
      simp -implicitDefEqProofs only [↓rP,rA,AB,AE,AD,↓sl,d1]
    exact key _ _
  | succ q ih=>
    intro i n' U hi hn' ht hv
    obtain⟨n',rfl⟩:∃q,n'=q+1:=⟨n'-1,by omega⟩
    have hlt:i<xs.length:=by omega
    obtain⟨x,hx⟩:∃x,xs[i]? = some x:=⟨xs[i],AM hlt⟩
    obtain⟨y,hy⟩:∃y,(Ec k xs)[i]? = some y:=⟨(Ec k xs)[i],AM (by omega)⟩
    have hym:=hy
    rw[YU hk hlt]at hym
    have x50:=h50 x (DA hx)
    have y50:=r50 y (DA hy)
    have sl:∀J:Nat->AF,A0 v J=J xs.length:=fun J=>hv.slen
    have d1:decide (i<xs.length)=true:=decide_eq_true hlt
    obtain⟨a,ha⟩:∃a,a=(match decide (0<i)with
      | true=>DU (xs.take i)++[44,32]
      | false=>DU (xs.take i)):=⟨_,rfl⟩
    obtain⟨b,hb⟩:∃b,b=(match decide (0<i)with
      | true=>DU ((Ec k xs).take i)++[44,32]
      | false=>DU ((Ec k xs).take i)):=⟨_,rfl⟩
    have bd:∀(zs:List Nat),zs.length=xs.length->(∀x∈zs,x<50)->(∀c∈DU (zs.take i),c<256)/\(DU (zs.take i)).length<=400:=fun zs hz h=>by
      obtain⟨p,q⟩:=OK (zs.take i) (fun x hx=>h x (List.mem_of_mem_take hx))
      have:(zs.take i).length<=10:=by rw[BY];omega
      exact⟨p,by omega⟩
    obtain⟨p1,p2⟩:=bd xs rfl h50
    obtain⟨p3,p4⟩:=bd (Ec k xs) hrl r50
    have l2:∀c∈([44,32]:List Nat),c<256:=by decide
    have al:(∀c∈a,c<256)/\a.length<=500:=by
      rw[ha]
      cases decide (0<i)with
      | true=>exact⟨F0 p1 l2,by rw[AS];simp;omega⟩
      | false=>exact⟨p1,by show (DU (xs.take i)).length<=500;omega⟩
    have bl:(∀c∈b,c<256)/\b.length<=500:=by
      rw[hb]
      cases decide (0<i)with
      | true=>exact⟨F0 p3 l2,by rw[AS];simp;omega⟩
      | false=>exact⟨p3,by show (DU ((Ec k xs).take i)).length<=500;omega⟩
    obtain⟨e',U1,g1,t5,t6,t7,t10,t11,t12,f1⟩:=rF (E:=E) (D:=D) (a:=a) (v6 := .str (BB b)) (v10 := .int .i64 (AA k)) (v12 := .int .i64 (AA y)) hDg ht hv hx x50 al.1 (by omega)
    obtain⟨U2,g2,f2⟩:=hDg U1 y f1.tidy (by show y<100000000000000000000;omega) (by omega)
    obtain⟨U3,g3,f3⟩:=hDg U2 y f2.tidy (by show y<100000000000000000000;omega) (by omega)
    have g2:D 6 [.int .u64 (AA y)] U1=some (.str (BB (DK y)),U2):=g2
    have g3:D 6 [.int .u64 (AA y)] U2=some (.str (BB (DK y)),U3):=g3
    have F:Fr AL U U3:=(f1.trans f2 (fun _ _ h=>h)).trans f3 (fun _ _ h=>h)
    obtain⟨U',g',f'⟩:=ih (i+1) n' U3 (by omega) (by omega) F.tidy (hv.fr F ht (fun _ _ h=>h))
    refine⟨U',?_,F.trans f' (fun _ _ h=>h)⟩
    have ea:=VS hx
    have eb:=VS hy
    rw[<-ha]at ea
    rw[<-hb]at eb
    rw[ea]at t5
    have k4:∀K3 K6,kR E D (AT E D) K3 K6 (BB (DU (xs.take i))) (BB (DU ((Ec k xs).take i))) v (AA k) (AA i) U=K6 (BB a) (BB b) v (AA k) (AA i) U:=by
      intro K3 K6
      rw[ha,hb]
      unfold kR
      cases d0:decide (0<i)with
      | true=>
        have c1:∀J:BS->AF,GC (BB (DU (xs.take i))) (BS.mk 2 8236) J=J (BB (DU (xs.take i)++[44,32])):=fun J=>by rw[uf];exact E1 p1 l2 (by simp;omega) J
        have c2:∀J:BS->AF,GC (BB (DU ((Ec k xs).take i))) (BS.mk 2 8236) J=J (BB (DU ((Ec k xs).take i)++[44,32])):=fun J=>by rw[uf];exact E1 p3 l2 (by simp;omega) J
        simp -implicitDefEqProofs only [↓rP,rA,AB,AE,AD,↓sl,d1,d0,↓c1,↓c2]
      | false=>simp -implicitDefEqProofs only [↓rP,rA,AB,AE,AD,↓sl,d1,d0]
    have gd:∀J:B6->H->AF,Cc (AT E D ey n6 [(5,.str (BB a)),(6,.str (BB b)),(7,v),(10,.int .i64 (AA k)),(11,.int .i64 (AA i)),(12,.int .i64 (AA y))] U) J=J e' U1:=fun J=>by rw[g1];rfl
    have y5:∀J:V->AF,BL e' 5 J=J (.str (BB (DU (xs.take (i+1))))):=fun J=>BH t5 rfl
    have y6:∀J:V->AF,BL e' 6 J=J (.str (BB b)):=fun J=>BH t6 rfl
    have y7:∀J:V->AF,BL e' 7 J=J v:=fun J=>BH t7 (Cp hv.one)
    have T5:∀J:V->AF,BL e' 10 J=J (.int .i64 (AA k)):=fun J=>BH t10 rfl
    have Tz:∀J:V->AF,BL e' 11 J=J (.int .i64 (AA i)):=fun J=>BH t11 rfl
    have Hy:∀J:V->AF,BL e' 12 J=J (.int .i64 (AA y)):=fun J=>BH t12 rfl
    obtain⟨m,hm⟩:∃m,xs.length=m+1:=⟨xs.length-1,by omega⟩
    have nz:∀J:AF,tp (AA xs.length) J=J:=fun J=>by rw[hm];rfl
    have tm:Lo (Ba .i64 (AA i) (AA k)) (AA xs.length)=AA ((i+k) % xs.length):=by rw[A3 (by omega)];rfl
    have hmod:=QI (i+k) (show 0<xs.length by omega)
    have rd:∀J,AW 1 v (AA ((i+k) % xs.length)) (fun b o=>EG E U b o J)=J (.int .i64 (AA y)):=fun J=>Gi (off:=0) hv.src hmod (by decide) (by
      rw[B8];show (HX xs)[(i+k) % xs.length]? = _;unfold HX;rw[Aw,hym];rfl) J
    have wy:BE .u64 (AA y)=AA y:=BZ (show y<=18446744073709551615 by omega)
    have lw:=jH y y50
    have nw:=Y3 y y50
    have l102:∀c∈([102]:List Nat),c<256:=by decide
    have l91:∀c∈([32,91]:List Nat),c<256:=by decide
    have lI:∀c∈([93,32,73,78,84,69,71,69,82]:List Nat),c<256:=by decide
    have h1:=F0 bl.1 l102
    have h2:=F0 h1 lw
    have h3:=F0 h2 l91
    have h4:=F0 h3 lw
    have q1:∀J:BS->AF,GC (BB b) (BS.mk 1 102) J=J (BB (b++[102])):=fun J=>by rw[AEc];exact E1 bl.1 l102 (by simp;omega) J
    have q2:∀J:BS->AF,GC (BB (b++[102])) (BB (DK y)) J=J (BB ((b++[102])++DK y)):=fun J=>E1 h1 lw (by simp;omega) J
    have q3:∀J:BS->AF,GC (BB ((b++[102])++DK y)) (BS.mk 2 23328) J=J (BB (((b++[102])++DK y)++[32,91])):=fun J=>by rw[ug];exact E1 h2 l91 (by simp;omega) J
    have q4:∀J:BS->AF,GC (BB (((b++[102])++DK y)++[32,91])) (BB (DK y)) J=J (BB ((((b++[102])++DK y)++[32,91])++DK y)):=fun J=>E1 h3 lw (by simp;omega) J
    have q5:∀J:BS->AF,GC (BB ((((b++[102])++DK y)++[32,91])++DK y)) (BS.mk 9 1517625048984539701341) J=J (BB (DU ((Ec k xs).take (i+1)))):=fun J=>by
      rw[AEG,<-eb]
      have et:((((b++[102])++DK y)++[32,91])++DK y)++[93,32,73,78,84,69,71,69,82]=b++G2 (DK y):=by unfold G2;simp
      rw[<-et]
      exact E1 h4 lI (by simp;omega) J
    have k6:∀R,yV E D (AT E D) (yW E D (AT E D) R) (BB a) (BB b) v (AA k) (AA i) U=R (BB (DU (xs.take (i+1)))) (BB (DU ((Ec k xs).take (i+1)))) v (AA k) (AA (i+1)) U3:=by
      intro R
      unfold yV yW
      simp -implicitDefEqProofs only [↓rP,rA,AB,AE,AD,↓sl,↓nz,tm,↓rd,↓gd,↓y5,↓y6,↓y7,↓T5,↓Tz,↓Hy,wy,↓q1,↓g2,↓q2,↓q3,↓g3,↓q4,↓q5,A3 (show i+1<=9223372036854775807 by omega)]
    exact(k4 _ _).trans ((k6 _).trans g')
theorem rG (hI:Pt (D 12)) (hA:Zp (D 5)) {W:AH} {v:V} {n:Nat} {f:Nat->Int} (hv:ArI E v n f) (hn:n<=10) {t:Int} {U0:H} (ht0:Ar U0) (n50:BU U0.bl 50=none) (lt50:100<=U0.next)
    {K1:Int->BS->BS->V->H->AF} {L:Nat->V->Int->BS->BS->V->Int->H->AF} (hL:∀q a b c d e g s,L (q+1) a b c d e g s=kS E D W K1 (L q) a b c d e g s)
    (hK:∀(xs:List Nat) (w:V) (U:H),xs.length=n->(∀x∈xs,x<50)->xs.Nodup->Fr AL U0 U->DM U 1 n w (HX xs)->(∀b,AJ w b->U0.next<=b)->∃U',K1 t (BS.mk 0 0) (BS.mk 0 0) w U=some (.bool true,U')) :
    ∀(q i n':Nat) (xs:List Nat) (w:V) (U:H),i+q=n->q<n'->xs.length=i->(∀x∈xs,x<50)->xs.Nodup->Fr AL U0 U->DM U 1 i w (HX xs)->(∀b,AJ w b->U0.next<=b) ->
      ∃U',L n' v t (BS.mk 0 0) (BS.mk 0 0) w (AA i) U=some (.bool true,U'):=by
  intro q
  induction q with
  | zero=>
    intro i n' xs w U hi hn' hx h50 hnd fr hd nw
    obtain⟨n',rfl⟩:∃q,n'=q+1:=⟨n'-1,by omega⟩
    have hi:i=n:=by omega
    subst hi
    obtain⟨U',g⟩:=hK xs w U hx h50 hnd fr hd nw
    refine⟨U',?_⟩
    have sl:=hv.len
    have d1:decide (i<i)=false:=decide_eq_false (C7 _)
    rw[hL,<-g]
    unfold kS
    simp -implicitDefEqProofs only [↓rP,rA,AB,AE,AD,↓sl,d1]
  | succ q ih=>
    intro i n' xs w U hi hn' hx h50 hnd fr hd nw
    obtain⟨n',rfl⟩:∃q,n'=q+1:=⟨n'-1,by omega⟩
    have hlt:i<n:=by omega
    have sl:=hv.len
    have d1:decide (i<n)=true:=decide_eq_true hlt
    obtain⟨r,hr,er⟩:=tY (f i) 50 (by decide) (by decide)
    have le:=fr.le
    have e50:BU U.bl 50=none:=by rw[fr.same 50 (by omega) (fun h=>h)];exact n50
    have rd:∀J,AW 1 v (AA i) (fun b o=>EG E U b o J)=J (.int .i64 (f i)):=fun J=>hv.rd U i J hlt e50
    have gI:=hI U w xs r (by rw[hx];exact hd.src) (by omega)
    cases hin:xs.any fun y=>decide (y=r)with
    | true=>
      rw[hin]at gI
      obtain⟨U1,g1,f1⟩:=hA U fr.tidy
      refine⟨U1,?_⟩
      rw[hL]
      unfold kS
      simp -implicitDefEqProofs only [↓rP,rA,AB,AE,AD,↓sl,d1,↓rd,er,↓gI,↓g1]
    | false=>
      rw[hin]at gI
      obtain⟨U1,e1,f1,a1,n1⟩:=Ca fr.tidy [.int .i64 (AA r)]
      have x1:DL U1 1 1 (.sl U.next 0 1 (.ex 1)) [.int .i64 (AA r)] := .inr ⟨_,_,_,_,rfl,a1,AK _,rfl⟩
      obtain⟨w',U2,g2,d2,m2,f2⟩:=Du (E:=E) (bytes:=8) (hd.fr f1 fr.tidy (fun _ _ h=>h)) f1.tidy x1 rfl (by unfold Bw;simp only[AG,Ac];omega)
      have f01:=fr.trans f1 (fun _ _ h=>h)
      have f02:Fr AL U0 U2:=f01.trans f2 (fun b hb e=>by have:=nw b e;omega)
      have le1:=f1.le
      have hnot:r ∉ xs:=fun h=>by
        have:(xs.any fun y=>decide (y=r))=true:=List.any_eq_true.2 ⟨r,h,decide_eq_true rfl⟩
        rw[hin]at this;cases this
      have e:HX (xs++[r])=HX xs++[.int .i64 (AA r)]:=by unfold HX;rw[List.map_append];rfl
      obtain⟨U',g'⟩:=ih (i+1) n' (xs++[r]) w' U2 (by omega) (by omega) (by rw[AS,hx];rfl) (fun x h=>(EA.1 h).elim (h50 x) (fun h=>by rw[Cn.1 h];exact hr)) (by
        rw[List.nodup_append]
        exact⟨hnd,by simp,fun a ha b hb e=>by rw[Cn.1 hb]at e;exact hnot (e ▸ ha)⟩) f02 (by rw[e];exact d2) (fun b hb=>(m2 b hb).elim (nw b) (fun e=>by omega))
      refine⟨U',?_⟩
      have uo:=d2.one
      rw[hL,<-g']
      unfold kS
      simp -implicitDefEqProofs only [↓rP,rA,AB,AE,AD,↓sl,d1,↓rd,er,↓gI,↓e1,↓g2,↓Bl uo,A3 (show i+1<=9223372036854775807 by omega)]
end
def T3 (l:V):List V:=[.int .i64 (AA 8),.int .i64 (AA 0),.nils,l,.int .i64 (AA 0),.nils]
def SF (ys:List Nat):List V:=ys.flatMap fun y=>Fa (AA y)
theorem YH (ys:List Nat) (y:Nat):SF (ys++[y])=SF ys++Fa (AA y):=by unfold SF;simp
theorem YG:∀ys:List Nat,(SF ys).length=ys.length*6
 | []=>rfl
 | y::ys=>by show (Fa (AA y)++SF ys).length=_;rw[AS,YG ys,AN];show 6+_=_;omega
theorem YF:∀(ys:List Nat) (k y:Nat),ys[k]? = some y->((SF ys).drop (k*6)).take 6=Fa (AA y)
 | [],k,y,h=>by simp at h
 | x::ys,0,y,h=>by simp at h;subst h;rfl
 | x::ys,k+1,y,h=>by
  have h:ys[k]? = some y:=by simpa using h
  show ((Fa (AA x)++SF ys).drop ((k+1)*6)).take 6=_
  rw[show (k+1)*6=6+k*6 by omega,<-CJ,show (Fa (AA x)++SF ys).drop 6=SF ys from rfl]
  exact YF ys k y h
theorem gY {U:H} {ys:List Nat} {l:V} (h:DM U 6 ys.length l (SF ys)):IA U 6 ys.length l fun k=>(gV ys k).c:=by
 have cel:∀k,k<ys.length->Cel (SF ys) 6 k (gV ys k).c:=fun k hk=>by
  have hlen:=YG ys
  have e:ys[k]? = some ys[k]:=AM hk
  refine⟨by omega,?_⟩
  rw[YF ys k _ e]
  unfold gV
  rw[Yx e];rfl
 rcases h with (⟨h0,hv,_⟩|⟨b,hv,ha,_,_⟩)|⟨b,hv,ha,_⟩
 ·exact⟨.inl ⟨h0,hv⟩⟩
 ·exact⟨.inr ⟨b,_,_,hv,ha,cel⟩⟩
 ·exact⟨.inr ⟨b,_,_,hv,ha,cel⟩⟩
section
variable {E:EB} {D:Ai} {N:Nat}
theorem rE {U:H} {q r i k x:Nat} {v l v13 v14 v15 v16:V} {xs ys:List Nat} (ht:Ar U) (ha:CQ U q (T3 l)) (hd:DM U 6 ys.length l (SF ys)) (hv:DM U 1 xs.length v (HX xs)) (hx:xs[i]? = some x) (hk:ys.length<=100) (hkl:k<xs.length) (hil:i<xs.length) (hfew:xs.length<=10) (nl:¬AJ l q) (lv:∀b,AJ l b->¬AJ v b) :
    ∃e' u U',AT E D ep V9 [(7,v),(10,.int .i64 (AA k)),(13,v13),(14,v14),(15,v15),(16,v16),(17,.ptr q 0),(18,.ptr r 0),(19,.int .i64 (AA i))] U=some (e',U')/\(Go.Og.look e' 7=some (v)/\Go.Og.look e' 10=some (.int .i64 (AA k))/\Go.Og.look e' 13=some (v13)/\Go.Og.look e' 14=some (v14)/\Go.Og.look e' 15=some (v15)/\Go.Og.look e' 16=some (v16)/\Go.Og.look e' 17=some (.ptr q 0)/\Go.Og.look e' 18=some (.ptr r 0)/\Go.Og.look e' 19=some (.int .i64 (AA i))) /\
      CQ U' q (T3 u)/\DM U' 6 (ys.length+1) u (SF (ys++[x]))/\(∀b,AJ u b->AJ l b\/U.next<=b)/\¬AJ u q/\Fr (fun b=>b=q\/AJ l b) U U':=by
  have fw:Fr AL U ⟨U.next+11,U.bl⟩:=(CO (E:=E) (n:=11) (S:=AL) ht).fr
  have lb:=ha.lt ht
  obtain⟨vc,hvc⟩:∃vc,vc=Fa (AA x):=⟨_,rfl⟩
  obtain⟨Ua,ha'⟩:∃Ua,Ua=(⟨U.next+11,(U.next+7,.cells vc)::U.bl⟩:H):=⟨_,rfl⟩
  have fa:Fr AL U Ua:=by
    rw[ha']
    refine⟨fun b hb=>?_,GF _ _,fun b hb hn=>?_⟩
    · have hb:U.next+11<=b:=hb
      show BU ((U.next+7,_)::U.bl) b=none
      rw[Au,if_neg (by simp only[];omega)]
      exact ht b (by omega)
    · show BU ((U.next+7,_)::U.bl) b=_
      rw[Au,if_neg (by simp only[];omega)]
  have aa:CQ Ua (U.next+7) vc:=by
    rw[ha']
    show BU ((U.next+7,_)::U.bl) _=_
    rw[Au,if_pos rfl]
  have xs6:DL Ua 6 1 (V.sl (U.next+7) 0 1 (.ex 1)) vc:=by
    rw[hvc]at aa ⊢
    exact .inr ⟨_,_,_,_,rfl,aa,AK _,rfl⟩
  have ho:An vc=true:=by rw[hvc];rfl
  obtain⟨u,U2,g2,d2,m2,f2⟩:=Du (E:=E) (bytes:=96) (hd.fr fa ht (fun _ _ h=>h)) fa.tidy xs6 ho (by unfold Bw;simp only[AG,Ac];omega)
  have na:Ua.next=U.next+11:=by rw[ha']
  have vl:∀b,AJ l b->b<U.next:=fun b hb=>hd.lt ht hb
  have a2:CQ U2 q (T3 l):=f2.at_ (fa.at_ ha ht (fun h=>h)) fa.tidy nl
  obtain⟨o1,o2⟩:=D7 d2.one
  have st:∃U3,Dx E D (.store 1 (.tmp 143) (.tmp 142)) [(143,.ptr q 3),(142,u)] U2=some (.dead,U3)/\Fr (fun k=>k=q) U2 U3/\CQ U3 q (T3 u):=by
    obtain⟨U3,q1,q2,q3⟩:=Jl (E:=E) (D:=D) (n:=1) (x := .tmp 143) (y := .tmp 142) (e:=[(143,.ptr q 3),(142,u)]) f2.tidy a2 rfl (show (CP [(143,.ptr q 3),(142,u)] (.tmp 142)).cells=[u] from o2) (by
      simp only[BC,BP,d2.one,A8,AN,BQ,BA,F9,Co,Ac,T3];omega)
    exact⟨U3,q1,q2,q3⟩
  obtain⟨U3,g3,f3,c3⟩:=st
  have un:¬AJ u q:=fun h=>(m2 q h).elim nl fun h=>by omega
  have vb:V.beq l l=true:=QZ hd
  have vo:=hv.one
  obtain⟨b,c,hvb,hab⟩:∃b c,v = .sl b 0 xs.length c/\CQ U b (HX xs):=by
    rcases hv with (⟨h0,_,_⟩|⟨b,hv,ha,_,_⟩)|⟨b,hv,ha,_⟩
    · omega
    · exact⟨b,_,hv,ha⟩
    · exact⟨b,_,hv,ha⟩
  have nb:¬AJ l b:=fun h=>lv b h (by rw[hvb];rfl)
  have hg:(HX xs)[0+i*1]? = some (.int .i64 (AA x)):=by
    rw[BA,B8];unfold HX;rw[Aw,hx];rfl
  have go:Ew (JQ E U 11 V9 _ U3) E D U 11 0 ep V9 ⟨[(7,v),(10,.int .i64 (AA k)),(13,v13),(14,v14),(15,v15),(16,v16),(17,.ptr q 0),(18,.ptr r 0),(19,.int .i64 (AA i))],U.next+11,[U.bl],[],0,[]⟩:=
    B5 (.ptr q 3) rfl rfl <|
    G8 l (CO (S:=AJ l) ht) rfl (DC (b:=q) (off:=3) rfl ha rfl ht nl vb) fun r1=>
    B5 v rfl (Fw rfl (Cp vo)) <|
    B5 (.int .i64 (AA i)) rfl rfl <|
    B5 (.ptr b (0+i*1)) rfl (Fx hvb rfl hil) <|
    G8 (.int .i64 (AA x)) r1 rfl (DC (b:=b) (off:=0+i*1) rfl hab hg ht nb (B0 _ rfl)) fun r2=>
    B5 (.agg (Fa (AA x))) rfl rfl <|
    Qv (.sl (U.next+7) 0 1 (.ex 1)) (.cells vc) 128 r2 rfl (by decide) (by decide) (by rw[hvc];rfl) fun _ r3=>
    MC u (by rw[<-ha']at r3;exact r3) rfl (by decide) (S':=AJ l) f2 (fun _ _ h=>h) (fun b h h1 _=>by have:=vl b h;omega) (H7 rfl rfl g2) fun _ _ r4=>
    B5 (.ptr q 3) rfl rfl <|
    MD .dead r4 rfl (by decide) f3 (fun b h h1 _=>by omega) g3 (fun x hx=>by
      simp only[Ax,E5,or_false]at hx
      rcases hx with rfl|rfl
      · show FA V9 5 [10,8] []=false
        decide
      · show FA V9 1 [10,8] []=false
        decide)
  have d:=Gt (ops:=ep) go
  rw[hvc]at d2
  refine⟨_,u,U3,d,⟨rfl,rfl,rfl,rfl,rfl,rfl,rfl,rfl,rfl⟩,c3,by rw[YH];exact d2.fr f3 f2.tidy (fun b hb e=>un (e ▸ hb)),fun b hb=>(m2 b hb).imp id (fun h=>by omega),un,?_⟩
  exact((fa.mono (fun _ _ h=>h.elim):Fr (fun b=>b=q\/AJ l b) U Ua).trans f2 (fun b _ h => .inr h)).trans f3 (fun b _ h => .inl h)
theorem qz {U:H} {q r i k x:Nat} {v l v13 v14 v15 v16:V} {xs ys:List Nat} (ht:Ar U) (ha:CQ U r (T3 l)) (hd:DM U 6 ys.length l (SF ys)) (hv:DM U 1 xs.length v (HX xs)) (hx:xs[(i+k) % xs.length]? = some x) (hk:ys.length<=100) (hkl:k<xs.length) (hil:i<xs.length) (hfew:xs.length<=10) (nl:¬AJ l r) (lv:∀b,AJ l b->¬AJ v b) :
    ∃e' u U',AT E D eo V8 [(7,v),(10,.int .i64 (AA k)),(13,v13),(14,v14),(15,v15),(16,v16),(17,.ptr q 0),(18,.ptr r 0),(19,.int .i64 (AA i))] U=some (e',U')/\(Go.Og.look e' 7=some (v)/\Go.Og.look e' 10=some (.int .i64 (AA k))/\Go.Og.look e' 13=some (v13)/\Go.Og.look e' 14=some (v14)/\Go.Og.look e' 15=some (v15)/\Go.Og.look e' 16=some (v16)/\Go.Og.look e' 17=some (.ptr q 0)/\Go.Og.look e' 18=some (.ptr r 0)/\Go.Og.look e' 19=some (.int .i64 (AA i))) /\
      CQ U' r (T3 u)/\DM U' 6 (ys.length+1) u (SF (ys++[x]))/\(∀b,AJ u b->AJ l b\/U.next<=b)/\¬AJ u r/\Fr (fun b=>b=r\/AJ l b) U U':=by
  have fw:Fr AL U ⟨U.next+16,U.bl⟩:=(CO (E:=E) (n:=16) (S:=AL) ht).fr
  have lb:=ha.lt ht
  obtain⟨vc,hvc⟩:∃vc,vc=Fa (AA x):=⟨_,rfl⟩
  obtain⟨Ua,ha'⟩:∃Ua,Ua=(⟨U.next+16,(U.next+12,.cells vc)::U.bl⟩:H):=⟨_,rfl⟩
  have fa:Fr AL U Ua:=by
    rw[ha']
    refine⟨fun b hb=>?_,GF _ _,fun b hb hn=>?_⟩
    · have hb:U.next+16<=b:=hb
      show BU ((U.next+12,_)::U.bl) b=none
      rw[Au,if_neg (by simp only[];omega)]
      exact ht b (by omega)
    · show BU ((U.next+12,_)::U.bl) b=_
      rw[Au,if_neg (by simp only[];omega)]
  have aa:CQ Ua (U.next+12) vc:=by
    rw[ha']
    show BU ((U.next+12,_)::U.bl) _=_
    rw[Au,if_pos rfl]
  have xs6:DL Ua 6 1 (V.sl (U.next+12) 0 1 (.ex 1)) vc:=by
    rw[hvc]at aa ⊢
    exact .inr ⟨_,_,_,_,rfl,aa,AK _,rfl⟩
  have ho:An vc=true:=by rw[hvc];rfl
  obtain⟨u,U2,g2,d2,m2,f2⟩:=Du (E:=E) (bytes:=96) (hd.fr fa ht (fun _ _ h=>h)) fa.tidy xs6 ho (by unfold Bw;simp only[AG,Ac];omega)
  have na:Ua.next=U.next+16:=by rw[ha']
  have vl:∀b,AJ l b->b<U.next:=fun b hb=>hd.lt ht hb
  have a2:CQ U2 r (T3 l):=f2.at_ (fa.at_ ha ht (fun h=>h)) fa.tidy nl
  obtain⟨o1,o2⟩:=D7 d2.one
  have st:∃U3,Dx E D (.store 1 (.tmp 158) (.tmp 157)) [(158,.ptr r 3),(157,u)] U2=some (.dead,U3)/\Fr (fun k=>k=r) U2 U3/\CQ U3 r (T3 u):=by
    obtain⟨U3,q1,q2,q3⟩:=Jl (E:=E) (D:=D) (n:=1) (x := .tmp 158) (y := .tmp 157) (e:=[(158,.ptr r 3),(157,u)]) f2.tidy a2 rfl (show (CP [(158,.ptr r 3),(157,u)] (.tmp 157)).cells=[u] from o2) (by
      simp only[BC,BP,d2.one,A8,AN,BQ,BA,F9,Co,Ac,T3];omega)
    exact⟨U3,q1,q2,q3⟩
  obtain⟨U3,g3,f3,c3⟩:=st
  have un:¬AJ u r:=fun h=>(m2 r h).elim nl fun h=>by omega
  have vb:V.beq l l=true:=QZ hd
  have vo:=hv.one
  obtain⟨b,c,hvb,hab⟩:∃b c,v = .sl b 0 xs.length c/\CQ U b (HX xs):=by
    rcases hv with (⟨h0,_,_⟩|⟨b,hv,ha,_,_⟩)|⟨b,hv,ha,_⟩
    · omega
    · exact⟨b,_,hv,ha⟩
    · exact⟨b,_,hv,ha⟩
  have nb:¬AJ l b:=fun h=>lv b h (by rw[hvb];rfl)
  have hg:(HX xs)[0+(i+k) % xs.length*1]? = some (.int .i64 (AA x)):=by
    rw[BA,B8];unfold HX;rw[Aw,hx];rfl
  have hmod:=QI (i+k) (show 0<xs.length by omega)
  have ea:Ba .i64 (AA i) (AA k)=AA (i+k):=A3 (by omega)
  have h149:BV (.bin .add .none (.tmp 147) (.tmp 148)) [(147,.int .i64 (AA i)),(148,.int .i64 (AA k))]=some (.int .i64 (AA (i+k))):=congrArg (fun z=>some (V.int .i64 z)) ((OJ .i64 (AA i) (AA k)).symm.trans ea)
  have h151:BV (.len false (.tmp 150)) [(150,v)]=some (.int .i64 (AA xs.length)):=by rw[hvb];rfl
  obtain⟨m,hm⟩:∃m,xs.length=m+1:=⟨xs.length-1,by omega⟩
  have h152:BV (.bin .rem .none (.tmp 149) (.tmp 151)) [(149,.int .i64 (AA (i+k))),(151,.int .i64 (AA xs.length))]=some (.int .i64 (AA ((i+k) % xs.length))):=by rw[hm];rfl
  have go:Ew (JQ E U 16 V8 _ U3) E D U 16 0 eo V8 ⟨[(7,v),(10,.int .i64 (AA k)),(13,v13),(14,v14),(15,v15),(16,v16),(17,.ptr q 0),(18,.ptr r 0),(19,.int .i64 (AA i))],U.next+16,[U.bl],[],0,[]⟩:=
    B5 (.ptr r 3) rfl rfl <|
    G8 l (CO (S:=AJ l) ht) rfl (DC (b:=r) (off:=3) rfl ha rfl ht nl vb) fun r1=>
    B5 v rfl (Fw rfl (Cp vo)) <|
    B5 (.int .i64 (AA i)) rfl rfl <|
    B5 (.int .i64 (AA k)) rfl rfl <|
    B5 (.int .i64 (AA (i+k))) rfl h149 <|
    B5 v rfl (Fw rfl (Cp vo)) <|
    B5 (.int .i64 (AA xs.length)) rfl h151 <|
    B5 (.int .i64 (AA ((i+k) % xs.length))) rfl h152 <|
    B5 (.ptr b (0+(i+k) % xs.length*1)) rfl (Fx hvb rfl hmod) <|
    G8 (.int .i64 (AA x)) r1 rfl (DC (b:=b) (off:=0+(i+k) % xs.length*1) rfl hab hg ht nb (B0 _ rfl)) fun r2=>
    B5 (.agg (Fa (AA x))) rfl rfl <|
    Qv (.sl (U.next+12) 0 1 (.ex 1)) (.cells vc) 4096 r2 rfl (by decide) (by decide) (by rw[hvc];rfl) fun _ r3=>
    MC u (by rw[<-ha']at r3;exact r3) rfl (by decide) (S':=AJ l) f2 (fun _ _ h=>h) (fun b h h1 _=>by have:=vl b h;omega) (H7 rfl rfl g2) fun _ _ r4=>
    B5 (.ptr r 3) rfl rfl <|
    MD .dead r4 rfl (by decide) f3 (fun b h h1 _=>by omega) g3 (fun x hx=>by
      simp only[Ax,E5,or_false]at hx
      rcases hx with rfl|rfl
      · show FA V8 10 [15,13] []=false
        decide
      · show FA V8 1 [15,13] []=false
        decide)
  have d:=Gt (ops:=eo) go
  rw[hvc]at d2
  refine⟨_,u,U3,d,⟨rfl,rfl,rfl,rfl,rfl,rfl,rfl,rfl,rfl⟩,c3,by rw[YH];exact d2.fr f3 f2.tidy (fun b hb e=>un (e ▸ hb)),fun b hb=>(m2 b hb).imp id (fun h=>by omega),un,?_⟩
  exact((fa.mono (fun _ _ h=>h.elim):Fr (fun b=>b=r\/AJ l b) U Ua).trans f2 (fun b _ h => .inr h)).trans f3 (fun b _ h => .inl h)
theorem qw {U0:H} {q r t1 t2 k:Nat} {c1 c2:Bool} {v:V} {xs:List Nat} (ht0:Ar U0) (hv0:DM U0 1 xs.length v (HX xs)) (hk:k<xs.length) (hl:xs.length<=10) (qr:q≠r) (q0:q<U0.next) (r0:r<U0.next) (vq:¬AJ v q) (vr:¬AJ v r):∀(m i n':Nat) (l1 l2:V) (U:H),i+m=xs.length->m<n'->Fr (fun b=>b=q\/b=r) U0 U->CQ U q (T3 l1)->CQ U r (T3 l2)->DM U 6 i l1 (SF (xs.take i))->DM U 6 i l2 (SF ((Ec k xs).take i))->(∀b,AJ l1 b->U0.next<=b/\¬AJ l2 b)->(∀b,AJ l2 b->U0.next<=b) ->
    ∃l1' l2' U',sa E D (AT E D) N n' v (AA k) t1 0 c1 t2 0 c2 q 0 r 0 (AA i) U=AGr E D (AT E D) N t1 0 c1 t2 0 c2 q 0 r 0 U'/\CQ U' q (T3 l1')/\CQ U' r (T3 l2')/\DM U' 6 xs.length l1' (SF xs)/\DM U' 6 xs.length l2' (SF (Ec k xs))/\Fr (fun b=>b=q\/b=r) U0 U':=by
  have hrl:=SO k xs
  intro m
  induction m with
  | zero=>
    intro i n' l1 l2 U hi hn' f a1 a2 d1 d2 n1 n2
    obtain⟨n',rfl⟩:∃q,n'=q+1:=⟨n'-1,by omega⟩
    have hi:i=xs.length:=by omega
    subst hi
    rw[EN]at d1
    rw[<-hrl,EN,hrl]at d2
    have hv:=hv0.fr f ht0 (fun b hb e=>e.elim (fun e=>vq (e ▸ hb)) (fun e=>vr (e ▸ hb)))
    refine⟨l1,l2,U,?_,a1,a2,d1,d2,f⟩
    have sl:∀J:Nat->AF,A0 v J=J xs.length:=fun J=>hv.slen
    have dd:decide (xs.length<xs.length)=false:=decide_eq_false (C7 _)
    have key:∀K7 R8,kQ E D (AT E D) K7 R8 v (AA k) t1 0 c1 t2 0 c2 q 0 r 0 (AA xs.length) U=K7 t1 0 c1 t2 0 c2 q 0 r 0 U:=by
      intro K7 R8
      unfold kQ
      simp -implicitDefEqProofs only [↓rP,rA,AB,AE,AD,↓sl,dd]
    exact key _ _
  | succ m ih=>
    intro i n' l1 l2 U hi hn' f a1 a2 d1 d2 n1 n2
    obtain⟨n',rfl⟩:∃q,n'=q+1:=⟨n'-1,by omega⟩
    have hlt:i<xs.length:=by omega
    obtain⟨x,hx⟩:∃x,xs[i]? = some x:=⟨xs[i],AM hlt⟩
    obtain⟨y,hy⟩:∃y,(Ec k xs)[i]? = some y:=⟨(Ec k xs)[i],AM (by omega)⟩
    have hym:=hy
    rw[YU hk hlt]at hym
    have hv:=hv0.fr f ht0 (fun b hb e=>e.elim (fun e=>vq (e ▸ hb)) (fun e=>vr (e ▸ hb)))
    have vl:∀b,AJ v b->b<U0.next:=fun b hb=>hv0.lt ht0 hb
    have le:=f.le
    have e1:(xs.take i).length=i:=by rw[BY];omega
    have e2:((Ec k xs).take i).length=i:=by rw[BY];omega
    obtain⟨e',u1,U1,g1,⟨t7,t10,t13,t14,t15,t16,t17,t18,t19⟩,b1,D1,m1,w1,F1⟩:=rE (E:=E) (D:=D) (q:=q) (r:=r) (k:=k) (v13 := .ptr t1 0) (v14 := .bool c1) (v15 := .ptr t2 0) (v16 := .bool c2) (ys:=xs.take i) f.tidy a1 (by rw[e1];exact d1) hv hx (by omega) hk hlt hl (fun e=>by have:=(n1 q e).1;omega) (fun b hb e=>by have:=(n1 b hb).1;have:=vl b e;omega)
    rw[e1]at D1
    have le1:=F1.le
    have hv1:=hv.fr F1 f.tidy (fun b hb e=>e.elim (fun e=>vq (e ▸ hb)) (fun e=>by have:=(n1 b e).1;have:=vl b hb;omega))
    have a2':=F1.at_ a2 f.tidy (fun e=>e.elim (fun e=>qr e.symm) (fun e=>by have:=(n1 r e).1;omega))
    have d2':=d2.fr F1 f.tidy (fun b hb e=>e.elim (fun e=>by have:=n2 b hb;omega) (fun e=>(n1 b e).2 hb))
    obtain⟨e'',u2,U2,g2,⟨s7,s10,s13,s14,s15,s16,s17,s18,s19⟩,b2,D2,m2,w2,F2⟩:=qz (E:=E) (D:=D) (q:=q) (r:=r) (k:=k) (v13 := .ptr t1 0) (v14 := .bool c1) (v15 := .ptr t2 0) (v16 := .bool c2) (ys:=(Ec k xs).take i) F1.tidy a2' (by rw[e2];exact d2') hv1 hym (by omega) hk hlt hl (fun e=>by have:=n2 r e;omega) (fun b hb e=>by have:=n2 b hb;have:=vl b e;omega)
    rw[e2]at D2
    have u1l:∀b,AJ u1 b->b<U1.next:=fun b hb=>D1.lt F1.tidy hb
    have u1n:∀b,AJ u1 b->U0.next<=b:=fun b hb=>(m1 b hb).elim (fun e=>(n1 b e).1) (fun e=>by omega)
    have l2l:∀b,AJ l2 b->b<U.next:=fun b hb=>d2.lt f.tidy hb
    have u1x:∀b,AJ u1 b->¬AJ l2 b:=fun b hb e=>(m1 b hb).elim (fun e1=>(n1 b e1).2 e) (fun e1=>by have:=l2l b e;omega)
    have b1':=F2.at_ b1 F1.tidy (fun e=>e.elim qr (fun e=>by have:=n2 q e;omega))
    have D1':=D1.fr F2 F1.tidy (fun b hb e=>e.elim (fun e=>by have:=u1n b hb;omega) (fun e=>u1x b hb e))
    obtain⟨l1',l2',U',g',h'⟩:=ih (i+1) n' u1 u2 U2 (by omega) (by omega) ((f.trans F1 (fun b hb e=>e.elim .inl (fun e=>by have:=(n1 b e).1;omega))).trans F2 (fun b hb e=>e.elim .inr (fun e=>by have:=n2 b e;omega))) b1' b2 (by
      rw[FW,hx];exact D1') (by rw[FW,hy];exact D2) (fun b hb=>⟨u1n b hb,fun e=>(m2 b e).elim (u1x b hb) (fun e=>by have:=u1l b hb;omega)⟩) (fun b hb=>(m2 b hb).elim (n2 b) (fun e=>by omega))
    refine⟨l1',l2',U',?_,h'⟩
    have sl:∀J:Nat->AF,A0 v J=J xs.length:=fun J=>hv.slen
    have dd:decide (i<xs.length)=true:=decide_eq_true hlt
    have vlv:=Cp hv.one
    have gd:∀J:B6->H->AF,Cc (AT E D ep V9 [(7,v),(10,.int .i64 (AA k)),(13,.ptr t1 0),(14,.bool c1),(15,.ptr t2 0),(16,.bool c2),(17,.ptr q 0),(18,.ptr r 0),(19,.int .i64 (AA i))] U) J=J e' U1:=fun J=>by rw[g1];rfl
    have ge:∀J:B6->H->AF,Cc (AT E D eo V8 [(7,v),(10,.int .i64 (AA k)),(13,.ptr t1 0),(14,.bool c1),(15,.ptr t2 0),(16,.bool c2),(17,.ptr q 0),(18,.ptr r 0),(19,.int .i64 (AA i))] U1) J=J e'' U2:=fun J=>by rw[g2];rfl
    have y7:∀J:V->AF,BL e' 7 J=J (v):=fun J=>BH t7 vlv
    have T5:∀J:V->AF,BL e' 10 J=J (.int .i64 (AA k)):=fun J=>BH t10 rfl
    have Me:∀J:V->AF,BL e' 13 J=J (.ptr t1 0):=fun J=>BH t13 rfl
    have Ji:∀J:V->AF,BL e' 14 J=J (.bool c1):=fun J=>BH t14 rfl
    have YB:∀J:V->AF,BL e' 15 J=J (.ptr t2 0):=fun J=>BH t15 rfl
    have WY:∀J:V->AF,BL e' 16 J=J (.bool c2):=fun J=>BH t16 rfl
    have HM:∀J:V->AF,BL e' 17 J=J (.ptr q 0):=fun J=>BH t17 rfl
    have fS:∀J:V->AF,BL e' 18 J=J (.ptr r 0):=fun J=>BH t18 rfl
    have Jh:∀J:V->AF,BL e' 19 J=J (.int .i64 (AA i)):=fun J=>BH t19 rfl
    have z7:∀J:V->AF,BL e'' 7 J=J (v):=fun J=>BH s7 vlv
    have z10:∀J:V->AF,BL e'' 10 J=J (.int .i64 (AA k)):=fun J=>BH s10 rfl
    have z13:∀J:V->AF,BL e'' 13 J=J (.ptr t1 0):=fun J=>BH s13 rfl
    have z14:∀J:V->AF,BL e'' 14 J=J (.bool c1):=fun J=>BH s14 rfl
    have z15:∀J:V->AF,BL e'' 15 J=J (.ptr t2 0):=fun J=>BH s15 rfl
    have z16:∀J:V->AF,BL e'' 16 J=J (.bool c2):=fun J=>BH s16 rfl
    have z17:∀J:V->AF,BL e'' 17 J=J (.ptr q 0):=fun J=>BH s17 rfl
    have z18:∀J:V->AF,BL e'' 18 J=J (.ptr r 0):=fun J=>BH s18 rfl
    have z19:∀J:V->AF,BL e'' 19 J=J (.int .i64 (AA i)):=fun J=>BH s19 rfl
    have key:∀K7 R8,kQ E D (AT E D) K7 R8 v (AA k) t1 0 c1 t2 0 c2 q 0 r 0 (AA i) U=R8 v (AA k) t1 0 c1 t2 0 c2 q 0 r 0 (AA (i+1)) U2:=by
      intro K7 R8
      unfold kQ
      simp -implicitDefEqProofs only [↓rP,rA,AB,AE,AD,↓sl,dd,↓gd,↓ge,↓y7,↓T5,↓Me,↓Ji,↓YB,↓WY,↓HM,↓fS,↓Jh,↓z7,↓z10,↓z13,↓z14,↓z15,↓z16,↓z17,↓z18,↓z19,A3 (show i+1<=9223372036854775807 by omega)]
    exact(key _ _).trans g'
end
theorem Qe:∀(a b:List Nat),a.Pairwise (fun x y=>x<=y)->b.Pairwise (fun x y=>x<=y)->a.Perm b->a=b
 | [],b,_,_,p=>(List.nil_perm.1 p).symm
 | x::a,[],_,_,p=>by have:=p.length_eq;simp at this
 | x::a,y::b,ha,hb,p=>by
  have h1:x∈y::b:=p.mem_iff.1 Ab
  have h2:y∈x::a:=p.mem_iff.2 Ab
  rw[ABa]at ha hb
  have e:x=y:=by
   rcases Ax.1 h1 with h1|h1
   ·exact h1
   ·rcases Ax.1 h2 with h2|h2
    ·exact h2.symm
    ·exact Nat.le_antisymm (ha.1 y h2) (hb.1 x h1)
  subst e
  rw[Qe a b ha.2 hb.2 ((List.perm_cons x).1 p)]
def MX (F:List V->H->AF):Prop:=∀{U:H} {x y:V} {l:List Int},By U x l->By U y l->F [x,y] U=some (.bool true,U)
theorem tT {N:Nat} {F:List V->H->AF} (hTb:J8 (fun m=>GV m 2) N F) (hN:100<=N) {U:H} {n:Nat} {l:List Nat} (ht:Ar U) (h50:∀x∈n::l,x<50) (hnd:(n::l).Nodup) (h9:l.length<=9) :
  ∃u rv lv U',F [.str (BB (IH n l))] U=some (.tup [.agg [.str (BB [77]),u,rv,lv],.bool true],U')/\QN U.next U' [[83]] [0] (My n l) u rv lv/\Fr AL U U':=by
 obtain⟨N',hN'⟩:∃k,N=k+10:=⟨N-10,by omega⟩
 obtain⟨p1,p2⟩:=OK (n::l) h50
 have hp0:∀c∈PC,c<256:=by decide
 have hp1:∀c∈Wx,c<256:=by decide
 have hall:∀c∈IH n l,c<256:=by rw[<-KY];exact F0 (F0 hp0 p1) hp1
 have l0:PC.length=50:=rfl
 have l1:Wx.length=6:=rfl
 have hlen:(BB (IH n l)).len<=3000:=by
  rw[FT,<-KY,AS,AS,l0,l1]
  simp only[AN]at p2
  omega
 obtain⟨q0,q1,q2,q3,q4,q5,q6,q7,q8,q9,a1,a2,a3,a4,a5,ts,tk,fd⟩:=qy N' (BB (IH n l)).len n l (h50 n Ab) (fun x hx=>h50 x (BM _ hx))
 have md:=yE (q0:=q0) (q1:=q1) (q2:=q2) (q3:=q3) (q4:=q4) (q5:=q5) (q6:=q6) (q7:=q7) (q8:=q8) (q9:=q9) (p1:=a1) (p2:=a2) (p3:=a3) (p4:=a4) (p5:=a5) (h50 n Ab) (fun x hx=>h50 x (BM _ hx)) (by omega) fd
 obtain⟨u,rv,lv,U',g,s,f⟩:=hTb U (BB (IH n l)) _ _ _ _ ht hlen (by rw[Gl hall,hN'];exact tk) md (AD8 n l (by omega)) (jC h50 hnd (by omega))
 refine⟨u,rv,lv,U',?_,s,f⟩
 rw[g]
 have d:decide ((My n l).length<=120)=true:=decide_eq_true (by unfold My;simp only[AN,CD];omega)
 rw[d];rfl
theorem QN.up {n0:Nat} {U U':H} {az:List (List Nat)} {rs:List Nat} {tl:List Dr} {u rv lv:V} (h:QN n0 U az rs tl u rv lv) (f:Fr (fun b=>U.next<=b) U U') (ht:Ar U):QN n0 U' az rs tl u rv lv:=h.fr f ht (fun b _ h1 h2=>by omega)
section
variable {E:EB} {D:Ai} {W:AH} {N:Nat}
theorem jZ:MX (F11 E D W N):=by
 intro U x y l hx hy
 show lD E D W x y U=_
 unfold lD
 rw[hx.str,hy.str,BS.beq_nats,decide_eq_true rfl]
 all_goals rfl
theorem yF (hTb:J8 (fun m=>GV m 2) N (D 7)) (hE:TJ (D 10)) (hA:Zp (D 5)) (hB:MX (D 11)) (hN:100<=N) {xs:List Nat} {k:Nat} {v:V} {U:H} (ht:Ar U) (hv:DM U 1 xs.length v (HX xs)) (h50:∀x∈xs,x<50) (hnd:xs.Nodup) (hk:k<xs.length) (hl:xs.length<=10) :
  ∃U',mq E D (AT E D) N (BB (DU xs)) (BB (DU (Ec k xs))) v (AA k) U=some (.bool true,U'):=by
 obtain⟨n,l,hxs⟩:∃n l,xs=n::l:=by
  cases xs with
  | nil=>simp at hk
  | cons n l=>exact⟨n,l,rfl⟩
 have hrl:=SO k xs
 have hrp:=UN k xs
 obtain⟨n',l',hys⟩:∃n' l',Ec k xs=n'::l':=by
  cases h:Ec k xs with
  | nil=>rw[h]at hrl;simp at hrl;omega
  | cons n l=>exact⟨n,l,rfl⟩
 have r50:∀x∈Ec k xs,x<50:=fun x hx=>h50 x (hrp.mem_iff.1 hx)
 have rnd:(Ec k xs).Nodup:=hrp.nodup_iff.2 hnd
 have l9:l.length<=9:=by rw[hxs]at hl;simp only[AN]at hl;omega
 have l9':l'.length<=9:=by rw[hys]at hrl;simp only[AN]at hrl;omega
 obtain⟨p1,p2⟩:=OK xs h50
 obtain⟨p3,p4⟩:=OK (Ec k xs) r50
 have hp0:∀c∈PC,c<256:=by decide
 have hp1:∀c∈Wx,c<256:=by decide
 have l0:PC.length=50:=rfl
 have l1:Wx.length=6:=rfl
 have q1:∀J:BS->AF,GC (BS.mk 50 327632657439666379000588799368074089870184164557754827699467780837579140917348969856314753296955196148228008736788324429) (BB (DU xs)) J=J (BB (PC++DU xs)):=fun J=>by rw[bP0];exact E1 hp0 p1 (by omega) J
 have q2:∀J:BS->AF,GC (BB (PC++DU xs)) (BS.mk 6 75102957894944) J=J (BB (IH n l)):=fun J=>by
  rw[bP1,<-KY,<-hxs]
  exact E1 (F0 hp0 p1) hp1 (by rw[AS];omega) J
 have q3:∀J:BS->AF,GC (BS.mk 50 327632657439666379000588799368074089870184164557754827699467780837579140917348969856314753296955196148228008736788324429) (BB (DU (Ec k xs))) J=J (BB (PC++DU (Ec k xs))):=fun J=>by rw[bP0];exact E1 hp0 p3 (by omega) J
 have q4:∀J:BS->AF,GC (BB (PC++DU (Ec k xs))) (BS.mk 6 75102957894944) J=J (BB (IH n' l')):=fun J=>by
  rw[bP1,<-KY,<-hys]
  exact E1 (F0 hp0 p3) hp1 (by rw[AS];omega) J
 obtain⟨u1,rv1,lv1,U1,g1,s1,f1⟩:=tT hTb hN (n:=n) (l:=l) ht (by rw[<-hxs];exact h50) (by rw[<-hxs];exact hnd) l9
 obtain⟨oa,ob,oc⟩:=s1.one4
 obtain⟨U2,e2,f2,a2,n2⟩:=Ca f1.tidy [.str ⟨0,0⟩,.nils,.nils,.nils]
 obtain⟨U3,e3,f3,a3⟩:=Mr f2.tidy a2 [.str (BB [77]),u1,rv1,lv1]
 have st3:∀J:H->AF,DX 4 U1.next 0 (.agg [.str (BB [77]),u1,rv1,lv1]) U2 J=J U3:=fun J=>by
  rw[ER a2 (by rw[Cl];simp only[BC,BP,Dg,oa,ob,oc,A8];rfl)]
  show J (GP U2 U1.next (.cells [.str (BB [77]),u1,rv1,lv1]))=_
  rw[e3]
 obtain⟨u2,rv2,lv2,U4,g4,s4,f4⟩:=tT hTb hN (n:=n') (l:=l') f3.tidy (by rw[<-hys];exact r50) (by rw[<-hys];exact rnd) l9'
 obtain⟨od,oe,og⟩:=s4.one4
 obtain⟨U5,e5,f5,a5,n5⟩:=Ca f4.tidy [.str ⟨0,0⟩,.nils,.nils,.nils]
 obtain⟨U6,e6,f6,a6⟩:=Mr f5.tidy a5 [.str (BB [77]),u2,rv2,lv2]
 have st6:∀J:H->AF,DX 4 U4.next 0 (.agg [.str (BB [77]),u2,rv2,lv2]) U5 J=J U6:=fun J=>by
  rw[ER a5 (by rw[Cl];simp only[BC,BP,Dg,od,oe,og,A8];rfl)]
  show J (GP U5 U4.next (.cells [.str (BB [77]),u2,rv2,lv2]))=_
  rw[e6]
 obtain⟨U7,e7,f7,a7,n7⟩:=Ca f6.tidy [.int .i64 (AA 0),.int .i64 (AA 0),.nils,.nils,.int .i64 (AA 0),.nils]
 obtain⟨U8,e8,f8,a8,n8⟩:=Ca f7.tidy [.int .i64 (AA 0),.int .i64 (AA 0),.nils,.nils,.int .i64 (AA 0),.nils]
 have a78:=f8.at_ a7 f7.tidy (fun h=>h)
 obtain⟨U9,g9,f9,a9⟩:=Wd (off:=0) (y := .int .i64 (AA 8)) f8.tidy a78 rfl (show 0<6 by decide)
 have a9:CQ U9 U6.next (T3 .nils):=a9
 have le1:=f1.le
 have le2:=f2.le
 have le3:=f3.le
 have le4:=f4.le
 have le5:=f5.le
 have le6:=f6.le
 have le7:=f7.le
 have le8:=f8.le
 have le9:=f9.le
 have a89:=f9.at_ a8 f8.tidy (by omega)
 obtain⟨U10,g10,f10,a10⟩:=Wd (off:=0) (y := .int .i64 (AA 8)) f9.tidy a89 rfl (show 0<6 by decide)
 have a10:CQ U10 U7.next (T3 .nils):=a10
 have le10:=f10.le
 have q10:CQ U10 U6.next (T3 .nils):=f10.at_ a9 f9.tidy (by omega)
 have u13:Fr (fun b=>U1.next<=b) U1 U3:=(f2.mono fun _ _ e=>e.elim:Fr (fun b=>U1.next<=b) U1 U2).trans f3 (fun b _ e=>by omega)
 have u14:=u13.trans f4 (fun _ _ e=>e.elim)
 have u46:Fr (fun b=>U4.next<=b) U4 U6:=(f5.mono fun _ _ e=>e.elim:Fr (fun b=>U4.next<=b) U4 U5).trans f6 (fun b _ e=>by omega)
 have u48:Fr (fun b=>U4.next<=b) U4 U8:=(u46.trans f7 (fun _ _ e=>e.elim)).trans f8 (fun _ _ e=>e.elim)
 have u4a:Fr (fun b=>U4.next<=b) U4 U10:=(u48.trans f9 (fun b _ e=>by omega)).trans f10 (fun b _ e=>by omega)
 have u1a:Fr (fun b=>U1.next<=b) U1 U10:=u14.trans u4a (fun b _ e=>by omega)
 have u0a:Fr AL U U10:=f1.trans u1a (fun b hb e=>by omega)
 have hva:=hv.fr u0a ht (fun _ _ h=>h)
 have vlt:∀b,AJ v b->b<U.next:=fun b hb=>hv.lt ht hb
 have lt7:U6.next<U7.next:=a7.lt f7.tidy
 have lt8:U7.next<U8.next:=a8.lt f8.tidy
 obtain⟨m1,m2,Ub,gb,ab1,ab2,db1,db2,fb⟩:=qw (E:=E) (D:=D) (N:=N) (q:=U6.next) (r:=U7.next) (t1:=U1.next) (t2:=U4.next) (c1:=true) (c2:=true) u0a.tidy hva hk hl (by omega) (by omega) (by omega) (fun e=>by have:=vlt _ e;omega) (fun e=>by have:=vlt _ e;omega) xs.length 0 N .nils .nils U10 (by omega) (by omega) (Fr.refl u0a.tidy) q10 a10 (by rw[IM];exact DM.nil _ _) (by rw[IM];exact DM.nil _ _) (fun b hb=>hb.elim) (fun b hb=>hb.elim)
 have v4b:Fr (fun b=>U4.next<=b) U4 Ub:=u4a.trans fb (fun b _ e=>by omega)
 have v1b:Fr (fun b=>U1.next<=b) U1 Ub:=u1a.trans fb (fun b _ e=>by omega)
 have s1b:=s1.up v1b f1.tidy
 have s4b:=s4.up v4b f4.tidy
 have t1b:CQ Ub U1.next [.str (BB [77]),u1,rv1,lv1]:=by
  have lt2:U1.next<U2.next:=a2.lt f2.tidy
  exact v4b.at_ (f4.at_ a3 f3.tidy (fun h=>h)) f4.tidy (by omega)
 have lt5:U4.next<U5.next:=a5.lt f5.tidy
 have u6a:Fr (fun b=>U6.next<=b) U6 Ub:=((((f7.mono fun _ _ e=>e.elim:Fr (fun b=>U6.next<=b) U6 U7).trans f8 (fun _ _ e=>e.elim)).trans f9 (fun b _ e=>by omega)).trans f10 (fun b _ e=>by omega)).trans fb (fun b _ e=>by omega)
 have t4b:CQ Ub U4.next [.str (BB [77]),u2,rv2,lv2]:=u6a.at_ a6 f6.tidy (by omega)
 have ho1:=db1.one
 have ho2:=db2.one
 rw[hxs]at db1
 rw[hys]at db2
 have hrl':xs.length=(n'::l').length:=by rw[<-hrl,hys]
 obtain⟨y1,ys1,Uc,gc,pc,sc,nc,fc⟩:=hE (nm:=BB [77]) (ho:=ho1) u6a.tidy s1b (by rw[<-hxs];exact h50) l9 (gY db1)
 obtain⟨y2,ys2,Ud,gd,pd,sd,nd,fd⟩:=hE (nm:=BB [77]) (ho:=ho2) fc.tidy (s4b.fr0 fc u6a.tidy) (by rw[<-hys];exact r50) l9' ((gY (by rw[hrl']at db2;exact db2)).fr0 fc u6a.tidy)
 obtain⟨Ue,ge,fe⟩:=hA Ud fd.tidy
 have eys:ys1=ys2:=by
  refine Qe _ _ sc sd (pc.trans ?_)
  rw[<-hxs]
  refine hrp.symm.trans ?_
  rw[hys]
  exact pd.symm
 subst eys
 have f_ce:Fr AL Uc Ue:=fd.trans fe (fun _ _ h=>h)
 have gB:=hB (nc.fr f_ce fc.tidy).by_ (nd.fr fe fd.tidy).by_
 have ab2c:=fc.at_ ab2 u6a.tidy (fun h=>h)
 have t4c:=fc.at_ t4b u6a.tidy (fun h=>h)
 refine⟨Ue,?_⟩
 have k3:∀K8,r9 E D (AT E D) K8 (BB (DU xs)) (BB (DU (Ec k xs))) v (AA k) U=K8 v (AA k) U1.next 0 true U4.next 0 true U6.next 0 U7.next 0 (AA 0) U10:=by
  intro K8
  unfold r9
  simp -implicitDefEqProofs only [↓rP,rA,AB,AE,AD,↓q1,↓q2,↓g1,↓e2,↓st3,↓q3,↓q4,↓g4,↓e5,↓st6,↓e7,↓e8,↓g9,↓g10]
 have k7:yU E D (AT E D) U1.next 0 true U4.next 0 true U6.next 0 U7.next 0 Ub=some (.bool true,Ue):=by
  unfold T3 at ab1 ab2c
  unfold Vc.c Vc.st at gc gd
  have o1:=nc.1.one
  have o2:=nd.1.one
  unfold yU
  have sub6:∀(a b c d e f:V) (J:List V->AF),EI [a,b,c,d,e,f] 0 6 J=J [a,b,c,d,e,f]:=fun _ _ _ _ _ _ _=>rfl
  have sub4:∀(a b c d:V) (J:List V->AF),EI [a,b,c,d] 0 4 J=J [a,b,c,d]:=fun _ _ _ _ _=>rfl
  simp -implicitDefEqProofs only [↓rP,rA,AB,AE,AD,↓BX t1b,↓sub4,↓BX ab1,↓sub6,↓gc,↓BX t4c,↓BX ab2c,↓gd,↓ge,↓gB]
 show r9 E D (AT E D) (sa E D (AT E D) N N) (BB (DU xs)) (BB (DU (Ec k xs))) v (AA k) U=_
 rw[k3,gb]
 exact k7
theorem jE (hDg:Gx 19 (D 6)) (hI:Pt (D 12)) (hTb:J8 (fun m=>GV m 2) N (D 7)) (hE:TJ (D 10)) (hA:Zp (D 5)) (hB:MX (D 11)) (hN:100<=N) {U:H} (ht:Ar U) (n50:BU U.bl 50=none) (lt50:100<=U.next) {v:V} {n:Nat} {f:Nat->Int} (hv:ArI E v n f) (t:Int) :
  ∃U',F4 E D (AT E D) N [v,.int .i64 t] U=some (.bool true,U'):=by
 have sl:=hv.len
 show ∃U',Vf E D (AT E D) (sg E D (AT E D) N N) v t U=some (.bool true,U')
 cases h0:decide (n=0)with
 | true=>
  obtain⟨U1,g1,f1⟩:=hA U ht
  refine⟨U1,?_⟩
  have key:∀K,Vf E D (AT E D) K v t U=some (.bool true,U1):=fun K=>by
   unfold Vf
   simp -implicitDefEqProofs only [↓rP,rA,AB,AE,AD,↓sl,h0,↓g1]
  exact key _
 | false=>
  cases h1:decide (10<n)with
  | true=>
   obtain⟨U1,g1,f1⟩:=hA U ht
   refine⟨U1,?_⟩
   have key:∀K,Vf E D (AT E D) K v t U=some (.bool true,U1):=fun K=>by
    unfold Vf
    simp -implicitDefEqProofs only [↓rP,rA,AB,AE,AD,↓sl,h0,h1,↓g1]
   exact key _
  | false=>
   have hn0:=of_decide_eq_false h0
   have hn10:=of_decide_eq_false h1
   have key:∀K,Vf E D (AT E D) K v t U=K v t (BS.mk 0 0) (BS.mk 0 0) .nils (AA 0) U:=fun K=>by
    unfold Vf
    simp -implicitDefEqProofs only [↓rP,rA,AB,AE,AD,↓sl,h0,h1]
   rw[key]
   refine rG (E:=E) (D:=D) (W:=AT E D) hI hA hv (by omega) ht n50 lt50 (K1:=tM E D (AT E D) N) (L:=sg E D (AT E D) N) (fun _ _ _ _ _ _ _ _=>rfl) (fun xs w U1 hx h50 hnd fr hd nw=>?_) n 0 N [] .nils U (by omega) (by omega) rfl (fun x h=>by simp at h) List.nodup_nil (Fr.refl ht) (DM.nil _ _) (fun b hb=>hb.elim)
   obtain⟨k,hk,ek⟩:=tY t n (by omega) (by omega)
   subst hx
   have wn:BE .u64 (AA xs.length)=AA xs.length:=BZ (show xs.length<=18446744073709551615 by omega)
   obtain⟨m,hm⟩:∃m,xs.length=m+1:=⟨xs.length-1,by omega⟩
   have nz:∀J:AF,tp (AA xs.length) J=J:=fun J=>by rw[hm];rfl
   obtain⟨U2,g2,f2⟩:=yD (E:=E) (D:=D) (N:=N) hDg h50 hk (by omega) xs.length 0 N U1 (by omega) (by omega) fr.tidy hd
   obtain⟨U3,g3⟩:=yF (E:=E) (D:=D) (N:=N) hTb hE hA hB hN f2.tidy (hd.fr f2 fr.tidy (fun _ _ h=>h)) h50 hnd hk (by omega)
   refine⟨U3,?_⟩
   have sl1:∀J:Nat->AF,A0 w J=J xs.length:=fun J=>hd.slen
   have k1:∀K4,sA E D (AT E D) K4 t (BS.mk 0 0) (BS.mk 0 0) w U1=K4 (BS.mk 0 0) (BS.mk 0 0) w (AA k) (AA 0) U1:=fun K4=>by
    unfold sA
    simp -implicitDefEqProofs only [↓rP,rA,AB,AE,AD,↓sl1,wn,↓nz,ek]
   show sA E D (AT E D) (se E D (AT E D) N N) t (BS.mk 0 0) (BS.mk 0 0) w U1=_
   rw[k1]
   have e0:BS.mk 0 0=BB (DU (xs.take 0)):=by rw[IM];decide +kernel
   have e1:BS.mk 0 0=BB (DU ((Ec k xs).take 0)):=by rw[IM];decide +kernel
   refine Eq.trans ?_ (g2.trans g3)
   rw[<-e0,<-e1]
end
theorem AKV {e:F8} {F:List V->H->AF} {args:List V} {U:H} {ρ:Nat->Nat} (hm:e.Fits ρ args U):∃ρ',e.Fits ρ' args U/\Ui [e] F args U=some (e.ans ρ' U):=by
 obtain⟨e',ρ',he,hf,hr⟩:=iO (F:=F) (l:=[e]) (Cn.2 rfl) hm
 have:=Cn.1 he
 subst this
 exact⟨ρ',hf,hr⟩
theorem Has.nil {ρ:Nat->Nat} {U:H}:Has [] ρ U:=fun id b h=>by cases h
theorem Inj.nil {ρ:Nat->Nat}:Inj [] ρ:=fun id id' h=>by cases h
variable {E:EB}
theorem pB (d:Nat):MV (TW E (d+1) 64):=by rw[ANU];exact ADD
theorem wW (d:Nat):RN (TW E (d+1) 65):=by rw[ANT];exact xA
theorem wZ (d:Nat):Pv (TW E (d+1) 68):=by rw[ANQ];exact xB
theorem AJn (d:Nat):Zg 600000 (TW E (d+2) 37):=by rw[ANn];exact ACt (pB d) (by decide)
theorem ACj (d:Nat):Vn (TW E (d+1) 43):=by rw[ANi];exact AD3 (by decide)
theorem wM (d:Nat):∀U:H,(TW E (d+1) 98) [] U=some (.sl U.next 0 25 (.ex 25),Br U (.cells (Mf.map .str))):=by rw[AND];exact gR
theorem ACO (d:Nat):S8 (TW E (d+2) 67):=by rw[ANR];exact pa (ACj d) (wM d)
theorem ACg (d:Nat):TA (TW E (d+2) 66):=by rw[ANS];exact ph (pB d) (wW d) (wZ d) (by decide)
theorem ACc (d:Nat):S9 (TW E (d+1) 72):=by rw[ANO];exact pg (by decide)
theorem AJy (d:Nat):XX (TW E (d+2) 69):=by rw[ANP];exact w8 (pB d) (wW d) (wZ d) (by decide)
theorem AJt (d:Nat):Zj (TW E (d+3) 38):=by rw[ANm];exact ADm (pB (d+1)) (wW (d+1)) (wZ (d+1)) (ACg d) (ACO d) (AJy d) (ACc (d+1))
theorem ACX (d:Nat):Zi 600000 (TW E (d+4) 19):=by rw[ANy];exact dA (AJn (d+1)) (AJt d) (by decide)
theorem Wa (d:Nat):Ks (TW E (d+1) 23):=by rw[ANu];exact ADp
theorem tQ (d:Nat):TE (TW E (d+1) 39):=by rw[ANl];exact xO
theorem oY (d:Nat):N4 (TW E (d+2) 22):=by rw[ANv];exact AKU (Wa d) (tQ d)
theorem OR (d:Nat):JF (TW E (d+3) 21):=by rw[ANw];exact xP (oY d)
theorem YE (d:Nat):Li (TW E (d+2) 20):=by rw[ANx];exact xe (Wa d) (tQ d)
theorem wN (d:Nat):S4 (TW E (d+1) 73):=by rw[ANN];exact pM (by decide)
theorem tP (d:Nat):XZ (TW E (d+3) 41):=by rw[ANj];exact xM (YE d) (wN (d+1))
theorem ACq (d:Nat):lO (TW E (d+1) 40):=by rw[ANk];exact AEF (by decide)
theorem ACV (d:Nat):Lh (IS 0) (TW E d 25):=by
 intro U xb lv ts l l' R ns ns' Q d i _ _ _ h
 cases h
theorem pI (d:Nat):Im (IS 0) (TW E (d+3) 100):=by rw[va];exact Yz (oY d) (YE d) (ACV (d+2))
theorem fY (d:Nat):Kb (IS 0) (TW E (d+4) 77):=by rw[AH3];exact Ux (oY (d+1)) (OR d) (pI d) (by decide)
theorem we (d:Nat):OO (IS 0) (TW E (d+5) 42):=by rw[AH6];exact jh (Wa (d+3)) (oY (d+2)) (OR (d+1)) (fY d)
theorem ACU (d:Nat):Lh (IS 1) (TW E (d+6) 25):=by rw[AIA];exact tR (OV 0) (Wa (d+4)) (ACq (d+4)) (oY (d+3)) (OR (d+2)) (tP (d+2)) (we d)
theorem pH (d:Nat):Im (IS 1) (TW E (d+7) 100):=by rw[va];exact Yz (oY (d+4)) (YE (d+4)) (ACU d)
theorem fX (d:Nat):Kb (IS 1) (TW E (d+8) 77):=by rw[AH3];exact Ux (oY (d+5)) (OR (d+4)) (pH d) (by decide)
theorem wc (d:Nat):OO (IS 1) (TW E (d+9) 42):=by rw[AH6];exact jh (Wa (d+7)) (oY (d+6)) (OR (d+5)) (fX d)
theorem ACT (d:Nat):Lh (IS 2) (TW E (d+10) 25):=by rw[AIA];exact tR (OV 1) (Wa (d+8)) (ACq (d+8)) (oY (d+7)) (OR (d+6)) (tP (d+6)) (wc d)
theorem wU (d:Nat):TB 600000 (IS 2) (TW E (d+11) 13):=by rw[AN1];exact qK (Wa (d+9)) (oY (d+8)) (OR (d+7)) (YE (d+8)) (ACX (d+6)) (ACT d) (by decide)
theorem ACS (d:Nat):Zh (TW E (d+1) 79):=by rw[ANM];exact ACw
theorem fZ (d:Nat):OM (TW E (d+1) 80):=by rw[ANL];exact re
theorem ACk (d:Nat):Pt (TW E (d+1) 12):=by rw[AN2];exact AD4 (by decide)
theorem fT {m:Cg} (hm:Ki m) (d:Nat):∀q:Nat,Ld m q (TW E (d+(q+1)) 44)
 | 0=>by rw[show d+(0+1)=d+1 from rfl,AH5];exact fm hm (by decide) (fun p e=>by cases e)
 | q+1=>by
  rw[show d+(q+1+1)=(d+(q+1))+1 from rfl,AH5]
  exact fm hm (by decide) (fun p e=>by cases e;exact fT hm d q)
theorem ACR {m:Cg} (hm:Ki m) (d:Nat):Ld m 17 (TW E (d+18) 44):=fT hm d 17
theorem wT (d:Nat):OL (TW E (d+1) 45):=by rw[ANh];exact pn (by decide)
theorem wV {m:Cg} (hm:Ki m) (d:Nat):TC m (TW E (d+19) 26):=by rw[ANt];exact qM hm (ACj (d+17)) (ACk (d+17)) (ACR hm d) (wT (d+17)) (by decide)
theorem ACN (d:Nat):XQ (TW E (d+1) 83):=by rw[ANK];exact wg
theorem fV (m:Cg) (d:Nat):TG m (TW E (d+1) 48):=by rw[ANg];exact qY m
theorem fU (m:Cg) (d:Nat):TF m (TW E (d+2) 49):=by rw[ANf];exact qW m (ACN d)
theorem ACl (d:Nat):lJ (TW E (d+1) 144):=by rw[AID];exact AD2 (by decide)
theorem ACp (d:Nat):Xe (TW E (d+2) 138):=by rw[AIF];exact yI (ACl d) (by decide)
theorem AJ5 (d:Nat):Zn (TW E (d+1) 137):=by rw[AIH];exact AEE
theorem ACP (d:Nat):XR (TW E (d+1) 136):=by rw[AII];exact wh
theorem ACW (m:Cg) (d:Nat):XS m (TW E (d+3) 124):=by rw[AIN];exact wo (AJ5 (d+1)) (ACP (d+1)) (ACp d) (by decide)
theorem fg (m:Cg) (d:Nat):TK m (TW E (d+4) 103):=by rw[AIT];exact r7 (ACW m d)
theorem YD (m:Cg) (d:Nat):Gk m (GV m 0) (TW E d 27):=by
 intro U0 U xb nv tv dv lv tl tl' d k i Q _ _ _ _ _ h
 cases h
theorem cg (m:Cg) (d:Nat):Ka m (GV m 0) (TW E (d+5) 82):=by rw[AH2];exact Qp (YD m (d+4)) (fg m d) (by decide)
theorem pF (m:Cg) (d:Nat):MW m (JJ m (GV m 0)) (TW E (d+6) 47):=by rw[AH4];exact Yp (ACS (d+4)) (fZ (d+4)) (YD m (d+5)) (cg m d)
theorem YC (m:Cg) (d:Nat):Gk m (GV m 1) (TW E (d+7) 27):=by rw[AH9];exact Yh (pF m d) (fV m (d+5)) (fU m (d+4))
theorem cf (m:Cg) (d:Nat):Ka m (GV m 1) (TW E (d+8) 82):=by rw[AH2];exact Qp (YC m d) (fg m (d+3)) (by decide)
theorem pE (m:Cg) (d:Nat):MW m (JJ m (GV m 1)) (TW E (d+9) 47):=by rw[AH4];exact Yp (ACS (d+7)) (fZ (d+7)) (YC m (d+1)) (cf m d)
theorem pD (m:Cg) (d:Nat):Gk m (GV m 2) (TW E (d+10) 27):=by rw[AH9];exact Yh (pE m d) (fV m (d+8)) (fU m (d+7))
theorem ACh {m:Cg} (hm:Ki m) (d:Nat):Xa m (GV m 2) (TW E (d+20) 14):=by rw[AN0];exact xT hm (wV hm d) (pD m (d+9)) (by decide)
theorem wQ (d:Nat):J8 (fun m=>GV m 2) 600000 (TW E (d+21) 7):=by rw[DE7];exact gD (wU (d+9)) (fun _ hm=>ACh hm d)
theorem T6 (d:Nat):∀k:Nat,k<=31->Gx k (TW E (d+(k+1)) 6)
 | 0,_=>by rw[show d+(0+1)=d+1 from rfl,DE6];exact dw _ _ _ _
 | k+1,h=>by
  rw[show d+(k+1+1)=(d+(k+1))+1 from rfl,DE6]
  exact jN (T6 d k (by omega)) (by omega)
theorem pJ (d:Nat):Gx 19 (TW E (d+20) 6):=T6 d 19 (by decide)
theorem xO8 (d:Nat):sC (TW E (d+1) 60):=by rw[ANY];exact AKK (by decide)
theorem AJp (d:Nat):MU (TW E (d+2) 35):=by rw[ANp];exact AC1 (xO8 d) (by decide)
theorem AJo (d:Nat):Lg (TW E (d+2) 117):=by rw[AIQ];exact ACv (xO8 d) (by decide)
theorem AJw (d:Nat):Zk (TW E (d+1) 116):=by rw[AIR];exact xL (by decide)
theorem AJu (d:Nat):sE (TW E (d+2) 117):=xK (AJo d)
theorem fW (d:Nat):HG E (TW E (d+1) 58):=by rw[ANa];exact qj (by decide)
theorem AJv (d:Nat):yk (TW E (d+3) 94):=by rw[ANH];exact qN (fW (d+1)) (AJw (d+1)) (AJu d)
theorem AJx (d:Nat):lM E (TW E (d+4) 59):=by rw[ANZ];exact ADn (fW (d+2)) (AJv d)
theorem ACQ (d:Nat):Zf E (TW E (d+5) 34):=by rw[ANq];exact fi (fW (d+3)) (AJx d) (by decide)
theorem xWi (d:Nat):sB E (TW E (d+5) 34):=ACs (ACQ d)
theorem AJ1 (d:Nat):yl E (TW E (d+6) 18):=by rw[AIB];exact rW (AJp (d+3)) (xWi d)
theorem AJ0 (d:Nat):Zl (TW E (d+6) 18):=xz (AJ1 d)
theorem wP (d:Nat):S6 (TW E (d+1) 142):=by rw[AIE];exact pQ (by decide)
theorem ACY (d:Nat):XT (TW E (d+2) 133):=by rw[AIK];exact wu (wP d)
theorem ACZ (d:Nat):XU (TW E (d+1) 134):=by rw[AIJ];exact wv
theorem wR (d:Nat):S7 (TW E (d+3) 120):=by rw[AIO];exact pO (ACY d) (ACZ (d+1))
theorem wY (d:Nat):TI (TW E (d+4) 96):=by rw[ANF];exact qq (wR d)
theorem ACi (d:Nat):Xb (TW E (d+1) 97):=by rw[ANE];exact xa
theorem wa (d:Nat):ON (TW E (d+5) 63):=by rw[ANV];exact ri (wY d) (ACi (d+3))
theorem AJz (d:Nat):lH (TW E (d+6) 118):=by rw[AIP];exact ie (wa d) (by decide)
theorem ACa (d:Nat):XV (TW E (d+7) 95):=by rw[ANG];exact gE (AJz d) (by decide)
theorem ACb (d:Nat):XW (TW E (d+8) 62):=by rw[ANW];exact wz (ACa d)
theorem WZ (d:Nat):H9 (TW E (d+1) 51):=by rw[ANe];exact qJ
theorem o7 (d:Nat):Ps (TW E (d+1) 52):=by rw[ANd];exact fun U h hl hh mo lo hi v ht=>fj ht h hl hh mo lo hi v
theorem xIx (d:Nat):AFE (TW E (d+1) 57) (TW E d):=by rw[ANb];exact fun ht hr hq hn=>ADz ht hr hq (by omega) (by omega)
theorem xCf (d:Nat):sF (TW E (d+2) 32) (TW E d):=by rw[ANs];exact AED (xIx d)
theorem pK (d:Nat) {U:H} (ht:Ar U) (v:Vc) (hl:v.l = .nils):∃U',TW E (d+1) 31 [.agg v.c] U=some (.int .i64 (AA 1),U')/\Fr AL U U':=by
 rw[AH7];exact Y5 (n:=0) (g:=fun _=>v) (by omega) (by omega) ht ⟨.inl ⟨rfl,hl⟩⟩ (fun _ k hk=>absurd hk (Cw _))
theorem pA (d:Nat) {U:H} (ht:Ar U) (v:Vc) (hl:v.l = .nils) (hr:v.r=AA 0) (ru:Int):∃U',TW E (d+3) 17 [.agg v.c,.int .i64 ru] U=some (.bool true,U')/\Fr AL U U':=by
 rw[AIC];exact YT (n:=0) (g:=fun _=>v) (xCf d) (by omega) (by rw[hr];rfl) ht ⟨.inl ⟨rfl,hl⟩⟩ (fun _ _ k hk=>absurd hk (Cw _))
theorem AJ3 (d:Nat):ur (TW E (d+1) 31):=fun v ht hl=>pK d ht v hl
theorem AJq (d:Nat):uq (TW E (d+3) 17):=fun v ru ht hl hr=>pA d ht v hl hr ru
theorem ACr (d:Nat):Xf (TW E (d+2) 61):=by rw[ANX];exact yS (WZ d)
theorem ACn (d:Nat):Xd (TW E (d+9) 36):=by rw[ANo];exact dy (ACr (d+6)) (AJ0 (d+2)) (ACb d) (by decide)
theorem AJ2 (d:Nat):Zm (TW E (d+10) 18):=by rw[AIB];exact jT (ACn d) (ACQ (d+4))
theorem pG (d:Nat):Pu (TW E (d+2) 30):=by rw[AH8];exact ir (WZ d) (o7 d)
theorem wO (d:Nat):S5 (TW E (d+1) 130):=by rw[AIM];exact pN
theorem pC (d:Nat) (n:Nat) (U:H):TW E (d+1) 131 [.int .i64 (AA n),.int .i64 (AA n)] U=some (.nils,U):=by rw[AIL];exact gz n (by decide) U
theorem ACf (d:Nat):TD (TW E (d+2) 111):=by rw[AIS];exact xN (wO d) (pC d) (by decide)
theorem ACm (d:Nat):Xc (TW E (d+3) 93):=by rw[ANI];exact xi (ACf d) (by decide)
theorem ACe (d:Nat):XY (TW E (d+1) 90):=by rw[ANJ];exact xD
theorem wS (d:Nat):M7 (TW E (d+4) 56):=by rw[ANc];exact UI (WZ (d+2)) (pG (d+1)) (ACe (d+2)) (ACm d) (by decide)
theorem ACd (d:Nat):M7 (TW E (d+5) 30):=by rw[AH8];exact cy (wS d)
theorem AJs (d:Nat):lG (TW E (d+4) 33):=by rw[ANr];exact ADA (AJq d)
theorem AJ4 (d:Nat):lN (TW E (d+2) 31):=by rw[AH7];exact AEC (AJ3 d) (by decide)
theorem AJr (d:Nat):lF (TW E (d+7) 17):=by rw[AIC];exact AC9 (xCf (d+4)) (AJs d)
theorem wX (d:Nat):TH (TW E (d+6) 16):=by rw[ANz];exact qp (ACd d) (AJ4 (d+3))
theorem ACo (d:Nat):TJ (TW E (d+11) 10):=by rw[AN4];exact xy (wX (d+4)) (AJr (d+3)) (AJ2 d)
theorem pL (d:Nat):MX (TW E (d+1) 11):=by rw[AN3];exact jZ
theorem AJ6 (d:Nat):Zp (TW E (d+1) 5):=by
 intro U ht
 obtain⟨ρ,hf,hr⟩:=AKV (e:=eAw) (F:=BD E 600000 (TW E d) 5) (qo (e:=eAw) (ρ:=fun x=>x) (args:=[]) (U:=U) rfl Has.nil Inj.nil)
 exact⟨_,by rw[DE5,hr];rfl,F8.fr0 dm (by kernel_rfl) hf ht⟩
theorem jB {E:EB} {v:V} {n:Nat} {f:Nat->Int} (hv:ArI E v n f) (t:Int):okB (F4 E (TW E 59) (AT E (TW E 59)) 600000 [v,.int .i64 t] ⟨100,[]⟩)=true:=by
 have ht:Ar ⟨100,[]⟩:=fun _ _=>rfl
 obtain⟨U',h⟩:=jE (E:=E) (D:=TW E 59) (N:=600000) (pJ 39) (ACk 58) (wQ 38) (ACo 48) (AJ6 58) (pL 58) (by decide) ht rfl (AK _) hv t
 rw[h];rfl
end
end Go.Proofs.YtgblfbajgpboiaaGreatDoor
set_option maxHeartbeats 0
namespace Go.Proofs.YtgblfbajgpboiaaGreatDoor.derSets
open Go
theorem dR:(Rows.derSetsRow.inPlace==Tryz.pinned.checked.prog.inPlace 4)=true:=by kernel_rfl
theorem Sb:(Rows.derSetsRow.unfollowed==Tryz.pinned.checked.prog.unfollowed 4)=true:=by kernel_rfl
theorem Wq:(Rows.derSetsRow.recurses==Tryz.pinned.checked.prog.recurses 4)=true:=by kernel_rfl
theorem Up:(Rows.derSetsRow.named==Tryz.pinned.checked.prog.varsNamed 4)=true:=by kernel_rfl
end Go.Proofs.YtgblfbajgpboiaaGreatDoor.derSets
