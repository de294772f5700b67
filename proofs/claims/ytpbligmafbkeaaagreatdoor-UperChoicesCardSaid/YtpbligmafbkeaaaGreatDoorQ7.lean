/- What the last text leans on, part 8 of 8: merged out of smaller texts. No condition. -/
import Derived.Test.YtpbligmafbkeaaaGreatDoorChecked
import Derived.Test.YtpbligmafbkeaaaGreatDoorCards
import Derived.KernelRfl
import Derived.Test.YtpbligmafbkeaaaGreatDoorQ6
open Int renaming ofNat -> AA,negSucc -> A1,tmod -> EW
open Nat renaming reduceLeDiff -> AB,reduceEqDiff -> AD,reduceLT -> AG,le_refl -> AL,add -> AM,lt_or_ge -> A2,le_trans -> BE,zero_add -> BV,ble_eq -> Bn,zero_le -> CA,mul_one -> CB,not_lt_zero -> DH,add_sub_cancel_left -> DL,lt_irrefl -> Dp,add_assoc -> D4,sub_self -> Ec,le_add_right -> FT,mod_lt -> Jr,max_eq_left -> xX
open List renaming getElem?_eq_getElem -> AI,getElem?_eq_some_iff -> AN,length_append -> AP,mem_cons_self -> AZ,length_cons -> Ag,getElem?_map -> As,getElem?_append_right -> Aw,mem_cons_of_mem -> Az,mem_cons -> A0,append_assoc -> BC,getD_eq_getElem?_getD -> BK,append_nil -> BP,getElem?_cons_succ -> Bh,length_map -> Bp,mem_singleton -> B5,getElem?_drop -> B6,getElem?_append_left -> CH,mem_append -> CN,getElem?_take_of_lt -> CQ,range -> CW,length_nil -> Cm,range' -> Da,pairwise_iff_getElem -> EH,mem_range -> EV,mem_of_getElem? -> Em,mem_map -> Fb,pairwise_append -> Hn,length_range -> Ho,map_append -> xY,length_range' -> AJC,idxOf_append -> ATJ,idxOf_lt_length_iff -> AY2
open Bool renaming and_true -> Bz,false_eq_true -> FV
set_option linter.all false
set_option maxRecDepth 100000
namespace Go.Proofs.YtpbligmafbkeaaaGreatDoor
open Go Go.Og
noncomputable section
def ABo(tl:List Cu)(a:List BW)(key:Nat->Nat):Prop:=∀k (f:BW),a[k]? = some f->∃t,tl[f.type]? = some t/\t.wn=[(2,key k)]
def ABm(its:List CS)(key:Nat->Nat):Prop:=∀k (x:CS),its[k]? = some x->x.num=AA (key k)
def AGJ(F:List V->H->AE):Prop:=∀{U ty nm h e f tl}{x:Ty}{c:List BW}{key d g a b},Ai U->PQ U ty h e f tl->Bx U d [.N nm,h,e,f]->Bx U g x.c->Cv U 11 c.length x.K (Ie c)->ABo tl c key->a<c.length->b<c.length ->
 ∃r U',F ([]++[.int .i64 (AA a),.int .i64 (AA b)]++[.o d 0,.o g 0]) U=some (.int .i64 r,U')/\C5 r (AA 0)=decide (key a<key b)/\Fr AH U U'
def AGI(F:List V->H->AE):Prop:=∀{U}{x:Ty}{its:List CS}{key c a b},Bx U c x.c->Cv U 3 its.length x.R (JE its)->ABm its key->a<its.length->b<its.length ->
 ∃r,F ([]++[.int .i64 (AA a),.int .i64 (AA b)]++[.o c 0]) U=some (.int .i64 r,U)/\C5 r (AA 0)=decide (key a<key b)
def tW(F:List V->H->AE):Prop:=∀U a b,F [.int .i64 (AA a),.int .i64 (AA b)] U=some (.int .i64 (if a<b then A1 0 else if b<a then AA 1 else AA 0),U)
def ACu(a:Cu->Nat)(e:List Cu->Cu->(Nat->Nat)->Prop)(F:List V->H->AE):Prop:=∀{U ty nm d c b tl i}{t:Cu}{key},Ai U->PQ U ty d c b tl->tl[i]? = some t->e tl t key->0<t.W->t.W<=a t->a t<=19 ->
 ∃vs v U',F [.agg [.N nm,d,c,b],.int .i64 (AA i)] U=some (v,U')/\vs.Perm (CW t.W)/\vs.Pairwise (xk key)/\Cv U' 1 (a t) v (FJ (vs++Da t.W (a t-t.W)))/\Fr AH U U'
def AAL:(List V->H->AE)->Prop:=ACu (λt=>t.K.length) (λtl t key=>t.A=9/\ABo tl t.K key)
def AAK:(List V->H->AE)->Prop:=ACu (λt=>t.R.length) (λtl t key=>t.A=3/\ABm t.R key)
theorem ACX{U}{d:List BW}{v k}{f:BW}(h:Cv U 11 d.length v (Ie d))(i:d[k]? = some f):∃b o c L,v = .D b o d.length c/\Bx U b L/\L[o+k*11+1]? = some (.int .i64 (AA f.type)):=by
 have g:=(AN.1 i).1;have ⟨b,o,c,L,e,l,j⟩:=(AEf h).el g;refine⟨b,o,c,L,e,l,j 1 _ (by decide) ?_⟩;rw[BK,i];rfl
section
variable {E:EB}{D:Ac}{N:Nat}
theorem SH{U b}(j:Ai U)(h:Bx U b [.int .i64 (AA 0),.h,.bool false,.bool false,.bool false,.bool false,.int .i64 (AA 0),.int .i64 (AA 0),.h,.h,.int .i64 (AA 0),.bool false,.int .i64 (AA 0)])(x:Ty):∃U',(∀J,DO 13 b 0 (.agg x.c) U J=J U')/\Fr (λk=>k=b) U U'/\Bx U' b x.c:=by
 have ⟨U',e,f,a⟩:=Y2 j h x.c;refine⟨U',λJ=>?_,f,a⟩;rw[Ed h (by unfold Ty.c;simp[Dr,Bg,CE,G3,G7,x.oneT,x.oneI,x.oneF])];have m:(V.agg x.c).cells=x.c:=by unfold Ty.c;simp only[Dr,]
 show J (Gl U b (.cells x.c))=_;rw[e]
theorem AUO(hL:VO (D 149))(hS:VN (D 150)):AGJ (wY E D (AV E D) N):=by
 intro U ty nm u s t tl x fs key qt z a b v hT at_ ax hf hk ha hb;have ⟨fa,hfa⟩:∃f,fs[a]? = some f:=⟨fs[a],AI ha⟩;have ⟨fb,hfb⟩:∃f,fs[b]? = some f:=⟨fs[b],AI hb⟩;have ⟨ta,ta1,ta2⟩:=hk a fa hfa;have ⟨tb,tb1,tb2⟩:=hk b fb hfb;have ⟨b1,o1,c1,L1,e1,h1,g1⟩:=ACX hf hfa;have ⟨b2,o2,c2,L2,e2,h2,g2⟩:=ACX hf hfb;have fw:=(B7 (E:=E) (n:=20) (S:=AH) v).Z;have ⟨U2,ga,f2⟩:=hL (nm:=nm) fw.y (hT.Z fw v) ta1 ta2;have f02:=fw.trans f2 (λ_ _ e=>e);have ⟨w,gb,f3⟩:=hL (nm:=nm) f2.y (hT.Z f02 v) tb1 tb2;have le2:U.j+20<=U2.j:=f2.le;have le3:=f3.le;have ⟨U5,A⟩:∃U5,U5=(⟨w.j,(U.j+17,.cells [.int .i64 (AA 0),.int .i64 (AA 0)])::(U.j+16,.cells [.int .i64 (AA 0),.int .i64 (AA 0)])::w.F⟩:H):=⟨_,rfl⟩;have t5:Ai U5:=by
  rw[A];intro c hc;have hc:w.j<=c:=hc;show BX ((U.j+17,_)::(U.j+16,_)::w.F) c=none;rw[Aj,if_neg (by simp;omega),Aj,if_neg (by simp;omega)];exact f3.y c hc
 have f35:Fr (λc=>c=U.j+16\/c=U.j+17) w U5:=by
  refine⟨t5,by rw[A];exact AL _,λc hc hn=>?_⟩;rw[A];show BX ((U.j+17,_)::(U.j+16,_)::w.F) c=_;rw[Aj,if_neg (by simp;omega),Aj,if_neg (by simp only[];omega)]
 have n5:U5.j=w.j:=by rw[A]
 have a16:Bx U5 (U.j+16) [.int .i64 (AA 0),.int .i64 (AA 0)]:=by
  rw[A];show BX ((U.j+17,_)::(U.j+16,_)::w.F) _=_;rw[Aj,if_neg (by simp only[];omega),Aj,if_pos rfl]
 have a17:Bx U5 (U.j+17) [.int .i64 (AA 0),.int .i64 (AA 0)]:=by
  rw[A];show BX ((U.j+17,_)::(U.j+16,_)::w.F) _=_;rw[Aj,if_pos rfl]
 have ⟨U6,q1,q2,q3⟩:=HM (E:=E) (D:=D) (n:=2) (x := .tmp 7) t5 a16 rfl (show (Ca [(7,V.o (U.j+16) 0),(16,.agg (OK (key a)))] (.tmp 16)).cells=OK (key a)from rfl) rfl;have a17':=q2.X a17 t5 (by omega);have ⟨F,r1,r2,C⟩:=HM (E:=E) (D:=D) (n:=2) (x := .tmp 8) (y := .tmp 24) (e:=[(8,.o (U.j+17) 0),(24,.agg (OK (key b)))]) q2.y a17' rfl (show (Ca [(8,V.o (U.j+17) 0),(24,.agg (OK (key b)))] (.tmp 24)).cells=OK (key b)from rfl) rfl;have g:=r2.X q3 q2.y (by omega);have hx:x.c[9]? = some x.K:=rfl;have xb:V.beq x.K x.K=true:=by rw[e1];cases c1<;>exact Be _ rfl
 have tbq:V.beq (.agg [.N nm,u,s,t]) (.agg [.N nm,u,s,t])=true:=by
  show (V.beq (.N nm) (.N nm)&&(V.beq u u&&(V.beq s s&&(V.beq t t&&true))))=true;rw[Be (.N nm) rfl,hT.bq.1,hT.bq.2.1,hT.bq.2.2];rfl
 have lv:[V.agg [.N nm,u,s,t],.int .i64 (AA fa.type)].all V.J=true:=rfl;have lv2:[V.agg [.N nm,u,s,t],.int .i64 (AA fb.type)].all V.J=true:=rfl;have go:JR E D U 20 0 AH Ny Rj ⟨[(0,.int .i64 (AA a)),(1,.int .i64 (AA b)),(2,.o qt 0),(3,.o z 0)],U.j+20,[U.F],[],0,[]⟩ _ F:=
  Hg (.agg [.N nm,u,s,t]) (B7 v) rfl (Fu (b:=qt) (off:=0) rfl at_ rfl rfl v (λe=>e) tbq) λ_ k1=>
  C0 (.o z 9) rfl rfl <|
  Hg x.K k1 rfl (Cj (b:=z) (off:=9) rfl ax hx v (λe=>e) xb) λ_ k2=>
  C0 (.int .i64 (AA a)) rfl rfl <|
  C0 (.o b1 (o1+a*11)) rfl (HE e1 rfl ha) <|
  C0 (.o b1 (o1+a*11+1)) rfl rfl <|
  Hg (.int .i64 (AA fa.type)) k2 rfl (Cj (b:=b1) (off:=o1+a*11+1) rfl h1 g1 v (λe=>e) (Be _ rfl)) λ_ k3=>
  LQ (.agg (OK (key a))) k3 rfl (by decide) (S':=AH) f2 (λ_ _ h=>h) (λ_ h _ _=>h) (Eb (vs:=[.agg [.N nm,u,s,t],.int .i64 (AA fa.type)]) rfl lv ga) λ_ _ _ k4=>
  Hg (.agg [.N nm,u,s,t]) k4 rfl (Fu (b:=qt) (off:=0) rfl at_ rfl rfl v (λe=>e) tbq) λ_ k5=>
  C0 (.o z 9) rfl rfl <|
  Hg x.K k5 rfl (Cj (b:=z) (off:=9) rfl ax hx v (λe=>e) xb) λ_ k6=>
  C0 (.int .i64 (AA b)) rfl rfl <|
  C0 (.o b2 (o2+b*11)) rfl (HE e2 rfl hb) <|
  C0 (.o b2 (o2+b*11+1)) rfl rfl <|
  Hg (.int .i64 (AA fb.type)) k6 rfl (Cj (b:=b2) (off:=o2+b*11+1) rfl h2 g2 v (λe=>e) (Be _ rfl)) λ_ k7=>
  LQ (.agg (OK (key b))) k7 rfl (by decide) (S':=AH) f3 (λ_ _ h=>h) (λ_ h _ _=>h) (Eb (vs:=[.agg [.N nm,u,s,t],.int .i64 (AA fb.type)]) rfl lv2 gb) λ_ _ _ k8=>
  Zc (.o (U.j+16) 0) (.cells [.int .i64 (AA 0),.int .i64 (AA 0)]) 65536 k8 rfl (by decide) (by decide) rfl λ_ k9=>
  Zc (.o (U.j+17) 0) (.cells [.int .i64 (AA 0),.int .i64 (AA 0)]) 196608 k9 rfl (by decide) (by decide) rfl λ_ k10=>
  gY .i5 (by rw[<-A]at k10;exact k10) rfl (by decide) (S':=λc=>c=U.j+16) q2 (λc h h1=>by omega) (λc h h1 h2=>by subst h;rw[DL];rfl) q1 λ_ _ _ k11=>
  gY .i5 k11 rfl (by decide) (S':=λc=>c=U.j+17) r2 (λc h h1=>by omega) (λc h h1 h2=>by subst h;rw[DL];rfl) r1 λ_ _ _ k12=>
  KO k12
 have reg:∃e',AV E D Ny Rj [(0,.int .i64 (AA a)),(1,.int .i64 (AA b)),(2,.o qt 0),(3,.o z 0)] U=some (e',F)/\Go.Og.look e' 7=some (.o (U.j+16) 0)/\Go.Og.look e' 8=some (.o (U.j+17) 0)/\Fr AH U F:=by
  have ⟨d1,d2⟩:=Ia (ops:=Ny) go;exact⟨_,d1,rfl,rfl,d2⟩
 have ⟨e',d1,l7,l8,d2⟩:=reg;have tk:∀k:Nat,[V.int .i64 (AA 2),.int .i64 (AA k)]=OK k:=λ_=>rfl;have ⟨U8,g8,f8⟩:=hS F (key a) (key b) d2.y;have f08:=d2.trans f8 (λ_ _ e=>e);have gd:∀J:CF->H->AE,CM (AV E D Ny Rj [(0,.int .i64 (AA a)),(1,.int .i64 (AA b)),(2,.o qt 0),(3,.o z 0)] U) J=J e' F:=λJ=>by rw[d1];rfl
 have y7:∀J:V->AE,Bj e' 7 J=J (.o (U.j+16) 0):=λJ=>Bc l7 rfl;have y8:∀J:V->AE,Bj e' 8 J=J (.o (U.j+17) 0):=λJ=>Bc l8 rfl;have C:Bx F (U.j+17) (OK (key b)):=C;have g:Bx F (U.j+16) (OK (key a)):=g;unfold OK at C g;show ∃r U',Un E D (AV E D) (AA a) (AA b) (.o qt 0) (.o z 0) U=_/\_;cases hlt:decide (key a<key b)with
 | true=>
  rw[hlt]at g8;refine⟨A1 0,U8,?_,rfl,f08⟩;unfold Un;simp only[↓rP,rA,AD,AG,AB,↓gd,↓y7,↓y8,↓BU g,↓BU C,↓g8]
 | false=>
  rw[hlt]at g8;have ⟨U9,g9,f9⟩:=hS U8 (key b) (key a) f8.y;have a8:=f8.X g d2.y (λe=>e);have b8:=f8.X C d2.y (λe=>e);refine⟨if decide (key b<key a)=true then AA 1 else AA 0,U9,?_,?_,f08.trans f9 (λ_ _ e=>e)⟩
  ·unfold Un
   cases hgt:decide (key b<key a)with
   | true=>
    rw[hgt]at g9;simp only[↓rP,rA,AD,AG,AB,↓gd,↓y7,↓y8,↓BU g,↓BU C,↓g8,↓BU a8,↓BU b8,↓g9,if_true]
   | false=>
    rw[hgt]at g9;simp only[↓rP,rA,AD,AG,AB,↓gd,↓y7,↓y8,↓BU g,↓BU C,↓g8,↓BU a8,↓BU b8,↓g9,if_false,FV]
  ·split<;>rfl
theorem AMB{W}(n:∀U a,D 177 [.int .i64 a] U=some (.bool false,U)):tW (wc E D W N):=by
 intro U a b;have m:=n U (AA a);have j:=n U (AA b);show bm E D W (AA a) (AA b) U=_;unfold bm;by_cases h1:a<b
 ·have h:=decide_eq_true h1
  rw[if_pos h1];simp only[↓rP,rA,↓m,↓j,h]
 ·have h:=decide_eq_false h1
  rw[if_neg h1];by_cases g:b<a
  ·have k:=decide_eq_true g
   rw[if_pos g];simp only[↓rP,rA,↓m,↓j,h,k]
  ·have k:=decide_eq_false g
   rw[if_neg g];simp only[↓rP,rA,↓m,↓j,h,k]
theorem ALm{W} U a:wP E D W N [.int .i64 a] U=some (.bool false,U):=by
 show al E D W a U=_;unfold al;rw[show B8 a a=true by rw[NX];simp];rfl
theorem AUK{W}(z:tW (D 145)):AGI (we E D W N):=by
 intro U x its key A a b q u t o r;have ⟨y,i⟩:∃f,its[a]? = some f:=⟨its[a],AI o⟩;have ⟨xb,j⟩:∃f,its[b]? = some f:=⟨its[b],AI r⟩;have w:∀J,AS 3 x.R (AA a) (λc p=>DF E U c (AM p 1) J)=J (.int .i64 (AA (key a))):=λJ=>EM u o (by decide) (Za i (by decide) (by rw[<-t a y i];rfl)) J;have rb:∀J,AS 3 x.R (AA b) (λc p=>DF E U c (AM p 1) J)=J (.int .i64 (AA (key b))):=λJ=>EM u r (by decide) (Za j (by decide) (by rw[<-t b xb j];rfl)) J;have g:=z U (key a) (key b);refine⟨(if key a<key b then A1 0 else if key b<key a then AA 1 else AA 0),?_,?_⟩
 ·unfold Ty.c at q
  show bn E D W (AA a) (AA b) (.o A 0) U=_;unfold bn;simp only[↓rP,↓AT q,↓w,↓rb,↓g]
 ·by_cases h:key a<key b
  ·rw[if_pos h,decide_eq_true h];rfl
  ·rw[if_neg h,decide_eq_false h];split<;>rfl
theorem kq{w}(hT:PS (D 142))(hP:jG (D 146))(hS:jD (D 143) w)(hF:AGJ (w 148)):AAL (F97 E D (AV E D) N):=by
 intro U ty nm nv rv tv tl i t key O T hi L hr0 k hn;have ⟨C,q⟩:=L;have k:t.W<=t.K.length:=k;have hn:t.K.length<=19:=hn;have M:=(AN.1 hi).1;have z:=T.is i t hi;have ⟨U1,e1,n,P,n1⟩:=Fh O [.N nm,nv,rv,tv];have ⟨U2,g2,u⟩:=hT (nm:=nm) n.y (T.Z n O).tb.row T.tb.n1 T.tb.r1 M;have ⟨U3,e3,s,a3,n3⟩:=Fh u.y [.int .i64 (AA 0),.h,.bool false,.bool false,.bool false,.bool false,.int .i64 (AA 0),.int .i64 (AA 0),.h,.h,.int .i64 (AA 0),.bool false,.int .i64 (AA 0)];have ⟨F,s4,j,y⟩:=SH s.y a3 (ty i);have o1:=(ty i).oneT;have o2:=(ty i).oneI;have o3:=(ty i).oneF;have le1:=n.le;have le2:=u.le;have le3:=s.le;have l1:=P.lt n.y;have p:Fr AH U F:=((n.trans u (λ_ _ e=>e)).trans s (λ_ _ e=>e)).trans j (λb o e=>by omega);have K:=j.X (s.X (u.X P n.y (λe=>e)) u.y (λe=>e)) s.y (by omega);have T4:=T.Z p O;have A:=T4.is i t hi;have ⟨v5,U5,g5,B,n5,x⟩:=hP F 0 t.W j.y (by omega);have ⟨v6,U6,g6,d6,n6,f6⟩:=hP U5 t.W (t.K.length-t.W) x.y (by omega);have I:=x.trans f6 (λ_ _ e=>e);rw[BV]at g5;rw[show t.W+(t.K.length-t.W)=t.K.length by omega]at g6;have hC:YS w (.fn 148 [] [.o U.j 0,.o U2.j 0]) key t.W F:=λU' a b f ha o=>by
  have ⟨r,G,g,e,f'⟩:=hF f.y (T4.Z f j.y) (f.X K j.y (λe=>e)) (f.X y j.y (λe=>e)) ((A.fr0 f j.y).K) q (show a<t.K.length by omega) (show b<t.K.length by omega);refine⟨r,G,λJ=>?_,e,f'⟩;show CD (w 148 ([]++[.int .i64 (AA a),.int .i64 (AA b)]++[.o U.j 0,.o U2.j 0]) U') J=_;rw[g];rfl
 have l5:∀{b:Nat},AJ v5 b->b<U5.j:=λo=>B.lt x.y o;have ⟨vs,v,U7,g7,p7,q7,Q,F7,f7⟩:=hS hC I hr0 (by omega) (by omega) (B.Z f6 x.y (λ_ _ e=>e)) (λb o=>⟨n5 b o,λe=>by have:=n6 b e;have:=l5 o;omega⟩) d6.src;refine⟨vs,v,U7,?_,p7,q7,by rw[show t.W+(t.K.length-t.W)=t.K.length by omega]at Q;exact Q,p.trans F7 (λ_ _ e=>e)⟩;have h1:=T.tb.n1;have h2:=T.tb.r1;have h3:=T.tb.t1;have u5:=B.S;have u6:=d6.S;have u7:=Q.S;have sl:∀J:Nat->AE,Ao (ty i).K J=J t.K.length:=λJ=>z.K.ip;have ek:(ty i).A=AA 9:=by rw[z.A,C]
 have er:(ty i).W=AA t.W:=z.W;have em:G8 (Gr (AA t.W) (AA 0)) (AA t.K.length)=AA t.W:=by
  rw[show Gr (AA t.W) (AA 0)=AA t.W by rw[Mm,xX (CA _)]];exact Hf k
 unfold Ty.c at g2 s4 y;rw[ek,er]at y;show ry E D (AV E D) (rp E D (AV E D) (rq E D (AV E D))) nm nv rv tv (AA i) U=_;unfold ry rp rq;simp only[↓rP,rA,AD,AG,AB,h1,h2,h3,o1,o2,o3,↓e1,↓BU P,↓g2,↓e3,↓s4,↓AT y,↓sl,em,↓g5,↓g6,↓g7,↓Bt u5,↓Bt u6,↓Bt u7]
theorem pn{D'}(hT:PS (D 142))(hP:jG (D 146))(hS:jD (D 143) D')(hF:AGI (D' 144)):AAK (F89 E D (AV E D) N):=by
 intro U ty nm nv rv tv tl i t key ht T hi hok hr0 z hn;have ⟨hk3,hkey⟩:=hok;have z:t.W<=t.R.length:=z;have hn:t.R.length<=19:=hn;have hil:=(AN.1 hi).1;have hx:=T.is i t hi;have ⟨U1,e1,f1,a1,n1⟩:=Fh ht [.N nm,nv,rv,tv];have ⟨q,g2,f2⟩:=hT (nm:=nm) f1.y (T.Z f1 ht).tb.row T.tb.n1 T.tb.r1 hil;have ⟨U3,e3,f3,a3,n3⟩:=Fh f2.y [.int .i64 (AA 0),.h,.bool false,.bool false,.bool false,.bool false,.int .i64 (AA 0),.int .i64 (AA 0),.h,.h,.int .i64 (AA 0),.bool false,.int .i64 (AA 0)];have ⟨j,s4,f4,a4⟩:=SH f3.y a3 (ty i);have o1:=(ty i).oneT;have o2:=(ty i).oneI;have o3:=(ty i).oneF;have le1:=f1.le;have le2:=f2.le;have le3:=f3.le;have l1:=a1.lt f1.y;have f04:Fr AH U j:=((f1.trans f2 (λ_ _ e=>e)).trans f3 (λ_ _ e=>e)).trans f4 (λb w e=>by omega);have T4:=T.Z f04 ht;have x:=T4.is i t hi;have t4:=f4.y;have fw:Fr AH j ⟨j.j+10,j.F⟩:=(B7 (E:=E) t4).Z;have ⟨A,U5,g5,d5,C,B⟩:=hP ⟨j.j+10,j.F⟩ 0 t.W fw.y (by omega);have ⟨v6,U6,g6,d6,n6,f6⟩:=hP U5 t.W (t.R.length-t.W) B.y (by omega);have f46:=(fw.trans B (λ_ _ e=>e)).trans f6 (λ_ _ e=>e);have C:∀b,AJ A b->j.j+10<=b:=C;have le5:j.j+10<=U5.j:=B.le;rw[BV]at g5;rw[show t.W+(t.R.length-t.W)=t.R.length by omega]at g6;have hC:YS D' (.fn 144 [] [.o q.j 0]) key t.W j:=λU' a b f ha w=>by
  have ⟨r,g,e⟩:=hF (f.X a4 t4 (λe=>e)) ((x.fr0 f t4).R) hkey (show a<t.R.length by omega) (show b<t.R.length by omega);refine⟨r,U',λJ=>?_,e,Fr.refl f.y⟩;show CD (D' 144 ([]++[.int .i64 (AA a),.int .i64 (AA b)]++[.o q.j 0]) U') J=_;rw[g];rfl
 have l5:∀{b:Nat},AJ A b->b<U5.j:=λw=>d5.lt B.y w;have ⟨vs,v,U7,g7,p7,q7,s7,F7,f7⟩:=hS hC f46 hr0 (by omega) (by omega) (d5.Z f6 B.y (λ_ _ e=>e)) (λb w=>⟨by have:=C b w;omega,λe=>by have:=n6 b e;have:=l5 w;omega⟩) d6.src;have shi:=JX x.R;have ib:=Ls shi;have lenp:∀s:CF,Go.Og.look s 25=some (ty i).R->Bb (.len false (.tmp 25)) s=some (.int .i64 (AA t.R.length)):=by
  intro s he;have hv:Ca s (.tmp 25)=(ty i).R:=by
   show (match Go.Og.look s 25 with | some v=>v | none => .i5)=_;rw[he]
  have hs:=x.R;show (match Ca s (.tmp 25)with
   | .h=>some (V.int .i64 0) | .D _ _ n _=>some (.int .i64 n) | .sle _ _ _ _=>some (.int .i64 0) | _=>none)=_
  rw[hv];rcases hs with ⟨h0,h,_⟩|⟨b,o,c,L,h,_⟩
  ·rw[h,h0];rfl
  ·rw[h];rfl
 have vl:∀{u:V},u.S=true->u.J=true:=λh=>GR h;have go:JR E D j 10 0 AH TM Yj ⟨[(5,.o q.j 0),(6,.int .i64 (AA t.W))],j.j+10,[j.F],[],0,[]⟩ _ U7:=
  C0 (.fn 144 [] [.o q.j 0]) rfl rfl <|
  C0 (.int .i64 (AA t.W)) rfl rfl <|
  LQ A (B7 t4) rfl (by decide) B (λ_ _ h=>h) (λ_ h _ _=>h) (Eb rfl rfl g5) λ_ _ _ k1=>
  C0 (.int .i64 (AA t.W)) rfl rfl <|
  C0 (.o q.j 8) rfl rfl <|
  Hg (ty i).R k1 rfl (Cj rfl a4 rfl t4 (λe=>e) ib) λ_ k2=>
  C0 (.int .i64 (AA t.R.length)) rfl (lenp _ rfl) <|
  LQ v6 k2 rfl (by decide) f6 (λ_ _ h=>h) (λ_ h _ _=>h) (Eb (vs:=[.int .i64 (AA t.W),.int .i64 (AA t.R.length)]) rfl rfl g6) λ_ _ _ k3=>
  LQ v k3 rfl (by decide) (S':=AJ A) f7 (λb w e=>by have:=C b e;omega) (λb e h1 h2=>by have:=C b e;omega) (Eb (vs:=[.fn 144 [] [.o q.j 0],A,v6]) rfl (by
   show (true&&(A.J&&(v6.J&&true)))=true;rw[vl d5.S,vl d6.S];rfl) g7) λ_ _ _ k4=>
  C0 v rfl (QB rfl (vl s7.S)) <|
  KO k4
 have reg:∃e',AV E D TM Yj [(5,.o q.j 0),(6,.int .i64 (AA t.W))] j=some (e',U7)/\Go.Og.look e' 4=some v:=by
  have ⟨d1,d2⟩:=Ia (ops:=TM) go;exact⟨_,d1,rfl⟩
 have ⟨e',dr,l4⟩:=reg;refine⟨vs,v,U7,?_,p7,q7,by rw[show t.W+(t.R.length-t.W)=t.R.length by omega]at s7;exact s7,f04.trans F7 (λ_ _ e=>e)⟩;have h1:=T.tb.n1;have h2:=T.tb.r1;have h3:=T.tb.t1;have sl:∀J:Nat->AE,Ao (ty i).R J=J t.R.length:=λJ=>hx.R.ip;have ek:(ty i).A=AA 3:=by rw[hx.A,hk3]
 have er:(ty i).W=AA t.W:=hx.W;have s:G8 (Gr (AA t.W) (AA 0)) (AA t.R.length)=AA t.W:=by
  rw[show Gr (AA t.W) (AA 0)=AA t.W by rw[Mm,xX (CA _)]];exact Hf z
 have gd:∀J:CF->H->AE,CM (AV E D TM Yj [(5,.o q.j 0),(6,.int .i64 (AA t.W))] j) J=J e' U7:=λJ=>by rw[dr];rfl
 have y4:∀J:V->AE,Bj e' 4 J=J v:=λJ=>Bc l4 (vl s7.S);unfold Ty.c at g2 s4 a4;rw[ek,er]at a4;show sC E D (AV E D) nm nv rv tv (AA i) U=_;unfold sC;simp only[↓rP,rA,AD,AG,AB,h1,h2,h3,o1,o2,o3,↓e1,↓BU a1,↓g2,↓e3,↓s4,↓AT a4,↓sl,s,↓gd,↓y4]
end
def GO:Vc:=⟨AA 4,AA 0,.h,.h,AA 0,.h,rfl,rfl,rfl⟩
def Lo(n:Nat):Vc:=⟨AA 3,AA n,.h,.h,AA 0,.h,rfl,rfl,rfl⟩
def Jz(k:Nat)(l:V)(h:l.S=true):Vc:=⟨AA 9,AA k,.h,l,AA 0,.h,rfl,h,rfl⟩
structure ABl(its:List CS)(k n:Nat):Prop where
 lt:k<its.length
 X:∀x,its[k]? = some x->x.num=AA n
 ne:∀j x,j<k->its[j]? = some x->x.num≠AA n
def tR(F:List V->H->AE):Prop:=∀{U}{x:CS}{q n},Ai U->Bx U q [.int .i64 n]->∃U',F ([]++[.agg x.c]++[.o q 0]) U=some (.bool (decide (x.num=n)),U')/\Fr AH U U'
def cy(g:FuncId)(F:List V->H->AE):Prop:=∀{U v}{its:List CS}{q k n},Ai U->Cv U 3 its.length v (JE its)->Bx U q [.int .i64 (AA n)]->ABl its k n->its.length<=900->∃U',F [v,.fn g [] [.o q 0]] U=some (.int .i64 (AA k),U')/\Fr AH U U'
def jI(F:List V->H->AE):Prop:=∀{U}{x:Ty}{its:List CS}{k n},Ai U->Cv U 3 its.length x.R (JE its)->ABl its k n->its.length<=900->∃U',F [.agg x.c,.int .i64 (AA n)] U=some (.int .i64 (AA k),U')/\Fr AH U U'
section
variable {E:EB}{D:Ac}{W:AF}{N:Nat}
theorem ALx:tR (wo E D W N):=by
 intro U x q n f l;have ⟨U1,j,h,k,m⟩:=Fh f x.c;have d:=h.X l f (λe=>e);refine⟨U1,?_,h⟩;have e:B8 x.num n=decide (x.num=n):=by rw[NX];rfl
 unfold CS.c at j k;show bz E D W (BB x.name) x.num x.has (.o q 0) U=_;unfold bz;simp only[↓rP,rS,↓j,↓AT k,↓AT d,e]
theorem AFB(hC:tR (D 129))(hN:2000<N):cy 129 (nC E D W N):=by
 intro U v its q k n ht hv hq hk hl;have sl:∀J,Ao v J=J its.length:=λJ=>hv.ip;have loop:∀m i j U1,i+m=k->m<j->Fr AH U U1->∃U',Vg E D W N j v (.fn 129 [] [.o q 0]) (AA its.length) (AA i) U1=some (.int .i64 (AA k),U')/\Fr AH U U':=by
  intro m;induction m with
  | zero=>
   intro i j U1 hi hn' f;obtain⟨j,rfl⟩:∃q,j=q+1:=⟨j-1,by omega⟩;have hi:i=k:=by omega
   subst hi;have ⟨x,y⟩:∃x,its[i]? = some x:=⟨its[i]'hk.lt,AI hk.lt⟩;have d1:decide (i<its.length)=true:=decide_eq_true hk.lt;have rd:∀J,AS 3 v (AA i) (λb o=>Bv E U1 b o 3 J)=J x.c:=λJ=>HN (hv.Z f ht (λ_ _ e=>e)) hk.lt (Mr _ _ _ y) (by decide) J;have ⟨t,g2,f2⟩:=hC (x:=x) f.y (f.X hq ht (λe=>e));rw[decide_eq_true (hk.X x y)]at g2;refine⟨t,?_,f.trans f2 (λ_ _ e=>e)⟩;have cv:∀J:V->H->AE,GA D (.fn 129 [] [.o q 0]) [.agg x.c] U1 J=J (.bool true) t:=λJ=>by
    show CD (D 129 ([]++[.agg x.c]++[.o q 0]) U1) J=_;rw[g2];rfl
   unfold CS.c at rd cv;have key:∀K R,RB E D W K R v (.fn 129 [] [.o q 0]) (AA its.length) (AA i) U1=some (.int .i64 (AA i),t):=λK R=>by
    unfold RB;simp only[↓rP,rA,AD,AG,AB,d1,↓rd,↓cv]
   exact key _ _
  | succ m ih=>
   intro i j U1 hi hn' f;obtain⟨j,rfl⟩:∃q,j=q+1:=⟨j-1,by omega⟩;have s:i<its.length:=by have:=hk.lt;omega
   obtain⟨x,y⟩:∃x,its[i]? = some x:=⟨its[i],AI s⟩;have d1:decide (i<its.length)=true:=decide_eq_true s;have rd:∀J,AS 3 v (AA i) (λb o=>Bv E U1 b o 3 J)=J x.c:=λJ=>HN (hv.Z f ht (λ_ _ e=>e)) s (Mr _ _ _ y) (by decide) J;obtain⟨t,g2,f2⟩:=hC f.y (f.X hq ht (λe=>e));rw[decide_eq_false (hk.ne i x (by omega) y)]at g2;obtain⟨U',g',f'⟩:=ih (i+1) j t (by omega) (by omega) (f.trans f2 (λ_ _ e=>e));refine⟨U',?_,f'⟩;have cv:∀J:V->H->AE,GA D (.fn 129 [] [.o q 0]) [.agg x.c] U1 J=J (.bool false) t:=λJ=>by
    show CD (D 129 ([]++[.agg x.c]++[.o q 0]) U1) J=_;rw[g2];rfl
   unfold CS.c at rd cv;have key:∀K R,RB E D W K R v (.fn 129 [] [.o q 0]) (AA its.length) (AA i) U1=R v (.fn 129 [] [.o q 0]) (AA its.length) (AA (i+1)) t:=λK R=>by
    unfold RB;simp only[↓rP,rA,AD,AG,AB,d1,↓rd,↓cv,Al (show i+1<=9223372036854775807 by omega)]
   exact(key _ _).trans g'
 have hkl:=hk.lt;obtain⟨U',g',f'⟩:=loop k 0 N U (by omega) (by omega) (Fr.refl ht);refine⟨U',?_,f'⟩;show Uo E D W (Vg E D W N N) v (.fn 129 [] [.o q 0]) U=_;have k0:∀K,Uo E D W K v (.fn 129 [] [.o q 0]) U=K v (.fn 129 [] [.o q 0]) (AA its.length) (AA 0) U:=λK=>by
  unfold Uo;simp only[↓rP,rS,↓sl]
 rw[k0];exact g'
theorem ALu(v:cy 129 (D 128)):jI (F76 E D W N):=by
 intro U x its k n l t u p;have ⟨U1,h,g,A,G⟩:=Fh l x.c;have ⟨F,w,m,r,C⟩:=Fh g.y [.int .i64 (AA n)];have b:=g.trans m (λ_ _ e=>e);have c:=m.X A g.y (λe=>e);have ⟨o,q,s⟩:=v b.y (t.Z b l (λ_ _ e=>e)) r u p;refine⟨o,?_,b.trans s (λ_ _ e=>e)⟩;unfold Ty.c at h c;have B:=x.oneT;have z:=x.oneI;have y:=x.oneF;show sI E D W x.A x.wn x.has x.no x.i9 x.conMore x.low x.high x.R x.K x.W x.I x.of_ (AA n) U=_;unfold sI;simp only[↓rP,rS,B,z,y,↓h,↓w,↓AT c,↓q]
end
section
variable {E:EB}{D:Ac}{W:AF}{N:Nat}{U U':H}{p nT:Nat}{ty:Nat->Ty}{nm:BS}{nv rv tv:V}{rest:List V}
theorem qP(w:NA (D 74)){i}(x:i<nT)(y:(ty i).A=AA 4):tU (F37 E D W N) nT ty i GO:=by
 intro U p dp nm L G v s q C F;have ⟨U1,n,j,f,I⟩:=DC q GO.c;have k:=C.Z j q;have ⟨u,h,B⟩:=w U1 (AA 0) (AA 4) (AA 0) (AA 0) .h .h .h 0 0 0 j.y TJ.h TJ.h TJ.h;have rd:∀J,AS 13 v (AA i) (λb o=>Bv E U1 b o 13 J)=J (ty i).c:=λJ=>k.row.all x J;have z:=k.row.len;rw[show Tv (AA 0) (AA 4) (AA 0) 0 0 (AA 0) 0=true from rfl]at h;unfold Vc.c GO at n f;unfold vc at h;have t:decide (nT<=i)=false:=decide_eq_false (by omega);have A:decide (17<dp)=false:=decide_eq_false (by omega);refine⟨u,?_,j.trans B (λ_ _ e=>e)⟩;show Qt E D W _ p 0 (AA i) (AA 4) (AA 0) .h .h (AA 0) .h (AA dp) U=_;unfold Qt;simp only[↓rP,rA,AD,AB,DH,↓n,↓k.types,↓z.2,t,A,↓rd,Ty.c,y,(ty i).oneT,(ty i).oneI,(ty i).oneF,↓AT f,↓BU f,↓h]
theorem qQ(hP:NA (D 74))(hI:jI (D 76))(s:Ai U)(hc:Ck U p nT ty nm nv rv tv rest){i dp n k}(F:i<nT)(hd:dp<=17)(hk:(ty i).A=AA 3){its:List CS}(f:Cv U 3 its.length (ty i).R (JE its))(r:ABl its k n)(t:its.length<=900):
  ∃U',F37 E D W N [.o p 0,.int .i64 (AA i),.agg (Lo n).c,.int .i64 (AA dp)] U=some (.bool true,U')/\Fr AH U U':=by
 have ⟨U1,y,j,l,n1⟩:=DC s (Lo n).c;have u:=hc.Z j s;have ⟨U2,m,B⟩:=hP U1 (AA 1) (AA 3) (AA n) (AA 0) .h .h .h 0 0 0 j.y TJ.h TJ.h TJ.h;have c:=j.trans B (λ_ _ e=>e);have w:=B.X l j.y (λh=>h);have ⟨U3,q,f3⟩:=hI c.y (f.Z c s (λ_ _ e=>e)) r t;have rd:∀J,AS 13 tv (AA i) (λb o=>Bv E U1 b o 13 J)=J (ty i).c:=λJ=>u.row.all F J;have hl:=u.row.len;rw[show Tv (AA 1) (AA 3) (AA n) 0 0 (AA 0) 0=true from rfl]at m;unfold Vc.c Lo at y l w;unfold vc at m;unfold Ty.c at q rd;rw[hk]at q rd;have d1:decide (nT<=i)=false:=decide_eq_false (by omega);have d2:decide (17<dp)=false:=decide_eq_false (by omega);have C:decide (0<=k)=true:=decide_eq_true (CA _);refine⟨U3,?_,c.trans f3 (λ_ _ e=>e)⟩;show Qt E D W _ p 0 (AA i) (AA 3) (AA n) .h .h (AA 0) .h (AA dp) U=_;unfold Qt;simp only[↓rP,rA,AD,AG,AB,DH,↓y,↓u.types,↓hl.2,d1,d2,↓rd,(ty i).oneT,(ty i).oneI,(ty i).oneF,↓AT l,↓BU l,↓m,↓AT w,↓q,C]
theorem qR(hP:NA (D 74)){i k j}{l:V}{hl1}(hN:tU (D 37) nT ty j GO)(r:Ai U)(hc:Ck U p nT ty nm nv rv tv rest){dp}(hi:i<nT)(hd:dp<=16)(hk:(ty i).A=AA 9){m:List BW}{f:BW}(q:Cv U 11 m.length (ty i).K (Ie m))(hf:m[k]? = some f)(hj:f.type=j)(v:MY U 6 1 l λ_=>GO.c):
  ∃U',F37 E D W N [.o p 0,.int .i64 (AA i),.agg (Jz k l hl1).c,.int .i64 (AA dp)] U=some (.bool true,U')/\Fr AH U U':=by
 have ⟨U1,e1,t,s,n1⟩:=DC r (Jz k l hl1).c;have c1:=hc.Z t r;have ⟨U2,g2,f2⟩:=hP U1 (AA 5) (AA 9) (AA k) (AA 0) .h l .h 0 1 0 t.y TJ.h v.len TJ.h;have d:=t.trans f2 (λ_ _ e=>e);have a2:=f2.X s t.y (λh=>h);have n:=(AN.1 hf).1;have ⟨U3,g3,f3⟩:=hN U2 p (dp+1) nm nv rv tv rest d.y (hc.Z d r) (by omega);have rd:∀J,AS 13 tv (AA i) (λb o=>Bv E U1 b o 13 J)=J (ty i).c:=λJ=>c1.row.all hi J;have rf:∀J,AS 11 (ty i).K (AA k) (λb o=>DF E U2 b (AM o 1) J)=J (.int .i64 (AA f.type)):=λJ=>EM (q.Z d r (λ_ _ e=>e)) n (by decide) (QV _ _ _ hf) J;have rl:∀J,AS 6 l (AA 0) (λb o=>Bv E U2 b o 6 J)=J GO.c:=λJ=>(v.fr0 d r).all Nat.one_pos J;have hl:=c1.row.len;have sf:∀J,Ao (ty i).K J=J m.length:=λJ=>q.ip;have sl:=v.len.2;rw[show Tv (AA 5) (AA 9) (AA k) 0 1 (AA 0) 0=true from rfl]at g2;unfold Vc.c Jz at e1 s a2;unfold vc at g2;unfold Ty.c at rd;rw[hk]at rd;rw[hj]at rf;unfold Vc.c GO at g3 rl;have d1:decide (nT<=i)=false:=decide_eq_false (by omega);have d2:decide (17<dp)=false:=decide_eq_false (by omega);have d3:decide (0<=k)=true:=decide_eq_true (CA _);have d4:decide (k<m.length)=true:=decide_eq_true n;refine⟨U3,?_,d.trans f3 (λ_ _ e=>e)⟩;show Qt E D W (sn E D W _) p 0 (AA i) (AA 9) (AA k) .h l (AA 0) .h (AA dp) U=_;unfold Qt sn;simp only[↓rP,rA,AD,AG,AB,DH,hl1,↓e1,↓c1.types,↓hl.2,d1,d2,↓rd,(ty i).oneT,(ty i).oneI,(ty i).oneF,↓AT s,↓BU s,↓g2,↓AT a2,↓BU a2,d3,d4,↓sf,↓sl,↓rf,↓rl,Al (show dp+1<=9223372036854775807 by omega),↓g3]
end
def Im(L:List Nat):List Nat:=if L.length=0 then [0] else P9 L
theorem XG(L:List Nat):(Im L).length=max 1 ((L.length+7) / 8):=by grind [Im,IV,E9]
def JO(F:List V->H->AE):Prop:=∀U w u (L:List Nat),Pw U w u L->Ai U->L.length<8000000 ->
 ∃v U',F [.o w 0] U=some (v,U')/\Nb U U' v (nI (Im L))/\Fr AH U U'
def YP(F:List V->H->AE):Prop:=∀U w u (L:List Nat),Wr U w u L->Ai U->kM L->L.length<=5000->∃v U',F [.o w 0] U=some (v,U')/\Nb U U' v (nI (Im L))/\Fr AH U U'
def YO(F:List V->H->AE):Prop:=∀{U x y l},By U x l->By U y l->F [x,y] U=some (.bool true,U)
theorem pd{L}(b:kM L):∀c∈P9 L,c<256:=by grind [P9,pe]
theorem yr{L}(e:kM L):∀c∈Im L,c<256:=by
 unfold Im;split
 ·decide
 ·exact pd e
section
variable {E:EB}{D:Ac}{W:AF}{N:Nat}{U:H}{n:Nat}{nm:BS}{nv rv tv:V}
theorem Y8(z:Nm (D 57))(t:RO (D 58)):JO (F25 E D W N):=by
 intro U w u L h p x;have o:=z U w u L h;cases i:decide (L.length=0)with
 | true=>
  have l:=of_decide_eq_true i;have ⟨U1,y,m,q,n⟩:=DC p [.int .u8 (AA 0)];refine⟨.D U.j 0 1 (.ex 1),U1,?_,?_,m⟩
  ·show YL E D W (.o w 0) U=_
   unfold YL;simp only[↓rP,rA,↓Jf,↓o,i,↓y]
  ·unfold Im
   rw[if_pos l];exact⟨.inr ⟨U.j,rfl,q,rfl⟩,λb r=>by cases r;exact AL _⟩
 | false=>
  have l:=of_decide_eq_false i;have ⟨v,U1,A,n,m⟩:=t U w u L h p x (by omega);refine⟨v,U1,?_,?_,m⟩
  ·show YL E D W (.o w 0) U=_
   unfold YL;simp only[↓rP,rA,↓Jf,↓o,i,↓A,↓Bt n.1.S]
  ·unfold Im
   rw[if_neg l];exact n
theorem qL:YO (F12 E D W N):=by
 intro U x y l c d;show tM E D W x y U=_;unfold tM;rw[c.N,d.N,BS.beq_nats,decide_eq_true rfl];rfl
theorem AK5(C:VV 5000 (D 26)):YP (F13 E D W N):=by
 intro U w u L h y r F;have ⟨v,U1,g,n,f⟩:=C U w u L h y r F;have q:(nI (P9 L)).length=E9 L.length:=by rw[C9,IV]
 have s:∀J,Ao v J=J (E9 L.length):=λJ=>by rw[n.1.ip,q]
 show ∃v U',iw E D W w 0 U=some (v,U')/\_;cases t:decide (L.length=0)with
 | true=>
  have k:=of_decide_eq_true t;have ⟨G,A,x,B,I⟩:=DC f.y [.int .u8 (AA 0)];have z:=f.le;refine⟨.D U1.j 0 1 (.ex 1),G,?_,?_,f.trans x (λ_ _ h=>h)⟩
  ·have o:decide (E9 L.length=0)=true:=decide_eq_true (by rw[k];rfl)
   unfold iw;simp only[↓rP,rA,↓g,↓Bt n.1.S,↓s,o,↓A]
  ·unfold Im
   rw[if_pos k];exact⟨.inr ⟨U1.j,rfl,B,rfl⟩,λb r=>by cases r;exact z⟩
 | false=>
  have k:=of_decide_eq_false t;refine⟨v,U1,?_,?_,f⟩
  ·have o:decide (E9 L.length=0)=false:=decide_eq_false (by unfold E9;omega)
   unfold iw;simp only[↓rP,rA,↓g,↓Bt n.1.S,↓s,o]
  ·unfold Im
   rw[if_neg k];exact n
def ACt(F:List V->H->AE):Prop:=∀U (x:Ty) a b r,Ai U->TJ x.K a->TJ x.R b->x.W=AA r->r<=a+b->a+b<=10000->∃U',F [.agg x.c] U=some (.bool false,U')/\Fr AH U U'
theorem AK4:ACt (F40 E D W N):=by
 intro U x e f r p v w j m y;have ⟨U1,g,l,d,z⟩:=DC p x.c;refine⟨U1,?_,l⟩;have o:=v.2;have q:=w.2;have n:decide (r<0)=false:=decide_eq_false (by omega);have s:decide (e+f<r)=false:=decide_eq_false (by omega);have t:BQ .i64 (AA e) (AA f)=AA (e+f):=Al (by omega);unfold Ty.c at g d;rw[j]at g d;show se E D W x.A x.wn x.has x.no x.i9 x.conMore x.low x.high x.R x.K x.W x.I x.of_ U=_;rw[j];unfold se;simp only[↓rP,rA,x.oneT,x.oneI,x.oneF,↓g,↓AT d,↓o,↓q,t,n,s]
def cz(f:FuncId)(F:List V->H->AE)(D:Ac):Prop:=∀{U a n}{ty:Nat->Ty},Ai U->MY U 13 n a (λi=>(ty i).c)->(∀U1 k,k<n->Fr AH U U1->∃b,D f [.agg (ty k).c] U1=some (.bool false,b)/\Fr AH U1 b)->n<=1000 ->
 ∃U',F [a,.fn f [] []] U=some (.int .i64 (A1 0),U')/\Fr AH U U'
theorem AFF{f}(Z:1000<N):cz f (F80 E D W N) D:=by
 intro U q n ty C G X Y;have L:=G.len.2;have t:∀m g i U1,i+m=n->m<g->Fr AH U U1->∃l,ug E D W N g q (.fn f [] []) (AA n) (AA i) U1=some (.int .i64 (A1 0),l)/\Fr AH U l:=by
  intro m;induction m with
  | zero=>
   intro g i U1 P x u;obtain⟨g,rfl⟩:∃k,g=k+1:=⟨g-1,by omega⟩;refine⟨U1,?_,u⟩;have A:decide (i<n)=false:=decide_eq_false (by omega);show YB E D W _ _ q (.fn f [] []) (AA n) (AA i) U1=_;unfold YB;rw[GQ,A,DU];rfl
  | succ m T=>
   intro g i U1 P x u;obtain⟨g,rfl⟩:∃k,g=k+1:=⟨g-1,by omega⟩;have s:i<n:=by omega
   have A:=decide_eq_true s;have rd:∀J,AS 13 q (AA i) (λb o=>Bv E U1 b o 13 J)=J (ty i).c:=λJ=>(G.fr0 u C).all s J;have ⟨l,y,z⟩:=X U1 i s u;have ⟨M,Q,S⟩:=T g (i+1) l (by omega) (by omega) (u.trans z (λ_ _ h=>h));refine⟨M,?_,S⟩;have F:∀J,GA D (.fn f [] []) [.agg (ty i).c] U1 J=J (.bool false) l:=λJ=>by
    show CD (D f [.agg (ty i).c] U1) J=_;rw[y];rfl
   unfold Ty.c at rd F;have key:∀K R,YB E D W K R q (.fn f [] []) (AA n) (AA i) U1=R q (.fn f [] []) (AA n) (AA (i+1)) l:=by
    intro K R;unfold YB;simp only[↓rP,rA,A,↓rd,↓F,Al (show i+1<=9223372036854775807 by omega)]
   exact(key _ _).trans Q
 have ⟨l,y,z⟩:=t n N 0 U (by omega) (by omega) (Fr.refl C);refine⟨l,?_,z⟩;have key:∀K,sH E D W K q (.fn f [] []) U=K q (.fn f [] []) (AA n) (AA 0) U:=by
  intro K;unfold sH;simp only[↓rP,rA,AD,AG,AB,↓L]
 exact(key _).trans y
theorem AFV{f d}(m:cz f (D 80) d){c}{ty:Nat->Ty}{U}(o:Ai U)(r:MY U 13 n c (λi=>(ty i).c))(q:∀U1 k,k<n->Fr AH U U1->∃g,d f [.agg (ty k).c] U1=some (.bool false,g)/\Fr AH U1 g)(l:n<=1000):
  ∃U',F39 E D W N [c,.fn f [] []] U=some (.bool false,U')/\Fr AH U U':=by
 have ⟨U1,j,p⟩:=m o r q l;refine⟨U1,?_,p⟩;show sk E D W c (.fn f [] []) U=_;unfold sk;simp only[↓j];rfl
theorem kh{a:V}{U}(l:Ai U)(h1:nv.S=true)(r:rv.S=true)(q:a.S=true)(n:∀U1,Fr AH U U1->∃d,D 39 [a,.fn 40 [] []] U1=some (.bool false,d)/\Fr AH U1 d):
  ∃U',F22 E D W N [.agg [.N nm,nv,rv,a]] U=some (.bool true,U')/\Fr AH U U':=by
 have ⟨U1,o,g,k,s⟩:=DC l [.N nm,nv,rv,a];have ⟨d,m,p⟩:=n U1 g;refine⟨d,?_,g.trans p (λ_ _ h=>h)⟩;show tE E D W nm nv rv a U=_;unfold tE;simp only[↓rP,rA,h1,r,q,↓o,↓AT k,↓m]
theorem qY{i}{v:Vc}{U}{Z:List Nat}(ht:Ai U)(h1:nv.S=true)(h2:rv.S=true)(h3:tv.S=true)
  (hFi:∀U1,Ai U1->Fr AH U U1->∃U',D 21 [.agg [.N nm,nv,rv,tv],.int .i64 (AA i),.agg v.c] U1=some (.bool true,U')/\Fr AH U1 U')
  (hRo:∀U1,Ai U1->Fr AH U U1->∃U',D 22 [.agg [.N nm,nv,rv,tv]] U1=some (.bool true,U')/\Fr AH U1 U')
  (hRu:∀U1,Ai U1->Fr AH U U1->∃U',D 23 [.agg v.c,.int .i64 (AA 2)] U1=some (.bool true,U')/\Fr AH U1 U')
  (hV:∀U0 U1 eb w,Ai U0->Fr AH U U0->Wk U0 U1 eb w .h [.N nm,nv,rv,tv] []->∃u' U',D 24 [.o eb 0,.int .i64 (AA i),.agg v.c] U1=some (.B [],U')/\G4 U1 w .h U' u' Z)
  (hB:JO (D 25)) (hZ':Z.length<=500000) :
  ∃b U',F11 E D W N [.agg [.N nm,nv,rv,tv],.int .i64 (AA i),.agg v.c] U=some (.B [b,.int .i64 (AA 0)],U')/\Nb U U' b (nI (Im Z))/\Fr AH U U':=by
 have ⟨U1,e1,f1,a1,n1⟩:=DC ht [.N nm,nv,rv,tv];have ⟨U2,e2,f2,a2,n2⟩:=DC f1.y v.c;have f:=f1.trans f2 (λ_ _ h=>h);have ⟨U3,g3,f3⟩:=hFi U2 f.y f;have d:=f.trans f3 (λ_ _ h=>h);have ⟨U4,g4,f4⟩:=hRo U3 d.y d;have e:=d.trans f4 (λ_ _ h=>h);have ⟨j,g5,f5⟩:=hRu U4 e.y e;have a:=e.trans f5 (λ_ _ h=>h);have ⟨U6,e6,f6,a6,n6⟩:=DC a.y [.h,.int .i64 (AA 0)];have ⟨U7,e7,f7,a7,n7⟩:=DC f6.y [.o j.j 0,.N nm,nv,rv,tv];have f57:=f6.trans f7 (λ_ _ h=>h);have a67:=f7.X a6 f6.y (λh=>h);have p7:Pw U7 j.j .h []:=⟨a67,DW.nil U7 1,λh=>h.elim,λb o=>by cases o⟩;have k7:Wk j U7 U6.j j.j .h [.N nm,nv,rv,tv] []:=⟨p7,f57,λb o=>by
  rcases o with o|o
  ·exact Nat.le_of_eq o.symm
  ·exact o.elim,a7,⟨a7.lt f7.y,by omega,λh=>h.elim⟩⟩
 have ⟨u8,U8,g8,s8⟩:=hV j U7 U6.j j.j a.y a k7;have k8:=k7.step s8;have ⟨b,U9,g9,n9,f9⟩:=hB U8 j.j u8 Z k8.pw k8.y (by omega);have l5:=a.le;have l58:=k8.f.le;refine⟨b,U9,?_,⟨n9.1,λq hq=>by have:=n9.2 q hq;omega⟩,(a.trans k8.f (λ_ _ h=>h)).trans f9 (λ_ _ h=>h)⟩;have p:=f2.X a1 f1.y (λh=>h);have a13:=f3.X p f.y (λh=>h);have a23:=f3.X a2 f.y (λh=>h);have n:=f4.X a23 d.y (λh=>h);have a14:=f4.X a13 d.y (λh=>h);have a15:=f5.X a14 e.y (λh=>h);have a16:=f6.X a15 a.y (λh=>h);have a25:=f5.X n e.y (λh=>h);have a27:=f57.X a25 a.y (λh=>h);have ee:∀J,DF E U8 U6.j 0 J=J (.o j.j 0):=k8.enc;have lb:∀J:Nat->AE,Ao b J=J (max 1 ((Z.length+7) / 8)):=λJ=>by rw[n9.by_.ip,C9,XG]
 have d7:decide (70000<max 1 ((Z.length+7) / 8))=false:=decide_eq_false (by omega);unfold Vc.c at e2 p a2 a23 n a25 a27 g3 g5 g8;show tN E D W nm nv rv tv (AA i) v.k v.n v.b v.l v.r v.m U=_;unfold tN;simp only[↓rP,rA,h1,h2,h3,v.oneB,v.oneL,v.oneM,↓e1,↓BU p,↓e2,↓BU a2,↓g3,↓BU a13,↓g4,↓BU n,↓g5,↓e6,↓BU a16,↓e7,↓BU a27,↓g8,↓ee,↓g9,↓Bt n9.1.S,↓lb,d7]
end
section
variable {E:EB}{D:Ac}{N:Nat}{nm:BS}{nv rv tv:V}
def VT(F:List V->H->AE)(D:Ac):Prop:=∀{h U eb w u}{L X:List Nat}{nm}{b e d:V}{f:Nat}{caps},Wk h U eb w u [.N nm,b,e,d] L->b.S=true->e.S=true->d.S=true->L.length<1000000->X.length<=1000 ->
 (∀U1 a g,Wk U U1 a g .h [.N nm,b,e,d] []->∃c U',D f ([]++[.o a 0]++caps) U1=some (.B [],U')/\G4 U1 g .h U' c X) ->
 ∃c U',F [.o eb 0,.fn f [] caps] U=some (.B [],U')/\G4 U w u U' c (L++(CV 8 (Im X).length++FP (Im X)))
theorem pg(hB:JO (D 25))(Z:VP (D 46)){T U d:H}{eb w g t u O}{L X:List Nat}{Y C}(l:Wk T d eb w u Y L)(a1:Bx d g (.o t 0::C))(o1:Gy d w u g)(N:Pw d t O X)(hl:L.length<1000000)(ab:X.length<=1000):
  ∃e' W U',AV E D TL Yi [(0,.o eb 0),(4,.o g 0)] d=some (e',U')/\G4 d w u U' W (L++(CV 8 (Im X).length++FP (Im X))):=by
 have k:=l.y;have z:=(B7 (E:=E) (n:=11) (S:=AH) k).Z;have ⟨v,j,g3,x,o⟩:=hB ⟨d.j+11,d.F⟩ t O X (N.Z z k) z.y (by omega);have y:=z.trans o (λ_ _ h=>h);have ac:d.j+11<=j.j:=o.le;have B:∀c,AJ v c->d.j+11<=c:=x.2;have ⟨p,A⟩:∃p,p=(⟨j.j,(d.j+9,.cells [v])::j.F⟩:H):=⟨_,rfl⟩;have I:Fr (λb=>b=d.j+9) j p:=by
  rw[A];refine⟨λb i=>?_,AL _,λb i hn=>?_⟩
  ·have i:j.j<=b:=i
   rw[Aj,if_neg (by simp;omega)];exact o.y b i
  ·show BX ((d.j+9,_)::j.F) b=_
   rw[Aj,if_neg (λe=>hn e.symm)]
 have Q:Bx p (d.j+9) [v]:=by
  rw[A];show BX ((d.j+9,_)::j.F) _=_;rw[Aj,if_pos rfl]
 have q:=y.trans I (λb i e=>by omega);have va:=Cv.Z x.by_ I o.y λb i e=>by have:=B b i;omega
 have pl:(Im X).length<128:=by rw[XG];omega
 have bx:=N.pp;have P:=l.Z q;have ⟨u5,J,g5,M⟩:=Z p w (d.j+9) u v L (Im X) P.pw P.y (by omega) pl (yr bx) Q va;have lw:∀b,J3 w u b->b<d.j:=λb i=>by
  rcases i with i|i
  ·subst i;exact l.pw.X.lt k
  ·exact l.pw.d.lt k i
 have ae:=l.e;have go:JR E D d 11 0 (J3 w u) TL Yi ⟨[(0,.o eb 0),(4,.o g 0)],d.j+11,[d.F],[],0,[]⟩ _ J:=
   C0 (.o eb 0) rfl rfl <|
   C0 (.o eb 0) rfl rfl <|
   C0 (.o eb 0) rfl rfl <|
   Hg (.o w 0) (B7 k) rfl (Cj rfl ae rfl k l.eo.not (Be _ rfl)) λ_ r1=>
   C0 (.o g 0) rfl rfl <|
   C0 (.o g 0) rfl rfl <|
   C0 (.o g 0) rfl rfl <|
   Hg (.o t 0) r1 rfl (Cj rfl a1 rfl k o1.not (Be _ rfl)) λ_ R=>
   LQ v R rfl (by decide) o (λ_ _ h=>h.elim) (λ_ h _ _=>h) (Eb rfl rfl g3) λ_ _ _ r3=>
   Zc (.D (d.j+9) 0 1 (.ex 1)) (.cells [v]) 512 r3 rfl (by decide) rfl (qy rfl x.1.S) λ_ G=>
   LQ (.B []) (by rw[<-A]at G;exact G) rfl (by decide) M.f (λ_ _ h=>h) (λb h h1 _=>by have:=lw b h;omega) (Eb rfl rfl g5) λ_ _ _ r5=>
   KO r5
 have ⟨d1,d2⟩:=Ia (ops:=TL) go;exact⟨_,u5,J,d1,G4.behind q M⟩
theorem zc(M:JO (D 25))(T:VP (D 46)):VT (F95 E D (AV E D) N) D:=by
 intro U0 U eb w u L X nm p t o f caps g h1 h2 h3 hl n K;have ⟨U1,O,i,I,n1⟩:=DC g.y [.h,.int .i64 (AA 0)];have ⟨e,S,v,A,n2⟩:=DC i.y [.o U.j 0,.N nm,p,t,o];have m:=i.trans v (λ_ _ h=>h);have w1:=g.Z i;have s:=v.X I i.y (λh=>h);have l1:=i.le;have p2:Pw e U.j .h []:=⟨s,DW.nil e 1,λh=>h.elim,λb c=>by cases c⟩;have G:Wk U e U1.j U.j .h [.N nm,p,t,o] []:=⟨p2,m,λb c=>by
  rcases c with c|c
  ·exact Nat.le_of_eq c.symm
  ·exact c.elim,A,⟨A.lt v.y,by omega,λh=>h.elim⟩⟩
 have ⟨u3,F,P,s3⟩:=K e U1.j U.j G;have d:=G.step s3;have w3:=g.Z d.f;have Q:=Gy.pw g.pw g.y l1 (d.e.lt d.y);have ⟨e',u4,C,R,W⟩:=pg (E:=E) (U:=U) M T w3 d.e Q d.pw hl n;refine⟨u4,C,?_,G4.behind d.f W⟩;have Z:=w1.e;have y:∀J,Bv E U1 eb 1 4 J=J [.N nm,p,t,o]:=λJ=>(BU Z).trans rfl;have cv:∀J,GA D (.fn f [] caps) [.o U1.j 0] e J=J (.B []) F:=λJ=>by
  show CD (D f ([]++[.o U1.j 0]++caps) e) J=_;rw[P];rfl
 have Y:∀J,CM (AV E D TL Yi [(0,.o eb 0),(4,.o U1.j 0)] F) J=J e' C:=λJ=>by rw[R];rfl
 show r7 E D (AV E D) eb 0 (.fn f [] caps) U=_;unfold r7;simp only[↓rP,rS,↓O,↓y,h1,h2,h3,↓S,↓cv,↓Y]
end
def wd(n:Nat):Nat:=if n=0 then 0 else if n<2 then 1 else if n<4 then 2 else if n<8 then 3 else 4
theorem Wj n:wd n<=4:=by grind [wd]
def VD(F:List V->H->AE):Prop:=∀U n,n<=9->F [.int .u64 (AA n)] U=some (.int .i64 (AA (wd n)),U)
def TG(F:List V->H->AE):Prop:=∀U w u (L:List Nat) v n,Pw U w u L->Ai U->L.length<8000000->v<=n->n<=9 ->
 ∃a U',F [.o w 0,.int .u64 (AA v),.int .u64 (AA n)] U=some (.B [],U')/\G4 U w u U' a (L++CV (wd n) v)
def YU(F:List V->H->AE):Prop:=∀U w u (L:List Nat) v n,Wr U w u L->Ai U->L.length<7000000->v<=n->n<=9 ->
 ∃a U',F [.o w 0,.int .u64 (AA v),.int .u64 (AA n)] U=some (.B [],U')/\J2 U w u U' a (L++CV (wd n) v)
def jE(F:List V->H->AE):Prop:=∀U w u (L:List Nat) v,Pw U w u L->Ai U->L.length<8000000->v<64 ->
 ∃a U',F [.o w 0,.int .i64 (AA v)] U=some (.B [],U')/\G4 U w u U' a (L++CV 7 v)
section
variable {E:EB}{D:Ac}{W:AF}{N:Nat}
theorem zM:VD (wR E D W N):=by
 intro U n b;match n,b with
 | 0,_=>rfl | 1,_=>rfl | 2,_=>rfl | 3,_=>rfl | 4,_=>rfl | 5,_=>rfl | 6,_=>rfl | 7,_=>rfl | 8,_=>rfl | 9,_=>rfl
theorem AMH(f:VD (D 175)):VD (wj E D W N):=by
 intro U n e;have g:=f U n e;show bs E D W (AA n) U=_;unfold bs;simp only[↓rP,↓g]
theorem AJq(e:10<N):VD (F17 E D W N):=by
 intro U n d;obtain⟨N,rfl⟩:∃k,N=k+10:=⟨N-10,by omega⟩;match n,d with
 | 0,_=>rfl | 1,_=>rfl | 2,_=>rfl | 3,_=>rfl | 4,_=>rfl | 5,_=>rfl | 6,_=>rfl | 7,_=>rfl | 8,_=>rfl | 9,_=>rfl
theorem AMJ(r:VD (D 140))(k:JN (D 82)):TG (F84 E D W N):=by
 intro U w u L v n h i p q j;have t:=r U n j;have:=Wj n;have ⟨s,g,l,o⟩:=k U w u L v (wd n) h i p (by omega) (by omega);refine⟨s,g,?_,o⟩;have m:=Hf q;show sE E D W (.o w 0) (AA v) (AA n) U=_;unfold sE;simp only[↓rP,↓t,m,↓l]
theorem AMI(p:VD (D 17))(k:MQ (D 8)):YU (F9 E D W N):=by
 intro U w u L v n h i t q j;have s:=p U n j;have:=Wj n;have ⟨r,g,l,o⟩:=k U w u L v (wd n) h i (by omega) (by omega) (by omega);refine⟨r,g,?_,o⟩;have m:=Hf q;show AFe E D W (.o w 0) (AA v) (AA n) U=_;unfold AFe;simp only[↓rP,↓s,m,↓l]
theorem AKw(g:JN (D 82)):jE (F87 E D W N):=by
 intro U w u L v h k r i;have ⟨n,j,l,q⟩:=g U w u L v 7 h k r (by omega) (by decide);refine⟨n,j,?_,q⟩;have m:Gr (AA v) (AA 0)=AA v:=by rw[Mm,xX (CA _)]
 have o:=decide_eq_true i;have s:An .u64 (AA v)=AA v:=BJ (by rw[HA];omega);show sD E D W (.o w 0) (AA v) U=_;unfold sD;simp only[↓rP,rA,m,o,s,↓l]
end
theorem PK{x a}{k n:Nat}(c:Ca a x = .int .i64 (AA n))(e:n<=1000):Bb (.i7 (.jp .u64) x) a=some (.int .u64 (AA n)):=by
 show (match Ca a x with
  | .int _ n=>some (V.int .u64 (IntKind.u64.wrap n)) | _=>none)=_
 rw[c];show some (V.int .u64 (IntKind.u64.wrap (AA n)))=_;rw[<-EJ,BJ (show n<=18446744073709551615 by omega)]
theorem ql{x b r}(f:Ca b x = .int .i64 (AA r))(g:0<r)(h:r<=1000):Bb (.pp .sub .none x (.T (.int .i64 (AA 1)))) b=some (.int .i64 (AA (r-1))):=by
 show HR .sub .none (Ca b x) (.int .i64 (AA 1))=_;rw[f];show some (V.int .i64 (IntKind.i64.wrap (AA r-AA 1)))=_;have e:(AA r-AA 1:Int)=AA (r-1):=by simp;omega
 rw[e,<-EJ,BJ (show r-1<=9223372036854775807 by omega)]
def P5(r k pl:Nat):List Nat:=if k<r then [0]++CV (wd (r-1)) pl else [1]++CV 7 (k-r)
def Plc(r k pl:Nat)(key:Nat->Nat):Prop:=∀vs:List Nat,vs.Perm (CW r)->vs.Pairwise (xk key)->vs.idxOf k=pl
section
variable {E:EB}{D:Ac}{N:Nat}{U0 U:H}{ty:Nat->Ty}{nm:BS}{nv rv tv:V}{tl:List Cu}{i:Nat}{t:Cu}{eb w:Nat}{u:V}{L:List Nat}
theorem oz{nm}(h:PQ U ty nv rv tv tl):V.beq (.agg [.N nm,nv,rv,tv]) (.agg [.N nm,nv,rv,tv])=true:=by
 show (V.beq (.N nm) (.N nm)&&(V.beq nv nv&&(V.beq rv rv&&(V.beq tv tv&&true))))=true;rw[Be (.N nm) rfl,h.bq.1,h.bq.2.1,h.bq.2.2];rfl
theorem zd(hO:AAK (D 89))(hX:TF (D 88))(hB:TG (D 84))(C:Ai U0)(T:PQ U0 ty nv rv tv tl)(hi:tl[i]? = some t)(d:Wk U0 U eb w u [.N nm,nv,rv,tv] L)(hl:L.length<1000000){x:Ty}{q k pl key}(aq:Bx U q x.c)(oq:Gy U w u q)(hr:x.W=AA t.W)(A:t.A=3)(o:ABm t.R key)(hk:k<t.W)(hrn:t.W<=t.R.length)(h9:t.W<=9)(hn:t.R.length<=19)(hp:Plc t.W k pl key):
  ∃e' u' U',AV E D TQ Ym [(0,.o eb 0),(1,.int .i64 (AA i)),(6,.o q 0),(7,.int .i64 (AA k))] U=some (e',U')/\G4 U w u U' u' (L++CV (wd (t.W-1)) pl):=by
 have g:=d.y;have fw:Fr AH U ⟨U.j+18,U.F⟩:=(B7 (E:=E) g).Z;have f0:Fr AH U0 ⟨U.j+18,U.F⟩:=d.f.trans fw (λ_ _ e=>e);have ⟨vs,v,U1,g1,p,q1,s1,B⟩:=hO (nm:=nm) fw.y (T.Z f0 C) hi ⟨A,o⟩ (by omega) hrn hn;have m:Fr AH U U1:=fw.trans B (λ_ _ e=>e);have y:(vs++Da t.W (t.R.length-t.W)).length=t.R.length:=by
  rw[AP,p.length_eq,Ho,AJC];omega
 have f:k∈vs:=p.mem_iff.2 (EV.2 hk);have g2:=hX U1 v (vs++Da t.W (t.R.length-t.W)) k (by rw[y];exact s1) (by omega) (List.mem_append_left _ f);have ei:(vs++Da t.W (t.R.length-t.W)).idxOf k=pl:=by rw[ATJ,if_pos f];exact hp vs p q1
 rw[ei]at g2;have z:pl<=t.W-1:=by
  have h1:=hp vs p q1;have h2:=AY2.2 f;rw[h1,p.length_eq,Ho]at h2;omega
 have w1:=d.Z m;have ⟨u2,U2,g3,s3⟩:=hB U1 w u L pl (t.W-1) w1.pw w1.y (by omega) z (by omega);have lw:∀b,J3 w u b->b<U.j:=λb n=>by
  rcases n with n|n
  ·subst n;exact d.pw.X.lt g
  ·exact d.pw.d.lt g n
 have ae:=d.e;have l:=aq;unfold Ty.c at l;have vl:v.J=true:=GR s1.S;have go:JR E D U 18 0 (J3 w u) TQ Ym ⟨[(0,.o eb 0),(1,.int .i64 (AA i)),(6,.o q 0),(7,.int .i64 (AA k))],U.j+18,[U.F],[],0,[]⟩ _ U2:=
  C0 (.o eb 0) rfl rfl <|
  C0 (.o eb 0) rfl rfl <|
  C0 (.o eb 0) rfl rfl <|
  Hg (.o w 0) (B7 g) rfl (Cj rfl ae rfl g d.eo.not (Be _ rfl)) λ_ r1=>
  C0 (.o eb 0) rfl rfl <|
  C0 (.o eb 0) rfl rfl <|
  C0 (.o eb 1) rfl rfl <|
  Hg (.agg [.N nm,nv,rv,tv]) r1 rfl (Fu rfl ae rfl rfl g d.eo.not (oz T)) λ_ r2=>
  C0 (.int .i64 (AA i)) rfl rfl <|
  LQ v r2 rfl (by decide) B (λ_ _ h=>h.elim) (λ_ h _ _=>h) (Eb rfl rfl g1) λ_ _ _ r3=>
  C0 (.int .i64 (AA k)) rfl rfl <|
  LQ (.int .i64 (AA pl)) r3 rfl (by decide) (Fr.refl B.y) (λ_ _ h=>h.elim) (λ_ h _ _=>h) (Eb rfl (by
   show (v.J&&true)=true;rw[vl];rfl) g2) λ_ _ _ r4=>
  C0 (.int .u64 (AA pl)) rfl (PK (k:=0) rfl (by omega)) <|
  C0 (.o q 10) rfl rfl <|
  Hg (.int .i64 (AA t.W)) r4 rfl (Cj (b:=q) (off:=10) rfl l (by rw[hr];rfl) g oq.not (Be _ rfl)) λ_ r5=>
  C0 (.int .i64 (AA (t.W-1))) rfl (ql rfl (by omega) (by omega)) <|
  C0 (.int .u64 (AA (t.W-1))) rfl (PK (k:=0) rfl (by omega)) <|
  LQ (.B []) r5 rfl (by decide) (S':=J3 w u) s3.f (λ_ _ h=>h) (λb h h1 _=>by have:=lw b h;omega) (Eb (vs:=[.o w 0,.int .u64 (AA pl),.int .u64 (AA (t.W-1))]) rfl rfl g3) λ_ _ _ r6=>
  KO r6
 have ⟨d1,d2⟩:=Ia (ops:=TQ) go;exact⟨_,u2,U2,d1,G4.behind m s3⟩
structure Yz(t:Cu)(k n pl:Nat)(key:Nat->Nat):Prop where
 A:t.A=3
 I:t.I=true
 ik:ABm t.R key
 X:ABl t.R k n
 rn:t.W<=t.R.length
 r9:t.W<=9
 n19:t.R.length<=19
 pl:k<t.W->Plc t.W k pl key
def YR(F:List V->H->AE):Prop:=∀{a U ty nm b d c tl i}{t:Cu}{eb w u}{L:List Nat}{k n pl key},Ai a->PQ a ty b d c tl->tl[i]? = some t->Wk a U eb w u [.N nm,b,d,c] L->L.length<100000->Yz t k n pl key ->
 ∃e U',F [.o eb 0,.int .i64 (AA i),.agg (Lo n).c] U=some (.B [],U')/\G4 U w u U' e (L++P5 t.W k pl)
theorem AL8(hI:jI (D 76))(hFl:PU (D 43))(hSm:jE (D 87))(hO:AAK (D 89))(hX:TF (D 88))(hB:TG (D 84)):YR (F45 E D (AV E D) N):=by
 intro U0 U ty nm nv rv tv tl i t eb w u L k n pl key ht0 T hi y hl d;have ht:=y.y;have hil:=(AN.1 hi).1;have ⟨U1,e1,q,a1,n1⟩:=Fh ht (Lo n).c;have ⟨U2,e2,f2,a2,n2⟩:=Fh q.y [.int .i64 (AA 0),.h,.bool false,.bool false,.bool false,.bool false,.int .i64 (AA 0),.int .i64 (AA 0),.h,.h,.int .i64 (AA 0),.bool false,.int .i64 (AA 0)];have ⟨U3,s3,f3,a3⟩:=SH f2.y a2 (ty i);have le1:=q.le;have f03:Fr AH U U3:=(q.trans f2 (λ_ _ e=>e)).trans f3 (λb hb e=>by omega);have T1:=T.Z (y.Z q).f ht0;have T3:=T.Z (y.Z f03).f ht0;have x3:=T3.is i t hi;have ⟨U4,g4,f4⟩:=hI f3.y x3.R d.X (by have:=d.n19;omega);have z:Fr AH U U4:=f03.trans f4 (λ_ _ e=>e);have w4:=y.Z z;have v:=f4.X a3 f3.y (λe=>e);have m:=f4.X (f3.X (f2.X a1 q.y (λe=>e)) f2.y (by have:=a1.lt q.y;omega)) f3.y (λe=>e);have l1:=a1.lt q.y;have oq:Gy U4 w u U1.j:=Gy.pw y.pw ht le1 (by have:=v.lt f4.y;exact this);have oq:Gy U4 w u U1.j:=oq;have oe:Gy U4 w u U.j:=Gy.pw y.pw ht (AL _) (m.lt f4.y);have ⟨u5,U5,g5,s5⟩:=hFl U4 eb w u L (decide (t.W<=k)) _ w4.e w4.pw w4.y (by omega);have w5:=w4.step s5;have a35:=s5.X w4.y oq v;have x:=s5.X w4.y oe m;have oq5:=s5.off oq;have ek:(ty i).A=AA 3:=by rw[x3.A,d.A]
 have em:(ty i).I=true:=by rw[x3.I,d.I]
 have er:(ty i).W=AA t.W:=x3.W;have o1:=(ty i).oneT;have o2:=(ty i).oneI;have o3:=(ty i).oneF;have ee:=(y.Z q).e;have rd:∀J,AS 13 tv (AA i) (λb o=>Bv E U1 b o 13 J)=J (ty i).c:=λJ=>T1.tb.row.all hil J;have a3c:=a3;have j:=v;have f:=a35;have s3c:=s3;have g4c:=g4;unfold Ty.c at rd s3c a3c j f g4c;rw[er,em]at j f;have e1c:=e1;have a13:=f3.X (f2.X a1 q.y (λe=>e)) f2.y (by omega);unfold Vc.c Lo at e1c a13 m x;have key0:∀K1,iQ E D (AV E D) K1 eb 0 (AA i) (AA 3) (AA n) .h .h (AA 0) .h U=K1 eb 0 (AA i) U.j 0 U1.j 0 (AA k) (decide (t.W<=k)) U5:=by
  intro K1;unfold iQ;simp only[↓rP,rA,AD,AG,AB,↓e1c,↓AT ee,↓rd,o1,o2,o3,↓e2,↓s3c,↓BU a3c,↓AT a13,↓g4c,↓AT m,↓AT j,↓g5]
 show ∃u' U',iQ E D (AV E D) (iP E D (AV E D)) eb 0 (AA i) (AA 3) (AA n) .h .h (AA 0) .h U=_/\_;rw[key0];have e5:=w5.e;by_cases hk:k<t.W
 ·have d1:decide (t.W<=k)=false:=decide_eq_false (by omega)
  have ⟨e',u6,U6,g6,s6⟩:=zd (E:=E) hO hX hB ht0 T hi w5 (by rw[AP];show _+1<_;omega) a35 oq5 er d.A d.ik hk d.rn d.r9 d.n19 (d.pl hk);have gd:∀J:CF->H->AE,CM (AV E D TQ Ym [(0,.o eb 0),(1,.int .i64 (AA i)),(6,.o U1.j 0),(7,.int .i64 (AA k))] U5) J=J e' U6:=λJ=>by rw[g6];rfl
  refine⟨u6,U6,?_,?_⟩
  ·unfold iP
   simp only[↓rP,rA,AD,AG,AB,↓AT x,d1,↓gd]
  ·have h:=(G4.behind z s5).trans s6
   rw[d1,BC]at h;unfold P5;rw[if_pos hk];exact h
 ·have d1:decide (t.W<=k)=true:=decide_eq_true (by omega)
  have hkl:=d.X.lt;have ⟨u6,U6,g6,s6⟩:=hSm U5 w u5 _ (k-t.W) w5.pw w5.y (by rw[AP];show _+1<_;omega) (by have:=d.n19;omega);have sb:Dj .i64 (AA k) (AA t.W)=AA (k-t.W):=E8 (by omega) (by have:=d.n19;omega);refine⟨u6,U6,?_,?_⟩
  ·unfold iP
   simp only[↓rP,rA,AD,AG,AB,↓AT x,d1,↓AT e5,↓AT f,sb,↓g6]
  ·have h:=(G4.behind z s5).trans s6
   rw[d1,BC]at h;unfold P5;rw[if_neg hk];exact h
theorem AD8{W y}(M:i<y)(O:(ty i).A=AA 4):jA (F24 E D W N) y ty i GO []:=by
 intro U0 U eb w u L nm nv rv Q p T k hl;have ⟨U1,P,m,Z,n1⟩:=Fh k.y [.o eb 0];have ⟨I,t,r,F,n2⟩:=Fh m.y GO.c;have ⟨U3,X,B,G,n3⟩:=Fh r.y [.int .i64 (AA 0),.h,.bool false,.bool false,.bool false,.bool false,.int .i64 (AA 0),.int .i64 (AA 0),.h,.h,.int .i64 (AA 0),.bool false,.int .i64 (AA 0)];have ⟨S,v,C,s⟩:=SH B.y G (ty i);have c:=m.trans r (λ_ _ h=>h);have l2:=c.le;have n:=B.trans C (λb hb e=>by omega);have d:=c.trans n (λ_ _ h=>h);have x:=k.Z c;refine⟨u,S,?_,by rw[BP];exact G4.behind d (G4.refl (k.Z d).pw C.y)⟩;have l:=r.X Z m.y (λh=>h);have rd:∀J,AS 13 Q (AA i) (λb o=>Bv E I b o 13 J)=J (ty i).c:=λJ=>(T.row.fr0 x.f p).all M J;have Y:=x.e;have o1:=(ty i).oneT;have K:=(ty i).oneI;have R:=(ty i).oneF;unfold Ty.c at rd v s;unfold Vc.c GO at t F;show Qy E D W (YM E D W) (.o eb 0) (AA i) (AA 4) (AA 0) .h .h (AA 0) .h U=_;unfold Qy YM;simp only[↓rP,rA,AD,↓P,↓t,↓AT l,↓AT Y,↓rd,o1,K,R,↓X,↓v,↓AT s,O]
end
theorem re:∀l,(∀v∈l,V.beq v v=true)->V.beq (.agg l) (.agg l)=true
 | [],_=>rfl | a::l,h=>by
  have b:=re l λv c=>h v (Az _ c);show (V.beq a a&&V.beq (.agg l) (.agg l))=true;rw[h a AZ,b];rfl
theorem AKo{U}{x:Ty}{t}(h:Zy U x t):V.beq (.agg x.c) (.agg x.c)=true:=re _ λv f=>by
 have i:=Ls (JX h.wn.s);have j:=Ls (JX h.R);have k:=Ls (JX h.K);unfold Ty.c at f;simp at f;rcases f with rfl|rfl|rfl|rfl|rfl|rfl|rfl|rfl|rfl|rfl|rfl|rfl|rfl<;>first|assumption|exact Be _ rfl
theorem AER(x:Ty):BH x.c=true:=by unfold Ty.c;simp only[Bg,CE,G3,G7,x.oneT,x.oneI,x.oneF,Bool.and_self]
theorem oa(x:Ty):(V.agg x.c).cells=x.c:=Dr _
def Xq(r k pl:Nat):List Nat:=P5 r k pl++(if k<r then [] else CV 8 1++FP [0])
structure TU(tl:List Cu)(t:Cu)(k j pl:Nat)(key:Nat->Nat):Prop where
 A:t.A=9
 I:t.I=true
 fk:ABo tl t.K key
 X:∃f,t.K[k]? = some f/\f.type=j
 nul:∃t',tl[j]? = some t'/\t'.A=4
 rn:t.W<=t.K.length
 r9:t.W<=9
 n19:t.K.length<=19
 pl:k<t.W->Plc t.W k pl key
section
variable {E:EB}{D:Ac}{N:Nat}{U0 U:H}{ty:Nat->Ty}{nm:BS}{nv rv tv:V}{tl:List Cu}{i:Nat}{t:Cu}{eb w:Nat}{u:V}{L:List Nat}
theorem qs(v:Ai U)(ae:Bx U eb [.o w 0,.N nm,nv,rv,tv])(T:PQ U ty nv rv tv tl)(hi:tl[i]? = some t){q k c}(aq:Bx U q c)(z:c[1]? = some (.int .i64 (AA k))):
  ∃e' U',AV E D TP Yl [(0,.o eb 0),(1,.int .i64 (AA i)),(5,.o q 0)] U=some (e',U')/\Go.Og.look e' 0=some (.o eb 0)/\Go.Og.look e' 1=some (.int .i64 (AA i))/\Go.Og.look e' 5=some (.o q 0)/\Go.Og.look e' 6=some (.o (U.j+10) 0)/\Go.Og.look e' 7=some (.o (U.j+11) 0)/\Bx U' (U.j+10) (ty i).c/\Bx U' (U.j+11) [.int .i64 (AA k)]/\Fr AH U U':=by
 have o:=(AN.1 hi).1;have hx:=T.is i t hi;have ⟨tb,cp,LL,I,ha,s⟩:∃b c L,tv = .D b 0 tl.length c/\Bx U b L/\∀k,k<tl.length->Cel L 13 k (ty k).c:=by
  rcases T.tb.row.is with ⟨h,_⟩|h
  ·omega
  ·exact h
 have ⟨c1,c2⟩:=s i o;have fw:Fr AH U ⟨U.j+14,U.F⟩:=(B7 (E:=E) v).Z;have ⟨m,u⟩:∃m,m=(⟨U.j+14,(U.j+11,.cells [.int .i64 (AA 0)])::(U.j+10,.cells [.int .i64 (AA 0),.h,.bool false,.bool false,.bool false,.bool false,.int .i64 (AA 0),.int .i64 (AA 0),.h,.h,.int .i64 (AA 0),.bool false,.int .i64 (AA 0)])::U.F⟩:H):=⟨_,rfl⟩;have N:Ai m:=by
  rw[u];intro c z;have z:U.j+14<=c:=z;rw[Aj,if_neg (by simp;omega),Aj,if_neg (by simp;omega)];exact fw.y c z
 have M:Bx m (U.j+10) [.int .i64 (AA 0),.h,.bool false,.bool false,.bool false,.bool false,.int .i64 (AA 0),.int .i64 (AA 0),.h,.h,.int .i64 (AA 0),.bool false,.int .i64 (AA 0)]:=by
  rw[u];show BX ((U.j+11,_)::(U.j+10,_)::U.F) _=_;rw[Aj,if_neg (by simp only[];omega),Aj,if_pos rfl]
 have K:Bx m (U.j+11) [.int .i64 (AA 0)]:=by
  rw[u];show BX ((U.j+11,_)::(U.j+10,_)::U.F) _=_;rw[Aj,if_pos rfl]
 have n5:m.j=U.j+14:=by rw[u]
 have ⟨U6,q1,B,q3⟩:=HM (E:=E) (D:=D) (n:=13) (x := .tmp 6) N M rfl (show (Ca [(6,V.o (U.j+10) 0),(16,.agg (ty i).c)] (.tmp 16)).cells=(ty i).c from oa _) (by rw[AER];rfl);have p:=B.X K N (by omega);have ⟨A,r1,r2,r3⟩:=HM (E:=E) (D:=D) (n:=1) (x := .tmp 7) (y := .tmp 18) (e:=[(7,.o (U.j+11) 0),(18,.int .i64 (AA k))]) B.y p rfl (show (Ca [(7,V.o (U.j+11) 0),(18,.int .i64 (AA k))] (.tmp 18)).cells=[.int .i64 (AA k)] from rfl) rfl;have r:Bx A (U.j+10) (ty i).c:=r2.X q3 B.y (by omega);have j:Bx A (U.j+11) [.int .i64 (AA k)]:=r3;have go:JR E D U 14 0 AH TP Yl ⟨[(0,.o eb 0),(1,.int .i64 (AA i)),(5,.o q 0)],U.j+14,[U.F],[],0,[]⟩ _ A:=
  C0 (.o eb 0) rfl rfl <|
  C0 (.o eb 0) rfl rfl <|
  C0 (.o eb 1) rfl rfl <|
  C0 (.o eb 4) rfl rfl <|
  Hg tv (B7 v) rfl (Cj (b:=eb) (off:=4) rfl ae rfl v (λe=>e) T.bq.2.2) λ_ k1=>
  C0 (.int .i64 (AA i)) rfl rfl <|
  C0 (.o tb (0+i*13)) rfl (HE I rfl o) <|
  Hg (.agg (ty i).c) k1 rfl (Fu (b:=tb) (off:=0+i*13) rfl ha (by rw[Bn];omega) (by rw[BV];exact c2) v (λe=>e) (AKo hx)) λ_ k2=>
  C0 (.o q 1) rfl rfl <|
  Hg (.int .i64 (AA k)) k2 rfl (Cj (b:=q) (off:=1) rfl aq z v (λe=>e) (Be _ rfl)) λ_ k3=>
  Zc (.o (U.j+10) 0) (.cells [.int .i64 (AA 0),.h,.bool false,.bool false,.bool false,.bool false,.int .i64 (AA 0),.int .i64 (AA 0),.h,.h,.int .i64 (AA 0),.bool false,.int .i64 (AA 0)]) 1024 k3 rfl (by decide) rfl rfl λ_ k4=>
  Zc (.o (U.j+11) 0) (.cells [.int .i64 (AA 0)]) 3072 k4 rfl (by decide) (by decide) rfl λ_ k5=>
  gY .i5 (by rw[<-u]at k5;exact k5) rfl (by decide) (S':=λc=>c=U.j+10) B (λc h h1=>by omega) (λc h h1 h2=>by subst h;rw[DL];rfl) q1 λ_ _ _ k6=>
  gY .i5 k6 rfl (by decide) (S':=λc=>c=U.j+11) r2 (λc h h1=>by omega) (λc h h1 h2=>by subst h;rw[DL];rfl) r1 λ_ _ _ k7=>
  KO k7
 have ⟨d1,d2⟩:=Ia (ops:=TP) go;exact⟨_,A,d1,rfl,rfl,rfl,rfl,rfl,r,j,d2⟩
theorem qq(hO:AAL (D 97))(hX:TF (D 88))(hB:TG (D 84))(ht0:Ai U0)(T:PQ U0 ty nv rv tv tl)(hi:tl[i]? = some t)(d:Wk U0 U eb w u [.N nm,nv,rv,tv] L)(hl:L.length<1000000){x:Ty}{q qv m k pl key}(aq:Bx U q x.c)(oq:Gy U w u q)(ak:Bx U m [.int .i64 (AA k)])(ok:Gy U w u m)(hr:x.W=AA t.W)(hk9:t.A=9)(r:ABo tl t.K key)(hk:k<t.W)(A:t.W<=t.K.length)(h9:t.W<=9)(hn:t.K.length<=19)(hp:Plc t.W k pl key):
  ∃e' u' U',AV E D TO Yk [(0,.o eb 0),(1,.int .i64 (AA i)),(5,.o qv 0),(6,.o q 0),(7,.o m 0)] U=some (e',U')/\Go.Og.look e' 0=some (.o eb 0)/\Go.Og.look e' 5=some (.o qv 0)/\Go.Og.look e' 6=some (.o q 0)/\Go.Og.look e' 7=some (.o m 0)/\G4 U w u U' u' (L++CV (wd (t.W-1)) pl):=by
 have f:=d.y;have fw:Fr AH U ⟨U.j+18,U.F⟩:=(B7 (E:=E) f).Z;have f0:Fr AH U0 ⟨U.j+18,U.F⟩:=d.f.trans fw (λ_ _ e=>e);have ⟨vs,v,U1,g1,n,q1,s1,f1⟩:=hO (nm:=nm) fw.y (T.Z f0 ht0) hi ⟨hk9,r⟩ (by omega) A hn;have p:Fr AH U U1:=fw.trans f1 (λ_ _ e=>e);have z:(vs++Da t.W (t.K.length-t.W)).length=t.K.length:=by
  rw[AP,n.length_eq,Ho,AJC];omega
 have g:k∈vs:=n.mem_iff.2 (EV.2 hk);have g2:=hX U1 v (vs++Da t.W (t.K.length-t.W)) k (by rw[z];exact s1) (by omega) (List.mem_append_left _ g);have ei:(vs++Da t.W (t.K.length-t.W)).idxOf k=pl:=by rw[ATJ,if_pos g];exact hp vs n q1
 rw[ei]at g2;have hpl:pl<=t.W-1:=by
  have h1:=hp vs n q1;have h2:=AY2.2 g;rw[h1,n.length_eq,Ho]at h2;omega
 have w1:=d.Z p;have ⟨u2,U2,g3,s3⟩:=hB U1 w u L pl (t.W-1) w1.pw w1.y (by omega) hpl (by omega);have lw:∀b,J3 w u b->b<U.j:=λb o=>by
  rcases o with o|o
  ·subst o;exact d.pw.X.lt f
  ·exact d.pw.d.lt f o
 have ae:=d.e;have l:=aq;unfold Ty.c at l;have vl:v.J=true:=GR s1.S;have go:JR E D U 18 0 (J3 w u) TO Yk ⟨[(0,.o eb 0),(1,.int .i64 (AA i)),(5,.o qv 0),(6,.o q 0),(7,.o m 0)],U.j+18,[U.F],[],0,[]⟩ _ U2:=
  C0 (.o eb 0) rfl rfl <|
  C0 (.o eb 0) rfl rfl <|
  C0 (.o eb 0) rfl rfl <|
  Hg (.o w 0) (B7 f) rfl (Cj rfl ae rfl f d.eo.not (Be _ rfl)) λ_ r1=>
  C0 (.o eb 0) rfl rfl <|
  C0 (.o eb 0) rfl rfl <|
  C0 (.o eb 1) rfl rfl <|
  Hg (.agg [.N nm,nv,rv,tv]) r1 rfl (Fu rfl ae rfl rfl f d.eo.not (oz T)) λ_ r2=>
  C0 (.int .i64 (AA i)) rfl rfl <|
  LQ v r2 rfl (by decide) f1 (λ_ _ h=>h.elim) (λ_ h _ _=>h) (Eb rfl rfl g1) λ_ _ _ r3=>
  Hg (.int .i64 (AA k)) r3 rfl (Cj rfl ak rfl f ok.not (Be _ rfl)) λ_ r3'=>
  LQ (.int .i64 (AA pl)) r3' rfl (by decide) (Fr.refl f1.y) (λ_ _ h=>h.elim) (λ_ h _ _=>h) (Eb (vs:=[v,.int .i64 (AA k)]) rfl (by
   show (v.J&&true)=true;rw[vl];rfl) g2) λ_ _ _ r4=>
  C0 (.int .u64 (AA pl)) rfl (PK (k:=0) rfl (by omega)) <|
  C0 (.o q 10) rfl rfl <|
  Hg (.int .i64 (AA t.W)) r4 rfl (Cj (b:=q) (off:=10) rfl l (by rw[hr];rfl) f oq.not (Be _ rfl)) λ_ r5=>
  C0 (.int .i64 (AA (t.W-1))) rfl (ql rfl (by omega) (by omega)) <|
  C0 (.int .u64 (AA (t.W-1))) rfl (PK (k:=0) rfl (by omega)) <|
  LQ (.B []) r5 rfl (by decide) (S':=J3 w u) s3.f (λ_ _ h=>h) (λb h h1 _=>by have:=lw b h;omega) (Eb (vs:=[.o w 0,.int .u64 (AA pl),.int .u64 (AA (t.W-1))]) rfl rfl g3) λ_ _ _ r6=>
  KO r6
 have ⟨d1,d2⟩:=Ia (ops:=TO) go;exact⟨_,u2,U2,d1,rfl,rfl,rfl,rfl,G4.behind p s3⟩
def tX(F:List V->H->AE):Prop:=∀{a U1 ty nm e h d tl}{t:Cu}{c g qv k j b i}{x:Ty}{l:V}{h1}{f:BW},Ai a->PQ a ty e h d tl->Bx a c x.c->Cv a 11 t.K.length x.K (Ie t.K)->t.K[k]? = some f->f.type=j->(∃t',tl[j]? = some t'/\t'.A=4)->Bx a g [.int .i64 (AA k)]->Bx a qv (Jz k l h1).c->MY a 6 1 l (λ_=>GO.c)->Wk a U1 b i .h [.N nm,e,h,d] [] ->
 ∃m U',F ([]++[.o b 0]++[.o c 0,.o g 0,.o qv 0]) U1=some (.B [],U')/\G4 U1 i .h U' m []
theorem AMF(L:∀{v ty j},j<v->(ty j).A=AA 4->jA (D 24) v ty j GO []):tX (F96 E D (AV E D) N):=by
 intro U0 U1 ty nm K W M tl t Z P qv k j m U x l h1 f c T X p F hj i ak O R d;have ⟨t',g,q⟩:=i;have u:=(AN.1 g).1;have s:=(AN.1 F).1;have ⟨Y,U2,y,S⟩:=L u (by rw[(T.is j t' g).A,q]) U0 U1 m U .h [] nm K W M c T.tb d (by decide);refine⟨Y,U2,?_,S⟩;have w:=d.f.X X c (λh=>h);have I:=d.f.X ak c (λh=>h);have C:=d.f.X O c (λh=>h);have B:∀J,AS 11 x.K (AA k) (λb o=>DF E U1 b (AM o 1) J)=J (.int .i64 (AA f.type)):=λJ=>EM (p.Z d.f c (λ_ _ e=>e)) s (by decide) (QV _ _ _ F) J;have G:∀J,AS 6 l (AA 0) (λb o=>Bv E U1 b o 6 J)=J GO.c:=λJ=>(R.fr0 d.f c).all Nat.one_pos J;rw[hj]at B;unfold Ty.c at w;unfold Vc.c Jz at C;unfold Vc.c GO at G y;show rz E D (AV E D) (.o m 0) (.o Z 0) (.o P 0) (.o qv 0) U1=_;unfold rz;simp only[↓rP,↓AT w,↓AT I,↓AT C,↓B,↓G,↓y]
def YT(F:List V->H->AE):Prop:=∀{a U ty nm b d c tl i}{t:Cu}{eb w}{u l:V}{h1}{L:List Nat}{k j pl key},Ai a->PQ a ty b d c tl->tl[i]? = some t->Wk a U eb w u [.N nm,b,d,c] L->L.length<100000->TU tl t k j pl key->MY a 6 1 l (λ_=>GO.c) ->
 ∃e U',F [.o eb 0,.int .i64 (AA i),.agg (Jz k l h1).c] U=some (.B [],U')/\G4 U w u U' e (L++Xq t.W k pl)
theorem AMD(hFl:PU (D 43))(hSm:jE (D 87))(hO:AAL (D 97))(hX:TF (D 88))(hB:TG (D 84)){D':Ac}(hOp:VT (D 95) D')(hC1:tX (D' 96))(hV:∀{nT:Nat}{ty:Nat->Ty}{j:Nat},j<nT->(ty j).A=AA 4->jA (D 24) nT ty j GO []):YT (F55 E D (AV E D) N):=by
 intro U0 U ty nm nv rv tv tl i t eb w u l h1 L k j pl key d T hi wk hl p hr;have ht:=wk.y;have ⟨f,hf,hj⟩:=p.X;have hkl:=(AN.1 hf).1;have n19:=p.n19;have ⟨U1,e1,f1,a1,n1⟩:=Fh ht (Jz k l h1).c;have w1:=wk.Z f1;have T1:=T.Z w1.f d;have ⟨e2,U2,g2,t0,t1,t5,t6,t7,ax2,ak2,f2⟩:=qs (E:=E) (D:=D) f1.y w1.e T1 hi a1 rfl;have f02:=f1.trans f2 (λ_ _ e=>e);have y:=wk.Z f02;have T2:=T.Z y.f d;have x2:=T2.is i t hi;have av2:=f2.X a1 f1.y (λe=>e);have ox:Gy U2 w u (U1.j+10):=Gy.pw wk.pw ht (by omega) (ax2.lt f2.y);have oK:Gy U2 w u (U1.j+11):=Gy.pw wk.pw ht (by omega) (ak2.lt f2.y);have oV:Gy U2 w u U.j:=Gy.pw wk.pw ht (AL _) (av2.lt f2.y);have ⟨u3,U3,g3,x⟩:=hFl U2 eb w u L (decide (t.W<=k)) _ y.e y.pw y.y (by omega);have n:=y.step x;have ax3:=x.X y.y ox ax2;have r:=x.X y.y oK ak2;have av3:=x.X y.y oV av2;have ox3:=x.off ox;have oK3:=x.off oK;have oV3:=x.off oV;have em:(ty i).I=true:=by rw[x2.I,p.I]
 have er:(ty i).W=AA t.W:=x2.W;have gd2:∀J:CF->H->AE,CM (AV E D TP Yl [(0,.o eb 0),(1,.int .i64 (AA i)),(5,.o U.j 0)] U1) J=J e2 U2:=λJ=>by rw[g2];rfl
 have y0:∀J:V->AE,Bj e2 0 J=J (.o eb 0):=λJ=>Bc t0 rfl;have y1:∀J:V->AE,Bj e2 1 J=J (.int .i64 (AA i)):=λJ=>Bc t1 rfl;have y5:∀J:V->AE,Bj e2 5 J=J (.o U.j 0):=λJ=>Bc t5 rfl;have y6:∀J:V->AE,Bj e2 6 J=J (.o (U1.j+10) 0):=λJ=>Bc t6 rfl;have y7:∀J:V->AE,Bj e2 7 J=J (.o (U1.j+11) 0):=λJ=>Bc t7 rfl;have s:=ax2;have g:=ax3;unfold Ty.c at s g;rw[em,er]at s g;have e1c:=e1;have av2c:=av2;have z:=av3;unfold Vc.c Jz at e1c av2c z;show ∃u' U',iM E D (AV E D) (iL E D (AV E D)) eb 0 (AA i) (AA 9) (AA k) .h l (AA 0) .h U=_/\_;have key0:∀K1,iM E D (AV E D) K1 eb 0 (AA i) (AA 9) (AA k) .h l (AA 0) .h U=K1 eb 0 (AA i) U.j 0 (U1.j+10) 0 (U1.j+11) 0 false U3:=by
  intro K1;unfold iM;simp only[↓rP,rA,AD,AG,AB,h1,↓e1c,↓gd2,↓y0,↓y1,↓y5,↓y6,↓y7,↓AT av2c,↓AT s,↓AT ak2,↓g3]
 rw[key0];have e3:=n.e;have hl3:(L++[if decide (t.W<=k)=true then 1 else 0]).length<100002:=by rw[AP];show _+1<_;omega
 by_cases hk:k<t.W
 ·have d1:decide (t.W<=k)=false:=decide_eq_false (by omega)
  have ⟨e4,u4,U4,g4,z0,z5,z6,z7,q⟩:=qq (E:=E) (D:=D) (qv:=U.j) hO hX hB d T hi n (by omega) ax3 ox3 r oK3 er p.A p.fk hk p.rn p.r9 p.n19 (p.pl hk);have A:=n.step q;have ax4:=q.X n.y ox3 g;have ak4:=q.X n.y oK3 r;have av4:=q.X n.y oV3 z;have T4:=T.Z A.f d;have x4:=T4.is i t hi;have ⟨t',ht',hk4⟩:=p.nul;have hjl:=(AN.1 ht').1;have ⟨u5,U5,g5,s5⟩:=hV (ty:=ty) hjl (by rw[(T.is j t' ht').A,hk4]) U0 U4 eb w u4 _ nm nv rv tv d T.tb A (by
   have:=Wj (t.W-1);rw[AP,Cw];omega)
  have gd4:∀J:CF->H->AE,CM (AV E D TO Yk [(0,.o eb 0),(1,.int .i64 (AA i)),(5,.o U.j 0),(6,.o (U1.j+10) 0),(7,.o (U1.j+11) 0)] U3) J=J e4 U4:=λJ=>by rw[g4];rfl
  have v0:∀J:V->AE,Bj e4 0 J=J (.o eb 0):=λJ=>Bc z0 rfl;have v5:∀J:V->AE,Bj e4 5 J=J (.o U.j 0):=λJ=>Bc z5 rfl;have v6:∀J:V->AE,Bj e4 6 J=J (.o (U1.j+10) 0):=λJ=>Bc z6 rfl;have v7:∀J:V->AE,Bj e4 7 J=J (.o (U1.j+11) 0):=λJ=>Bc z7 rfl;have rf:∀J,AS 11 (ty i).K (AA k) (λb o=>DF E U4 b (AM o 1) J)=J (.int .i64 (AA f.type)):=λJ=>EM x4.K hkl (by decide) (QV _ _ _ hf) J;have rl:∀J,AS 6 l (AA 0) (λb o=>Bv E U4 b o 6 J)=J GO.c:=λJ=>(hr.fr0 A.f d).all Nat.one_pos J;rw[hj]at rf;unfold Vc.c GO at rl g5;refine⟨u5,U5,?_,?_⟩
  ·unfold iL
   simp only[↓rP,rA,AD,AG,AB,↓AT r,↓AT g,d1,↓gd4,↓v0,↓v5,↓v6,↓v7,↓AT ax4,↓AT ak4,↓rf,↓AT av4,↓rl,↓g5]
  ·have h:=((G4.behind f02 x).trans q).trans s5
   rw[d1,BP,BC]at h;unfold Xq P5;rw[if_pos hk,if_pos hk,BP];exact h
 ·have d1:decide (t.W<=k)=true:=decide_eq_true (by omega)
  have ⟨u4,U4,g4,q⟩:=hSm U3 w u3 _ (k-t.W) n.pw n.y (by omega) (by omega);have A:=n.step q;have ax4:=q.X n.y ox3 ax3;have ak4:=q.X n.y oK3 r;have av4:=q.X n.y oV3 av3;have T4:=T.Z A.f d;have x4:=T4.is i t hi;have ⟨u5,U5,g5,s5⟩:=hOp (X:=[]) A T.tb.n1 T.tb.r1 T.tb.t1 (by rw[AP,Cw];omega) (by decide) (λU6 eb1 w1' wk1=>hC1 A.y T4 ax4 x4.K hf hj p.nul ak4 av4 (hr.fr0 A.f d) wk1);have sb:Dj .i64 (AA k) (AA t.W)=AA (k-t.W):=E8 (by omega) (by omega);refine⟨u5,U5,?_,?_⟩
  ·unfold iL
   simp only[↓rP,rA,AD,AG,AB,↓AT r,↓AT g,d1,↓AT e3,sb,↓g4,↓g5]
  ·have h:=((G4.behind f02 x).trans q).trans s5
   rw[d1,BC,BC]at h;unfold Xq P5;rw[if_neg hk,if_neg hk,BC];exact h
end
structure ArI(E:EB)(v:V)(n:Nat)(f:Nat->Int):Prop where
 len:∀J:Nat->AE,Ao v J=J n
 rd:∀(U:H) (i:Nat) (J:V->AE),i<n->BX U.F 50=none->AS 1 v (AA i) (λb o=>DF E U b o J)=J (.int .i64 (f i))
def YV(F:List V->H->AE):Prop:=∀U,Ai U->∃U',F [] U=some (.bool true,U')/\Fr AH U U'
theorem ATu v:An .u64 v=v % 18446744073709551616:=by rw[EJ];rfl
theorem pR a m (f:0<m)(h:m<=1000000):∃r,r<m/\An .i64 (EW (An .u64 a) (AA m))=AA r:=by
 have ⟨k,e⟩:∃k,An .u64 a=AA k:=by
  rw[ATu];exact Int.eq_ofNat_of_zero_le (Int.emod_nonneg _ (by decide))
 have g:EW (AA k) (AA m)=AA (k % m):=rfl;have:=Jr k f;exact⟨k % m,this,by rw[e,g];exact BJ (show k % m<=9223372036854775807 by omega)⟩
structure Tx(l:List Nat)(n:Nat):Prop where
 b:∀c∈l,c<256
 n:l.length<=n
theorem Tx.app{l m a b}(h:Tx l a)(k:Tx m b):Tx (l++m) (a+b):=⟨λc e=>(CN.1 e).elim (h.b c) (k.b c),by have:=h.n;have:=k.n;rw[AP];omega⟩
theorem Tx.le{l a b}(h:Tx l a)(k:a<=b):Tx l b:=⟨h.b,by have:=h.n;omega⟩
theorem Dk{l m a b}(h:Tx l a)(k:Tx m b)(d:a+b<=5000) J:DI (BB l) (BB m) J=J (BB (l++m)):=qu h.b k.b (by have:=h.n;have:=k.n;omega) J
theorem fM{n}(h:n<100):Tx (uW n) 2:=⟨Wq h,(Lq ⟨n,h⟩).2.1⟩
def yS:List Nat:=[93,32,78,85,76,76]
theorem AKp:Tx yS 6:=⟨by decide,by decide⟩
theorem kV{c}(h:c<256):Tx [c] 1:=⟨λx b=>by rw[B5.1 b];exact h,AL 1⟩
theorem fO:Tx [32,91] 2:=⟨by decide,by decide⟩
theorem fN:Tx [32,40] 2:=⟨by decide,by decide⟩
theorem Wz:Tx [44,32] 2:=⟨by decide,by decide⟩
theorem OJ:Tx [44,32,46,46,46] 5:=⟨by decide,by decide⟩
theorem AB4{e}(h:Dm e):Tx (Jh e) 13:=⟨(gp h).1,(gp h).2⟩
theorem AB5{e}(h:Dm e):Tx (Jg e) 13:=⟨(gh h).1,(gh h).2⟩
theorem qz:BS.mk 6 83890732408925=BB yS:=by decide +kernel
theorem ACb:BS.mk 2 23328=BB [32,91]:=by grind [BB]
theorem ACa:BS.mk 2 10272=BB [32,40]:=by grind [BB]
theorem ACZ:BS.mk 1 41=BB [41]:=by grind [BB]
theorem AUS:BS.mk 1 102=BB [102]:=by grind [BB]
theorem AUT:BS.mk 1 101=BB [101]:=by grind [BB]
theorem ACd:BS.mk 2 8236=BB [44,32]:=by grind [BB]
theorem AML:BS.mk 3 6758444=BB [44,32,103]:=by grind [BB]
theorem AMK:BS.mk 3 6823980=BB [44,32,104]:=by grind [BB]
theorem ACc:BS.mk 5 198343270444=BB [44,32,46,46,46]:=by grind [BB]
section
variable {E:EB}{D:Ac}{N:Nat}
theorem AD9{W}(Z:YR (D 45)):YR (F24 E D W N):=by
 intro U0 U ty nm nv rv X tl i t eb w u L m n pl key l T A k hl P;have y:=(AN.1 A).1;have ⟨U1,e1,s,a1,n1⟩:=Fh k.y [.o eb 0];have ⟨U2,K,p,F,n2⟩:=Fh s.y (Lo n).c;have ⟨U3,e3,I,a3,n3⟩:=Fh p.y [.int .i64 (AA 0),.h,.bool false,.bool false,.bool false,.bool false,.int .i64 (AA 0),.int .i64 (AA 0),.h,.h,.int .i64 (AA 0),.bool false,.int .i64 (AA 0)];have ⟨U4,C,Q,z⟩:=SH I.y a3 (ty i);have d:=s.trans p (λ_ _ h=>h);have l2:=d.le;have c:=I.trans Q (λb hb e=>by omega);have j:=d.trans c (λ_ _ h=>h);have O:=k.Z d;have ⟨S,Y,B,R⟩:=Z l T A (k.Z j) hl P;refine⟨S,Y,?_,G4.behind j R⟩;have f:=p.X a1 s.y (λh=>h);have x:=c.X f p.y (λh=>h);have g:=c.X F p.y (λh=>h);have rd:∀J,AS 13 X (AA i) (λb o=>Bv E U2 b o 13 J)=J (ty i).c:=λJ=>(T.tb.row.fr0 O.f l).all y J;have ee:=O.e;have o1:=(ty i).oneT;have o2:=(ty i).oneI;have o3:=(ty i).oneF;have hk:(ty i).A=AA 3:=by rw[(T.is i t A).A,P.A]
 unfold Ty.c at rd C z;rw[hk]at z;unfold Vc.c Lo at K F g B;show Qy E D W (YM E D W) (.o eb 0) (AA i) (AA 3) (AA n) .h .h (AA 0) .h U=_;unfold Qy;simp only[↓rP,rA,AD,AB,↓e1,↓K,↓AT f,↓AT ee,↓rd,o1,o2,o3,↓e3,↓C,↓AT z,↓AT x,↓BU g,↓B]
theorem AEA{W}(hE:YT (D 55)):YT (F24 E D W N):=by
 intro U0 U ty nm nv rv tv tl i t eb w u l h1 L m j pl key p T A k Z Q hr;have y:=(AN.1 A).1;have ⟨U1,e1,z,S,n1⟩:=Fh k.y [.o eb 0];have ⟨U2,C,q,M,n2⟩:=Fh z.y (Jz m l h1).c;have ⟨U3,e3,K,a3,n3⟩:=Fh q.y [.int .i64 (AA 0),.h,.bool false,.bool false,.bool false,.bool false,.int .i64 (AA 0),.int .i64 (AA 0),.h,.h,.int .i64 (AA 0),.bool false,.int .i64 (AA 0)];have ⟨U4,F,R,v⟩:=SH K.y a3 (ty i);have d:=z.trans q (λ_ _ h=>h);have l2:=d.le;have c:=K.trans R (λb hb e=>by omega);have n:=d.trans c (λ_ _ h=>h);have P:=k.Z d;have ⟨Y,U5,G,X⟩:=hE (h1:=h1) p T A (k.Z n) Z Q hr;refine⟨Y,U5,?_,G4.behind n X⟩;have f:=q.X S z.y (λh=>h);have x:=c.X f q.y (λh=>h);have g:=c.X M q.y (λh=>h);have rd:∀J,AS 13 tv (AA i) (λb o=>Bv E U2 b o 13 J)=J (ty i).c:=λJ=>(T.tb.row.fr0 P.f p).all y J;have ee:=P.e;have o1:=(ty i).oneT;have o2:=(ty i).oneI;have o3:=(ty i).oneF;have hk:(ty i).A=AA 9:=by rw[(T.is i t A).A,Q.A]
 unfold Ty.c at rd F v;rw[hk]at v;unfold Vc.c Jz at C M g G;show Qy E D W (YM E D W) (.o eb 0) (AA i) (AA 9) (AA m) .h l (AA 0) .h U=_;unfold Qy;simp only[↓rP,rA,AD,AB,h1,↓e1,↓C,↓AT f,↓AT ee,↓rd,o1,o2,o3,↓e3,↓F,↓AT v,↓AT x,↓BU g,↓G]
theorem Od(b:FQ 19 (D 6)){U}(c:Ai U){n}(d:n<100):∃U',D 6 [.int .u64 (AA n)] U=some (.N (BB (uW n)),U')/\Fr AH U U':=b U n c (by show n<100000000000000000000;omega) (by omega)
theorem AKj{W}(j:FQ 19 (D 6)){U}(ht:Ai U){c e}(C:Tx c 2000)(K:Tx e 2000){i r}(u:i<100)(t:r<100):
  ∃U',Fr AH U U'/\∀q a b s f,AAG E D W q a b s (BB c) (BB e) f (AA i) (AA r) U=q a b s (BB (c++Jh (102,i,r))) (BB (e++Jg (101,i,r))) f (AA i) U':=by
 have ⟨U1,g1,v⟩:=Od j ht u;have ⟨U2,Q,G⟩:=Od j v.y t;have ⟨U3,X,w⟩:=Od j G.y u;have ⟨T,P,f4⟩:=Od j w.y t;refine⟨T,((v.trans G (λ_ _ h=>h)).trans w (λ_ _ h=>h)).trans f4 (λ_ _ h=>h),λq a b s f=>?_⟩;have wi:An .u64 (AA i)=AA i:=BJ (show i<=18446744073709551615 by omega);have O:An .u64 (AA r)=AA r:=BJ (show r<=18446744073709551615 by omega);have p:=fM u;have n:=fM t;have y:=C.app (kV (show 102<256 by decide));have B:=y.app p;have A:=B.app fO;have M:=A.app n;have c1:∀J,DI (BB c) (BS.mk 1 102) J=J _:=λJ=>by rw[AUS];exact Dk C (kV (show 102<256 by decide)) (by decide) J
 have c2:=Dk y p (by decide);have Y:∀J,DI (BB (c++[102]++uW i)) (BS.mk 2 23328) J=J _:=λJ=>by rw[ACb];exact Dk B fO (by decide) J
 have c4:=Dk A n (by decide);have c5:∀J,DI (BB (c++[102]++uW i++[32,91]++uW r)) (BS.mk 6 83890732408925) J=J (BB (c++Jh (102,i,r))):=λJ=>by
  rw[qz,Dk M AKp (by decide)];unfold Jh yS;simp
 have F:=K.app (kV (show 101<256 by decide));have x:=F.app p;have z:=x.app fN;have R:=z.app n;have S:∀J:BS->AE,DI (BB e) (BS.mk 1 101) J=J _:=λJ=>by rw[AUT];exact Dk K (kV (show 101<256 by decide)) (by decide) J
 have L:∀J:BS->AE,DI (BB (e++[101])) (BB (uW i)) J=J _:=Dk F p (by decide);have d3:∀J:BS->AE,DI (BB (e++[101]++uW i)) (BS.mk 2 10272) J=J _:=λJ=>by rw[ACa];exact Dk x fN (by decide) J
 have Z:∀J:BS->AE,DI (BB (e++[101]++uW i++[32,40])) (BB (uW r)) J=J _:=Dk z n (by decide);have N:∀J:BS->AE,DI (BB (e++[101]++uW i++[32,40]++uW r)) (BS.mk 1 41) J=J (BB (e++Jg (101,i,r))):=λJ=>by
  rw[ACZ,Dk R (kV (show 41<256 by decide)) (by decide)];unfold Jg;simp
 unfold AAG;simp only[↓rP,rS,↓c1,wi,O,↓g1,↓c2,↓Y,↓Q,↓c4,↓c5,↓S,↓X,↓L,↓d3,↓P,↓Z,↓N]
theorem AKi{W}(j:FQ 19 (D 6)){U}(ht:Ai U){c e}(F:Tx c 2000)(K:Tx e 2000){i m}(hi:i<m)(hm:m<=3):
  ∃U',Fr AH U U'/\∀K5 s a (f:V),sj E D W K5 s a (AA m) (BB c) (BB e) f (AA i) U=s a (AA m) (BB (c++([44,32]++Jh (103,i,70+i)))) (BB (e++([44,32]++Jg (104,i,70+i)))) f (AA (i+1)) U':=by
 have n:i<100:=by omega
 have l:70+i<100:=by omega
 have ⟨U1,g1,t⟩:=Od j ht n;have ⟨U2,g2,G⟩:=Od j t.y l;have ⟨U3,R,v⟩:=Od j G.y n;have ⟨X,g4,f4⟩:=Od j v.y l;refine⟨X,((t.trans G (λ_ _ h=>h)).trans v (λ_ _ h=>h)).trans f4 (λ_ _ h=>h),λK5 s a f=>?_⟩;have wi:An .u64 (AA i)=AA i:=BJ (show i<=18446744073709551615 by omega);have Q:An .u64 (AA (70+i))=AA (70+i):=BJ (show 70+i<=18446744073709551615 by omega);have ad:BQ .i64 (AA 70) (AA i)=AA (70+i):=Al (by omega);have r:=fM n;have q:=fM l;have B:Tx [44,32,103] 3:=⟨by decide,by decide⟩;have y:Tx [44,32,104] 3:=⟨by decide,by decide⟩;have z:=F.app B;have w:=z.app r;have u:=w.app fO;have O:=u.app q;have c1:∀J:BS->AE,DI (BB c) (BS.mk 3 6758444) J=J _:=λJ=>by rw[AML];exact Dk F B (by decide) J
 have c2:∀J:BS->AE,DI (BB (c++[44,32,103])) (BB (uW i)) J=J _:=Dk z r (by decide);have Z:∀J:BS->AE,DI (BB (c++[44,32,103]++uW i)) (BS.mk 2 23328) J=J _:=λJ=>by rw[ACb];exact Dk w fO (by decide) J
 have N:∀J:BS->AE,DI (BB (c++[44,32,103]++uW i++[32,91])) (BB (uW (70+i))) J=J _:=Dk u q (by decide);have P:∀J:BS->AE,DI (BB (c++[44,32,103]++uW i++[32,91]++uW (70+i))) (BS.mk 6 83890732408925) J=J (BB (c++([44,32]++Jh (103,i,70+i)))):=λJ=>by
  rw[qz,Dk O AKp (by decide)];unfold Jh yS;simp
 have C:=K.app y;have x:=C.app r;have A:=x.app fN;have S:=A.app q;have T:∀J:BS->AE,DI (BB e) (BS.mk 3 6823980) J=J _:=λJ=>by rw[AMK];exact Dk K y (by decide) J
 have M:∀J:BS->AE,DI (BB (e++[44,32,104])) (BB (uW i)) J=J _:=Dk C r (by decide);have d3:∀J:BS->AE,DI (BB (e++[44,32,104]++uW i)) (BS.mk 2 10272) J=J _:=λJ=>by rw[ACa];exact Dk x fN (by decide) J
 have d4:∀J:BS->AE,DI (BB (e++[44,32,104]++uW i++[32,40])) (BB (uW (70+i))) J=J _:=Dk A q (by decide);have Y:∀J:BS->AE,DI (BB (e++[44,32,104]++uW i++[32,40]++uW (70+i))) (BS.mk 1 41) J=J (BB (e++([44,32]++Jg (104,i,70+i)))):=λJ=>by
  rw[ACZ,Dk S (kV (show 41<256 by decide)) (by decide)];unfold Jg;simp
 have L:decide (i<m)=true:=decide_eq_true hi;unfold sj;simp only[↓rP,rA,AD,AG,AB,L,↓c1,wi,ad,Q,↓g1,↓c2,↓Z,↓g2,↓N,↓P,↓T,↓R,↓M,↓d3,↓g4,↓d4,↓Y,Al (show i+1<=9223372036854775807 by omega)]
end
def cT(xs:List Nat):List Nat:=X4 Jh (Cy 102 0 xs)
def eT(xs:List Nat):List Nat:=X4 Jg (Cy 101 0 xs)
def cA(m:Nat):List Nat:=GG Jh (Cy 103 0 (EL m))
def eA(m:Nat):List Nat:=GG Jg (Cy 104 0 (EL m))
theorem Tn{g}{l:List En}(h:∀e∈l,Tx (g e) 13):Tx (GG g l) (15*l.length):=by
 induction l with
 | nil=>exact⟨(λc o=>by cases o),CA _⟩ | cons e l m=>
  have h1:=(Wz.app (h e AZ)).app (m λx n=>h x (Az _ n));have k:GG g (e::l)=([44,32]++g e)++GG g l:=rfl;rw[k];exact h1.le (by simp;omega)
theorem om{g}{l:List En}(h:∀e∈l,Tx (g e) 13):Tx (X4 g l) (15*l.length):=by
 cases l with
 | nil=>exact⟨(λc j=>by cases j),CA _⟩ | cons e l=>
  exact((h e AZ).app (Tn λx k=>h x (Az _ k))).le (by simp;omega)
theorem W0{xs:List Nat}(h:∀x∈xs,x<60)(f:xs.length<=9):Tx (cT xs) 135:=by
 have:=om (l:=Cy 102 0 xs) λe c=>AB4 (If (by decide) (by omega) (λx d=>by have:=h x d;omega) e c);exact this.le (by rw[Fq];omega)
theorem Wy{xs:List Nat}(h:∀x∈xs,x<60)(f:xs.length<=9):Tx (eT xs) 135:=by
 have:=om (l:=Cy 101 0 xs) λe c=>AB5 (If (by decide) (by omega) (λx d=>by have:=h x d;omega) e c);exact this.le (by rw[Fq];omega)
theorem PO{m a}(f:m<=3)(c:a∈[101,102,103,104]):∀e∈Cy a 0 (EL m),Dm e:=If c (by rw[Ft];omega) λx d=>by have:=KW d;omega
theorem oh{m}(b:m<=3):Tx (cA m) 45:=(Tn λe c=>AB4 (PO b (by decide) e c)).le (by rw[Fq,Ft];omega)
theorem og{m}(b:m<=3):Tx (eA m) 45:=(Tn λe c=>AB5 (PO b (by decide) e c)).le (by rw[Fq,Ft];omega)
theorem iA{g a}{xs:List Nat} r:X4 g (Cy a 0 (xs++[r]))=(match decide (0<xs.length)with
  | true=>X4 g (Cy a 0 xs)++[44,32] | false=>X4 g (Cy a 0 xs))++g (a,xs.length,r):=by
 rw[Sp,BV];cases xs with
 | nil=>
  show g (a,0,r)++GG g []=[]++g (a,0,r);simp[GG]
 | cons x xs=>
  rw[mS (by show (a,0,x)::Cy a (0+1) xs≠[];simp),decide_eq_true (by simp)]
theorem mR i:EL (i+1)=EL i++[70+i]:=by unfold EL;rw[List.range_succ,xY];rfl
theorem XQ{g a i}:GG g (Cy a 0 (EL (i+1)))=GG g (Cy a 0 (EL i))++([44,32]++g (a,i,70+i)):=by grind [mR,Sp,ZT,Ft]
section
variable {E:EB}{D:Ac}{W:AF}{N:Nat}
theorem yM (hI:RP (D 5)) (hA:YV (D 4)) (ag:FQ 19 (D 6)) {v n f} (hv:ArI E v n f) (hn:n<=9) {b c:Int} {I:H} (ht0:Ai I) (n50:BX I.F 50=none) (lt50:100<=I.j)
    {K1:Int->Int->BS->BS->V->H->AE}{L:Nat->V->Int->Int->BS->BS->V->Int->H->AE} (hL:∀q a b c d e f g s,L (q+1) a b c d e f g s=mX E D W K1 (AAG E D W (AFj E D W (L q))) a b c d e f g s)
    (hK:∀(xs:List Nat) (w:V) (U:H),xs.length=n->(∀x∈xs,x<60)->xs.Nodup->Fr AH I U->DW U 1 n w (FJ xs)->(∀b,AJ w b->I.j<=b)->∃U',K1 b c (BB (cT xs)) (BB (eT xs)) w U=some (.bool true,U')) :
    ∀(q i C:Nat) (xs:List Nat) (w:V) (U:H),i+q=n->q<C->xs.length=i->(∀x∈xs,x<60)->xs.Nodup->Fr AH I U->DW U 1 i w (FJ xs)->(∀b,AJ w b->I.j<=b) ->
      ∃U',L C v b c (BB (cT xs)) (BB (eT xs)) w (AA i) U=some (.bool true,U'):=by
  intro q;induction q with
  | zero=>
    intro i C xs w U hi af M G R K hd nw;obtain⟨C,rfl⟩:∃q,C=q+1:=⟨C-1,by omega⟩;have hi:i=n:=by omega
    subst hi;have ⟨U',g⟩:=hK xs w U M G R K hd nw;refine⟨U',?_⟩;have sl:=hv.len;have X:decide (i<i)=false:=decide_eq_false (Dp _);rw[hL,<-g];unfold mX;simp only[↓rP,rA,AD,AG,AB,↓sl,X]
  | succ q ih=>
    intro i C xs w U hi af M G R K hd nw;obtain⟨C,rfl⟩:∃q,C=q+1:=⟨C-1,by omega⟩;have Y:i<n:=by omega
    have sl:=hv.len;have X:decide (i<n)=true:=decide_eq_true Y;have ⟨r,hr,er⟩:=pR (f i) 60 (by decide) (by decide);have le:=K.le;have ac:BX U.F 50=none:=by rw[K.same 50 (by omega) (λh=>h)];exact n50
    have rd:∀J,AS 1 v (AA i) (λb o=>DF E U b o J)=J (.int .i64 (f i)):=λJ=>hv.rd U i J Y ac;have Z:=hI U w xs r (by rw[M];exact hd.src) (by omega);cases O:xs.any λy=>decide (y=r)with
    | true=>
      rw[O]at Z;obtain⟨U1,g1,T⟩:=hA U K.y;refine⟨U1,?_⟩;rw[hL];unfold mX;simp only[↓rP,rA,AD,AG,AB,↓sl,X,↓rd,er,↓Z,↓g1]
    | false=>
      rw[O]at Z;obtain⟨U1,e1,T,a1,n1⟩:=DC K.y [.int .i64 (AA r)];have x1:Cv U1 1 1 (.D U.j 0 1 (.ex 1)) [.int .i64 (AA r)] := .inr ⟨_,_,_,_,rfl,a1,AL _,rfl⟩;obtain⟨w',U2,g2,d2,m2,f2⟩:=Dd (E:=E) (bytes:=8) (hd.Z T K.y (λ_ _ h=>h)) T.y x1 rfl (by unfold Bu;simp;omega);have f01:=K.trans T (λ_ _ h=>h);have aa:Fr AH I U2:=f01.trans f2 (λb hb e=>by have:=nw b e;omega);have le1:=T.le;have S:r ∉ xs:=λh=>by
        have:(xs.any λy=>decide (y=r))=true:=List.any_eq_true.2 ⟨r,h,decide_eq_true rfl⟩;rw[O]at this;cases this
      have tc:=W0 G (by omega);have te:=Wy G (by omega);obtain⟨c',N⟩:∃z,z=(match decide (0<xs.length)with
        | true=>cT xs++[44,32] | false=>cT xs):=⟨_,rfl⟩
      obtain⟨e',P⟩:∃z,z=(match decide (0<xs.length)with
        | true=>eT xs++[44,32] | false=>eT xs):=⟨_,rfl⟩
      have ab:Tx c' 2000:=by
        rw[N];cases decide (0<xs.length)with
        | true=>exact(tc.app Wz).le (by decide) | false=>exact tc.le (by decide)
      have ae:Tx e' 2000:=by
        rw[P];cases decide (0<xs.length)with
        | true=>exact(te.app Wz).le (by decide) | false=>exact te.le (by decide)
      obtain⟨U3,f3,k4⟩:=AKj ag f2.y ab ae (show i<100 by omega) (show r<100 by omega);have ec:c'++Jh (102,i,r)=cT (xs++[r]):=by rw[N,<-M];exact(iA r).symm
      have ee:e'++Jg (101,i,r)=eT (xs++[r]):=by rw[P,<-M];exact(iA r).symm
      rw[ec,ee]at k4;have ad:=aa.trans f3 (λ_ _ h=>h);obtain⟨U',g'⟩:=ih (i+1) C (xs++[r]) w' U3 (by omega) (by omega) (by rw[AP,M];rfl) (λx h=>(CN.1 h).elim (G x) (λh=>by rw[B5.1 h];exact hr)) (by
        rw[List.nodup_append];exact⟨R,by simp,λa ha b hb e=>by rw[B5.1 hb]at e;exact S (e ▸ ha)⟩) ad (by rw[Mp];exact d2.Z f3 f2.y (λ_ _ h=>h)) (λb hb=>(m2 b hb).elim (nw b) (λe=>by omega))
      refine⟨U',?_⟩;have uo:=d2.S;have k2:∀K1 K4,mX E D W K1 K4 v b c (BB (cT xs)) (BB (eT xs)) w (AA i) U=K4 v b c (BB c') (BB e') w' (AA i) (AA r) U2:=by
        intro K1 K4;rw[N,P,M];unfold mX;cases d0:decide (0<i)with
        | true=>
          have c1:∀J:BS->AE,DI (BB (cT xs)) (BS.mk 2 8236) J=J (BB (cT xs++[44,32])):=λJ=>by rw[ACd];exact Dk tc Wz (by decide) J
          have c2:∀J:BS->AE,DI (BB (eT xs)) (BS.mk 2 8236) J=J (BB (eT xs++[44,32])):=λJ=>by rw[ACd];exact Dk te Wz (by decide) J
          simp only[↓rP,rA,AD,AG,AB,↓sl,X,↓rd,er,↓Z,↓e1,↓g2,↓Bt uo,d0,↓c1,↓c2]
        | false=>simp only[↓rP,rA,AD,AG,AB,↓sl,X,↓rd,er,↓Z,↓e1,↓g2,↓Bt uo,d0]
      rw[hL,k2,k4,<-g'];unfold AFj;rw[Al (by omega)]
theorem yO(r:FQ 19 (D 6)){c e}(K:Tx c 1000)(N:Tx e 1000){m}(O:m<=3){a w}
  {K5}{L:Nat->Int->Int->BS->BS->V->Int->H->AE} (z:∀q a b c d e f s,L (q+1) a b c d e f s=sj E D W K5 (L q) a b c d e f s) :
  ∀q i l U,i+q=m->q<l->Ai U->∃U',L l a (AA m) (BB (c++cA i)) (BB (e++eA i)) w (AA i) U=K5 a (AA m) (BB (c++cA m)) (BB (e++eA m)) w U'/\Fr AH U U':=by
 intro q;induction q with
 | zero=>
  intro i l U x v u;obtain⟨l,rfl⟩:∃q,l=q+1:=⟨l-1,by omega⟩;have x:i=m:=by omega
  subst x;refine⟨U,?_,Fr.refl u⟩;have J:decide (i<i)=false:=decide_eq_false (Dp _);rw[z];unfold sj;simp only[↓rP,rA,J]
 | succ q M=>
  intro i l U x v u;obtain⟨l,rfl⟩:∃q,l=q+1:=⟨l-1,by omega⟩;obtain⟨U1,I,A⟩:=AKi r u ((K.app (oh (m:=i) (by omega))).le (by decide)) ((N.app (og (m:=i) (by omega))).le (by decide)) (show i<m by omega) O;rw[BC,BC,show cA i++([44,32]++Jh (103,i,70+i))=cA (i+1)from XQ.symm,show eA i++([44,32]++Jg (104,i,70+i))=eA (i+1)from XQ.symm]at A;have ⟨U',P,Q⟩:=M (i+1) l U1 (by omega) (by omega) I.y;refine⟨U',?_,I.trans Q (λ_ _ h=>h)⟩;rw[z,A,P]
end
def ucT(xs:List Nat)(m:Nat):List Nat:=Tm++((cT xs++[44,32,46,46,46])++cA m)++Wo++((eT xs++[44,32,46,46,46])++eA m)++kS
theorem AEM x xs m:ucT (x::xs) m=Pg (102,0,x) (Cy 102 1 xs) (Cy 103 0 (EL m)) (101,0,x) (Cy 101 1 xs) (Cy 104 0 (EL m)):=by
 rw[<-kR];rfl
theorem AES{xs:List Nat}{m}(h:∀x∈xs,x<60)(c:xs.length<=9)(b:m<=3):Tx (ucT xs m) 600:=by
 have p0:Tx Tm 53:=⟨by decide,by decide⟩;have d:Tx Wo 22:=⟨by decide,by decide⟩;have p2:Tx kS 6:=⟨by decide,by decide⟩;exact((((p0.app (((W0 h c).app OJ).app (oh b))).app d).app (((Wy h c).app OJ).app (og b))).app p2).le (by decide)
def kT(xs:List Nat)(m k:Nat):Nat:=(xs++EL m).getD k 0
def JV(xs:List Nat)(m:Nat):List En:=Cy 102 0 xs++Cy 103 0 (EL m)
def Lp(xs:List Nat)(m:Nat):List En:=Cy 101 0 xs++Cy 104 0 (EL m)
def NO(xs:List Nat)(m:Nat):List Cu:=Ry (JV xs m) xs.length (Lp xs m) xs.length
structure UcX(xs:List Nat)(m:Nat):Prop where
 lo:0<xs.length
 n9:xs.length<=9
 h60:∀x∈xs,x<60
 nd:xs.Nodup
 m3:m<=3
section
variable {xs:List Nat}{m k:Nat}
theorem Ph:(JV xs m).length=xs.length+m:=by grind [JV,Fq,Ft]
theorem Wp:(Lp xs m).length=xs.length+m:=by grind [Lp,Fq,Ft]
theorem oS{a b}(d:k<xs.length+m){e:En}(h:(Cy a 0 xs++Cy b 0 (EL m))[k]? = some e):e.2.2=kT xs m k:=by grind [kT,JF]
theorem AB1(h:UcX xs m):(xs++EL m).Nodup:=by
 refine Hn.2 ⟨h.nd,(UQ m).imp λh=>by omega,λa f b e=>?_⟩;have h1:=h.h60 a f;have g:=KW e;omega
theorem ZA(b:k<xs.length):kT xs m k=xs.getD k 0:=by grind [kT]
theorem AEO(h1:xs.length<=k)(b:k<xs.length+m):kT xs m k=70+(k-xs.length):=by grind [kT,EL]
theorem oQ(h:UcX xs m)(o:k<xs.length):Plc xs.length k (Jn xs (xs.getD k 0) xs.length 0) (kT xs m):=λvs f j=>by
 refine pW f (j.imp_of_mem λ{a b} l n c=>?_) h.nd o;have h1:=EV.1 (f.mem_iff.1 l);have i:=EV.1 (f.mem_iff.1 n);unfold xk at c;rw[ZA h1,ZA i]at c;exact c
theorem qX{a b}(j:a≠b)(o:a∈[101,102,103,104])(n:b∈[101,102,103,104])(h:UcX xs m):ADG (Cy a 0 xs++Cy b 0 (EL m)):=by
 have l:=Ft m;have p:=h.m3;have r:=h.n9;refine⟨λe f=>?_,Xh j xs (EL m),?_⟩
 ·rcases CN.1 f with f|f
  ·exact⟨If o (by omega) (λx k=>by have:=h.h60 x k;omega) e f,by have:=(HI f).2.2.1;omega⟩
  ·exact⟨If n (by omega) (λx k=>by have:=KW k;omega) e f,by have:=(HI f).2.2.1;omega⟩
 ·rw[xY,JF,JF];exact AB1 h
theorem AEL(h:UcX xs m)(u:k<xs.length+m):TU (NO xs m) (Hw (JV xs m) xs.length) k (1+k) (Jn xs (xs.getD k 0) xs.length 0) (kT xs m):=by
 have s:=Ph (xs:=xs) (m:=m);have ty:∀j e,(JV xs m)[j]? = some e->(NO xs m)[1+j]? = some (FL e):=λj e n=>by
  have q:=(AN.1 n).1;unfold NO Ry;rw[show 1+j=j+1 by omega,Bh,CH (by rw[Bp];exact q),As,n];rfl
 have ⟨e,n⟩:∃e,(JV xs m)[k]? = some e:=⟨(JV xs m)[k],AI (by omega)⟩;have r:(Ea 1 (JV xs m)).length=xs.length+m:=by rw[GU,s]
 refine⟨rfl,rfl,λj f q=>?_,?_,⟨FL e,ty k e n,rfl⟩,?_,h.n9,?_,λp=>oQ h p⟩
 ·obtain⟨x,g,rfl⟩:=KP _ _ _ _ q
  have t:=(AN.1 g).1;exact⟨FL x,ty j x g,by show [(2,x.2.2)]=_;rw[oS (by omega) g]⟩
 ·have ⟨f,d⟩:∃f,(Ea 1 (JV xs m))[k]? = some f:=⟨(Ea 1 (JV xs m))[k],AI (by omega)⟩
  have ⟨x,_,g⟩:=KP _ _ _ _ d;exact⟨f,d,by rw[g]⟩
 ·show xs.length<=(Ea 1 (JV xs m)).length
  rw[r];omega
 ·show (Ea 1 (JV xs m)).length<=19
  have:=h.n9;have:=h.m3;rw[r];omega
theorem AEI(h:UcX xs m)(q:k<xs.length+m):Yz (Wm (Lp xs m) xs.length) k (kT xs m k) (Jn xs (xs.getD k 0) xs.length 0) (kT xs m):=by
 have r:=Wp (xs:=xs) (m:=m);have n:(((Lp xs m).map H8).map O2).length=xs.length+m:=by rw[Bp,Bp,r]
 have num:∀j (x:CS),(((Lp xs m).map H8).map O2)[j]? = some x->x.num=AA (kT xs m j):=λj x d=>by
  have s:=(AN.1 d).1;have ⟨e,o⟩:∃e,(Lp xs m)[j]? = some e:=⟨(Lp xs m)[j],AI (by omega)⟩;rw[As,As,o]at d;cases d;show AA e.2.2=_;rw[oS (by omega) o]
 have:=h.n9;have:=h.m3;refine⟨rfl,rfl,num,⟨?_,num k,λj x p d e=>?_⟩,?_,h.n9,?_,λi=>oQ h i⟩
 ·show k<(((Lp xs m).map H8).map O2).length
  rw[n];exact q
 ·have h1:=num j x d
  rw[h1]at e;have e:=AA.inj e;have nd:=AB1 h;have t:(xs++EL m).length=xs.length+m:=by rw[AP,Ft]
  unfold kT at e;rw[BK,BK,AI (show j<(xs++EL m).length by omega),AI (show k<(xs++EL m).length by omega)]at e;exact EH.1 nd j k (by omega) (by omega) p e
 ·show xs.length<=(((Lp xs m).map H8).map O2).length
  rw[n];omega
 ·show (((Lp xs m).map H8).map O2).length<=19
  rw[n];omega
end
structure UcR(tl:List Cu):Prop where
 few:tl.length<=1000
 rt:∀(i:Nat) (t:Cu),tl[i]? = some t->t.W<=t.K.length+t.R.length/\t.K.length+t.R.length<=10000
theorem AKh{xs:List Nat}{m}(h:UcX xs m):UcR (NO xs m):=by
 have:=h.n9;have:=h.m3;have h1:=Ph (xs:=xs) (m:=m);have n:=Wp (xs:=xs) (m:=m);refine⟨by unfold NO;rw[Wn];omega,λi t l=>?_⟩;have d:=Em l;unfold NO Ry at d;rcases A0.1 d with rfl|d
 ·show xs.length<=(Ea 1 (JV xs m)).length+0/\(Ea 1 (JV xs m)).length+0<=10000
  rw[GU];omega
 ·rcases CN.1 d with d|d
  ·obtain⟨e,_,rfl⟩:=Fb.1 d
   exact⟨AL 0,CA _⟩
  ·rw[B5.1 d]
   show xs.length<=0+(((Lp xs m).map H8).map O2).length/\0+(((Lp xs m).map H8).map O2).length<=10000;rw[Bp,Bp];omega
def RQ(F:List V->H->AE):Prop:=∀{U ty nm a c d tl i}{t:Cu}{l:V}{h1 k j pl key},Ai U->PQ U ty a c d tl->UcR tl->tl[i]? = some t->TU tl t k j pl key->MY U 6 1 l (λ_=>GO.c) ->
 ∃b U',F [.agg [.N nm,a,c,d],.int .i64 (AA i),.agg (Jz k l h1).c] U=some (.B [b,.int .i64 (AA 0)],U')/\Nb U U' b (nI (Im (Xq t.W k pl)))/\Fr AH U U'
def VS(F:List V->H->AE):Prop:=∀{U ty nm a c d tl i}{t:Cu}{k n pl key},Ai U->PQ U ty a c d tl->UcR tl->tl[i]? = some t->Yz t k n pl key ->
 ∃b U',F [.agg [.N nm,a,c,d],.int .i64 (AA i),.agg (Lo n).c] U=some (.B [b,.int .i64 (AA 0)],U')/\Nb U U' b (nI (Im (P5 t.W k pl)))/\Fr AH U U'
theorem Xv n v:kM (CV n v):=Qh n v
section
variable {E:EB}{D:Ac}{N:Nat}
theorem AEF(P:RQ (D 11)){U:H}(i:Ai U){ty nm B m x tl tb i1 k j pl wb xb num}{t:Cu}{key}(T:PQ U ty B m x tl)(R:UcR tl)(q:Bx U tb [.N nm,B,m,x])(W:Cv U 1 2 m [.int .i64 (AA 0),.int .i64 (AA i1)])(M:tl[0]? = some t)(ok:TU tl t k j pl key):
  ∃e' b U',AV E D mg wG [(13,.o tb 0),(15,.int .i64 (AA k)),(16,.o wb 0),(17,.o xb 0),(18,.int .i64 num)] U=some (e',U')/\Go.Og.look e' 13=some (.o tb 0)/\Go.Og.look e' 16=some (.o wb 0)/\Go.Og.look e' 17=some (.o xb 0)/\Go.Og.look e' 18=some (.int .i64 num)/\Go.Og.look e' 21=some b/\Go.Og.look e' 22=some (.int .i64 (AA 0)) /\
   By U' b (nI (Im (Xq t.W k pl)))/\Fr AH U U':=by
 have O:Fr AH U ⟨U.j+15,U.F⟩:=(B7 (E:=E) i).Z;have ⟨rb,N,rc,RL,A,ra,r0⟩:∃b o c L,m = .D b o 2 c/\Bx U b L/\L[o+0*1]? = some (.int .i64 (AA 0)):=by
  rcases W with ⟨h,_⟩|⟨b,o,c,L,e,Z,J,hm⟩
  ·omega
  ·refine⟨b,o,c,L,e,Z,?_⟩
   have:((L.drop o).take (2*1))[0]? = some (V.int .i64 (AA 0)):=by rw[<-hm];rfl
   rw[CQ (by decide),B6]at this;rw[Nat.zero_mul];exact this
 have ⟨l,z⟩:∃l,l=(⟨U.j+15,(U.j+7,.cells GO.c)::U.F⟩:H):=⟨_,rfl⟩;have I:Fr AH U l:=by
  rw[z];refine⟨λb u=>?_,FT _ _,λb u hn=>?_⟩
  ·have u:U.j+15<=b:=u
   show BX ((U.j+7,_)::U.F) b=none;rw[Aj,if_neg (by simp;omega)];exact O.y b u
  ·show BX ((U.j+7,_)::U.F) b=_
   rw[Aj,if_neg (by simp;omega)]
 have Y:Bx l (U.j+7) GO.c:=by
  rw[z];show BX ((U.j+7,_)::U.F) _=_;rw[Aj,if_pos rfl]
 have v:MY l 6 1 (V.D (U.j+7) 0 1 (.ex 1)) (λ_=>GO.c):=⟨.inr ⟨_,_,_,rfl,Y,λk G=>by
  have G:k=0:=by omega
  subst G;exact⟨by show 0*6+6<=6;decide,rfl⟩⟩⟩
 obtain⟨b,F,g3,w,S⟩:=P I.y (T.Z I i) R M ok v;have X:b.J=true:=GR w.by_.S;have lt:∀c,AJ b c->l.j<=c:=w.2;have go:JR E D U 15 0 AH mg wG ⟨[(13,.o tb 0),(15,.int .i64 (AA k)),(16,.o wb 0),(17,.o xb 0),(18,.int .i64 num)],U.j+15,[U.F],[],0,[]⟩ _ F:=
  Hg (.agg [.N nm,B,m,x]) (B7 i) rfl (Fu rfl q rfl rfl i (λe=>e) (oz T)) λ_ k1=>
  C0 (.o tb 2) rfl rfl <|
  Hg m k1 rfl (Cj rfl q rfl i (λe=>e) T.bq.2.1) λ_ k2=>
  C0 (.o rb (N+0*1)) rfl (HE A rfl (by decide)) <|
  Hg (.int .i64 (AA 0)) k2 rfl (Cj rfl ra r0 i (λe=>e) (Be _ rfl)) λ_ Q=>
  C0 (.int .i64 (AA k)) rfl rfl <|
  C0 (.agg GO.c) rfl rfl <|
  Zc (.D (U.j+7) 0 1 (.ex 1)) (.cells GO.c) 128 Q rfl (by decide) rfl rfl λ_ C=>
  C0 (.agg (Jz k (.D (U.j+7) 0 1 (.ex 1)) rfl).c) rfl rfl <|
  LQ (.B [b,.int .i64 (AA 0)]) (by rw[<-z]at C;exact C) rfl (by decide) S (λ_ _ h=>h) (λ_ h _ _=>h) (Eb rfl rfl g3) λ_ _ _ K=>
  C0 (.B [b,.int .i64 (AA 0)]) rfl rfl <|
  C0 b rfl rfl <|
  C0 (.int .i64 (AA 0)) rfl rfl <|
  C0 b rfl (QB rfl X) <|
  C0 (.int .i64 (AA 0)) rfl rfl <|
  KO K
 have ⟨d1,d2⟩:=Ia (ops:=mg) go;exact⟨_,b,F,d1,rfl,rfl,rfl,rfl,rfl,rfl,w.by_,d2⟩
theorem AEJ(hC:RQ (D 11))(hE:VS (D 11))(hA:YV (D 4))(hY:YP (D 13))(hS:YO (D 12)){U}(q:Ai U){ty nm nv B Y tl tb M k j pl n wb xb W ux}{t t':Cu}{key v}(T:PQ U ty nv B Y tl)(R:UcR tl)(s:Bx U tb [.N nm,nv,B,Y])(X:Cv U 1 2 B [.int .i64 (AA 0),.int .i64 (AA M)])(h0:tl[0]? = some t)(h1:tl[M]? = some t')(ok:TU tl t k j pl key)(O:Yz t' k n pl v)
  (hw:Wr U wb W (Xq t.W k pl)) (hx:Wr U xb ux (P5 t'.W k pl)) :
  ∃U',mW E D (AV E D) tb 0 (AA k) wb 0 xb 0 (AA n) U=some (.bool true,U'):=by
 have ⟨e',b,U1,g1,F,G,L,P,K,I,z,m⟩:=AEF (E:=E) (wb:=wb) (xb:=xb) (num:=AA n) hC q T R s X h0 ok;have ⟨c,U2,g2,Z,S⟩:=hE (nm:=nm) m.y (T.Z m q) R h1 O;have ⟨U3,g3,Q⟩:=hA U2 S.y;have u:=S.trans Q (λ_ _ e=>e);have w:=m.trans u (λ_ _ e=>e);have pb:∀r k p:Nat,kM (P5 r k p)/\(P5 r k p).length<=100:=λr k p=>by
  have:=Wj (r-1);unfold P5;split
  ·exact⟨λc i=>(CN.1 i).elim (λh=>by rw[B5.1 h];decide) (Xv _ _ c),by rw[AP,Cw];simp;omega⟩
  ·exact⟨λc i=>(CN.1 i).elim (λh=>by rw[B5.1 h];decide) (Xv _ _ c),by rw[AP,Cw];simp only[Ag,Cm];omega⟩
 have cb:∀r k p:Nat,kM (Xq r k p)/\(Xq r k p).length<=200:=λr k p=>by
  have h:=pb r k p;have h2:kM (if k<r then [] else CV 8 1++FP [0])/\(if k<r then [] else CV 8 1++FP [0]).length<=16:=by
   split
   ·exact⟨(λc i=>by cases i),by decide⟩
   ·exact⟨(show ∀b∈CV 8 1++FP [0],b<2 by decide),by decide⟩
  unfold Xq;exact⟨λc i=>(CN.1 i).elim (h.1 c) (h2.1 c),by rw[AP];omega⟩
 have ⟨v4,U4,g4,n4,A⟩:=hY U3 wb W _ (hw.Z w q) Q.y (cb _ _ _).1 (by have:=(cb t.W k pl).2;omega);have g5:=hS (z.Z (u.trans A (λ_ _ e=>e)) m.y) n4.by_;have ⟨v6,U6,g6,n6,f6⟩:=hY U4 xb ux _ (hx.Z (w.trans A (λ_ _ e=>e)) q) A.y (pb _ _ _).1 (by have:=(pb t'.W k pl).2;omega);have g7:=hS (Z.by_.Z ((Q.trans A (λ_ _ e=>e)).trans f6 (λ_ _ e=>e)) S.y) n6.by_;refine⟨U6,?_⟩;have gd:∀J:CF->H->AE,CM (AV E D mg wG [(13,.o tb 0),(15,.int .i64 (AA k)),(16,.o wb 0),(17,.o xb 0),(18,.int .i64 (AA n))] U) J=J e' U1:=λJ=>by rw[g1];rfl
 have y13:∀J:V->AE,Bj e' 13 J=J (.o tb 0):=λJ=>Bc F rfl;have y16:∀J:V->AE,Bj e' 16 J=J (.o wb 0):=λJ=>Bc G rfl;have Y5:∀J:V->AE,Bj e' 17 J=J (.o xb 0):=λJ=>Bc L rfl;have LU:∀J:V->AE,Bj e' 18 J=J (.int .i64 (AA n)):=λJ=>Bc P rfl;have nV:∀J:V->AE,Bj e' 21 J=J b:=λJ=>Bc K (GR z.S);have xr:∀J:V->AE,Bj e' 22 J=J (.int .i64 (AA 0)):=λJ=>Bc I rfl;have a1:=m.X s q (λe=>e);have r1:∀J,AS 1 B (AA 1) (λb o=>DF E U1 b o J)=J (.int .i64 (AA M)):=λJ=>EM (off:=0) (X.Z m q (λ_ _ e=>e)) (by decide) (by decide) rfl J;have oc:=Z.by_.S;have o4:=n4.by_.S;have o6:=n6.by_.S;have o1:=T.tb.n1;have o2:=T.tb.r1;have o3:=T.tb.t1;unfold Vc.c Lo at g2;unfold mW;simp only[↓rP,rA,AD,AG,AB,↓gd,↓y13,↓y16,↓Y5,↓LU,↓nV,↓xr,↓BU a1,↓AT a1,o1,o2,o3,↓r1,↓g2,oc,↓g3,↓g4,↓Bt o4,↓g5,↓g6,↓Bt o6,↓g7]
end
theorem ot{U f wb xb k L}(n:Ai U)(m:Wr U xb .h [])(o:wb≠xb)(s:J2 U wb .h f k L):Wr f xb .h []/\∀{d j l},J2 f xb .h d j l->Wr d wb k L/\Wr d xb j l/\Fr (λb=>b=wb\/b=xb) U d:=by
 have r:=m.X.lt n;have c:∀b,AJ V.h b->False:=λb h=>h;refine⟨⟨s.f.X m.X n (λe=>e.elim (λe=>o e.symm) (c _)),DW.nil _ _,λh=>h⟩,λ{d j l} t=>⟨?_,t.wr,?_⟩⟩
 ·have p:∀b,AJ k b->¬J3 xb .h b:=λb q e=>e.elim (λe=>(s.g b q).elim (c b) (λh=>by omega)) (c b)
  exact⟨t.f.X s.wr.X s.f.y (λe=>e.elim o (c _)),s.wr.d.Z t.f s.f.y p,s.wr.ne⟩
 ·exact(s.f.mono (λb _ e=>e.elim .inl (λh=>(c b h).elim)):Fr (λb=>b=wb\/b=xb) U f).trans t.f (λb _ e=>e.elim .inr (λh=>(c b h).elim))
section
variable {E:EB}{D:Ac}{N:Nat}
theorem AEK{W}{xs:List Nat}{k v U}(P:Cv U 1 xs.length v (FJ xs))(Z:k<xs.length)(h9:xs.length<=9){tb wb xb:Nat}{num:Int}
    {K8:V->Nat->Nat->Int->Nat->Nat->Nat->Nat->Int->Int->H->AE}{L:Nat->V->Nat->Nat->Int->Nat->Nat->Nat->Nat->Int->Int->Int->H->AE} (R:∀q a b c d e f g h i j k s,L (q+1) a b c d e f g h i j k s=sg E D W K8 (iR E D W (L q)) a b c d e f g h i j k s) :
    ∀(q i p m:Nat),i+q=xs.length->q<p->m<=i->L p v tb 0 (AA k) wb 0 xb 0 num (AA m) (AA i) U=K8 v tb 0 (AA k) wb 0 xb 0 num (AA (m+Jn xs (xs.getD k 0) q i)) U:=by
  have rd:∀j,j<xs.length->∀J,AS 1 v (AA j) (λb o=>DF E U b o J)=J (.int .i64 (AA (xs.getD j 0))):=λj O J=>EM (off:=0) P O (by decide) (by
    rw[CB];show (FJ xs)[j]? = _;unfold FJ;rw[As,BK,AI O];rfl) J
  have G:∀J:Nat->AE,Ao v J=J xs.length:=λJ=>P.ip;have N:=rd k Z;intro q;induction q with
  | zero=>
    intro i p m Y I X;obtain⟨p,rfl⟩:∃q,p=q+1:=⟨p-1,by omega⟩;have F:decide (i<xs.length)=false:=decide_eq_false (by omega);rw[R];unfold sg;simp only[rA,AG,AB,↓G,F];rfl
  | succ q Q=>
    intro i p m Y I X;obtain⟨p,rfl⟩:∃q,p=q+1:=⟨p-1,by omega⟩;have C:i<xs.length:=by omega
    have F:decide (i<xs.length)=true:=decide_eq_true C;have S:=rd i C;rw[R];show sg E D W K8 (iR E D W (L p)) v tb 0 (AA k) wb 0 xb 0 num (AA m) (AA i) U=K8 v tb 0 (AA k) wb 0 xb 0 num (AA (m+((if xs.getD i 0<xs.getD k 0 then 1 else 0)+Jn xs (xs.getD k 0) q (i+1)))) U;unfold sg iR;by_cases u:xs.getD i 0<xs.getD k 0
    · have K:decide (xs.getD i 0<xs.getD k 0)=true:=decide_eq_true u
      rw[if_pos u,<-D4];simp only[↓rP,rA,AD,AG,AB,↓G,F,↓S,↓N,K,Al (show m+1<=9223372036854775807 by omega),Al (show i+1<=9223372036854775807 by omega)];exact Q (i+1) p (m+1) (by omega) (by omega) (by omega)
    · have K:decide (xs.getD i 0<xs.getD k 0)=false:=decide_eq_false u
      rw[if_neg u,BV];simp only[↓rP,rA,AD,AG,AB,↓G,F,↓S,↓N,K,Al (show i+1<=9223372036854775807 by omega)];exact Q (i+1) p m (by omega) (by omega) (by omega)
theorem zp xs x:∀q i,Jn xs x q i<=q:=by intro x;induction x with grind [Jn]
theorem zn(xs:List Nat) x:∀q i k,i<=k->k<i+q->xs.getD k 0=x->Jn xs x q i<q:=by intro x;induction x with grind [Jn,zp]
theorem ATw{W}(p:MQ (D 8))(q:YU (D 9)){U}(o:Ai U){wb xb n k pl tb v num m}(Q:Cv U 1 n v m)(vn:∀b,AJ v b->b≠wb/\b≠xb)(M:Wr U wb .h [])(w:Wr U xb .h [])(ne:wb≠xb)(hn:0<n)(h9:n<=9)(hp:pl<n)(X:k<n):
  ∃S C U',(∀K7,AFi E D W K7 v tb 0 (AA k) wb 0 xb 0 num (AA pl) U=K7 tb 0 (AA k) wb 0 xb 0 num U')/\Wr U' wb S (P5 n k pl)/\Wr U' xb C (P5 n k pl)/\Fr (λb=>b=wb\/b=xb) U U':=by
 have ⟨y,U1,Z,h⟩:=p U wb .h [] 0 1 M o (by decide) (by decide) (by decide);have ⟨B,N,F,Y⟩:=q U1 wb y _ pl (n-1) h.wr h.f.y (by decide) (by omega) (by omega);have e:=h.trans Y;have ⟨R,i⟩:=ot o w ne e;have ⟨x,z,A,g⟩:=p N xb .h [] 0 1 R e.f.y (by decide) (by decide) (by decide);have ⟨O,I,t,G⟩:=q z xb x _ pl (n-1) g.wr g.f.y (by decide) (by omega) (by omega);have ⟨T,K,f4⟩:=i (g.trans G);have l:P5 n k pl=[]++CV 1 0++CV (wd (n-1)) pl:=by unfold P5;rw[if_pos X];rfl
 refine⟨B,O,I,λK7=>?_,by rw[l];exact T,by rw[l];exact K,f4⟩;have L:∀J,Ao v J=J n:=λJ=>Q.ip;have P:An .u64 (AA pl)=AA pl:=BJ (show pl<=18446744073709551615 by omega);have u:Dj .i64 (AA n) (AA 1)=AA (n-1):=E8 (by omega) (by omega);have w2:An .u64 (AA (n-1))=AA (n-1):=BJ (show n-1<=18446744073709551615 by omega);unfold AFi;simp only[↓rP,↓Z,↓L,P,u,w2,↓F,↓A,↓t]
theorem AEE(z:Ka (λm=>Fg m 2) N (D 7))(hN:100<=N){U:H}(T:Ai U){xs m}(X:UcX xs m):
  ∃u r w U',D 7 [.N (BB (ucT xs m))] U=some (.B [.agg [.N (BB [77]),u,r,w],.bool true],U')/\X7 U.j U' [[65],[66]] [0,(JV xs m).length+1] (NO xs m) u r w/\Fr AH U U':=by
 have ⟨O,J⟩:∃k,N=k+10:=⟨N-10,by omega⟩;have G:=X.n9;have q:=X.m3;have ⟨x,l,A⟩:∃x l,xs=x::l:=by
  cases xs with
  | nil=>have:=X.lo;simp at this | cons x l=>exact⟨x,l,rfl⟩
 have M:=AES X.h60 G q;have Q:=qX (a:=102) (b:=103) (by decide) (by decide) (by decide) X;have e2:=qX (a:=101) (b:=104) (by decide) (by decide) (by decide) X;have R:=oU X.h60 X.nd G q;have F:=Ft m;subst A;simp at G;have ea:∀a,Cy a 0 (x::l)=(a,0,x)::Cy a 1 l:=λa=>rfl;have p:=λa=>Fq a l 1;have E:∀a,(Cy a 0 (EL m)).length=m:=λa=>by rw[Fq,F]
 have K:∀a b,(a,0,x)::Cy a 1 l++Cy b 0 (EL m)=Cy a 0 (x::l)++Cy b 0 (EL m):=λ_ _=>rfl;have j:∀a,a∈[101,102,103,104]->∀y∈Cy a 0 (x::l),Dm y:=λa Y=>If Y (by simp;omega) λy o=>by have:=X.h60 y o;omega
 have n:(Cy 102 1 l).length+(Cy 103 0 (EL m)).length<100:=by rw[p,E];omega
 have C:(Cy 101 1 l).length+(Cy 104 0 (EL m)).length<100:=by rw[p,E];omega
 have ⟨Z,L,W⟩:=oR O (BB (ucT (x::l) m)).len (j 102 (by decide) _ AZ) (λy o=>j 102 (by decide) y (Az _ o)) (PO q (by decide)) (j 101 (by decide) _ AZ) (λy o=>j 101 (by decide) y (Az _ o)) (PO q (by decide)) n C;rw[<-AEM x l m]at L;have rt:=oP n Q (by rw[p];exact R) (by rw[K,AP,Fq,E];simp;omega);have ⟨u,r,w,U',g,s,f⟩:=z U (BB (ucT (x::l) m)) _ _ _ _ T (by rw[IW];have:=M.n;omega) (by rw[JC M.b,J];exact L) W (AKk n) rt;rw[p,p]at g s;have S:Ry ((102,0,x)::Cy 102 1 l++Cy 103 0 (EL m)) (l.length+1) ((101,0,x)::Cy 101 1 l++Cy 104 0 (EL m)) (l.length+1)=NO (x::l) m:=rfl;rw[S]at g s;refine⟨u,r,w,U',?_,s,f⟩;rw[g];have d:decide ((NO (x::l) m).length<=120)=true:=decide_eq_true (by unfold NO;rw[Wn,Ph];simp;omega);rw[d];rfl
theorem ATx (hTb:Ka (fun m=>Fg m 2) N (D 7)) (hC:RQ (D 11)) (hE:VS (D 11)) (hA:YV (D 4)) (hY:YP (D 13)) (hS:YO (D 12)) (hB:MQ (D 8)) (hT:YU (D 9)) (hP:jF E (D 10)) (hN:100<=N) {xs:List Nat} {m:Nat} (X:UcX xs m) {v:V} {U:H} (ht:Ai U) (hv:DW U 1 xs.length v (FJ xs)) (a:Int) :
    ∃U',vf E D (AV E D) N a (AA m) (BB ((cT xs++[44,32,46,46,46])++cA m)) (BB ((eT xs++[44,32,46,46,46])++eA m)) v U=some (.bool true,U'):=by
  have h9:=X.n9;have h3:=X.m3;have lo:=X.lo;have ⟨u,rv,lv,U1,g1,s1,f1⟩:=AEE hTb hN ht X;have ⟨U2,e2,f2,a2,n2⟩:=Fh f1.y [.N ⟨0,0⟩,.h,.h,.h];have ⟨p,e3,f3,a3⟩:=Y2 f2.y a2 [.N (BB [77]),u,rv,lv];have ⟨ty,T1⟩:=s1.uct;have st3:∀J:H->AE,DO 4 U1.j 0 (.agg [.N (BB [77]),u,rv,lv]) U2 J=J p:=λJ=>by
    rw[Ed a2 (by
      rw[Dr];simp only[Bg,CE,FZ,T1.tb.n1,T1.tb.r1,T1.tb.t1,Bz];rfl),Dr]
    show J (Gl U2 U1.j (.cells [.N (BB [77]),u,rv,lv]))=_;rw[e3]
  have le1:=f1.le;have f13:Fr AH U1 p:=f2.trans f3 (λb hb e=>by omega);have l3:=a3.lt f3.y;have ⟨U4,e4,f4,a4,n4⟩:=Fh f3.y [.h];have ⟨U5,e5,f5,a5,n5⟩:=Fh f4.y [.h];have f35:=f4.trans f5 (λ_ _ e=>e);have f15:=f13.trans f35 (λ_ _ e=>e);have f05:=f1.trans f15 (λ_ _ e=>e);have le3:=f13.le;have le4:=f4.le;have a45:=f5.X a4 f4.y (λe=>e);have hw:Wr U5 p.j .h []:=⟨a45,DW.nil _ _,λh=>h⟩;have hx:Wr U5 U4.j .h []:=⟨a5,DW.nil _ _,λh=>h⟩;have l4:=a4.lt f4.y;have ne:p.j≠U4.j:=by omega
  have hv5:Cv U5 1 xs.length v (FJ xs):=(hv.Z f05 ht (λ_ _ e=>e)).src;have vn:∀b,AJ v b->b<U.j:=λb hb=>hv.lt ht hb;have T5:=T1.Z f15 f1.y;have a35:=f35.X a3 f3.y (λe=>e);have r1:Cv U1 1 2 rv [.int .i64 (AA 0),.int .i64 (AA ((JV xs m).length+1))]:=s1.r;have r5:=r1.Z f15 f1.y (λ_ _ e=>e);have ⟨k,hk,ek⟩:=pR a (xs.length+m) (by omega) (by omega);have R:=AKh X;have ok:=AEL X hk;have ok':=AEI X hk;have h0:(NO xs m)[0]? = some (Hw (JV xs m) xs.length):=rfl;have h1:(NO xs m)[(JV xs m).length+1]? = some (Wm (Lp xs m) xs.length):=by
    unfold NO Ry;rw[Bh,Aw (by rw[Bp];exact AL _),Bp,Ec];rfl
  have fin:∀(U6:H) (uw ux:V),Fr (λb=>b=p.j\/b=U4.j) U5 U6->Wr U6 p.j uw (Xq xs.length k (Jn xs (xs.getD k 0) xs.length 0))->Wr U6 U4.j ux (P5 xs.length k (Jn xs (xs.getD k 0) xs.length 0))->∃U',mW E D (AV E D) U1.j 0 (AA k) p.j 0 U4.j 0 (AA (kT xs m k)) U6=some (.bool true,U'):=by
    intro U6 uw ux f6 w6 x6;have f16:Fr AH U1 U6:=f15.trans f6 (λb hb e=>by omega);exact AEJ (t:=Hw (JV xs m) xs.length) (t':=Wm (Lp xs m) xs.length) hC hE hA hY hS f6.y (T1.Z f16 f1.y) R (f6.X a35 f5.y (by omega)) (r1.Z f16 f1.y (λ_ _ e=>e)) h0 h1 ok ok' w6 x6
  have t0:Tx Tm 53:=⟨by decide,by decide⟩;have t1:Tx Wo 22:=⟨by decide,by decide⟩;have t2:Tx kS 6:=⟨by decide,by decide⟩;have tc:=((W0 X.h60 h9).app OJ).app (oh h3);have te:=((Wy X.h60 h9).app OJ).app (og h3);have b0:BS.mk 53 5496763711135271144596069228817180630319383752282117835684320943235763312723540517957519438352911482027856154633734985712148557=BB Tm:=by decide +kernel
  have b1:BS.mk 22 12152570324601215902917285970018452556113797795839264=BB Wo:=by decide +kernel
  have b2:BS.mk 6 75102957894944=BB kS:=by decide +kernel
  have c1:∀J:BS->AE,DI (BS.mk 53 5496763711135271144596069228817180630319383752282117835684320943235763312723540517957519438352911482027856154633734985712148557) (BB ((cT xs++[44,32,46,46,46])++cA m)) J=J _:=λJ=>by rw[b0];exact Dk t0 tc (by decide) J
  have c2:∀J:BS->AE,DI (BB (Tm++((cT xs++[44,32,46,46,46])++cA m))) (BS.mk 22 12152570324601215902917285970018452556113797795839264) J=J _:=λJ=>by rw[b1];exact Dk (t0.app tc) t1 (by decide) J
  have c3:∀J:BS->AE,DI (BB (Tm++((cT xs++[44,32,46,46,46])++cA m)++Wo)) (BB ((eT xs++[44,32,46,46,46])++eA m)) J=J _:=Dk ((t0.app tc).app t1) te (by decide);have c4:∀J:BS->AE,DI (BB (Tm++((cT xs++[44,32,46,46,46])++cA m)++Wo++((eT xs++[44,32,46,46,46])++eA m))) (BS.mk 6 75102957894944) J=J (BB (ucT xs m)):=λJ=>by rw[b2];exact Dk (((t0.app tc).app t1).app te) t2 (by decide) J
  have sl:∀J:Nat->AE,Ao v J=J xs.length:=λJ=>hv.src.ip;have slr:∀J:Nat->AE,Ao rv J=J 2:=λJ=>r1.ip;have ad:BQ .i64 (AA xs.length) (AA m)=AA (xs.length+m):=Al (by omega);have wu:An .u64 (AA (xs.length+m))=AA (xs.length+m):=BJ (show xs.length+m<=18446744073709551615 by omega);have nz:∀J:AE,nzK (AA (xs.length+m)) J=J:=λJ=>by
    have ⟨q,hq⟩:∃q,xs.length+m=q+1:=⟨xs.length+m-1,by omega⟩;rw[hq];rfl
  have o1:=T1.tb.n1;have o2:=T1.tb.r1;have o3:=T1.tb.t1;have d2:decide (2=2)=true:=rfl;rcases A2 k xs.length with i|i
  · have d1:decide (k<xs.length)=true:=decide_eq_true i
    have rdk:∀J,AS 1 v (AA k) (λb o=>DF E U5 b o J)=J (.int .i64 (AA (xs.getD k 0))):=λJ=>EM (off:=0) hv5 i (by decide) (by
      rw[CB];show (FJ xs)[k]? = _;unfold FJ;rw[As,BK,AI i];rfl) J
    have hpl:Jn xs (xs.getD k 0) xs.length 0<xs.length:=zn xs (xs.getD k 0) xs.length 0 k (CA _) (by omega) rfl;have ⟨uw,ux,U6,g8,w6,x6,f6⟩:=ATw (E:=E) (W:=AV E D) (tb:=U1.j) (num:=AA (xs.getD k 0)) hB hT f5.y hv5 (λb hb=>by have:=vn b hb;constructor<;>omega) hw hx ne lo h9 hpl i;have ⟨U',g'⟩:=fin U6 uw ux f6 (by
      have e:Xq xs.length k (Jn xs (xs.getD k 0) xs.length 0)=P5 xs.length k (Jn xs (xs.getD k 0) xs.length 0):=by unfold Xq;rw[if_pos i,BP]
      rw[e];exact w6) x6
    refine⟨U',?_⟩;rw[ZA i]at g';have cnt:=AEK (E:=E) (D:=D) (W:=AV E D) hv5 i h9 (tb:=U1.j) (wb:=p.j) (xb:=U4.j) (num:=AA (xs.getD k 0)) (K8:=ABi E D (AV E D) N) (L:=uj E D (AV E D) N) (λ_ _ _ _ _ _ _ _ _ _ _ _ _=>rfl) xs.length 0 N 0 (by omega) (by omega) (AL 0);rw[BV]at cnt;show Z0 E D (AV E D) (mW E D (AV E D)) (uj E D (AV E D) N N) a (AA m) _ _ v U=_;have key:∀K7 K9,Z0 E D (AV E D) K7 K9 a (AA m) (BB ((cT xs++[44,32,46,46,46])++cA m)) (BB ((eT xs++[44,32,46,46,46])++eA m)) v U=K9 v U1.j 0 (AA k) p.j 0 U4.j 0 (AA (xs.getD k 0)) (AA 0) (AA 0) U5:=by
      intro K7 K9;unfold Z0;simp only[↓rP,rA,AD,AG,AB,↓c1,↓c2,↓c3,↓c4,↓g1,o1,o2,o3,↓e2,↓st3,↓AT a3,↓slr,d2,↓sl,ad,wu,↓nz,↓e4,↓e5,ek,d1,↓rdk]
    rw[key,cnt];exact(g8 _).trans g'
  · have d1:decide (k<xs.length)=false:=decide_eq_false (by omega)
    have ⟨u1,τ1,q1,s1'⟩:=hB U5 p.j .h [] 1 1 hw f5.y (by decide) (by decide) (by decide);have ⟨u2,τ2,q2,j⟩:=hB τ1 p.j u1 _ (k-xs.length) 7 s1'.wr s1'.f.y (by decide) (by omega) (by decide);have ⟨τ3,e6,f6,a6,n6⟩:=Fh j.f.y [.int .u8 (AA 0)];have w3:=j.wr.Z f6 j.f.y;have by6:By τ3 (.D τ2.j 0 1 (.ex 1)) (nI [0]) := .inr ⟨_,_,_,_,rfl,a6,AL _,rfl⟩;have sq:Sq E τ3 (.D τ2.j 0 1 (.ex 1)) (nI [0]):=Sq.of by6;have ⟨u4,τ4,q4,s4'⟩:=hP τ3 p.j u2 (.D τ2.j 0 1 (.ex 1)) _ [0] w3 f6.y (by rw[AP,AP,Cw,Cw];decide) (by decide) (by decide) sq (AL 1) (λb hb=>by
      have hb:b=τ2.j:=hb.symm ▸ rfl;subst hb;refine⟨a6.lt f6.y,λe=>?_,λe=>?_⟩
      · have:=s1'.f.le;have:=j.f.le;omega
      · have:=j.wr.d.lt j.f.y e;omega)
    have sW:=((s1'.trans j).and f6).trans s4';have ⟨x4,two⟩:=ot f5.y hx ne sW;have ⟨u5,τ5,q5,s5'⟩:=hB τ4 U4.j .h [] 1 1 x4 sW.f.y (by decide) (by decide) (by decide);have ⟨u7,τ7,q7,s7'⟩:=hB τ5 U4.j u5 _ (k-xs.length) 7 s5'.wr s5'.f.y (by decide) (by omega) (by decide);have ⟨w7,x7,f7⟩:=two (s5'.trans s7');have ⟨U',g'⟩:=fin τ7 u4 u7 f7 (by
      have e:Xq xs.length k (Jn xs (xs.getD k 0) xs.length 0)=[]++CV 1 1++CV 7 (k-xs.length)++(Jj ([0]:List Nat).length++FP [0]):=by
        unfold Xq P5;rw[if_neg (by omega),if_neg (by omega)];rfl
      rw[e];exact w7) (by
      have e:P5 xs.length k (Jn xs (xs.getD k 0) xs.length 0)=[]++CV 1 1++CV 7 (k-xs.length):=by
        unfold P5;rw[if_neg (by omega)];rfl
      rw[e];exact x7)
    refine⟨U',?_⟩;rw[AEO i hk]at g';have sb:Dj .i64 (AA k) (AA xs.length)=AA (k-xs.length):=E8 i (by omega);have wk:An .u64 (AA (k-xs.length))=AA (k-xs.length):=BJ (show k-xs.length<=18446744073709551615 by omega);have a70:BQ .i64 (AA 70) (AA k)=AA (70+k):=Al (by omega);have s70:Dj .i64 (AA (70+k)) (AA xs.length)=AA (70+(k-xs.length)):=by
      rw[E8 (by omega) (by omega),show 70+k-xs.length=70+(k-xs.length)by omega]
    show Z0 E D (AV E D) (mW E D (AV E D)) (uj E D (AV E D) N N) a (AA m) _ _ v U=_;have key:∀K7 K9,Z0 E D (AV E D) K7 K9 a (AA m) (BB ((cT xs++[44,32,46,46,46])++cA m)) (BB ((eT xs++[44,32,46,46,46])++eA m)) v U=K7 U1.j 0 (AA k) p.j 0 U4.j 0 (AA (70+(k-xs.length))) τ7:=by
      intro K7 K9;unfold Z0;simp only[↓rP,rA,AD,AG,AB,↓c1,↓c2,↓c3,↓c4,↓g1,o1,o2,o3,↓e2,↓st3,↓AT a3,↓slr,d2,↓sl,ad,wu,↓nz,↓e4,↓e5,ek,d1,↓q1,sb,wk,↓q2,↓e6,↓q4,↓q5,↓q7,a70,s70]
    rw[key];exact g'
end
section
variable {E:EB}{D:Ac}{W:AF}{N:Nat}{U:H}
theorem pO{v:Vc}{f q}(m:∀U1,Ai U1->Fr AH U U1->∃b,D 23 [.agg v.c,.int .i64 f] U1=some (.bool true,b)/\Fr AH U1 b)(j:Ai U)(n:Bx U q [.int .i64 f]):
  ∃U',F42 E D W N ([]++[.agg v.c]++[.o q 0]) U=some (.bool false,U')/\Fr AH U U':=by
 have ⟨U1,k,c,e,r⟩:=DC j v.c;have ⟨b,g,p⟩:=m U1 c.y c;have o:=c.X n j (λh=>h);refine⟨b,?_,c.trans p (λ_ _ h=>h)⟩;unfold Vc.c at k e g;show sa E D W v.k v.n v.b v.l v.r v.m (.o q 0) U=_;unfold sa;simp only[↓rP,rA,AD,AG,AB,v.oneB,v.oneL,v.oneM,↓k,↓BU e,↓AT o,↓g]
end
section
variable {E:EB}{D:Ac}{N:Nat}
theorem oT(p:FQ 19 (D 6))(hI:RP (D 5))(y:Ka (λm=>Fg m 2) N (D 7))(hC:RQ (D 11))(R:VS (D 11))(q:YV (D 4))(hY:YP (D 13))(hS:YO (D 12))(Y:MQ (D 8))(hT:YU (D 9))(Q:jF E (D 10))(S:100<=N){U:H}(u:Ai U)(B:BX U.F 50=none)(o:100<=U.j){v:V}{n:Nat}{f:Nat->Int}(M:ArI E v n f)(a t:Int):
  ∃U',F3 E D (AV E D) N [v,.int .i64 a,.int .i64 t] U=some (.bool true,U'):=by
 have F:=M.len;show ∃U',YI E D (AV E D) (AA0 E D (AV E D) N N) v a t U=some (.bool true,U');have ⟨m,hm,em⟩:=pR t 4 (by decide) (by decide);cases r:decide (n=0)with
 | true=>
  have ⟨U1,C,f1⟩:=q U u;refine⟨U1,?_⟩;have key:∀K,YI E D (AV E D) K v a t U=some (.bool true,U1):=λK=>by
   unfold YI;simp only[↓rP,rA,AG,AB,↓F,r,↓C]
  exact key _
 | false=>
  cases h1:decide (9<n)with
  | true=>
   have ⟨U1,C,f1⟩:=q U u;refine⟨U1,?_⟩;have key:∀K,YI E D (AV E D) K v a t U=some (.bool true,U1):=λK=>by
    unfold YI;simp only[↓rP,rA,AD,AG,AB,↓F,r,h1,↓C]
   exact key _
  | false=>
   have T:=of_decide_eq_false r;have aa:=of_decide_eq_false h1;have key:∀K,YI E D (AV E D) K v a t U=K v a (AA m) (BS.mk 0 0) (BS.mk 0 0) .h (AA 0) U:=λK=>by
    unfold YI;simp only[↓rP,rA,AD,AG,AB,↓F,r,h1,em]
   rw[key];refine yM hI q p M (by omega) u B o (λ_ _ _ _ _ _ _ _ _=>rfl) (λxs w U1 hx j G O hd nw=>?_) n 0 N [] .h U (by omega) (by omega) rfl (λx h=>by simp at h) List.nodup_nil (Fr.refl u) (DW.nil _ _) (λb hb=>hb.elim);subst hx;have X:UcX xs m:=⟨by omega,by omega,j,G,by omega⟩;have tc:=(W0 j (by omega)).app OJ;have te:=(Wy j (by omega)).app OJ;have ⟨U2,I,P⟩:=yO (E:=E) (W:=AV E D) p (tc.le (by decide)) (te.le (by decide)) (m:=m) (by omega) (a:=a) (w:=w) (L:=AAz E D (AV E D) N) (λ_ _ _ _ _ _ _ _=>rfl) m 0 N U1 (by omega) (by omega) O.y;have ⟨Z,g3⟩:=ATx (E:=E) (D:=D) (N:=N) y hC R q hY hS Y hT Q S X P.y (hd.Z P O.y (λ_ _ h=>h)) a;refine⟨Z,?_⟩;have c1:∀J:BS->AE,DI (BB (cT xs)) (BS.mk 5 198343270444) J=J (BB (cT xs++[44,32,46,46,46])):=λJ=>by rw[ACc];exact Dk (W0 j (by omega)) OJ (by decide) J
   have c2:∀J:BS->AE,DI (BB (eT xs)) (BS.mk 5 198343270444) J=J (BB (eT xs++[44,32,46,46,46])):=λJ=>by rw[ACc];exact Dk (Wy j (by omega)) OJ (by decide) J
   have k1:∀z,AAH E D (AV E D) z a (AA m) (BB (cT xs)) (BB (eT xs)) w U1=z a (AA m) (BB (cT xs++[44,32,46,46,46])) (BB (eT xs++[44,32,46,46,46])) w (AA 0) U1:=λz=>by
    unfold AAH;simp only[↓rP,rS,↓c1,↓c2]
   have z1:cA 0=[]:=rfl;have z2:eA 0=[]:=rfl;rw[z1,z2,BP,BP]at I;show AAH E D (AV E D) (AAz E D (AV E D) N N) a (AA m) (BB (cT xs)) (BB (eT xs)) w U1=_;rw[k1,I];exact g3
end
theorem AUM{e:GY}{F args U ρ}(g:e.Fits ρ args U):∃ρ',e.Fits ρ' args U/\XT [e] F args U=some (e.ans ρ' U):=by
 have ⟨e',ρ',d,f,c⟩:=qC (F:=F) (B5.2 rfl) g;have:=B5.1 d;subst this;exact⟨ρ',f,c⟩
theorem Has.nil{ρ U}:Has [] ρ U:=λid b h=>by cases h
theorem Inj.nil{ρ}:Inj [] ρ:=λid b h=>by cases h
variable {E:EB}
theorem xy d:M9 (TW E (d+1) 106):=by rw[ARp];exact AK6
theorem ADt d:TE (TW E (d+1) 107):=by rw[ARo];exact AEi
theorem ADx d:RR (TW E (d+1) 110):=by rw[ARk];exact AEj
theorem ATU d:iz 600000 (TW E (d+2) 59):=by rw[AXe];exact AKe (xy d) (by decide)
theorem AKR d:YQ (TW E (d+1) 65):=by rw[AXZ];exact AL1 (by decide)
theorem ADm d:∀U,(TW E (d+1) 156) [] U=some (.D U.j 0 25 (.ex 25),Cb U (.cells (NL.map .N))):=by rw[ARO];exact pK
theorem AJz d:VF (TW E (d+2) 109):=by rw[ARm];exact ya (AKR d) (ADm d)
theorem AKM d:VH (TW E (d+2) 108):=by rw[ARn];exact yf (xy d) (ADt d) (ADx d) (by decide)
theorem AKD d:VG (TW E (d+1) 114):=by rw[ARi];exact ye (by decide)
theorem ATb d:cn (TW E (d+2) 111):=by rw[ARj];exact AEg (xy d) (ADt d) (ADx d) (by decide)
theorem ATa d:jH (TW E (d+3) 60):=by rw[AXd];exact ALd (xy (d+1)) (ADt (d+1)) (ADx (d+1)) (AKM d) (AJz d) (ATb d) (AKD (d+1))
theorem AKA d:jC 600000 (TW E (d+4) 27):=by rw[AXx];exact kf (ATU (d+1)) (ATa d) (by decide)
theorem Y7 d:Lc (TW E (d+1) 31):=by rw[AXt];exact ALj
theorem ABz d:VK (TW E (d+1) 61):=by rw[AXc];exact AEu
theorem oB d:MP (TW E (d+2) 30):=by rw[AXu];exact AUJ (Y7 d) (ABz d)
theorem OH d:HS (TW E (d+3) 29):=by rw[AXv];exact AEw (oB d)
theorem Wf d:It (TW E (d+2) 28):=by rw[AXw];exact AFA (Y7 d) (ABz d)
theorem ADn d:VC (TW E (d+1) 115):=by rw[ARh];exact yJ (by decide)
theorem nq d:Nn (TW E (d+3) 63):=by rw[AXa];exact AEs (Wf d) (ADn (d+1))
theorem AKd d:td (TW E (d+1) 62):=by rw[AXb];exact AMO (by decide)
theorem oA d:VR (TW E (d+4) 118):=by rw[ARg];exact zS (oB (d+1)) (OH d) (nq d) (Wf (d+1)) (by decide)
theorem AJ8 d:MO (Hd 0) (TW E d 33):=by
 intro U xb e f l l' R ns c Q d i _ _ _ h;cases h
theorem yF d:JP (Hd 0) (TW E (d+3) 158):=by rw[ADH];exact gZ (oB d) (Wf d) (AJ8 (d+2))
theorem oD d:LK (Hd 0) (TW E (d+4) 119):=by rw[ADJ];exact Xc (oB (d+1)) (OH d) (yF d) (by decide)
theorem AD3 d:PV (Hd 0) (TW E (d+5) 64):=by rw[AQ1];exact rM (Y7 (d+3)) (oB (d+2)) (OH (d+1)) (oA d) (oD d)
theorem AJ7 d:MO (Hd 1) (TW E (d+6) 33):=by rw[AQ4];exact AB3 (Wt 0) (Y7 (d+4)) (AKd (d+4)) (oB (d+3)) (OH (d+2)) (nq (d+2)) (AD3 d)
theorem yE d:JP (Hd 1) (TW E (d+7) 158):=by rw[ADH];exact gZ (oB (d+4)) (Wf (d+4)) (AJ7 d)
theorem oC d:LK (Hd 1) (TW E (d+8) 119):=by rw[ADJ];exact Xc (oB (d+5)) (OH (d+4)) (yE d) (by decide)
theorem AD2 d:PV (Hd 1) (TW E (d+9) 64):=by rw[AQ1];exact rM (Y7 (d+7)) (oB (d+6)) (OH (d+5)) (oA (d+4)) (oC d)
theorem AJ6 d:MO (Hd 2) (TW E (d+10) 33):=by rw[AQ4];exact AB3 (Wt 1) (Y7 (d+8)) (AKd (d+8)) (oB (d+7)) (OH (d+6)) (nq (d+6)) (AD2 d)
theorem ADr d:VI 600000 (Hd 2) (TW E (d+11) 14):=by rw[AX7];exact yp (Y7 (d+9)) (oB (d+8)) (OH (d+7)) (Wf (d+8)) (AKA (d+6)) (AJ6 d) (by decide)
theorem AJ5 d:jB (TW E (d+1) 121):=by rw[ARf];exact AKg
theorem AKS d:RP (TW E (d+1) 5):=by rw[DE5];exact AL2 (by decide)
theorem nk{m}(c:LR m) d:∀q,MN m q (TW E (d+(q+1)) 66)
 | 0=>by rw[show d+(0+1)=d+1 from rfl,AXY];exact oM c (by decide) (λp e=>by cases e)
 | q+1=>by
  exact oM c (by decide) (λp e=>by cases e;exact nk c d q)
theorem AJ4{m}(a:LR m) d:MN m 17 (TW E (d+18) 66):=nk a d 17
theorem ADq d:PT (TW E (d+1) 67):=by rw[AXX];exact yh (by decide)
theorem ADs{m}(b:LR m) d:VJ m (TW E (d+19) 34):=by rw[AXs];exact yt b (AKR (d+17)) (AKS (d+17)) (AJ4 b d) (ADq (d+17)) (by decide)
theorem AJy d:cd (TW E (d+1) 125):=by rw[ARd];exact AD4
theorem n8 m d:VM m (TW E (d+1) 70):=by rw[AXW];exact zE m
theorem nr m d:VL m (TW E (d+2) 71):=by rw[AXV];exact zB m (AJy d)
theorem AKV d:tT (TW E (d+1) 199):=by rw[AQ7];exact AL0 (by decide)
theorem AKZ d:dA (TW E (d+2) 192):=by rw[ARB];exact AFS (AKV d) (by decide)
theorem ATq d:jJ (TW E (d+1) 191):=by rw[ARC];exact AMN
theorem AJ0 d:cg (TW E (d+1) 190):=by rw[ARD];exact AD5
theorem AJ9 m d:cm m (TW E (d+3) 181):=by rw[ARG];exact AET (ATq (d+1)) (AJ0 (d+1)) (AKZ d) (by decide)
theorem oG m d:VW m (TW E (d+4) 161):=by rw[ARN];exact AAC (AJ9 m d)
theorem fF d:NC (TW E (d+1) 123):=by rw[ARe];exact px (by decide)
theorem yB m d:Ii m (Fg m 0) (TW E d 35):=by
 intro e U xb l f g j tl c d k i Q _ _ _ _ _ h;cases h
theorem kQ m d:LJ m (Fg m 0) (TW E (d+5) 124):=by rw[ADI];exact Sf (yB m (d+4)) (oG m d) (by decide)
theorem yD m d:NB m (H6 m (Fg m 0)) (TW E (d+6) 69):=by rw[AQ0];exact gQ (AJ5 (d+4)) (fF (d+4)) (kQ m d)
theorem yA m d:Ii m (Fg m 1) (TW E (d+7) 35):=by rw[AQ3];exact gJ (yD m d) (n8 m (d+5)) (nr m (d+4))
theorem kP m d:LJ m (Fg m 1) (TW E (d+8) 124):=by rw[ADI];exact Sf (yA m d) (oG m (d+3)) (by decide)
theorem yC m d:NB m (H6 m (Fg m 1)) (TW E (d+9) 69):=by rw[AQ0];exact gQ (AJ5 (d+7)) (fF (d+7)) (kP m d)
theorem xz m d:Ii m (Fg m 2) (TW E (d+10) 35):=by rw[AQ3];exact gJ (yC m d) (n8 m (d+8)) (nr m (d+7))
theorem AKN{m}(b:LR m) d:cw m (Fg m 2) (TW E (d+20) 15):=by rw[AX6];exact AEz b (ADs b d) (xz m (d+9)) (by decide)
theorem ADo d:Ka (λm=>Fg m 2) 600000 (TW E (d+21) 7):=by rw[DE7];exact o7 (ADr (d+9)) (λ_ b=>AKN b d)
theorem Wg d:∀k,k<=31->FQ k (TW E (d+(k+1)) 6)
 | 0,_=>by rw[show d+(0+1)=d+1 from rfl,DE6];exact lj _ _ _ _
 | k+1,h=>by
  rw[show d+(k+1+1)=(d+(k+1))+1 from rfl,DE6];exact qe (Wg d k (by omega)) (by omega)
theorem yG d:FQ 19 (TW E (d+20) 6):=Wg d 19 (by decide)
theorem ATo d:tY (TW E (d+1) 16):=by rw[AX5];exact pS
theorem oF d:MQ (TW E (d+2) 8):=by rw[DE8];exact AFY (ATo d) (by decide)
theorem ATr d:RS (TW E (d+1) 72):=by rw[AXU];exact rH (by decide)
theorem AKK d:cq E (TW E (d+2) 36):=by rw[AXr];exact AEq (ATr d) (by decide)
theorem AKL d:cu E (TW E (d+3) 20):=by rw[AX1];exact AEr (AKK d)
theorem AKa d:dB (TW E (d+1) 18):=by rw[AX3];exact AFU (by decide)
theorem ATi d:tV (TW E (d+3) 19):=by rw[AX2];exact AMA (oF d)
theorem ATZ d:jF E (TW E (d+4) 10):=by rw[AYA];exact ALX (AKa (d+2)) (ATi d) (AKL d) (by decide)
theorem ADz d:VV 5000 (TW E (d+1) 26):=by rw[AXy];exact ZK (by decide) (by decide)
theorem ATY d:YP (TW E (d+2) 13):=by rw[AX8];exact AK5 (ADz d)
theorem ATT d:VD (TW E (d+1) 17):=by rw[AX4];exact AJq (by decide)
theorem ATn d:YU (TW E (d+3) 9):=by rw[DE9];exact AMI (ATT (d+1)) (oF d)
theorem xSm d:YO (TW E (d+1) 12):=by rw[AX9];exact qL
theorem ATe d:VD (TW E (d+1) 175):=by rw[ARJ];exact zM
theorem ATm d:VD (TW E (d+2) 140):=by rw[ARY];exact AMH (ATe d)
theorem xWb d:cj (TW E (d+1) 174):=by rw[ARK];exact AD7
theorem AD1 d:TH 32 (TW E (d+1) 173):=by rw[ARL];exact z3
theorem AD0 d:TH 64 (TW E (d+1) 136):=by rw[ARa];exact zz
theorem AKH d:PR (TW E (d+2) 137):=by rw[ARZ];exact pV (xWb d) (AD1 d) (by decide)
theorem xWw d:JN (TW E (d+3) 82):=by rw[AXP];exact oH (AKH d) (AD0 (d+1))
theorem AKb d:TG (TW E (d+4) 84):=by rw[AXO];exact AMJ (ATm (d+1)) (xWw d)
theorem AKC d:jE (TW E (d+4) 87):=by rw[AXN];exact AKw (xWw d)
theorem oE d:PU (TW E (d+4) 43):=by rw[AXl];exact ze (xWw d)
theorem ATd d:Nm (TW E (d+1) 105):=by rw[ARq];exact yn
theorem AJ1 d:Nm (TW E (d+2) 57):=by rw[AXg];exact yI (ATd d)
theorem xPB d:RO (TW E (d+1) 58):=by rw[AXf];exact km
theorem xWB d:JO (TW E (d+3) 25):=by rw[AXz];exact Y8 (AJ1 d) (xPB (d+1))
theorem AKO d:VQ (TW E (d+1) 90):=by rw[AXK];exact zP (by decide)
theorem AJw d {U n}(b:n<16384):TW E (d+1) 147 [.int .i64 (AA n)] U=some (.B [.int .i64 (AA n),.bool false],U):=by rw[ARS];exact AE8 b
theorem ADl d:VU (TW E (d+2) 91):=by rw[AXJ];exact zO (λU n b=>AJw d b) (by decide)
theorem AJv d:cf (TW E (d+4) 92):=by rw[AXI];exact AE1 (xWw d)
theorem xPO d:ch (TW E (d+3) 94):=by rw[AXH];exact ym (AKH d) (by decide)
theorem xWO d:VE (TW E (d+4) 49):=by rw[AXi];exact yH (xPO d)
theorem AJx d:VP (TW E (d+5) 46):=by rw[AXj];exact AE9 (AKO (d+3)) (ADl (d+2)) (AJv d) (xWO d) (by decide)
theorem AKJ d:VT (TW E (d+6) 95) (TW E (d+5)):=by rw[AXG];exact zc (xWB (d+2)) (AJx (d+0))
theorem AB0 d:VN (TW E (d+1) 150):=by rw[ARP];exact AE6
theorem ATW d:tO (TW E (d+1) 196):=by rw[AQ9];exact AKr
theorem ATg d:tS 196 (TW E (d+2) 195):=by rw[ARA];exact ow (ATW d)
theorem ATp d:tZ (TW E (d+3) 187):=by rw[ARF];exact AMM (ATg d)
theorem AKc d:dC (TW E (d+4) 167):=by rw[ARM];exact AFb (ATp d)
theorem ADu d:VO (TW E (d+5) 149):=by rw[ARQ];exact zN (AKc d) (AB0 (d+3)) (by decide)
theorem xFc d:AGJ (TW E (d+6) 148):=by rw[ARR];exact AUO (ADu d) (AB0 (d+4))
theorem ATc d U a:TW E (d+1) 177 [.int .i64 a] U=some (.bool false,U):=by rw[ARH];exact ALm U a
theorem ATj d:tW (TW E (d+2) 145):=by rw[ARU];exact AMB (ATc d)
theorem xIc d:AGI (TW E (d+3) 144):=by rw[ARV];exact AUK (ATj d)
theorem np d:PS (TW E (d+1) 142):=by rw[ARX];exact yQ
theorem AKI d:jG (TW E (d+1) 146):=by rw[ART];exact ALY (by decide)
theorem AKG d:ACv (TW E (d+1) 197) (TW E d):=by rw[AQ8];exact AFD (by decide)
theorem AKE d:tP (TW E (d+2) 188) (TW E d):=by rw[ARE];exact AEZ (AKG d) (by decide)
theorem AKF d:tQ (TW E (d+3) 176) (TW E d):=by rw[ARI];exact AEb (AKE d)
theorem AKB d:jD (TW E (d+4) 143) (TW E d):=by rw[ARW];exact AKv (AKF d)
theorem xOF d:AAL (TW E (d+11) 97):=by rw[AXE];exact kq (np (d+9)) (AKI (d+9)) (AKB (d+6)) (xFc d)
theorem xOI d:AAK (TW E (d+8) 89):=by rw[AXL];exact pn (np (d+6)) (AKI (d+6)) (AKB (d+3)) (xIc d)
theorem AKU d:TF (TW E (d+1) 88):=by rw[AXM];exact AL3 (by decide)
theorem Y6 d:NA (TW E (d+1) 74):=by rw[AXT];exact yo
theorem xIx d:AM7 (TW E (d+1) 81) (TW E d):=by rw[AXQ];exact λf e c g=>ALt f e c (by omega) (by omega)
theorem xCf d:AGK (TW E (d+2) 41) (TW E d):=by rw[AXn];exact AMG (xIx d)
theorem fG d {U}(c:Ai U)(v:Vc)(f:v.l = .h):∃U',TW E (d+1) 38 [.agg v.c] U=some (.int .i64 (AA 1),U')/\Fr AH U U':=by
 rw[AQ2];exact gq (g:=λ_=>v) (by omega) (by omega) c ⟨.inl ⟨rfl,f⟩⟩ (λ_ k e=>absurd e (DH _))
theorem fC d {U}(i:Ai U)(v:Vc)(h:v.l = .h)(c:v.r=AA 0) j:∃U',TW E (d+3) 23 [.agg v.c,.int .i64 j] U=some (.bool true,U')/\Fr AH U U':=by
 rw[AQ5];exact fW (g:=λ_=>v) (xCf d) (by omega) (by rw[c];rfl) i ⟨.inl ⟨rfl,h⟩⟩ (λ_ _ k f=>absurd f (DH _))
theorem xw d {U}(f:Ai U)(v:Vc)(e:v.l = .h)(g:v.r=AA 0){b q}(c:Bx U q [.int .i64 b]):∃U',TW E (d+4) 42 ([]++[.agg v.c]++[.o q 0]) U=some (.bool false,U')/\Fr AH U U':=by
 rw[AXm];exact pO (λU1 h1 _=>fC d h1 v e g b) f c
theorem ADp d {U}(l:Ai U){v:Vc}{n}{g:Nat->Vc}{b}(m:MY U 6 n v.l λk=>(g k).c)(j:(B8 v.r (AA 0) || B8 v.r b)=true)(i:n<=10000)(e:∀k,k<n->(g k).l = .h/\(g k).r=AA 0):∃U',TW E (d+7) 23 [.agg v.c,.int .i64 b] U=some (.bool true,U')/\Fr AH U U':=by
 rw[AQ5];exact fW (xCf (d+4)) i j l m (λU1 q k c f h=>xw d f.y (g k) (e k c).1 (e k c).2 h)
theorem ADy d {U}(e:Ai U){v:Vc}{n}{g:Nat->Vc}(j:MY U 6 n v.l λk=>(g k).c)(h:n<=10000)(c:∀k,k<n->(g k).l = .h):∃U',TW E (d+2) 38 [.agg v.c] U=some (.int .i64 (AA (1+n)),U')/\Fr AH U U':=by
 rw[AQ2];exact gq (by omega) h e j (λU1 k i f=>fG d f.y (g k) (c k i))
theorem ATf d:tR (TW E (d+1) 129):=by rw[ARb];exact ALx
theorem AKP d:cy 129 (TW E (d+2) 128):=by rw[ARc];exact AFB (ATf d) (by decide)
theorem AKQ d:jI (TW E (d+3) 76):=by rw[AXS];exact ALu (AKP d)
theorem ATX d:ACt (TW E (d+1) 40):=by rw[AXo];exact AK4
theorem AKT d:cz 40 (TW E (d+2) 80) (TW E (d+1)):=by rw[AXR];exact AFF (by decide)
theorem fD d {U ty nm h l i tl}(j:Ai U)(T:PQ U ty h l i tl)(R:UcR tl):
  ∃U',TW E (d+4) 22 [.agg [.N nm,h,l,i]] U=some (.bool true,U')/\Fr AH U U':=by
 rw[AX0];refine kh j T.tb.n1 T.tb.r1 T.tb.t1 λU1 e=>?_;rw[AXp];have g:=T.Z e j;exact AFV (AKT d) e.y g.tb.row (λm k o f=>by
  have ⟨t,b⟩:∃t,tl[k]? = some t:=⟨tl[k],AI o⟩;have x:=(g.Z f e.y).is k t b;exact ATX d m _ _ _ _ f.y ⟨x.K.S,λJ=>x.K.ip⟩ ⟨x.R.S,λJ=>x.R.ip⟩ x.W (R.rt k t b).1 (R.rt k t b).2) R.few
theorem ABy d {b ty j}(e:j<b)(c:(ty j).A=AA 4):jA (TW E (d+1) 24) b ty j GO []:=by rw[AIa];exact AD8 e c
theorem ATl d:tX (TW E (d+2) 96):=by rw[AXF];exact AMF (λb c=>ABy d b c)
theorem ATh d:YR (TW E (d+9) 45):=by rw[AXk];exact AL8 (AKQ (d+5)) (oE (d+4)) (AKC (d+4)) (xOI d) (AKU (d+7)) (AKb (d+4))
theorem AJ2 d:YR (TW E (d+10) 24):=by rw[AIa];exact AD9 (ATh d)
theorem ATk d:YT (TW E (d+12) 55):=by rw[AXh];exact AMD (oE (d+7)) (AKC (d+7)) (xOF (d+0)) (AKU (d+10)) (AKb (d+7)) (AKJ (d+5)) (ATl (d+8)) (λb c=>ABy (d+10) b c)
theorem AJ3 d:YT (TW E (d+13) 24):=by rw[AIa];exact AEA (ATk d)
theorem AKW d {b i ty}(e:i<b)(c:(ty i).A=AA 4):tU (TW E (d+2) 37) b ty i GO:=by rw[AXq];exact qP (Y6 d) e c
theorem ADv d {U ty nm h m g tl i n k pl t key}(j:Ai U)(T:PQ U ty h m g tl)(l:tl[i]? = some t)(c:Yz t k n pl key):
  ∃U',TW E (d+5) 21 [.agg [.N nm,h,m,g],.int .i64 (AA i),.agg (Lo n).c] U=some (.bool true,U')/\Fr AH U U':=by
 rw[AQ6];have e:=(AN.1 l).1;exact wL (by omega) j T.tb.row T.tb.n1 T.tb.r1 T.tb.t1 (λU1 p h1 f o=>by
  have x:=(T.Z f j).is i t l;exact qQ (Y6 (d+2)) (AKQ (d+0)) h1 o e (by decide) (by rw[x.A,c.A]) x.R c.X (by have:=c.n19;omega)) (λU1 h1 f=>fG (d+3) h1 (Lo n) rfl)
theorem ADw d {U ty nm}{w u s l:V}{h1 tl i j k pl t key}(c:Ai U)(T:PQ U ty w u s tl)(y:tl[i]? = some t)(e:TU tl t k j pl key)(q:MY U 6 1 l λ_=>GO.c):
  ∃U',TW E (d+5) 21 [.agg [.N nm,w,u,s],.int .i64 (AA i),.agg (Jz k l h1).c] U=some (.bool true,U')/\Fr AH U U':=by
 rw[AQ6];have h:=(AN.1 y).1;have ⟨C,A,B⟩:=e.X;have ⟨t',b,g⟩:=e.nul;have o:=(AN.1 b).1;exact wL (by omega) c T.tb.row T.tb.n1 T.tb.r1 T.tb.t1 (λU1 p m f z=>by
  have r:=T.Z f c;have x:=r.is i t y;exact qR (Y6 (d+2)) (AKW (d+1) o (by rw[(r.is j t' b).A,g])) m z h (by decide) (by rw[x.A,e.A]) x.K A B (q.fr0 f c)) (λU1 m f=>ADy (d+2) m (q.fr0 f c) (by decide) (λ_ _=>rfl))
theorem pX r k pl:(P5 r k pl).length<=100:=by
 have:=Wj (r-1);unfold P5;split<;>rw[AP,Cw]<;>simp<;>omega
theorem AFX r k pl:(Xq r k pl).length<=200:=by
 have:=pX r k pl;unfold Xq;rw[AP];have h:(if k<r then [] else CV 8 1++FP [0]).length<=16:=by split<;>decide
 omega
theorem AKX d:VS (TW E (d+14) 11):=by
 intro U ty nm m p j tl i t k n pl key a T R g e;rw[ARl];exact qY a T.tb.n1 T.tb.r1 T.tb.t1
  (λU1 h1 f=>ADv (d+8) h1 (T.Z f a) g e)
  (λU1 h1 f=>fD (d+9) h1 (T.Z f a) R)
  (λU1 h1 f=>fC (d+10) h1 (Lo n) rfl rfl _)
  (λl U1 eb w h f k=>AJ2 (d+3) h (T.Z f a) g k (by decide) e)
  (xWB (d+10)) (BE (pX _ _ _) (by decide))
theorem AKY d:RQ (TW E (d+14) 11):=by
 intro U ty nm o u r tl i t l h1 k j pl key a T R m h c;rw[ARl];exact qY a T.tb.n1 T.tb.r1 T.tb.t1
  (λU1 b f=>ADw (d+8) b (T.Z f a) m h (c.fr0 f a))
  (λU1 b f=>fD (d+9) b (T.Z f a) R)
  (λU1 b f=>ADp (d+6) b (c.fr0 f a) rfl (by decide) (λ_ _=>⟨rfl,rfl⟩))
  (λp U1 eb w n f q=>AJ3 (d+0) n (T.Z f a) m q (by decide) h (c.fr0 f a))
  (xWB (d+10)) (BE (AFX _ _ _) (by decide))
theorem ATs d:YV (TW E (d+1) 4):=by
 intro U f;have ⟨ρ,g,c⟩:=AUM (F:=BD E 600000 (TW E d) 4) (zY (e:=eAw) (ρ:=λx=>x) (args:=[]) (U:=U) rfl Has.nil Inj.nil);exact⟨_,by rw[DE4,c];rfl,GY.fr0 lY rfl g f⟩
theorem oO{E v n f}(c:ArI E v n f) a t:okB (F3 E (TW E 59) (AV E (TW E 59)) 600000 [v,.int .i64 a,.int .i64 t] ⟨100,[]⟩)=true:=by
 have b:Ai ⟨100,[]⟩:=λ_ _=>rfl;have ⟨U',h⟩:=oT (yG 39) (AKS 58) (ADo 38) (AKY 45) (AKX 45) (ATs 58) (ATY 57) (xSm 58) (oF 57) (ATn 56) (ATZ 55) (by decide) b rfl (AL _) c a t;rw[h];rfl
end
end Go.Proofs.YtpbligmafbkeaaaGreatDoor
set_option maxHeartbeats 0
namespace Go.Proofs.YtpbligmafbkeaaaGreatDoor.uperChoices
open Go
theorem lG:(Rows.uperChoicesRow.inPlace==Tryz.pinned.checked.prog.inPlace 3)=true:=by kernel_rfl
theorem UE:(Rows.uperChoicesRow.unfollowed==Tryz.pinned.checked.prog.unfollowed 3)=true:=by kernel_rfl
theorem ZZ:(Rows.uperChoicesRow.recurses==Tryz.pinned.checked.prog.recurses 3)=true:=by kernel_rfl
theorem XW:(Rows.uperChoicesRow.named==Tryz.pinned.checked.prog.varsNamed 3)=true:=by kernel_rfl
end Go.Proofs.YtpbligmafbkeaaaGreatDoor.uperChoices
