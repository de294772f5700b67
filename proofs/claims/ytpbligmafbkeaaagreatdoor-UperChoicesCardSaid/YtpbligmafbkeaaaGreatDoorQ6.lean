/- What the last text leans on, part 7 of 8: merged out of smaller texts. No condition. -/
import Derived.Test.YtpbligmafbkeaaaGreatDoorQ5
open Int renaming ofNat -> AA
open Nat renaming reduceLeDiff -> AB,reduceEqDiff -> AD,reduceLT -> AG,le_refl -> AL,add -> AM,beq_eq -> AW,ble -> Am,beq -> Ar,lt_or_ge -> A2,le_trans -> BE,zero_add -> BV,ble_eq -> Bn,blt -> B9,mul_one -> CB,blt_eq -> Co,not_lt_zero -> DH,add_sub_cancel_left -> DL,lt_irrefl -> Dp,add_assoc -> D4,sub_self -> Ec,lt_of_lt_of_le -> Eh,le_add_right -> FT,mul_le_mul_right -> Fm,beq_refl -> Gb,min_eq_left -> Ha,mod_lt -> Jr,div_lt_iff_lt_mul -> Ku,sub_zero -> NH,pow_succ -> NI,lt_trichotomy -> WX,add_sub_add_right -> Y3,pow_pos -> nO,eq_zero_or_pos -> AJB
open List renaming getElem?_eq_getElem -> AI,getElem?_eq_some_iff -> AN,length_append -> AP,mem_cons_self -> AZ,length_cons -> Ag,getElem?_map -> As,getElem?_append_right -> Aw,mem_cons_of_mem -> Az,mem_cons -> A0,length_set -> BA,append_assoc -> BC,getD_eq_getElem?_getD -> BK,append_nil -> BP,eq_nil_of_length_eq_zero -> Ba,getElem?_cons_succ -> Bh,length_map -> Bp,mem_singleton -> B5,getElem?_drop -> B6,getElem?_append_left -> CH,mem_append -> CN,getElem?_take_of_lt -> CQ,range -> CW,drop_drop -> Cd,length_nil -> Cm,getElem?_set_self -> C3,map_cons -> C7,length_take -> DM,range' -> Da,cons_append -> D9,all_eq_true -> EA,pairwise_iff_getElem -> EH,mem_range -> EV,mem_of_getElem? -> Em,pairwise_map -> E6,drop_zero -> E7,not_mem_nil -> FU,mem_map -> Fb,getElem_mem -> Gg,nil_append -> Hb,pairwise_append -> Hn,take_length -> Iz,take_of_length_le -> Js,set_append_right -> Kv,getElem?_set_ne -> MW,pairwise_cons -> Rv,length -> Rw,map_nil -> WZ,drop_take -> Wb,length_drop -> ey,all_cons -> kN,map_append -> xY,countP_eq_zero -> xp,length_range' -> AJC,drop_left -> AJD,take_add_one -> ATI,idxOf_append -> ATJ
open Bool renaming and_eq_true -> AQ,and_true -> Bz,eq_false_iff -> EP,true_and -> EX,false_or -> Fc,eq_iff_iff -> xd
open Option renaming bind_eq_some_iff -> AU,map_eq_some_iff -> Aa,bind_some -> Bk,map_some -> Cl
set_option linter.all false
set_option maxRecDepth 100000
namespace Go.Proofs.YtpbligmafbkeaaaGreatDoor
open Go Go.Og
noncomputable section
def Zo(v:V):Prop:=v = .h\/∃b n c,v = .D b 0 n c
theorem DW.zo{U d k v l}(h:DW U d k v l):Zo v:=by
 rcases h with (⟨_,e,_⟩|⟨b,e,_⟩)|⟨b,e,_⟩
 ·exact .inl e
 ·exact .inr ⟨_,_,_,e⟩
 ·exact .inr ⟨_,_,_,e⟩
structure X7(n0:Nat)(U:H)(az:List (List Nat))(rs:List Nat)(tl:List Cu)(u rv lv:V):Prop where
 n:Cv U 1 az.length u (fQ az)
 r:Cv U 1 rs.length rv (FJ rs)
 t:∃ws:List (V × V × V),Cv U 13 tl.length lv (EF tl ws)/\ws.length=tl.length/\∀(k:Nat) (t:Cu) (w:V × V × V),tl[k]? = some t->ws[k]? = some w->X6 U t.wn w.1/\Cv U 3 t.R.length w.2.1 (JE t.R)/\Cv U 11 t.K.length w.2.2 (Ie t.K)/\∀b,(AJ w.1 b\/AJ w.2.1 b\/AJ w.2.2 b)->n0<=b
 f:∀b,(AJ u b\/AJ rv b\/AJ lv b)->n0<=b
 z:Zo lv
def Lv(T:MT):List Nat->List Cu->List Nat->Option (List Nat × List Cu)
 | [],tl,a=>some (a,tl)
 | k::b,tl,a=>(T 0 k tl).bind λr=>Lv T b r.2 (a++[r.1])
def Ma(nm:List Nat)(u b a:V):List V:=[.N (BB nm),u,b,a]
def cw(m:Cs)(T:MT)(F:List V->H->AE):Prop:=∀(U:H) f c d a tl,Ai U->PX U m f c d->Lv T m.ks [] []=some (a,tl) ->
 ∃u b e U',F [.agg (I2 m f c d)] U=some (.B [.agg (Ma m.nm u b e),.int .i64 (AA 0),.int .i64 (AA 0)],U')/\X7 U.j U' m.az a tl u b e/\Fr AH U U'
section
variable {E:EB}{D:Ac}{N:Nat}
theorem AEy{m:Cs}{T}(hm:LR m)(hT:Ii m T (D 35)){S G:H}{cb rb xb tb}{nv tv dv u:V}(ht0:Ai S)(hs0:PX S m nv tv dv)(F:Ai G)(hc5:Bx G cb (I2 m nv tv dv))(hr5:Bx G rb [.N (BS.mk 0 0),.h,.h,.h])(hu5:DW G 1 m.az.length u (fQ m.az))(l05:S.j<=G.j)
  (cx:cb≠xb) (ct:cb≠tb) (rx:rb≠xb) (rt:rb≠tb) (ux:∀b,AJ u b->b≠xb/\b≠tb/\b≠rb/\S.j<=b) (x5:xb<G.j) (t5:tb<G.j) (t0:S.j<=tb) (r0:S.j<=rb):∀(ks:List Nat) (i k:Nat) {U:H}{C A:V}{tl O:List Cu}{rs Q:List Nat},m.ks.drop i=ks->i+ks.length=m.az.length->ks.length<k->rs.length=i ->
  Mk S U xb m nv tv dv tl C (λb=>b=tb\/AJ A b\/(b=rb\/b<S.j))->Bx U tb [.N (BB m.nm),u,A,.h]->DW U 1 rs.length A (FJ rs)->(∀b,AJ C b->G.j<=b)->(∀b,AJ A b->G.j<=b)->Fr (λb=>b=xb\/b=tb) G U->Lv T ks tl rs=some (Q,O) ->
  ∃L M U',Ye E D (AV E D) N k cb 0 rb 0 xb 0 tb 0 (AA i) U=some (.B [.agg (Ma m.nm u L M),.int .i64 (AA 0),.int .i64 (AA 0)],U')/\X7 S.j U' m.az Q O u L M/\Fr (λb=>b=xb\/b=tb\/b=rb) G U':=by
 have hfew:=hm.few.2;have hc_lt:=hc5.lt F;have hr_lt:=hr5.lt F;intro ks;induction ks with
 | nil=>
  intro i k U C A tl O rs Q hk hi hn hrs h ht hr ll rl f hp;obtain⟨k,rfl⟩:∃j,k=j+1:=⟨k-1,by omega⟩;cases hp;have y:=h.ht;have hc:=f.X hc5 F (λe=>e.elim cx ct);have hrb:=f.X hr5 F (λe=>e.elim rx rt);have hu:=hu5.Z f F (λb s e=>e.elim (ux b s).1 (ux b s).2.1);have sl:∀J:Nat->AE,Ao nv J=J m.az.length:=λJ=>hs0.n.ip;have d1:decide (i<m.az.length)=false:=decide_eq_false (by simp at hi;omega);have ⟨ws,h1,h2,h3⟩:=h.w;have ⟨Ua,ga,fa,aa⟩:=ZC y ht h1.S (show 3<4 by decide);have aa:Bx Ua tb (Ma m.nm u A C):=aa;have hra:=fa.X hrb y (by omega);have ⟨Ub,eb,fb,ab⟩:=Y2 fa.y hra (Ma m.nm u A C);have ho:BH (Ma m.nm u A C)=true:=by
   unfold Ma;simp only[Bg,CE,FZ,hu.S,hr.S,h1.S,Bz]
  have gb:∀J:H->AE,DO 4 rb 0 (.agg (Ma m.nm u A C)) Ua J=J Ub:=λJ=>by
   rw[Ed hra (by
    rw[Dr,ho];rfl),Dr]
   show J (Gl Ua rb (.cells (Ma m.nm u A C)))=_;rw[eb]
  have I:=h.a;have B:Fr (λb=>b=tb\/b=rb) U Ub:=(fa.mono (λ_ _ e => .inl e):Fr (λb=>b=tb\/b=rb) U Ua).trans fb (λ_ _ e => .inr e);refine⟨A,C,Ub,?_,⟨(hu.Z B y (λb s e=>e.elim (ux b s).2.1 (ux b s).2.2.1)).src,(hr.Z B y (λb s e=>by have:=rl b s;omega)).src,⟨ws,(h1.Z B y (λb s e=>by have:=ll b s;omega)).src,h2,λj t w hj hw=>?_⟩,λb s=>?_,DW.zo h1⟩,(f.mono (λ_ _ e=>e.imp id .inl):Fr (λb=>b=xb\/b=tb\/b=rb) G U).trans B (λb _ e => .inr e)⟩
  ·unfold I2 at hc
   unfold ZV at I;unfold Ma at aa ab gb ⊢;have sub:∀J:List V->AE,FD [.N (BB m.nm),u,A,C] 0 4 J=J [.N (BB m.nm),u,A,C]:=λJ=>by
    rw[E2 (by simp)];rfl
   have o1:=hu.S;have o2:=hr.S;have o3:=h1.S;show Q7 E D (AV E D) (TA E D (AV E D)) _ cb 0 rb 0 xb 0 tb 0 (AA i) U=_;have key:∀R,Q7 E D (AV E D) (TA E D (AV E D)) R cb 0 rb 0 xb 0 tb 0 (AA i) U=some (.B [.agg [.N (BB m.nm),u,A,C],.int .i64 (AA 0),.int .i64 (AA 0)],Ub):=by
    intro R;unfold Q7 TA;simp only[↓rP,rA,AD,AG,AB,↓AT hc,↓sl,d1,↓AT I,↓ga,↓BU aa,↓sub,↓gb,↓BU ab]
   exact key _
  ·obtain⟨a,b,c,d⟩:=h3 j t w hj hw
   have nn:∀x,(AJ w.1 x\/AJ w.2.1 x\/AJ w.2.2 x)->¬(x=tb\/x=rb):=λx I e=>(d x I).2.2 (e.elim .inl (λe => .inr (.inr (.inl e))));exact⟨a.Z B y (λx I e=>nn x (.inl I) e),b.Z B y (λx I e=>nn x (.inr (.inl I)) e),c.Z B y (λx I e=>nn x (.inr (.inr I)) e),λx I=>Nat.le_of_not_lt λe=>(d x I).2.2 (.inr (.inr (.inr e)))⟩
  ·rcases s with s|s|s
   ·exact(ux b s).2.2.2
   ·have:=rl b s;omega
   ·have:=ll b s;omega
 | cons k0 ks ih=>
  intro i k U C A tl O rs Q hk hi hn hrs h ht hr ll rl f hp;obtain⟨k,rfl⟩:∃j,k=j+1:=⟨k-1,by omega⟩;obtain⟨⟨r,tl1⟩,h1,hp⟩:=AU.1 hp;simp only[Ag]at hi hn;have y:=h.ht;have hc:=f.X hc5 F (λe=>e.elim cx ct);have le:=f.le;have hki:m.ks[i]? = some k0:=by
   have:=congrArg (λl:List Nat=>l[0]?) hk;simpa using this
  obtain⟨e',lv1,rv1,U1,g,t1,t2,t8,t9,t10,hm1,ha1,hr1,m1,m2,f1⟩:=lA hT (λb e=>by omega) ht0 hs0 h hc ht hr (by omega) hki cx (λe=>by have:=ll _ e;omega) (λe=>by have:=rl _ e;omega) ct (λe=>by have:=rl _ e;omega) (λb s=>by have:=rl b s;omega) t0 h1;have F1:Fr (λb=>b=xb\/b=tb) G U1:=f.trans f1 (λb s e=>by
   rcases e with e|e|e|e
   ·exact .inl e
   ·exact .inr e
   ·have:=ll b e;omega
   ·have:=rl b e;omega)
  have a1:BQ .i64 (AA i) (AA 1)=AA (i+1):=Al (by omega);obtain⟨L,M,U',g',tb',f'⟩:=ih (i+1) k (by rw[<-Cd,hk];rfl) (by omega) (by omega) (by simp[hrs]) hm1 ha1 (by rw[AP];exact hr1) (λb s=>(m1 b s).elim (ll b) (λe=>by omega)) (λb s=>(m2 b s).elim (rl b) (λe=>by omega)) F1 hp;refine⟨L,M,U',?_,tb',f'⟩;have sl:∀J:Nat->AE,Ao nv J=J m.az.length:=λJ=>hs0.n.ip;have d1:decide (i<m.az.length)=true:=decide_eq_true (by omega);have gd:∀J:CF->H->AE,CM (AV E D TR ND [(1,.o cb 0),(2,.o rb 0),(8,.o xb 0),(9,.o tb 0),(10,.int .i64 (AA i))] U) J=J e' U1:=λJ=>by rw[g];rfl
  have m1':∀J:V->AE,Bj e' 1 J=J (.o cb 0):=λJ=>Bc t1 rfl;have m2':∀J:V->AE,Bj e' 2 J=J (.o rb 0):=λJ=>Bc t2 rfl;have m8':∀J:V->AE,Bj e' 8 J=J (.o xb 0):=λJ=>Bc t8 rfl;have m9':∀J:V->AE,Bj e' 9 J=J (.o tb 0):=λJ=>Bc t9 rfl;have m10':∀J:V->AE,Bj e' 10 J=J (.int .i64 (AA i)):=λJ=>Bc t10 rfl;have hx1:=hm1.a;unfold I2 at hc;unfold ZV at hx1;show Q7 E D (AV E D) (TA E D (AV E D)) (Ye E D (AV E D) N k) cb 0 rb 0 xb 0 tb 0 (AA i) U=_;have key:∀R,Q7 E D (AV E D) (TA E D (AV E D)) R cb 0 rb 0 xb 0 tb 0 (AA i) U=R cb 0 rb 0 xb 0 tb 0 (AA (i+1)) U1:=by
   intro R;unfold Q7;simp only[↓rP,rA,AD,AG,AB,↓AT hc,↓sl,d1,↓gd,↓m1',↓m2',↓m8',↓m9',↓m10',↓AT hx1,a1]
  rw[key];exact g'
theorem AEz{m:Cs}{T}(G:LR m)(hO:VJ m (D 34))(hT:Ii m T (D 35))(hN:100<N):cw m T (F15 E D (AV E D) N):=by
 intro U i l g rs tl I v hp;have hfew:=G.few.2;have ⟨U1,e1,B,a1,n1⟩:=Fh I (I2 m i l g);have ⟨U2,e2,p,a2,n2⟩:=Fh B.y [.N (BS.mk 0 0),.h,.h,.h];have od:g.S=true:=by
  have ⟨ws,h1,_⟩:=v.d;exact h1.S
 have x:=B.trans p (λ_ _ h=>h);have ⟨v3,A,g3,o3,r⟩:=hO U2 i l g p.y (v.Z x I);have f03:=x.trans r (λ_ _ h=>h);have ⟨L,e4,f,a4,n4⟩:=Fh r.y (ZV m i l g .h);have z:=f03.trans f (λ_ _ h=>h);have c2:=p.X a1 B.y (λh=>h);have c3:=r.X c2 p.y (λh=>h);have c4:=f.X c3 r.y (λh=>h);have r4:=f.X (r.X a2 p.y (λh=>h)) r.y (λh=>h);have ⟨e',u,U5,g5,t1,t2,t8,t9,a5,d5,m5,l5,s⟩:=lC (E:=E) (D:=D) (p2 := .o U1.j 0) (p8 := .o A.j 0) f.y c4 (v.n.Z z I (λ_ _ h=>h)) (by omega);have le1:=B.le;have le2:=p.le;have le3:=r.le;have le4:=f.le;have x4:=a4.lt f.y;have r2:=a2.lt p.y;have y:=z.trans s (λ_ _ h=>h);have mk:Mk U U5 A.j m i l g [] .h (λb=>b=L.j+6\/AJ .h b\/(b=U1.j\/b<U.j)):=⟨s.X a4 f.y (λh=>h),⟨[],DW.nil _ _,rfl,λk t w h=>by simp at h⟩,λb n=>n.elim,λq=>by
  rcases q with q|q|q
  ·omega
  ·exact q.elim
  ·omega,by omega,y⟩
 have ⟨rv',lv',U',g',tbs,f'⟩:=AEy (E:=E) (N:=N) (k:=N) G hT I v s.y (s.X c4 f.y (λh=>h)) (s.X r4 f.y (λh=>h)) d5 (by omega) (by omega) (by omega) (by omega) (by omega) (λb n=>by have:=m5 b n;omega) (by omega) (by omega) (by omega) (by omega) m.ks 0 rfl (by rw[G.as_many];omega) (by rw[G.as_many];omega) rfl mk a5 (DW.nil _ _) (λb n=>n.elim) (λb n=>n.elim) (Fr.refl s.y) hp;refine⟨u,rv',lv',U',?_,tbs,y.trans f' (λb n e=>by omega)⟩;unfold I2 at e1 a1 g3 c2 c3;unfold ZV at e4;have M:∀J,FD [.N (BB m.nm),.int .i64 (AA m.tg),i,l,g] 0 5 J=J [.N (BB m.nm),.int .i64 (AA m.tg),i,l,g]:=λJ=>by
  rw[E2 (by simp)];rfl
 have gd:∀J:CF->H->AE,CM (AV E D TS Ow [(1,.o U.j 0),(2,.o U1.j 0),(8,.o A.j 0)] L) J=J e' U5:=λJ=>by rw[g5];rfl
 have m1':∀J:V->AE,Bj e' 1 J=J (.o U.j 0):=λJ=>Bc t1 rfl;have m2':∀J:V->AE,Bj e' 2 J=J (.o U1.j 0):=λJ=>Bc t2 rfl;have m8':∀J:V->AE,Bj e' 8 J=J (.o A.j 0):=λJ=>Bc t8 rfl;have m9':∀J:V->AE,Bj e' 9 J=J (.o (L.j+6) 0):=λJ=>Bc t9 rfl;have o1:=v.n.S;have o2:=v.t.S;show ij E D (AV E D) (Ye E D (AV E D) N N) (BB m.nm) (AA m.tg) i l g U=_;have key:∀K2,ij E D (AV E D) K2 (BB m.nm) (AA m.tg) i l g U=K2 U.j 0 U1.j 0 A.j 0 (L.j+6) 0 (AA 0) U5:=by
  intro K2;unfold ij;simp only[↓rP,rA,AD,AG,AB,o1,o2,od,↓e1,↓e2,↓BU c2,↓M,↓g3,↓Ab,o3,↓BU c3,↓e4,↓gd,↓m1',↓m2',↓m8',↓m9']
 rw[key];exact g'
end
end
end Go.Proofs.YtpbligmafbkeaaaGreatDoor
namespace Go.Og
noncomputable section
section
variable {Q:DS->Prop}{E:EB}{D:Ac}{U Uc U':H}{n i:Nat}{S:Nat->Prop}{d:Option Nat}{o:Ek}{l:List BO}{anc:Nat}{lk:List Nat}{pl:List DP}{e env:CF}{nx am:Nat}{ss:List (EB)}{ks:List Nat}{ls:List (Nat × Ek × CF × V)}{g:Option (Nat × Bool)}
theorem Zb v (r:B0 (restr lk e) g=some true)(s:o.d8 = .p)(q:Bb o (restr lk e)=some v)(k:FB Q E D U n (i+1) l pl ⟨DY e d v,nx,ss,ks,am,ls⟩):FB Q E D U n i (⟨d,o,g⟩::l) (⟨anc,lk⟩::pl) ⟨e,nx,ss,ks,am,ls⟩:=by grind [FB,KR,Ch]
theorem AFG v (O:Ey E U n S nx ss am ls Uc)(P:B0 (restr lk e) g=some true)(R:o.d8 = .l)(C:RZ E U n S o (restr lk e) v)(k:Ey E U n S nx ss am ((i,o,restr lk e,v)::ls) Uc->FB Q E D U n (i+1) l pl ⟨DY e d v,nx,ss,ks,am,(i,o,restr lk e,v)::ls⟩):
  FB Q E D U n i (⟨d,o,g⟩::l) (⟨anc,lk⟩::pl) ⟨e,nx,ss,ks,am,ls⟩:=by
 obtain⟨⟨K,r,rfl⟩,T,N,G,J,L⟩:=O;have ⟨z,I,M⟩:=k ⟨⟨K,r,rfl⟩,T,N,G,J,λx A=>by
  rcases A0.1 A with rfl|A
  ·exact C
  ·exact L x A⟩
 have h:KR E D U.j n i ⟨d,o,g⟩ ⟨anc,lk⟩ ⟨e,nx,Uc.F::r,ks,am,ls⟩=some ⟨DY e d v,nx,Uc.F::r,ks,am,(i,o,restr lk e,v)::ls⟩:=by
  unfold KR;simp only[P,R,C.2 nx Uc.F _ (G _ AZ)]
 refine⟨z,?_,M⟩;show (match KR E D U.j n i ⟨d,o,g⟩ ⟨anc,lk⟩ ⟨e,nx,Uc.F::r,ks,am,ls⟩with | none=>none | some z=>Ch E D U.j n (i+1) l pl z)=_;rw[h];exact I
theorem zV{d}(l:Ey E U n S nx ss am ls Uc):FB (Jx E U n d e Uc) E D U n i [] pl ⟨e,nx,ss,ks,am,ls⟩:=by
 obtain⟨⟨h,r,rfl⟩,z,y,k,f,g⟩:=l;refine⟨_,IA,rfl,h,⟨r,rfl⟩,?_,λj q v=>f _ AZ j q v⟩;exact EA.2 λx p=>JJ (g x p) _ _ _ k
end
end
end Go.Og
namespace Go.Proofs.YtpbligmafbkeaaaGreatDoor
open Go Go.Og
noncomputable section
def Ka(T:Cs->MT)(N:Nat)(F:List V->H->AE):Prop:=∀(U:H) (s:BS) c (m:Cs) a (tl:List Cu),Ai U->s.len<=3000->GN N s.len s.mt c->pv (Hd 2) c=some m->LR m->Lv (T m) m.ks [] []=some (a,tl) ->
 ∃u b d U',F [.N s] U=some (.B [.agg (Ma m.nm u b d),.bool (decide (tl.length<=120))],U')/\X7 U.j U' m.az a tl u b d/\Fr AH U U'
section
variable {E:EB}{D:Ac}{N:Nat}
theorem kY{U:H}{rb tb nm u f a P rs}{tl:List Cu}(l:Ai U)(F:Bx U rb [.N (BS.mk 0 0),.h,.h,.h])(C:Bx U tb (Ma nm u f a)){n0}(z:X7 n0 U P rs tl u f a)(s:tb≠rb)(bu:V.beq u u=true)(br:V.beq f f=true)(A:V.beq a a=true):
    ∃e' U',AV E D me ma [(2,.o rb 0),(7,.o tb 0),(9,.int .i64 (AA 0))] U=some (e',U')/\Go.Og.look e' 2=some (.o rb 0)/\Go.Og.look e' 3=some (.bool (decide (tl.length<=120)))/\Bx U' rb (Ma nm u f a)/\Fr (λk=>k=rb) U U':=by
  have ⟨ws,h1,h2,h3⟩:=z.t;have w:=(B7 (E:=E) (n:=11) (S:=AH) l).Z;have lr:=F.lt l;have R:BH (Ma nm u f a)=true:=by
    unfold Ma;simp only[Bg,CE,FZ,z.n.S,z.r.S,h1.S,Bz]
  have T:∃i,ES E D (.store 4 (.tmp 2) (.tmp 29)) [(2,.o rb 0),(29,.agg (Ma nm u f a))] ⟨U.j+11,U.F⟩=some (.i5,i)/\Fr (λk=>k=rb) ⟨U.j+11,U.F⟩ i/\Bx i rb (Ma nm u f a):=by
    have ⟨i,q1,q2,O⟩:=HM (E:=E) (D:=D) (n:=4) (x := .tmp 2) w.y (w.X F l (λh=>h)) rfl (show (Ca [(2,.o rb 0),(29,.agg (Ma nm u f a))] (.tmp 29)).cells=Ma nm u f a from rfl) (by
      rw[R];rfl)
    exact⟨i,q1,q2,O⟩
  have ⟨i,g4,G,M⟩:=T;have p:=C;unfold Ma at p;have m:V.beq (.agg (Ma nm u f a)) (.agg (Ma nm u f a))=true:=by
    show (V.beq (.N (BB nm)) (.N (BB nm))&&(V.beq u u&&(V.beq f f&&(V.beq a a&&true))))=true;rw[bu,br,A];show (decide _&&_)=true;rw[decide_eq_true rfl];rfl
  have r:Bb (.len false (.tmp 34)) [(34,a),(32,.bool true)]=some (.int .i64 (AA tl.length)):=by
    rcases h1 with ⟨Q,e,_⟩|⟨b,o,c,L,e,_⟩
    · rw[Q,e];rfl
    · rw[e];rfl
  have v:Bb (.pp .leq .none (.tmp 35) (.T (.int .i64 (AA 120)))) [(35,.int .i64 (AA tl.length)),(32,.bool true)]=some (.bool (decide (tl.length<=120))):=by
    show some (V.bool (decide (AA tl.length<=AA 120)))=_;rw[show decide (AA tl.length<=AA 120)=decide (tl.length<=120)from decide_eq_decide.2 Int.ofNat_le]
  have J:FB (Jx E U 11 ma _ i) E D U 11 0 me ma ⟨[(2,.o rb 0),(7,.o tb 0),(9,.int .i64 (AA 0))],U.j+11,[U.F],[],0,[]⟩:=
    HF (.agg (Ma nm u f a)) (B7 l) rfl (Fu rfl C rfl rfl l s m) λr1=>
    DR (.int .i64 (AA 0)) rfl rfl <|
    DR (.bool true) rfl rfl <|
    DR (.bool true) rfl rfl <|
    Zb (.o tb 3) rfl rfl rfl <|
    AFG a r1 rfl rfl (Cj rfl p rfl l s A) λN=>
    Zb (.int .i64 (AA tl.length)) rfl rfl r <|
    Zb (.bool (decide (tl.length<=120))) rfl rfl v <|
    DR (.bool (decide (tl.length<=120))) rfl rfl <|
    Mt .i5 N rfl (by decide) G (λ_ _ h=>h) (λb h h1 _=>by omega) g4 λ_ _ K=>
    DR (.bool (decide (tl.length<=120))) rfl rfl <|
    zV K
  have d:=HG (ops:=me) J;exact⟨_,i,d,rfl,rfl,M,(w.mono (λ_ _ h=>h.elim):Fr (λk=>k=rb) U _).trans G (λ_ _ h=>h)⟩
theorem To{U e n v m}(h:Cv U e n v m):V.beq v v=true:=by
 rcases h with ⟨_,rfl,_⟩|⟨b,o,c,L,rfl,_⟩<;>exact Be _ rfl
theorem X7.Z{n0}{U U':H}{S o q tl u n p}(h:X7 n0 U o q tl u n p)(f:Fr S U U')(e:Ai U)(j:∀b,n0<=b->b<U.j->¬S b):X7 n0 U' o q tl u n p:=by
 have ⟨v,h1,y,z⟩:=h.t;refine⟨h.n.Z f e (λb g=>j b (h.f b (.inl g)) (h.n.lt e g)),h.r.Z f e (λb g=>j b (h.f b (.inr (.inl g))) (h.r.lt e g)),⟨v,h1.Z f e (λb g=>j b (h.f b (.inr (.inr g))) (h1.lt e g)),y,λk t w r s=>?_⟩,h.f,h.z⟩;have ⟨a,b,c,d⟩:=z k t w r s;exact⟨a.Z f e (λx i=>j x (d x (.inl i)) (a.lt e i)),b.Z f e (λx i=>j x (d x (.inr (.inl i))) (b.lt e i)),c.Z f e (λx i=>j x (d x (.inr (.inr i))) (c.lt e i)),d⟩
theorem X7.low{n0 m U l n tl u j g}(h:X7 n0 U l n tl u j g)(i:m<=n0):X7 m U l n tl u j g:=by
 have ⟨o,h1,p,a⟩:=h.t;exact⟨h.n,h.r,⟨o,h1,p,λk t w c d=>⟨(a k t w c d).1,(a k t w c d).2.1,(a k t w c d).2.2.1,λb e=>BE i ((a k t w c d).2.2.2 b e)⟩⟩,λb e=>BE i (h.f b e),h.z⟩
theorem o7{T}(hP:VI N (Hd 2) (D 14))(hM:∀m,LR m->cw m (T m) (D 15)):Ka T N (F7 E D (AV E D) N):=by
 intro U s ts m rs tl ht hs F hm A hr;have ⟨U1,e1,k,a1,n1⟩:=Fh ht [.N (BS.mk 0 0),.h,.h,.h];have ⟨nv,tv,dv,U2,g2,q,l⟩:=hP U1 s ts m k.y (by omega) F hm;have ⟨u,f,i,o,G,t,j⟩:=hM m A U2 nv tv dv rs tl l.y q hr;have ⟨x,e4,C,a4,n4⟩:=Fh j.y [.N (BS.mk 0 0),.h,.h,.h];have ⟨K,e5,y,a5⟩:=Y2 C.y a4 (Ma m.nm u f i);have l3:=t.t;have ⟨ws,h1,h2,h3⟩:=l3;have ho:BH (Ma m.nm u f i)=true:=by
  unfold Ma;simp only[Bg,CE,FZ,t.n.S,t.r.S,h1.S,Bz]
 have O:∀J,DO 4 o.j 0 (.agg (Ma m.nm u f i)) x J=J K:=λJ=>by
  rw[Ed a4 (by
   rw[Dr,ho];rfl),Dr]
  show J (Gl x o.j (.cells (Ma m.nm u f i)))=_;rw[e5]
 have le1:=k.le;have le2:=l.le;have le3:=j.le;have le4:=C.le;have lr:=a1.lt k.y;have g:=(C.mono (λ_ _ h=>h.elim):Fr (λb=>o.j<=b) o x).trans y (λb _ e=>by omega);have v:=t.Z g j.y (λb _ h1 h2=>by omega);have r5:=g.X (j.X (l.X a1 k.y (λh=>h)) l.y (λh=>h)) j.y (by omega);have ⟨e',P,g6,t2,t3,M,L⟩:=kY (E:=E) (D:=D) y.y r5 a5 v (by omega) (To v.n) (To v.r) (To h1);refine⟨u,f,i,P,?_,(v.Z L y.y (λb h1 _ e=>by omega)).low (by omega),((((k.trans l (λ_ _ h=>h)).trans j (λ_ _ h=>h)).trans g (λb hb e=>by omega))).trans L (λb hb e=>by omega)⟩;have d1:decide (3000<s.len)=false:=decide_eq_false (by omega);have gd:∀J,CM (AV E D me ma [(2,.o U.j 0),(7,.o o.j 0),(9,.int .i64 (AA 0))] K) J=J e' P:=λJ=>by rw[g6];rfl
 have w:∀J,Bj e' 2 J=J (.o U.j 0):=λJ=>Bc t2 rfl;have I:∀J:V->AE,Bj e' 3 J=J (.bool (decide (tl.length<=120))):=λJ=>Bc t3 rfl;have o1:=q.n.S;have o2:=q.t.S;have o3:dv.S=true:=by
  have ⟨ws,h1,_⟩:=q.d;exact h1.S
 unfold I2 at g2 G;unfold Ma at G O M ⊢;have sub:∀J:List V->AE,FD [.N (BB m.nm),u,f,i] 0 4 J=J [.N (BB m.nm),u,f,i]:=λJ=>by
  rw[E2 (by simp)];rfl
 show AFh E D (AV E D) s U=_;unfold AFh;simp only[↓rP,rA,AD,AG,AB,↓e1,d1,↓g2,o1,o2,o3,Bg,CE,FZ,G3,↓G,↓e4,↓O,↓gd,↓w,↓I,↓BU M]
end
def Wh(n:Nat):Bool->List (Nat × Nat)->List (Nat × Nat)
 | true,l=>(2,n)::l.drop 1
 | false,l=>(2,n)::l
def imN(a:Bool):Nat:=match a with | true=>1 | false=>0
def cd(F:List V->H->AE):Prop:=∀{U:H}{a}{l:List (Nat × Nat)}{n} c,Ai U->X6 U l a->l.length=1->n<=268435456 ->
 ∃v U',F [a,.int .i64 (AA n),.int .i64 (AA (imN c))] U=some (.B [v,.int .i64 (AA 0)],U')/\X6 U' (Wh n c l) v/\(∀b,AJ v b->U.j<=b)/\Fr AH U U'
section
variable {E:EB}{D:Ac}{W:AF}{N:Nat}
theorem AEc b:CT 2 (.D b 0 1 (.ex 1)) (some (.int .i64 (AA 1))) none none=some (.D b 0 0 (.ex 0)):=rfl
theorem AD4:cd (wq E D W N):=by
 intro U Z l n C s j h1 hn;obtain⟨tb,rfl⟩:=j.e h1;obtain⟨t0,rfl⟩:=List.length_eq_one_iff.1 h1;have ⟨U1,B,p,G,n1⟩:=Fh s [.int .i64 (AA 2),.int .i64 (AA n)];have A:decide (n<0)=false:=decide_eq_false (by omega);have I:decide (268435456<n)=false:=decide_eq_false (by omega);have F:DW U1 2 1 (.D U.j 0 1 (.ex 1)) [.int .i64 (AA 2),.int .i64 (AA n)] := .inr ⟨_,rfl,G,rfl⟩;have M:=j.lt s rfl;show ∃v U',Nh E D W (.D tb 0 1 (.ex 1)) (AA n) (AA (imN C)) U=_/\_;cases C with
 | true=>
  have R:∀J,gK (CT 2 (.D tb 0 1 (.ex 1)) (some (.int .i64 (AA 1))) none none) J=J (.D tb 0 0 (.ex 0)):=λJ=>by rw[AEc];rfl
  have ⟨z,K⟩:∃z,Bx U1 tb z:=by
   rcases j.s with ⟨h,_⟩|⟨b,o,c,L,e,O,_⟩
   ·simp at h
   ·cases e;exact⟨L,p.X O s (λh=>h)⟩
  have x:Cv U1 2 0 (.D tb 0 0 (.ex 0)) [] := .inr ⟨tb,0,.ex 0,z,rfl,K,by omega,rfl⟩;have P:∀J,Dx E 2 16 (.D U.j 0 1 (.ex 1)) (.D tb 0 0 (.ex 0)) U1 J=J (.D U.j 0 1 (.ex 1)) U1:=λJ=>rV F x;refine⟨.D U.j 0 1 (.ex 1),U1,?_,⟨.inr ⟨_,0,_,_,rfl,G,AL _,rfl⟩,λ_=>⟨_,rfl⟩⟩,λb t=>by cases t;exact AL _,p⟩;show Nh E D W (.D tb 0 1 (.ex 1)) (AA n) (AA 1) U=_;unfold Nh;simp only[↓rP,rA,AD,AB,A,I,↓B,↓R,↓P]
 | false=>
  have x:=j.s.Z p s (λ_ _ h=>h);have ⟨u,S,Y,r,X,T⟩:=Dd (E:=E) (bytes:=16) F p.y x rfl rfl;have nm:∀b,AJ u b->U.j<=b:=λb t=>(X b t).elim (λe=>by cases e;exact AL _) (λe=>by omega);refine⟨u,S,?_,⟨r.src,λh=>by simp[Wh]at h⟩,nm,?_⟩
  ·have Q:=r.S
   show Nh E D W (.D tb 0 1 (.ex 1)) (AA n) (AA 0) U=_;unfold Nh;simp only[↓rP,rA,AD,AG,AB,A,I,↓B,↓Y,↓Bt Q]
  ·exact p.trans T (λb t e=>by cases e;omega)
theorem Wu v l:∀(tl:List Cu) (a:List (V × V × V)) i t (u:V × V × V),a.length=tl.length->tl[i]? = some t->a[i]? = some u->FW (EF tl a) (i*13+1) [v]=EF (tl.set i { t with wn:=l }) (a.set i (v,u.2))
 | x::tl,y::a,0,t,u,_,h,k=>by
  simp at h;subst h;simp at k;subst k;show FW (x.c y++EF tl a) 1 _=({ x with wn:=l }:Cu).c (v,y.2)++EF tl a;generalize EF tl a=z;cases z<;>rfl
 | x::tl,y::a,i+1,t,u,h,m,n=>by
  have o:=Wu v l tl a i t u (by simpa using h) (by simpa using m) (by simpa using n);show FW (x.c y++EF tl a) ((i+1)*13+1) _=x.c y++EF (tl.set i { t with wn:=l }) (a.set i (v,u.2));rw[<-o,show (i+1)*13+1=(x.c y).length+(i*13+1)by show _=13+_;omega,I5]
 | [],_,_,_,_,_,h,_=>by simp at h
 | _::_,[],_,_,_,h,_,_=>by simp at h
theorem SI:∀tl d i t (u:V × V × V),tl[i]? = some t->d[i]? = some u->(EF tl d)[i*13+1]? = some u.1
 | x::tl,y::d,0,t,u,h,g=>by
  simp at g;subst g;rfl
 | x::tl,y::d,i+1,t,u,k,j=>by
  have l:=SI tl d i t u (by simpa using k) (by simpa using j);show (x.c y++EF tl d)[(i+1)*13+1]? = _;rw[Aw (by show 13<=_;omega),show (i+1)*13+1-(x.c y).length=i*13+1 by show (i+1)*13+1-13=_;omega];exact l
 | [],_,_,_,_,h,_=>by simp at h
 | _::_,[],_,_,_,_,h=>by simp at h
section
variable {U0 U U':H}{xb:Nat}{m:Cs}{nv tv dv lv:V}{tl:List Cu}{Q:Nat->Prop}
theorem Mk.rdT(h:Mk U0 U xb m nv tv dv tl lv Q){i}{t:Cu}(l:tl[i]? = some t):∃u,X6 U t.wn u/\∃b,(∀J,AS 13 lv (AA i) J=J b (i*13))/\∀E J,DF E U b (AM (i*13) 1) J=J u:=by
 have ⟨g,h1,B,q⟩:=h.w;have k:=(AN.1 l).1;have ⟨w,n⟩:∃w,g[i]? = some w:=⟨g[i],AI (by omega)⟩;have ⟨b,p,d,s⟩:∃b p,lv = .D b 0 tl.length p/\Bx U b (EF tl g):=by
  rcases h1 with (⟨x,_⟩|⟨b,d,j,_⟩)|⟨b,d,j,_⟩
  ·omega
  ·exact⟨b,_,d,j⟩
  ·exact⟨b,_,d,j⟩
 refine⟨w.1,(q i t w l n).1,b,λJ=>?_,λE J=>GS s (SI tl g i t w l n)⟩;rw[d,CC k];show J b (0+i*13)=_;rw[BV]
theorem Mk.tag(h:Mk U0 U xb m nv tv dv tl lv Q){i t v l}(T:tl[i]? = some t)(A:X6 U l v)(hn:∀b,AJ v b->b≠xb/\¬AJ lv b/\¬Q b):
  ∃b U',(∀J,AS 13 lv (AA i) J=J b (i*13))/\(∀J,DO 1 b (AM (i*13) 1) v U J=J U')/\Mk U0 U' xb m nv tv dv (tl.set i { t with wn:=l }) lv Q/\Fr (AJ lv) U U':=by
 have ⟨z,h1,P,Y⟩:=h.w;have G:=(AN.1 T).1;have ⟨N,K⟩:∃w,z[i]? = some w:=⟨z[i],AI (by omega)⟩;have aa:=Hx tl z P;have ⟨b,Z,M,hb⟩:∃b Z,lv = .D b 0 tl.length Z/\Bx U b (EF tl z):=by
  rcases h1 with (⟨X,_⟩|⟨b,A,E,_⟩)|⟨b,A,E,_⟩
  ·omega
  ·exact⟨b,_,A,E⟩
  ·exact⟨b,_,A,E⟩
 have ⟨U',g,f,a⟩:=ZC (off:=i*13+1) h.ht hb A.S (by omega);rw[Wu v l tl z i t N P T K]at a;have S:∀x,AJ lv x↔x=b:=λx=>by rw[M];exact Iff.rfl
 have s:=f.mono λx _ e=>(S x).2 e;refine⟨b,U',λJ=>?_,g,⟨s.X h.a h.ht (λe=>(h.lx _ e).1 rfl),⟨z.set i (v,N.2),?_,by rw[BA,BA,P],λk t1 w O L=>?_⟩,h.lx,h.qx,h.x0,h.f.trans s (λx _ e=>by have:=(h.lx x e).2.1;omega)⟩,s⟩
 ·rw[M,CC G]
  show J b (0+i*13)=_;rw[BV]
 ·rw[BA]
  have D:(EF (tl.set i { t with wn:=l }) (z.set i (v,N.2))).length=tl.length*13:=by rw[Hx _ _ (by rw[BA,BA,P]),BA]
  rcases h1 with (⟨X,_⟩|⟨I,n,E,X,hl⟩)|⟨I,n,E,hl⟩
  ·omega
  ·have:I=b:=by rw[M]at n;cases n;rfl
   subst this;exact .inl (.inr ⟨I,n,a,X,D⟩)
  ·have:I=b:=by rw[M]at n;cases n;rfl
   subst this;exact .inr ⟨I,n,a,D⟩
 ·by_cases F:i=k
  ·subst F
   rw[C3 G]at O;rw[C3 (by omega)]at L;cases O;cases L;have ⟨x1,W,R,y⟩:=Y i t N T K;refine⟨A.Z s h.ht (λx j e=>(hn x j).2.1 e),W.Z s h.ht (λx j e=>(y x (.inr (.inl j))).2.1 e),R.Z s h.ht (λx j e=>(y x (.inr (.inr j))).2.1 e),λx j=>?_⟩;rcases j with j|j
   ·exact hn x j
   ·exact y x (.inr j)
  ·rw[MW F]at O L
   have ⟨x1,W,R,y⟩:=Y k t1 w O L;exact⟨x1.Z s h.ht (λx j e=>(y x (.inl j)).2.1 e),W.Z s h.ht (λx j e=>(y x (.inr (.inl j))).2.1 e),R.Z s h.ht (λx j e=>(y x (.inr (.inr j))).2.1 e),y⟩
end
def VM(m:Cs)(F:List V->H->AE):Prop:=∀{b U xb a c d e tl Q i}{t:Cu},Mk b U xb m a c d tl e Q->tl[i]? = some t->t.wn.length=1->F [.o xb 0,.int .i64 (AA i)] U=some (.int .i64 (AA 1),U)
def VL(m:Cs)(F:List V->H->AE):Prop:=∀{f U:H}{xb g e c a}{tl:List Cu}{Q i n}{t:Cu} d,Mk f U xb m g e c tl a Q->(∀b,Q b->b<U.j)->tl[i]? = some t->t.wn.length=1->n<=268435456 ->
 ∃U',F [.o xb 0,.int .i64 (AA i),.int .i64 (AA n),.int .i64 (AA (imN d))] U=some (.B [],U')/\Mk f U' xb m g e c (tl.set i { t with wn:=Wh n d t.wn }) a Q/\Fr (AJ a) U U'
theorem zE m:VM m (F70 E D W N):=by
 intro q U xb v r o s tl Q i t h n h1;have ⟨u,l,b,j,d⟩:=h.rdT n;have g:=h.a;unfold ZV at g;have k:∀J,Ao u J=J 1:=λJ=>by rw[l.s.ip,h1]
 have d:=d E;show sO E D W xb 0 (AA i) U=_;unfold sO;simp only[↓rP,rA,AG,↓AT g,↓j,↓d,↓k]
theorem zB m (I:cd (D 125)):VL m (F71 E D W N):=by
 intro U0 U xb nv tv dv S tl Q i n t x h X C h1 L;have ⟨u,T,b,Y,p⟩:=h.rdT C;have p:=p E;have ⟨v,U1,M,F,j,A⟩:=I x h.ht T h1 L;have B:=h.Z A (λ_ e=>e.elim) (λ_ e=>e.elim);have lx:=h.a.lt h.ht;have ⟨J,K,y,s,R,P⟩:=B.tag C F (λb O=>by
  have:=j b O;exact⟨by omega,λe=>by have:=h.llt e;omega,λq=>by have:=X b q;omega⟩)
 refine⟨K,?_,R,(A.mono (λ_ _ e=>e.elim):Fr (AJ S) U U1).trans P (λ_ _ e=>e)⟩;have w:=h.a;have d:=B.a;unfold ZV at w d;have Z:=F.S;have eb:J=b:=by
  have:=(y λb _=>some (V.o b 0,U)).symm.trans (Y _);simpa using this
 subst eb;have k:=s;show sM E D W xb 0 (AA i) (AA n) (AA (imN x)) U=_;unfold sM;simp only[↓rP,rA,↓AT w,↓p,↓M,↓AT d,↓y,↓s,↓k]
end
theorem mJ{a b:BS}(g:b.canon):(a.cat b).canon:=by
 show a.low ||| b.val <<< (8*a.len)<2 ^ (8*(a.len+b.len));have e:a.low<2 ^ (8*a.len):=Jr _ (nO (by decide));have h1:a.low<2 ^ (8*(a.len+b.len)):=Eh e (Nat.pow_le_pow_right (by decide) (by omega));have f:b.val <<< (8*a.len)<2 ^ (8*(a.len+b.len)):=by
  rw[Nat.shiftLeft_eq,Nat.mul_add,Nat.add_comm,Nat.pow_add];exact Nat.mul_lt_mul_of_pos_right g (nO (by decide))
 exact Nat.or_lt_two_pow h1 f
theorem gG{a b}(e:∀c∈a,c<256)(f:∀c∈b,c<256):(BB a).cat (BB b)=BB (a++b):=by grind [BS.canon_ext,mJ,NS,BS.nats_cat,JC]
theorem qu{a b:List Nat}(g:∀c∈a,c<256)(f:∀c∈b,c<256)(e:a.length+b.length<=1000000) J:DI (BB a) (BB b) J=J (BB (a++b)):=by grind [DI,MC,IW,gG]
def Cz:Nat->Nat->List Nat
 | 0,v=>[48+v]
 | k+1,v=>match B9 v 10 with
  | true=>[48+v]
  | false=>Cz k (v / 10)++[48+v % 10]
def ABp(l:List Nat):Prop:=∀c∈l,48<=c/\c<=57
theorem ABp.bd{l}(h:ABp l):∀c∈l,c<256:=by grind [ABp]
theorem Wl:∀l m a,FC a (l++m)=FC (FC a l) m
 | [],_,_=>rfl | c::l,m,a=>Wl l m (10*a+(c-48))
theorem lh l c:FC 0 (l++[c])=10*FC 0 l+(c-48):=by
 rw[Wl];rfl
theorem KS:∀k v,v<10 ^ (k+1)->ABp (Cz k v)/\FC 0 (Cz k v)=v/\0<(Cz k v).length/\(Cz k v).length<=k+1/\(v<10->(Cz k v).length=1)/\(0<v->(Cz k v).getD 0 0≠48)
 | 0,v,h=>by
  have h:v<10:=by simpa using h
  refine⟨?_,?_,by simp[Cz],by simp[Cz],λ_=>rfl,λo=>by simp[Cz];omega⟩
  ·intro c j
   simp[Cz]at j;omega
  ·show 10*0+(48+v-48)=v
   omega
 | k+1,v,h=>by
  by_cases o:v<10
  ·have e:Cz (k+1) v=[48+v]:=by
    show (match B9 v 10 with | true=>_ | false=>_)=_;rw[show B9 v 10=true by simpa[Co]using o]
   rw[e];refine⟨?_,?_,by simp,by simp,λ_=>rfl,λh=>by simp;omega⟩
   ·intro c j
    simp at j;omega
   ·show 10*0+(48+v-48)=v
    omega
  ·have e:Cz (k+1) v=Cz k (v / 10)++[48+v % 10]:=by
    show (match B9 v 10 with | true=>_ | false=>_)=_;rw[show B9 v 10=false by rw[EP];simpa[Co]using o]
   have x:v / 10<10 ^ (k+1):=by
    rw[Ku (by decide)];rw[NI]at h;exact h
   have ⟨h1,u,t,z,A,w⟩:=KS k (v / 10) x;rw[e];refine⟨?_,?_,by simp,by simp;omega,λh=>absurd h o,λ_=>?_⟩
   ·intro c j
    rcases CN.1 j with j|j
    ·exact h1 c j
    ·simp at j;omega
   ·rw[lh,u];omega
   ·have s:=w (by omega)
    cases r:Cz k (v / 10)with
    | nil=>rw[r]at t;simp at t | cons c l=>rw[r]at s;exact s
def FQ(k:Nat)(F:List V->H->AE):Prop:=∀U v,Ai U->v<10 ^ (k+1)->v<=18446744073709551615 ->
 ∃U',F [.int .u64 (AA v)] U=some (.N (BB (Cz k v)),U')/\Fr AH U U'
theorem Sw{m}(h:m<256):BS.ofList [UInt8.ofNat (AA m).toNat]=BB [m]:=by grind [ZP]
theorem Mz{k} E D W N (U:H) v (n:Ai U)(l:v<10):∃U',F6 E D W N [.int .u64 (AA v)] U=some (.N (BB (Cz k v)),U')/\Fr AH U U':=by
 refine⟨Cb U (.cells [.int .u8 (AA (48+v))]),?_,Fr.new n _⟩;have e:Cz k v=[48+v]:=by
  cases k with
  | zero=>rfl | succ k=>
   show (match B9 v 10 with | true=>_ | false=>_)=_;rw[show B9 v 10=true by simpa[Co]using l]
 have h1:An .u8 (BQ .u64 (AA 48) (AA v))=AA (48+v):=by
  have:BQ .u64 (AA 48) (AA v)=AA (48+v):=BJ (show _<=18446744073709551615 by omega);rw[this];exact BJ (show _<=255 by omega)
 show sP E D W (AA v) U=_;simp only[sP,GQ,h1];rw[decide_eq_true l,Eg];have o:Bx (Cb U (.cells [.int .u8 (AA (48+v))])) U.j [.int .u8 (AA (48+v))]:=Kt _;rw[kW,fR o (by simp)];show some (V.N (BS.ofList [UInt8.ofNat (AA (48+v)).toNat]),_)=_;rw[Sw (by omega),e]
theorem lj E D W N:FQ 0 (F6 E D W N):=λU v c b _=>Mz E D W N U v c (by simpa using b)
theorem qe{E D N k}(h:FQ k (D 6))(hk:k<=30):FQ (k+1) (F6 E D (AV E D) N):=by
 intro U v B hv hv2;by_cases hs:v<10
 ·exact Mz E D _ N U v B hs
 have r:v / 10<10 ^ (k+1):=by
  rw[Ku (by decide)];rw[NI]at hv;exact hv
 have ⟨U1,g1,z⟩:=h ⟨U.j+11,U.F⟩ (v / 10) (B.wide 11) r (by omega);have hgap:=z.gap B (λb n=>n.elim);have ⟨d1,d2,d3,d4,_⟩:=KS k (v / 10) r;have hle:U.j+11<=U1.j:=z.le;let c:G5 := .cells [.int .u8 (AA (48+v % 10))];have e:Cz (k+1) v=Cz k (v / 10)++[48+v % 10]:=by
  show (match B9 v 10 with | true=>_ | false=>_)=_;rw[show B9 v 10=false by rw[EP];simpa[Co]using hs]
 have y:HR .quo .none (.int .u64 (AA v)) (.int .u64 (AA 10))=some (.int .u64 (AA (v / 10))):=by
  show some (V.int .u64 (IntKind.wrap .u64 (AA (v / 10))))=_;rw[<-EJ,BJ (show v / 10<=18446744073709551615 by omega)]
 have w:HR .rem .none (.int .u64 (AA v)) (.int .u64 (AA 10))=some (.int .u64 (AA (v % 10))):=rfl;have x:HR .add .none (.int .u64 (AA 48)) (.int .u64 (AA (v % 10)))=some (.int .u64 (AA (48+v % 10))):=by
  show some (V.int .u64 (IntKind.wrap .u64 (AA (48+v % 10))))=_;rw[<-EJ,BJ (show 48+v % 10<=18446744073709551615 by omega)]
 have o:Bb (.i7 (.jp .u8) (.tmp 15)) [(15,.int .u64 (AA (48+v % 10)))]=some (.int .u8 (AA (48+v % 10))):=by
  show some (V.int .u8 (IntKind.wrap .u8 (AA (48+v % 10))))=_;rw[<-EJ,BJ (show 48+v % 10<=255 by omega)]
 have p:ES E D (.call 6 [.tmp 11]) [(11,.int .u64 (AA (v / 10)))] ⟨U.j+11,U.F⟩=some (.N (BB (Cz k (v / 10))),U1):=g1;have m:∀(l:EB) (nx:Nat),Ct E (.i7 .toStr (.tmp 17)) [(17,.D (U.j+7) 0 1 (.ex 1))] ⟨nx,Ce U.j 11 (Dw 248 128) ((U.j+7,c)::l)⟩=some (.N (BB [48+v % 10])):=λl nx=>by
  have hl:Go.Og.look (Ce U.j 11 (Dw 248 128) ((U.j+7,c)::l)) (U.j+7)=some c:=by
   rw[QI rfl,UB]
  show (match (P0 E ⟨nx,Ce U.j 11 (Dw 248 128) ((U.j+7,c)::l)⟩ (U.j+7) 0 (1*1)).map (λl=>(1,l))with
   | some (_,l)=>(match Fv l with | some s=>some (V.N (BS.ofList s)) | none=>none) | none=>none)=_
  unfold P0 rd;simp only[hl];show some (V.N (BS.ofList [UInt8.ofNat (AA (48+v % 10)).toNat]))=_;rw[Sw (by omega)]
 have t:HR .add .none (.N (BB (Cz k (v / 10)))) (.N (BB [48+v % 10]))=some (.N (BB (Cz (k+1) v))):=by
  show (match Am (AM (BB (Cz k (v / 10))).len (BB [48+v % 10]).len) 1000000000000 with | true=>some (V.N ((BB (Cz k (v / 10))).cat (BB [48+v % 10]))) | false=>none)=_;rw[show Am (AM (BB (Cz k (v / 10))).len (BB [48+v % 10]).len) 1000000000000=true from MC (by rw[IW,IW];show (Cz k (v / 10)).length+1<=_;omega)];simp;rw[gG d1.bd (λc hc=>by simp at hc;omega),e]
 have h0:=B.gap 11;have hdr:AV E D AIX wF [(0,.int .u64 (AA v))] U=some ((2,.N (BB (Cz (k+1) v)))::[(19,.N (BB (Cz (k+1) v))),(18,.N (BB [48+v % 10])),(17,.D (U.j+7) 0 1 (.ex 1)),(16,.int .u8 (AA (48+v % 10))),(15,.int .u64 (AA (48+v % 10))),(14,.int .u64 (AA (v % 10))),(13,.int .u64 (AA v)),(12,.N (BB (Cz k (v / 10)))),(11,.int .u64 (AA (v / 10))),(10,.int .u64 (AA v)),(0,.int .u64 (AA v))],
   ⟨U1.j,Ce U.j 11 (λk=>(128:Nat).testBit k) ((U.j+7,c)::U1.F)⟩):=by
  refine QX (s:=⟨_,U1.j,[(U.j+7,c)::U1.F,(U.j+7,c)::U.F],[2],128,[(8,.i7 .toStr (.tmp 17),[(17,.D (U.j+7) 0 1 (.ex 1))],.N (BB [48+v % 10]))]⟩) ?_ ?_ rfl
  ·refine(GW rfl rfl rfl).trans ?_
   refine(GW (v := .int .u64 (AA (v / 10))) rfl rfl ?_).trans ?_
   ·exact y
   refine(Xj (U':=U1) (v := .N (BB (Cz k (v / 10)))) rfl rfl rfl ?_).trans ?_
   ·show ES E D (.call 6 [.tmp 11]) [(11,.int .u64 (AA (v / 10)))] ⟨U.j+11,Ce U.j 11 (Dw 3 0) U.F⟩=_
    rw[XZ h0];exact p
   show Ch E D U.j 11 3 _ _ ⟨_,U1.j,[FH U.j 11 (Dw 3 0) U.F++U1.F,U.F],[2],0,[]⟩=_;rw[XV h0];refine(GW rfl rfl rfl).trans ?_;refine(GW (v := .int .u64 (AA (v % 10))) rfl rfl ?_).trans ?_
   ·exact w
   refine(GW (v := .int .u64 (AA (48+v % 10))) rfl rfl ?_).trans ?_
   ·exact x
   refine(GW (v := .int .u8 (AA (48+v % 10))) rfl rfl ?_).trans ?_
   ·exact o
   refine(Ss (v := .D (U.j+7) 0 1 (.ex 1)) (b:=c) (id:=U.j+7) (am':=128) rfl rfl rfl (show (0:Nat) ||| 2 ^ 7=128 from by decide) rfl).trans ?_;show Ch E D U.j 11 8 _ _ ⟨_,U1.j,[(U.j+7,c)::U1.F,(U.j+7,c)::U.F],[2],128,[]⟩=_;refine(Xi (v := .N (BB [48+v % 10])) rfl rfl rfl ?_).trans ?_
   ·exact m U1.F U1.j
   refine(GW (v := .N (BB (Cz (k+1) v))) rfl rfl ?_).trans ?_
   ·exact t
   refine(GW rfl rfl rfl).trans ?_;exact IA
  ·simp only[kN,List.all_nil,Bz]
   have hs1:=m U1.F 0;have hs0:=m U.F 0;show (((!FG wF 8 [2] []) || (match Ct E (.i7 .toStr (.tmp 17)) [(17,.D (U.j+7) 0 1 (.ex 1))] ⟨0,Ce U.j 11 (Dw 248 128) ((U.j+7,c)::U1.F)⟩with | some u=>V.beq u (.N (BB [48+v % 10])) | none=>false)) &&
    (((!FG wF 8 [] [2]) || (match Ct E (.i7 .toStr (.tmp 17)) [(17,.D (U.j+7) 0 1 (.ex 1))] ⟨0,Ce U.j 11 (Dw 248 128) ((U.j+7,c)::U.F)⟩with | some u=>V.beq u (.N (BB [48+v % 10])) | none=>false))&&true))=true
   rw[hs1,hs0];have n:V.beq (.N (BB [48+v % 10])) (.N (BB [48+v % 10]))=true:=by
    show decide _=true;exact decide_eq_true rfl
   simp only[n,Bool.or_true,Bz]
 refine⟨⟨U1.j,Ce U.j 11 (λk=>(128:Nat).testBit k) ((U.j+7,c)::U1.F)⟩,?_,?_⟩
 ·show sP E D (AV E D) (AA v) U=_
  simp only[sP,GQ];rw[decide_eq_false hs,DU,hdr];rfl
 ·refine⟨λb n=>?_,show U.j<=U1.j by omega,λb n hn=>?_⟩
  ·have hb':U1.j<=b:=n
   show BX (Ce _ _ _ _) b=none;rw[BG,SA (by omega),Fa (by omega),<-BG];exact z.y b hb'
  ·show BX (Ce _ _ _ _) b=_
   rw[BG,Ip n,Fa (by omega),<-BG];exact z.same b (show b<U.j+11 by omega) hn
def ALe(v:Int):List Nat:=match v with
 | .ofNat m=>Cz 19 m
 | .negSucc m=>45::Cz 19 (m+1)
def AV7(v:Int):Prop:=-9223372036854775808<=v/\v<=9223372036854775807
theorem KT c:Gv c=true↔48<=c/\c<=57:=by grind [Gv]
theorem NY:∀k v p,v<10 ^ (p+1)->v<10 ^ (k+1)->(Cz k v).length<=p+1
 | 0,v,p,h,_=>by show 1<=p+1;omega
 | k+1,v,p,h,l=>by
  by_cases n:v<10
  ·rw[(KS (k+1) v l).2.2.2.2.1 n];omega
  ·have e:Cz (k+1) v=Cz k (v / 10)++[48+v % 10]:=by
    show (match B9 v 10 with | true=>_ | false=>_)=_;rw[show B9 v 10=false by rw[EP];simpa[Co]using n]
   obtain⟨p,rfl⟩:∃j,p=j+1:=⟨p-1,by
    rcases p with _|p
    ·simp at h;omega
    ·rfl⟩
   have:=NY k (v / 10) p (by rw[Ku (by decide)];rw[NI]at h;exact h) (by rw[Ku (by decide)];rw[NI]at l;exact l);rw[e,AP,Ag,Cm];omega
theorem yw{v}(h:AV7 v){r:List Nat}(z:Gv (r.headD 0)=false)(B:KL (r.headD 0)=false):∃m C,ALe v=Gc m C/\Ij m C r/\Mf (ALe v)=v:=by
 have ⟨h1,F⟩:=h;cases v with
 | ofNat m=>
  simp at h1 F;have ⟨q,s,n,E,A,u⟩:=KS 19 m (by show m<100000000000000000000;omega);have w:=NY 19 m 18 (by show m<10000000000000000000;omega) (by show m<100000000000000000000;omega);refine⟨false,Cz 19 m,rfl,⟨λd h=>(KT d).2 (q d h),n,w,?_,(λe=>by cases e),z,B,by omega,λ_=>by omega⟩,?_⟩
  ·rcases AJB m with D|D
   ·exact .inl (A (by omega))
   ·have:=u D
    cases f:Cz 19 m with
    | nil=>rw[f]at n;simp at n | cons c l=>rw[f]at this;exact .inr this
  ·show Mf (Cz 19 m)=_
   cases f:Cz 19 m with
   | nil=>rw[f]at n;simp at n | cons c l=>
    have G:=q c (by rw[f];simp);rw[f]at s;show (match decide (c=45)with
     | true=>-AA (FC 0 l) | false=>AA (FC 0 (c::l)))=_
    rw[decide_eq_false (by omega),s]
 | negSucc m=>
  have ⟨q,s,n,E,A,u⟩:=KS 19 (m+1) (by show m+1<100000000000000000000;omega);have w:=NY 19 (m+1) 18 (by show m+1<10000000000000000000;omega) (by show m+1<100000000000000000000;omega);have y:(Cz 19 (m+1)).headD 0≠48:=by
   have:=u (by omega);cases f:Cz 19 (m+1)with
   | nil=>simp | cons c l=>rw[f]at this;exact this
  refine⟨true,Cz 19 (m+1),rfl,⟨λd h=>(KT d).2 (q d h),n,w,.inr y,λ_=>y,z,B,by omega,λe=>by cases e⟩,?_⟩;show -AA (FC 0 (Cz 19 (m+1)))=_;rw[s];rfl
theorem CL{t:BS}{l c r}(h:t.mt.head?≠some c)(j:t.mt≠[]):G6 (t::l) (c::r)=G6 l (c::r):=by
 rw[Kx];have:decide ((c::r).take t.len=t.mt)=false:=decide_eq_false λe=>by
  cases f:t.len with
  | zero=>rw[f]at e;exact j e.symm | succ n=>rw[f]at e;rw[<-e]at h;exact h rfl
 rw[this,Bool.and_false]
theorem JY{t:BS}{l r s}(b:r=t.mt++s):G6 (t::l) r=t.len:=by grind [Kx,BS.length_nats]
theorem ZH r:G6 C6 (58::58::61::r)=3:=JY (by rw[show (BS.mk 3 4012602).mt=[58,58,61] from by decide +kernel];rfl)
theorem AK0 r:G6 C6 (40::r)=1:=by
 unfold C6;rw[CL (by decide +kernel) (by decide +kernel)];rw[CL (by decide +kernel) (by decide +kernel)];rw[CL (by decide +kernel) (by decide +kernel)];rw[CL (by decide +kernel) (by decide +kernel)];rw[CL (by decide +kernel) (by decide +kernel)];rw[CL (by decide +kernel) (by decide +kernel)];rw[CL (by decide +kernel) (by decide +kernel)];rw[CL (by decide +kernel) (by decide +kernel)];rw[CL (by decide +kernel) (by decide +kernel)];exact JY (by rw[show (BS.mk 1 40).mt=[40] from by decide +kernel];rfl)
theorem AKy r:G6 C6 (41::r)=1:=by
 unfold C6;rw[CL (by decide +kernel) (by decide +kernel)];rw[CL (by decide +kernel) (by decide +kernel)];rw[CL (by decide +kernel) (by decide +kernel)];rw[CL (by decide +kernel) (by decide +kernel)];rw[CL (by decide +kernel) (by decide +kernel)];rw[CL (by decide +kernel) (by decide +kernel)];rw[CL (by decide +kernel) (by decide +kernel)];rw[CL (by decide +kernel) (by decide +kernel)];rw[CL (by decide +kernel) (by decide +kernel)];rw[CL (by decide +kernel) (by decide +kernel)];exact JY (by rw[show (BS.mk 1 41).mt=[41] from by decide +kernel];rfl)
theorem NM{N c r}(h1:SC c=false)(b:MA c r=false):Wi (N+1) (c::r)=c::r:=by grind [Wi]
theorem ER{N c r}(h1:SC c=false)(b:MA c r=false):Wi (N+2) (32::c::r)=c::r:=by grind [SC,Wi]
theorem FF{c n r w d}(h:G6 C6 (c::r)=n)(l:0<n)(k:(c::r).take n=w)(j:(c::r).drop n=d)(h1:KL c=false)(m:Gv c=false)(i:c≠45)(g:c≠39)(f:c≠34):Tk (c::r) 6 w d:=by
 subst h;subst k;subst j;exact .sign h1 m (λe=>absurd e i) g f l
theorem FY{c n k r w d}(h:OT (c::r)=n)(f:(c::r).take n=w)(g:(c::r).drop n=d)(h1:KL c=true)(e:Se w=false)(i:k=(if wdB (BB w)=true then 5 else if c<=90 then 1 else 2)):Tk (c::r) k w d:=by
 subst h;subst f;subst g;exact .name h1 e i
theorem ku{m j r}(h:Ij m j r):∃c l,Gc m j=c::l/\SC c=false/\c≠46/\(∀t,MA c (l++t)=false):=by
 have h1:=h.n1;cases k:j with
 | nil=>rw[k]at h1;simp at h1 | cons d l=>
  have o:=(KT d).1 (h.dig d (by rw[k];simp));cases m with
  | false=>
   refine⟨d,l,rfl,?_,by omega,λt=>?_⟩
   ·unfold SC
    rw[decide_eq_false (by omega),decide_eq_false (by omega),decide_eq_false (by omega),decide_eq_false (by omega)];rfl
   ·unfold MA
    rw[decide_eq_false (by omega)];rfl
  | true=>
   refine⟨45,d::l,rfl,rfl,by decide,λt=>?_⟩;show (true&&decide (d=45))=false;rw[decide_eq_false (by omega)];rfl
theorem XK{N len m f r i}(g:Ij m f r)(h:GN (N+10) len r i):GN (N+10) len (Gc m f++r) ((3,Gc m f,len-(Gc m f++r).length)::i):=by
 have ⟨c,l,e,a,_,b⟩:=ku g;exact .S (by rw[e];exact NM a (b _)) (.num g) h
theorem zL{m g r}(i:Ij m g r):∃c u,Gc m g++r=c::u/\c≠91:=by
 have h1:=i.n1;cases h:g with
 | nil=>rw[h]at h1;simp at h1 | cons d l=>
  have n:=(KT d).1 (i.dig d (by rw[h];simp));cases m with
  | false=>exact⟨d,l++r,rfl,by omega⟩ | true=>exact⟨45,d::l++r,rfl,by omega⟩
theorem W4{t:BS}{l a b c r}(h:t.mt=[a,b])(e:t.len=2)(f:c≠b):G6 (t::l) (a::c::r)=G6 l (a::c::r):=by grind [Kx]
theorem AK1 c r (f:c≠91):G6 C6 (91::c::r)=1:=by
 unfold C6;rw[CL (by decide +kernel) (by decide +kernel)];rw[CL (by decide +kernel) (by decide +kernel)];rw[CL (by decide +kernel) (by decide +kernel)];rw[W4 (by decide +kernel) rfl f];rw[CL (by decide +kernel) (by decide +kernel)];rw[CL (by decide +kernel) (by decide +kernel)];rw[CL (by decide +kernel) (by decide +kernel)];exact JY (by rw[show (BS.mk 1 91).mt=[91] from by decide +kernel];rfl)
theorem AKz c r (f:c≠93):G6 C6 (93::c::r)=1:=by
 unfold C6;rw[CL (by decide +kernel) (by decide +kernel)];rw[CL (by decide +kernel) (by decide +kernel)];rw[CL (by decide +kernel) (by decide +kernel)];rw[CL (by decide +kernel) (by decide +kernel)];rw[W4 (by decide +kernel) rfl f];rw[CL (by decide +kernel) (by decide +kernel)];rw[CL (by decide +kernel) (by decide +kernel)];rw[CL (by decide +kernel) (by decide +kernel)];exact JY (by rw[show (BS.mk 1 93).mt=[93] from by decide +kernel];rfl)
theorem oY{T d t c l l'}{ns:List Ae}{m a}(h1:mM t=true)(g:d<=16)(e:ns.length<300)(h:OU (t::c)=some (m,l))(f:Ju T d (IY m) l (ns++[IX])=some (a,l',ns++[IX])):Lr T d (t::c) ns=some (ns.length,l',ns++[a]):=by grind [Lr]
def AE0(w:List Nat):Bool:=C5 (Mf w) (AA 0) || C5 (AA 268435456) (Mf w)
theorem ALp w b a l:EG (BS.mk 1 91) ((6,[91],b)::(3,w,a)::l)=(true,(3,w,a)::l):=rfl
theorem AEx w b a l:ZQ ((3,w,b)::(6,[93],a)::l)=some (Mf w,(6,[93],a)::l):=rfl
theorem ALo a t l:Dt (BS.mk 1 93) ((6,[93],a)::t::l)=some (t::l):=rfl
theorem X0{T n}{b:List (List Nat)}{d ns c x p q i}{t:Bm}{l l'}(s:b.length<40)(r:T 0 (t::l) ns=some (i,l',c)):O7 T (n+1) b d ns ((1,x,p)::(6,[58,58,61],q)::t::l)=O7 T n (b++[x]) (d++[i]) c l':=by
 have h1:EG (BS.mk 3 4476485) ((1,x,p)::(6,[58,58,61],q)::t::l)=(false,(1,x,p)::(6,[58,58,61],q)::t::l):=rfl;have o:IZ 1 ((1,x,p)::(6,[58,58,61],q)::t::l)=some (x,(6,[58,58,61],q)::t::l):=rfl;have k:Dt (BS.mk 3 4012602) ((6,[58,58,61],q)::t::l)=some (t::l):=rfl;have m:decide (40<=b.length)=false:=decide_eq_false (by omega);show (match EG (BS.mk 3 4476485) ((1,x,p)::(6,[58,58,61],q)::t::l)with
  | (true,f)=>some (b,d,ns,f) | (false,f)=>(IZ 1 f).bind λa=>match decide (40<=b.length)with
   | true=>none | false=>(Dt (BS.mk 3 4012602) a.2).bind λj=>(T 0 j ns).bind λt=>O7 T n (b++[a.1]) (d++[t.1]) t.2.2 t.2.1)=_
 simp only[h1,o,Bk,m,k,r]
theorem AAA T n b c ns p q:O7 T (n+1) b c ns [(5,[69,78,68],p),(0,[],q)]=some (b,c,ns,[(0,[],q)]):=by kernel_rfl
theorem ACC r:G6 C6 (44::r)=1:=by
 unfold C6;iterate 11 rw[CL (by decide +kernel) (by decide +kernel)]
 exact JY (by rw[show (BS.mk 1 44).mt=[44] from by decide +kernel];rfl)
theorem ACB r:G6 C6 (123::r)=1:=by
 unfold C6;iterate 5 rw[CL (by decide +kernel) (by decide +kernel)]
 exact JY (by rw[show (BS.mk 1 123).mt=[123] from by decide +kernel];rfl)
theorem ACA r:G6 C6 (125::r)=1:=by
 unfold C6;iterate 6 rw[CL (by decide +kernel) (by decide +kernel)]
 exact JY (by rw[show (BS.mk 1 125).mt=[125] from by decide +kernel];rfl)
theorem AK2 r:G6 C6 (46::46::46::r)=3:=by
 unfold C6;rw[CL (by decide +kernel) (by decide +kernel)];exact JY (by rw[show (BS.mk 3 3026478).mt=[46,46,46] from by decide +kernel];rfl)
def uW(n:Nat):List Nat:=Cz 19 n
theorem Lq:∀k:Fin 100,(∀d∈uW k.val,Gv d=true)/\(uW k.val).length<=2/\∀a∈[101,102,103,104],Se (a::uW k.val)=false/\wdB (BB (a::uW k.val))=false:=by decide +kernel
theorem oW{n}(a:n<100):∀d∈uW n,Gv d=true:=(Lq ⟨n,a⟩).1
theorem yP{a n}(c:n<100)(b:a∈[101,102,103,104]):Se (a::uW n)=false/\wdB (BB (a::uW n))=false:=(Lq ⟨n,c⟩).2.2 a b
theorem ZB{n}(g:n<100){r:List Nat}(f:Gv (r.headD 0)=false)(e:KL (r.headD 0)=false):∃m c,uW n=Gc m c/\Ij m c r/\Mf (uW n)=AA n:=
 yw (v:=AA n) ⟨by simp only[Int.ofNat_eq_natCast];omega,by simp;omega⟩ f e
theorem pr:∀(w:List Nat) t,(∀d∈w,Gv d=true)->OT (w++32::t)=w.length
 | [],t,_=>rfl | d::w,t,h=>by
  have e:=h d AZ;have c:=pr w t (λx f=>h x (Az _ f));show OT (d::(w++32::t))=_;rw[KH];have:kv d (w++32::t)=true:=by unfold kv;rw[e,Bool.or_true,Bool.true_or]
  rw[this];show OT (w++32::t)+1=_;rw[c];rfl
abbrev En:=Nat × Nat × Nat
def Dm(e:En):Prop:=e.1∈[101,102,103,104]/\e.2.1<100/\e.2.2<100
def uN(e:En):List Nat:=e.1::uW e.2.1
def fE(e:En)(t:List Nat):List Nat:=32::e.1::(uW e.2.1++32::91::(uW e.2.2++93::32::78::85::76::76::t))
def iE(e:En)(t:List Nat):List Nat:=32::e.1::(uW e.2.1++32::40::(uW e.2.2++41::t))
def lX(f:En->List Nat->List Nat):List En->List Nat->List Nat
 | [],t=>t
 | e::l,t=>44::f e (lX f l t)
def Hd2(t:List Nat):Prop:=∃c u,t=c::u/\(c=44\/c=32)
theorem qZ{f t}(h:Hd2 t):∀l,Hd2 (lX f l t):=by intro x;induction x with grind [Hd2,lX]
theorem gL{N len n a r j m}(q:n<100)(e:a∈[101,102,103,104])(s:j=32::r)(h:GN (N+10) len j m):∃p,GN (N+10) len (32::a::(uW n++j)) ((2,a::uW n,p)::m):=by
 subst s;have t:OT (a::(uW n++32::r))=(uW n).length+1:=by
  rw[KH];have:kv a (uW n++32::r)=true:=by
   unfold kv;have:KL a=true:=by simp at e;rcases e with rfl | rfl | rfl | rfl<;>rfl
   rw[this,Bool.true_or,Bool.true_or]
  rw[this];show OT _+1=_;rw[pr _ _ (oW q)]
 have o:=yP q e;have i:SC a=false/\MA a (uW n++32::r)=false/\KL a=true/\¬a<=90:=by
  simp at e;rcases e with rfl | rfl | rfl | rfl<;>exact⟨rfl,rfl,rfl,by decide⟩
 refine⟨_,.S (ER i.1 i.2.1) (FY t ?_ ?_ i.2.2.1 o.1 ?_) h⟩
 ·show a::(uW n++_).take (uW n).length=_
  rw[List.take_left]
 ·show (uW n++_).drop (uW n).length=_
  rw[AJD]
 ·rw[o.2,if_neg (by decide),if_neg i.2.2.2]
def nZ(e:En)(a d:List Bm):Prop:=∃g p2 c b f,a=(2,uN e,g)::(6,[91],p2)::(3,uW e.2.2,c)::(6,[93],b)::(5,[78,85,76,76],f)::d
def mZ(e:En)(a d:List Bm):Prop:=∃f p2 c b,a=(2,uN e,f)::(6,[40],p2)::(3,uW e.2.2,c)::(6,[41],b)::d
theorem AUP{N len}{e:En}{t f}(l:Dm e)(z:Hd2 t)(h:GN (N+10) len t f):∃d,GN (N+10) len (fE e t) d/\nZ e d f:=by
 have k:∃g,GN (N+10) len (32::78::85::76::76::t) ((5,[78,85,76,76],g)::f):=by
  have ⟨c,u,e,j⟩:=z;rw[e]at h ⊢;rcases j with rfl|rfl
  ·exact⟨_,.S (ER rfl rfl) (FY rfl rfl rfl rfl (by decide +kernel) (by decide +kernel)) h⟩
  ·exact⟨_,.S (ER rfl rfl) (FY rfl rfl rfl rfl (by decide +kernel) (by decide +kernel)) h⟩
 have ⟨g,k⟩:=k;have w:GN (N+10) len (93::32::78::85::76::76::t) ((6,[93],_)::(5,[78,85,76,76],g)::f) := .S (NM rfl rfl) (FF (AKz _ _ (by decide)) (by decide) rfl rfl rfl rfl (by decide) (by decide) (by decide)) k;have ⟨m,B,A,o,_⟩:=ZB l.2.2 (r:=93::32::78::85::76::76::t) rfl rfl;have v:=XK o w;have q:=zL o;rw[<-A]at v q;have y:GN (N+10) len (32::91::(uW e.2.2++93::32::78::85::76::76::t)) ((6,[91],_)::(3,uW e.2.2,_)::(6,[93],_)::(5,[78,85,76,76],g)::f) := .S (ER rfl rfl) (FF (n:=1) (by have ⟨c,u,e,j⟩:=q;rw[e];exact AK1 _ _ j) (by decide) rfl rfl rfl rfl (by decide) (by decide) (by decide)) v;have ⟨p,x⟩:=gL l.2.1 l.1 rfl y;exact⟨_,x,_,_,_,_,_,rfl⟩
theorem AUL{N len}{e:En}{t b}(d:Dm e)(h:GN (N+10) len t b):∃a,GN (N+10) len (iE e t) a/\mZ e a b:=by
 have j:GN (N+10) len (41::t) ((6,[41],_)::b) := .S (NM rfl rfl) (FF (AKy _) (by decide) rfl rfl rfl rfl (by decide) (by decide) (by decide)) h;have ⟨m,n,g,l,_⟩:=ZB d.2.2 (r:=41::t) rfl rfl;have f:=XK l j;rw[<-g]at f;have i:GN (N+10) len (32::40::(uW e.2.2++41::t)) ((6,[40],_)::(3,uW e.2.2,_)::(6,[41],_)::b) := .S (ER rfl rfl) (FF (AK0 _) (by decide) rfl rfl rfl rfl (by decide) (by decide) (by decide)) f;have ⟨p,k⟩:=gL d.2.1 d.1 rfl i;exact⟨_,k,_,_,_,_,rfl⟩
inductive jk(P:En->List Bm->List Bm->Prop):List En->List Bm->List Bm->Prop
 | nil {ts}:jk P [] ts ts
 | cons {e l ts ts1 ts2 p} (h:jk P l ts1 ts) (k:P e ts2 ts1):jk P (e::l) ((6,[44],p)::ts2) ts
theorem AFP{N len P f}(g:∀{e t b},Dm e->Hd2 t->GN (N+10) len t b->∃a,GN (N+10) len (f e t) a/\P e a b)(n:∀e t,∃u,f e t=32::u){t b}(i:Hd2 t)(h:GN (N+10) len t b):∀l,(∀e∈l,Dm e)->∃a,GN (N+10) len (lX f l t) a/\jk P l a b
 | [],_=>⟨b,h,.nil⟩ | e::l,d=>by
  have ⟨o,h1,q⟩:=AFP g n i h l λx m=>d x (Az _ m);have ⟨p,j,k⟩:=g (d e AZ) (qZ i l) h1;exact⟨_,.S (NM rfl rfl) (FF (ACC _) (by decide) rfl rfl rfl rfl (by decide) (by decide) (by decide)) j,.cons q k⟩
theorem AL9{N len t a}(h:GN (N+10) len t a):∃p q,GN (N+10) len (44::32::46::46::46::t) ((6,[44],p)::(6,[46,46,46],q)::a):=
 ⟨_,_,.S (NM rfl rfl) (FF (ACC _) (by decide) rfl rfl rfl rfl (by decide) (by decide) (by decide)) (.S (ER rfl rfl) (FF (AK2 _) (by decide) rfl rfl rfl rfl (by decide) (by decide) (by decide)) h)⟩
def LY(n:Nat):Ae:=⟨4,[],true,AA n,0,⟨false,false,false,false,0,0⟩,[],[],0,false,0⟩
def Ea:Nat->List En->List BW
 | _,[]=>[]
 | i,e::l=>⟨uN e,i,false,0⟩::Ea (i+1) l
theorem GU:∀(l:List En) i,(Ea i l).length=l.length
 | [],_=>rfl | _::l,i=>by show (Ea (i+1) l).length+1=_;rw[GU l];rfl
theorem Xa:∀(l m:List En) i,Ea i (l++m)=Ea i l++Ea (i+l.length) m
 | [],m,i=>rfl | e::l,m,i=>by
  show _::Ea (i+1) (l++m)=_::(Ea (i+1) l++_);rw[Xa l m (i+1),Ag,show i+1+l.length=i+(l.length+1)by omega]
def nY(a:List Bm):Prop:=∃c q t u,a=(6,c,q)::t::u/\(c=[44]\/c=[125])
theorem ALf a t l:EG (BS.mk 8 6073459554577832005) ((5,[78,85,76,76],a)::t::l)=(false,(5,[78,85,76,76],a)::t::l):=rfl
theorem ALg a t l:EG (BS.mk 8 6073459554577829193) ((5,[78,85,76,76],a)::t::l)=(false,(5,[78,85,76,76],a)::t::l):=rfl
theorem AEt{w j g i b e l}(h:AE0 w=false):OU ((6,[91],j)::(3,w,g)::(6,[93],i)::(5,[78,85,76,76],b)::e::l)=some ((true,Mf w,0),(5,[78,85,76,76],b)::e::l):=by
 have f:(C5 (Mf w) (AA 0) || C5 (AA 268435456) (Mf w))=false:=h;unfold OU;simp only[ALp,AEx,Bk,f,ALo,ALf,ALg]
theorem AEP{n}(c:n<100):AE0 (uW n)=false:=by
 have:∀k:Fin 100,AE0 (uW k.val)=false:=by decide +kernel
 exact this ⟨n,c⟩
theorem AB2{n}(a:n<100):Mf (uW n)=AA n:=(ZB a (r:=[]) rfl rfl).choose_spec.choose_spec.2.2
theorem ALh T v d p q t l ns:Ju T d (IY (true,v,0)) ((5,[78,85,76,76],p)::(6,[44],q)::t::l) ns=some (⟨4,[],true,v,0,⟨false,false,false,false,0,0⟩,[],[],0,false,0⟩,(6,[44],q)::t::l,ns):=by kernel_rfl
theorem ALi T v d p q t l ns:Ju T d (IY (true,v,0)) ((5,[78,85,76,76],p)::(6,[125],q)::t::l) ns=some (⟨4,[],true,v,0,⟨false,false,false,false,0,0⟩,[],[],0,false,0⟩,(6,[125],q)::t::l,ns):=by kernel_rfl
theorem AL5{T n d p2 p m k i}{ns:List Ae}(j:n<100)(s:d<=16)(o:ns.length<300)(h:nY i):Lr T d ((6,[91],p2)::(3,uW n,p)::(6,[93],m)::(5,[78,85,76,76],k)::i) ns=some (ns.length,i,ns++[LY n]):=by
 obtain⟨c,q,t,u,rfl,r⟩:=h;have e:LY n=⟨4,[],true,Mf (uW n),0,⟨false,false,false,false,0,0⟩,[],[],0,false,0⟩:=by rw[AB2 j];rfl
 rw[e];refine oY rfl s o (AEt (AEP j)) ?_;rcases r with rfl|rfl
 ·exact ALh _ _ _ _ _ _ _ _
 ·exact ALi _ _ _ _ _ _ _ _
theorem gg{T}{e:En}{d b c}{ns:List Ae}{nd:Ae}(t:Dm e)(u:d<=15)(q:ns.length<300)(p:nd.A=9)(s:nY b)(h:nZ e c b):Je (Lr T) d nd c ns=some ({ nd with K:=nd.K++[⟨uN e,ns.length,false,0⟩] },b,ns++[LY e.2.2]):=by
 obtain⟨r,p2,o,n,l,rfl⟩:=h;have k:IZ 2 ((2,uN e,r)::(6,[91],p2)::(3,uW e.2.2,o)::(6,[93],n)::(5,[78,85,76,76],l)::b)=some (uN e,(6,[91],p2)::(3,uW e.2.2,o)::(6,[93],n)::(5,[78,85,76,76],l)::b):=rfl;unfold Je;rw[k,Bk];dsimp only;rw[AL5 t.2.2 (by omega) q s,Bk];dsimp only;rw[decide_eq_true p]
theorem jk.tl{P:En->List Bm->List Bm->Prop}(j:∀{e a d},P e a d->∃w p t u,a=(2,w,p)::t::u){l d a}(g:nY d)(h:jk P l a d):nY a:=by
 cases h with
 | nil=>exact g | cons h k=>
  obtain⟨w,p,t,u,rfl⟩:=j k;exact⟨_,_,_,_,rfl,.inl rfl⟩
theorem nZ.two{e a d}(h:nZ e a d):∃w p t u,a=(2,w,p)::t::u:=by
 obtain⟨i,p2,g,f,j,rfl⟩:=h;exact⟨_,_,_,_,rfl⟩
theorem mZ.two{e a d}(h:mZ e a d):∃w p t u,a=(2,w,p)::t::u:=by
 obtain⟨g,p2,i,f,rfl⟩:=h;exact⟨_,_,_,_,rfl⟩
def mG(T:Ex)(d n:Nat)(nd:Ae)(l:List Bm)(ns:List Ae):Wd:=match EG (BS.mk 1 44) l with
 | (true,a)=>OY T d n nd a ns
 | (false,a)=>(Dt (BS.mk 1 125) a).map λb=>(if nd.I=true then nd else { nd with W:=nd.K.length },b,ns)
theorem QS T d n nd l ns:OY T d (n+1) nd l ns=(LV T d nd l ns).bind λs=>mG T d n s.1 s.2.1 s.2.2:=rfl
theorem pD{T d}{nd:Ae}{w p t l ns}:LV T d nd ((2,w,p)::t::l) ns=Je T d nd ((2,w,p)::t::l) ns:=by
 unfold LV;cases nd.I<;>rfl
theorem AKu T d (nd:Ae) p t l ns (h:nd.I=false):LV T d nd ((6,[46,46,46],p)::t::l) ns=some ({ nd with I:=true,W:=nd.K.length },t::l,ns):=by
 have e:EG (BS.mk 3 3026478) ((6,[46,46,46],p)::t::l)=(true,t::l):=rfl;unfold LV;rw[h,if_neg (by decide),e]
theorem zq q t l:EG (BS.mk 1 44) ((6,[44],q)::t::l)=(true,t::l):=rfl
theorem AMC q t l:EG (BS.mk 1 44) ((6,[125],q)::t::l)=(false,(6,[125],q)::t::l):=rfl
theorem ALn q t l:Dt (BS.mk 1 125) ((6,[125],q)::t::l)=some (t::l):=rfl
theorem Qa{T d}(B:d<=15):∀(l:List En) {k m tl}{ns:List Ae}{nd:Ae},(∀e∈l,Dm e)->jk nZ l m tl->nY tl->ns.length+l.length<300->l.length<k->nd.A=9 ->
  mG (Lr T) d k nd m ns=mG (Lr T) d (k-l.length) { nd with K:=nd.K++Ea ns.length l } tl (ns++l.map λe=>LY e.2.2)
 | [],k,m,tl,ns,nd,_,h,_,_,_,_=>by
  cases h;simp only[Ea,BP,WZ,Cm,NH]
 | e::l,k,m,tl,ns,nd,y,h,A,z,G,v=>by
  obtain⟨k,rfl⟩:∃j,k=j+1:=⟨k-1,by omega⟩;cases h with
  | @cons _ _ _ I J p h g=>
   have h1:=h.tl (λx=>x.two) A;have ⟨w,q,t,u,F⟩:=g.two;have L:=gg (T:=T) (ns:=ns) (y e AZ) B (by simp at z;omega) v h1 g;have D:=Qa (T:=T) B l (ns:=ns++[LY e.2.2]) (nd:={ nd with K:=nd.K++[⟨uN e,ns.length,false,0⟩] }) (λx E=>y x (Az _ E)) h A (by simp at z ⊢;omega) (by simp at G;omega) v;subst F;unfold mG;rw[zq];dsimp only;rw[QS,pD,L,Bk];dsimp only;rw[D];have C:(ns++[LY e.2.2]).length=ns.length+1:=by simp
   rw[C];simp only[BC,D9,Hb,Ag,C7,Ea,Y3];rfl
def Mx(l:List En):List Ae:=l.map λe=>LY e.2.2
theorem zr{T d}(D:d<=15){e:En}{l m:List En}{z y s u p q r t}{ns:List Ae}{nd:Ae}(L:Dm e)(S:∀x∈l,Dm x)(Y:∀x∈m,Dm x)
  (G:nZ e z y) (h1:jk nZ l y ((6,[44],p)::(6,[46,46,46],q)::s)) (J:jk nZ m s ((6,[125],r)::t::u)) (hn:ns.length+l.length+m.length<200) (B:nd.A=9) (hf:nd.K=[]) (E:nd.I=false) :
  Hi (Lr T) d nd z ns=some ({ nd with K:=Ea ns.length (e::l++m),I:=true,W:=l.length+1 },t::u,ns++Mx (e::l++m)):=by
 have N:nY s:=J.tl (λx=>x.two) ⟨_,_,_,_,rfl,.inr rfl⟩;have M:nY y:=h1.tl (λx=>x.two) ⟨_,_,_,_,rfl,.inl rfl⟩;have ⟨w,a,b,c,R⟩:=G.two;have X:=gg (T:=T) (ns:=ns) L D (by omega) B M G;have g1:=Qa (T:=T) D l (k:=999) (ns:=ns++[LY e.2.2]) (nd:={ nd with K:=nd.K++[⟨uN e,ns.length,false,0⟩] }) S h1 ⟨_,_,_,_,rfl,.inl rfl⟩ (by simp;omega) (by omega) B;have ⟨c2,q2,t2,u2,eA,_⟩:=N;have Q:=Qa (T:=T) D m (k:=998-l.length) (ns:=ns++[LY e.2.2]++l.map λe=>LY e.2.2) (nd:={ nd with K:=nd.K++[⟨uN e,ns.length,false,0⟩]++Ea (ns++[LY e.2.2]).length l,I:=true,W:=(nd.K++[(⟨uN e,ns.length,false,0⟩:BW)]++Ea (ns++[LY e.2.2]).length l).length }) Y J ⟨_,_,_,_,rfl,.inr rfl⟩ (by simp;omega) (by omega) B;subst R;show OY (Lr T) d (999+1) nd _ ns=_;rw[QS,pD,X,Bk];dsimp only;rw[g1];have ⟨k,hk⟩:∃k,999-l.length=k+1:=⟨998-l.length,by omega⟩;have F:k=998-l.length:=by omega
 rw[hk];unfold mG;rw[zq];dsimp only;subst eA;rw[QS,AKu,Bk];rotate_left
 ·exact E
 dsimp only;rw[F,Q];unfold mG;rw[AMC];dsimp only;rw[ALn];have O:(ns++[LY e.2.2]).length=ns.length+1:=by simp
 have U:(ns++[LY e.2.2]++l.map λe=>LY e.2.2).length=ns.length+1+l.length:=by simp;omega
 simp only[Cl,if_true,O,U,hf];refine congrArg some (Prod.ext ?_ (Prod.ext rfl ?_))
 ·show ({ nd with K:=_,I:=true,W:=_ }:Ae)=_
  have P:[]++[(⟨uN e,ns.length,false,0⟩:BW)]++Ea (ns.length+1) l++Ea (ns.length+1+l.length) m=Ea ns.length (e::l++m):=by
   show (⟨uN e,ns.length,false,0⟩:BW)::(Ea (ns.length+1) l++Ea (ns.length+1+l.length) m)=_;rw[<-Xa];rfl
  have Z:([]++[⟨uN e,ns.length,false,0⟩]++Ea (ns.length+1) l:List BW).length=l.length+1:=by
   simp[GU]
  rw[P,Z]
 ·show ns++[LY e.2.2]++(l.map λe=>LY e.2.2)++(m.map λe=>LY e.2.2)=ns++Mx (e::l++m)
  simp[Mx]
def H8(e:En):CS:=⟨uN e,AA e.2.2,true⟩
def mF(n:Nat)(its:List CS)(more:Bool)(root:Nat)(l:List Bm):Option (List CS × Bool × Nat × List Bm):=match EG (BS.mk 1 44) l with
 | (false,a)=>some (its,more,(if more=true then root else its.length),a)
 | (true,a)=>Jc n its more root a
theorem UG n its more root l:Jc (n+1) its more root l=(OL its more root l).bind λs=>mF n s.1 s.2.1 s.2.2.1 s.2.2.2:=rfl
theorem ALw p t l:EG (BS.mk 1 40) ((6,[40],p)::t::l)=(true,t::l):=rfl
theorem ALv p t l:Dt (BS.mk 1 41) ((6,[41],p)::t::l)=some (t::l):=rfl
theorem pC{e its more root c a}(f:Dm e)(d:nY c)(h:mZ e a c):OL its more root a=some (its++[H8 e],more,root,c):=by grind (gen:=20) [Dm,nY,mZ,OL,H8,EG,IZ,ZQ,ALw,ALv,AB2]
theorem AEa{its:List CS}{root p t l}(h:0<its.length):OL its false root ((6,[46,46,46],p)::t::l)=some (its,true,its.length,t::l):=by
 have e:EG (BS.mk 3 3026478) ((6,[46,46,46],p)::t::l)=(true,t::l):=rfl;unfold OL;simp only[h,decide_true,Bool.not_false,Bool.and_self,if_true,e]
theorem UN:∀(l:List En) {k root its more m tl},(∀e∈l,Dm e)->jk mZ l m tl->nY tl->l.length<k ->
  mF k its more root m=mF (k-l.length) (its++l.map H8) more root tl
 | [],k,root,its,more,m,tl,_,h,_,_=>by
  cases h;simp
 | e::l,k,root,its,more,m,tl,s,h,v,B=>by
  obtain⟨k,rfl⟩:∃j,k=j+1:=⟨k-1,by omega⟩;cases h with
  | @cons _ _ _ C A p h g=>
   have h1:=h.tl (λx=>x.two) v;have ⟨w,q,t,u,z⟩:=g.two;have E:=pC (its:=its) (more:=more) (root:=root) (s e AZ) h1 g;have D:=UN l (root:=root) (its:=its++[H8 e]) (more:=more) (λx y=>s x (Az _ y)) h v (by simp at B;omega);subst z;unfold mF;rw[zq];dsimp only;rw[UG,E,Bk];dsimp only;rw[D];simp only[BC,Ag,Y3];rfl
theorem AFO{e}{l m:List En}{g h j u p q r t}(D:Dm e)(A:∀x∈l,Dm x)(C:∀x∈m,Dm x)
  (w:mZ e g h) (h1:jk mZ l h ((6,[44],p)::(6,[46,46,46],q)::j)) (s:jk mZ m j ((6,[125],r)::t::u)) (L:l.length+m.length<200) :
  Jc 2000 [] false 0 g=some ((e::l++m).map H8,true,l.length+1,(6,[125],r)::t::u):=by
 have B:=s.tl (λx=>x.two) ⟨_,_,_,_,rfl,.inr rfl⟩;have z:=h1.tl (λx=>x.two) ⟨_,_,_,_,rfl,.inl rfl⟩;have E:=pC (its:=[]) (more:=false) (root:=0) D z w;have F:=UN l (k:=1999) (root:=0) (its:=[]++[H8 e]) (more:=false) A h1 ⟨_,_,_,_,rfl,.inl rfl⟩ (by omega);have ⟨G,J,I,K,eA,_⟩:=B;have v:=UN m (k:=1998-l.length) (root:=([]++[H8 e]++l.map H8).length) (its:=[]++[H8 e]++l.map H8) (more:=true) C s ⟨_,_,_,_,rfl,.inr rfl⟩ (by omega);rw[show 2000=1999+1 from rfl,UG,E,Bk];dsimp only;rw[F];have ⟨k,y⟩:∃k,1999-l.length=k+1:=⟨1998-l.length,by omega⟩;have n:k=1998-l.length:=by omega
 rw[y];unfold mF;rw[zq];dsimp only;subst eA;rw[UG,AEa (by simp),Bk];dsimp only;rw[n,v];unfold mF;rw[AMC];simp
theorem AKn{N len t b}(h:GN (N+10) len (32::t) b):∃p q w s e i y r g k,GN (N+10) len (77::32::68::69::70::73::78::73::84::73::79::78::83::32::73::77::80::76::73::67::73::84::32::84::65::71::83::32::58::58::61::32::66::69::71::73::78::32::65::32::58::58::61::32::67::72::79::73::67::69::32::123::32::t) ((1,[77],p)::(5,[68,69,70,73,78,73,84,73,79,78,83],q)::(5,[73,77,80,76,73,67,73,84],w)::(5,[84,65,71,83],s)::(6,[58,58,61],e)::(5,[66,69,71,73,78],i)::(1,[65],y)::(6,[58,58,61],r)::(5,[67,72,79,73,67,69],g)::(6,[123],k)::b):=by
 have v:GN (N+10) len (32::123::32::t) ((6,[123],_)::b) := .S (ER rfl rfl) (FF (ACB _) (by decide) rfl rfl rfl rfl (by decide) (by decide) (by decide)) h;have d:GN (N+10) len (32::67::72::79::73::67::69::32::123::32::t) ((5,[67,72,79,73,67,69],_)::(6,[123],_)::b) := .S (ER rfl rfl) (FY rfl rfl rfl rfl (by decide +kernel) (by decide +kernel)) v;have l:GN (N+10) len (32::58::58::61::32::67::72::79::73::67::69::32::123::32::t) ((6,[58,58,61],_)::(5,[67,72,79,73,67,69],_)::(6,[123],_)::b) := .S (ER rfl rfl) (FF (ZH _) (by decide) rfl rfl rfl rfl (by decide) (by decide) (by decide)) d;have o:GN (N+10) len (32::65::32::58::58::61::32::67::72::79::73::67::69::32::123::32::t) ((1,[65],_)::(6,[58,58,61],_)::(5,[67,72,79,73,67,69],_)::(6,[123],_)::b) := .S (ER rfl rfl) (FY rfl rfl rfl rfl (by decide +kernel) (by decide +kernel)) l;have j:GN (N+10) len (32::66::69::71::73::78::32::65::32::58::58::61::32::67::72::79::73::67::69::32::123::32::t) ((5,[66,69,71,73,78],_)::(1,[65],_)::(6,[58,58,61],_)::(5,[67,72,79,73,67,69],_)::(6,[123],_)::b) := .S (ER rfl rfl) (FY rfl rfl rfl rfl (by decide +kernel) (by decide +kernel)) o;have u:GN (N+10) len (32::58::58::61::32::66::69::71::73::78::32::65::32::58::58::61::32::67::72::79::73::67::69::32::123::32::t) ((6,[58,58,61],_)::(5,[66,69,71,73,78],_)::(1,[65],_)::(6,[58,58,61],_)::(5,[67,72,79,73,67,69],_)::(6,[123],_)::b) := .S (ER rfl rfl) (FF (ZH _) (by decide) rfl rfl rfl rfl (by decide) (by decide) (by decide)) j;have x:GN (N+10) len (32::84::65::71::83::32::58::58::61::32::66::69::71::73::78::32::65::32::58::58::61::32::67::72::79::73::67::69::32::123::32::t) ((5,[84,65,71,83],_)::(6,[58,58,61],_)::(5,[66,69,71,73,78],_)::(1,[65],_)::(6,[58,58,61],_)::(5,[67,72,79,73,67,69],_)::(6,[123],_)::b) := .S (ER rfl rfl) (FY rfl rfl rfl rfl (by decide +kernel) (by decide +kernel)) u;have m:GN (N+10) len (32::73::77::80::76::73::67::73::84::32::84::65::71::83::32::58::58::61::32::66::69::71::73::78::32::65::32::58::58::61::32::67::72::79::73::67::69::32::123::32::t) ((5,[73,77,80,76,73,67,73,84],_)::(5,[84,65,71,83],_)::(6,[58,58,61],_)::(5,[66,69,71,73,78],_)::(1,[65],_)::(6,[58,58,61],_)::(5,[67,72,79,73,67,69],_)::(6,[123],_)::b) := .S (ER rfl rfl) (FY rfl rfl rfl rfl (by decide +kernel) (by decide +kernel)) x;have f:GN (N+10) len (32::68::69::70::73::78::73::84::73::79::78::83::32::73::77::80::76::73::67::73::84::32::84::65::71::83::32::58::58::61::32::66::69::71::73::78::32::65::32::58::58::61::32::67::72::79::73::67::69::32::123::32::t) ((5,[68,69,70,73,78,73,84,73,79,78,83],_)::(5,[73,77,80,76,73,67,73,84],_)::(5,[84,65,71,83],_)::(6,[58,58,61],_)::(5,[66,69,71,73,78],_)::(1,[65],_)::(6,[58,58,61],_)::(5,[67,72,79,73,67,69],_)::(6,[123],_)::b) := .S (ER rfl rfl) (FY rfl rfl rfl rfl (by decide +kernel) (by decide +kernel)) m;have n:GN (N+10) len (77::32::68::69::70::73::78::73::84::73::79::78::83::32::73::77::80::76::73::67::73::84::32::84::65::71::83::32::58::58::61::32::66::69::71::73::78::32::65::32::58::58::61::32::67::72::79::73::67::69::32::123::32::t) ((1,[77],_)::(5,[68,69,70,73,78,73,84,73,79,78,83],_)::(5,[73,77,80,76,73,67,73,84],_)::(5,[84,65,71,83],_)::(6,[58,58,61],_)::(5,[66,69,71,73,78],_)::(1,[65],_)::(6,[58,58,61],_)::(5,[67,72,79,73,67,69],_)::(6,[123],_)::b) := .S (NM rfl rfl) (FY rfl rfl rfl rfl (by decide +kernel) (by decide +kernel)) f;exact⟨_,_,_,_,_,_,_,_,_,_,n⟩
theorem AKm{N len t b}(h:GN (N+10) len (32::t) b):∃i j n k g,GN (N+10) len (32::125::32::66::32::58::58::61::32::69::78::85::77::69::82::65::84::69::68::32::123::32::t) ((6,[125],i)::(1,[66],j)::(6,[58,58,61],n)::(5,[69,78,85,77,69,82,65,84,69,68],k)::(6,[123],g)::b):=by
 have l:GN (N+10) len (32::123::32::t) ((6,[123],_)::b) := .S (ER rfl rfl) (FF (ACB _) (by decide) rfl rfl rfl rfl (by decide) (by decide) (by decide)) h;have d:GN (N+10) len (32::69::78::85::77::69::82::65::84::69::68::32::123::32::t) ((5,[69,78,85,77,69,82,65,84,69,68],_)::(6,[123],_)::b) := .S (ER rfl rfl) (FY rfl rfl rfl rfl (by decide +kernel) (by decide +kernel)) l;have e:GN (N+10) len (32::58::58::61::32::69::78::85::77::69::82::65::84::69::68::32::123::32::t) ((6,[58,58,61],_)::(5,[69,78,85,77,69,82,65,84,69,68],_)::(6,[123],_)::b) := .S (ER rfl rfl) (FF (ZH _) (by decide) rfl rfl rfl rfl (by decide) (by decide) (by decide)) d;have m:GN (N+10) len (32::66::32::58::58::61::32::69::78::85::77::69::82::65::84::69::68::32::123::32::t) ((1,[66],_)::(6,[58,58,61],_)::(5,[69,78,85,77,69,82,65,84,69,68],_)::(6,[123],_)::b) := .S (ER rfl rfl) (FY rfl rfl rfl rfl (by decide +kernel) (by decide +kernel)) e;have f:GN (N+10) len (32::125::32::66::32::58::58::61::32::69::78::85::77::69::82::65::84::69::68::32::123::32::t) ((6,[125],_)::(1,[66],_)::(6,[58,58,61],_)::(5,[69,78,85,77,69,82,65,84,69,68],_)::(6,[123],_)::b) := .S (ER rfl rfl) (FF (ACA _) (by decide) rfl rfl rfl rfl (by decide) (by decide) (by decide)) m;exact⟨_,_,_,_,_,f⟩
theorem AKl N len:∃p q r,GN (N+10) len (32::125::32::69::78::68::[]) [(6,[125],p),(5,[69,78,68],q),(0,[],r)]:=
 ⟨_,_,_,.S (ER rfl rfl) (FF (ACA _) (by decide) rfl rfl rfl rfl (by decide) (by decide) (by decide)) (.S (ER rfl rfl) (FY rfl rfl rfl rfl (by decide +kernel) (by decide +kernel)) (.fin rfl))⟩
def ucI(e:En)(l m:List En):List Nat:=iE e (lX iE l (44::32::46::46::46::lX iE m (32::125::32::69::78::68::[])))
def ucF(e:En)(l m:List En)(t:List Nat):List Nat:=fE e (lX fE l (44::32::46::46::46::lX fE m (32::125::32::66::32::58::58::61::32::69::78::85::77::69::82::65::84::69::68::32::123::t)))
def Pg(e:En)(l m:List En)(e':En)(l' m':List En):List Nat:=77::32::68::69::70::73::78::73::84::73::79::78::83::32::73::77::80::76::73::67::73::84::32::84::65::71::83::32::58::58::61::32::66::69::71::73::78::32::65::32::58::58::61::32::67::72::79::73::67::69::32::123::ucF e l m (ucI e' l' m')
theorem AL6 e t:∃u,fE e t=32::u:=⟨_,rfl⟩
theorem AL4 e t:∃u,iE e t=32::u:=⟨_,rfl⟩
def LTk(P:En->List Bm->List Bm->Prop)(e:En)(l m:List En)(d c:List Bm):Prop:=∃a b p q,P e d a/\jk P l a ((6,[44],p)::(6,[46,46,46],q)::b)/\jk P m b c
theorem ALs{N len P}{f:En->List Nat->List Nat}(i:∀{e t b},Dm e->Hd2 t->GN (N+10) len t b->∃c,GN (N+10) len (f e t) c/\P e c b)(k:∀e t,∃u,f e t=32::u){e l m t b}(A:Dm e)(y:∀x∈l,Dm x)(r:∀x∈m,Dm x)(v:Hd2 t)(h:GN (N+10) len t b):
  ∃a,GN (N+10) len (f e (lX f l (44::32::46::46::46::lX f m t))) a/\LTk P e l m a b:=by
 have ⟨j,n,w⟩:=AFP i k v h m r;have ⟨p,q,C⟩:=AL9 n;have ⟨d,o,B⟩:=AFP i k ⟨_,_,rfl,.inl rfl⟩ C l y;have ⟨a,s,z⟩:=i A (qZ ⟨_,_,rfl,.inl rfl⟩ l) o;exact⟨a,s,d,j,p,q,z,B,w⟩
theorem yL N len {e e' l m l' m'}(K:Dm e)(F:∀x∈l,Dm x)(D:∀x∈m,Dm x)(r:Dm e')(w:∀x∈l',Dm x)(u:∀x∈m',Dm x):
  ∃o p c y v i B q z j r0 r1 s A d p0 t p2 a b,GN (N+10) len (Pg e l m e' l' m') ((1,[77],o)::(5,[68,69,70,73,78,73,84,73,79,78,83],p)::(5,[73,77,80,76,73,67,73,84],c)::(5,[84,65,71,83],y)::(6,[58,58,61],v)::(5,[66,69,71,73,78],i)::(1,[65],B)::(6,[58,58,61],q)::(5,[67,72,79,73,67,69],z)::(6,[123],j)::a) /\
   LTk nZ e l m a ((6,[125],r0)::(1,[66],r1)::(6,[58,58,61],s)::(5,[69,78,85,77,69,82,65,84,69,68],A)::(6,[123],d)::b)/\LTk mZ e' l' m' b [(6,[125],p0),(5,[69,78,68],t),(0,[],p2)]:=by
 have ⟨p0,t,p2,L⟩:=AKl N len;have ⟨b,E,I⟩:=ALs (f:=iE) (λh _ k=>AUL h k) AL4 r w u ⟨_,_,rfl,.inr rfl⟩ L;have ⟨r0,r1,s,A,d,G⟩:=AKm E;have ⟨a,M,C⟩:=ALs (f:=fE) (λh k g=>AUP h k g) AL6 K F D ⟨_,_,rfl,.inr rfl⟩ G;have ⟨o,p,c,y,v,i,B,q,z,j,J⟩:=AKn M;exact⟨o,p,c,y,v,i,B,q,z,j,r0,r1,s,A,d,p0,t,p2,a,b,J,C,I⟩
def SG(e:En)(l m:List En):Ae:=⟨9,[],false,0,0,⟨false,false,false,false,0,0⟩,[],Ea 1 (e::l++m),l.length+1,true,0⟩
def kU(e:En)(l m:List En):Ae:=⟨3,[],false,0,0,⟨false,false,false,false,0,0⟩,(e::l++m).map H8,[],l.length+1,true,0⟩
def ucM(e:En)(l m:List En)(e':En)(l' m':List En):Cs:=⟨[77],1,[[65],[66]],[0,(e::l++m).length+1],SG e l m::Mx (e::l++m)++[kU e' l' m']⟩
theorem z8 T p q t l ns:Ju T 0 (IY (false,0,0)) ((5,[67,72,79,73,67,69],p)::(6,[123],q)::t::l) ns=Hi T 0 { IY (false,0,0)with A:=9 } (t::l) ns:=by kernel_rfl
theorem z4 T p q t l ns:Ju T 0 (IY (false,0,0)) ((5,[69,78,85,77,69,82,65,84,69,68],p)::(6,[123],q)::t::l) ns=(Jc 2000 [] false 0 (t::l)).bind λs=>(Dt (BS.mk 1 125) s.2.2.2).map λb=>({ IY (false,0,0)with A:=3,R:=s.1,I:=s.2.1,W:=s.2.2.1 },b,ns):=by kernel_rfl
theorem zG p t l:OU ((5,[67,72,79,73,67,69],p)::t::l)=some ((false,0,0),(5,[67,72,79,73,67,69],p)::t::l):=rfl
theorem zF p t l:OU ((5,[69,78,85,77,69,82,65,84,69,68],p)::t::l)=some ((false,0,0),(5,[69,78,85,77,69,82,65,84,69,68],p)::t::l):=rfl
theorem AED{e}{l m:List En}{f u p q r t}(G:Dm e)(F:∀x∈l,Dm x)(C:∀x∈m,Dm x)(J:l.length+m.length<100)(h:LTk nZ e l m f ((6,[125],r)::t::u)):
  Hd 2 0 ((5,[67,72,79,73,67,69],p)::(6,[123],q)::f) []=some (0,t::u,SG e l m::Mx (e::l++m)):=by
 have ⟨E,I,K,L,o,h1,B⟩:=h;have ⟨w,a,b,c,D⟩:=o.two;have g:=zr (T:=Hd 0) (d:=0) (ns:=[IX]) (nd:={ IY (false,0,0)with A:=9 }) (by decide) G F C o h1 B (by simp;omega) rfl rfl rfl;subst D;show Lr (Hd 1) 0 _ []=_;unfold Lr;dsimp only;rw[show mM (5,[67,72,79,73,67,69],p)=true from rfl,zG];show ((Ju (Hd 1) 0 (IY (false,0,0)) _ [IX]).map λs=>(0,s.2.1,s.2.2.set 0 s.1))=_;rw[z8];show ((Hi (Lr (Hd 0)) 0 _ _ [IX]).map λs=>(0,s.2.1,s.2.2.set 0 s.1))=_;rw[g];rfl
theorem AEC{e}{l m:List En}{d u p q r t}{ns:List Ae}(D:Dm e)(y:∀x∈l,Dm x)(A:∀x∈m,Dm x)(F:l.length+m.length<100)(v:ns.length<300)(h:LTk mZ e l m d ((6,[125],r)::t::u)):
  Hd 2 0 ((5,[69,78,85,77,69,82,65,84,69,68],p)::(6,[123],q)::d) ns=some (ns.length,t::u,ns++[kU e l m]):=by
 have ⟨C,E,I,G,o,h1,s⟩:=h;have ⟨w,a,b,c,z⟩:=o.two;have g:=AFO D y A o h1 s (by omega);subst z;refine oY rfl (by decide) v (zF _ _ _) ?_;rw[z4,g,Bk];dsimp only;rw[ALn];rfl
theorem AEH T p0 b p2 d c f t l:pv T ((1,[77],p0)::(5,[68,69,70,73,78,73,84,73,79,78,83],b)::(5,[73,77,80,76,73,67,73,84],p2)::(5,[84,65,71,83],d)::(6,[58,58,61],c)::(5,[66,69,71,73,78],f)::t::l)=(O7 T 50 [] [] [] (t::l)).bind λr=>match r.2.2.2 with
 | []=>none | e::_=>match decide (e.1=0)with
  | true=>some ⟨[77],1,r.1,r.2.1,r.2.2.1⟩ | false=>none:=by kernel_rfl
theorem AEG{e e'}{l m l' m':List En}{z E v I A J t C n o r0 r1 u s r p0 w p2 c a}(K:Dm e)(G:∀x∈l,Dm x)(y:∀x∈m,Dm x)(j:Dm e')(i:∀x∈l',Dm x)(g:∀x∈m',Dm x)(B:l.length+m.length<100)(h:l'.length+m'.length<100)
  (D:LTk nZ e l m c ((6,[125],r0)::(1,[66],r1)::(6,[58,58,61],u)::(5,[69,78,85,77,69,82,65,84,69,68],s)::(6,[123],r)::a)) (h1:LTk mZ e' l' m' a [(6,[125],p0),(5,[69,78,68],w),(0,[],p2)]) :
  pv (Hd 2) ((1,[77],z)::(5,[68,69,70,73,78,73,84,73,79,78,83],E)::(5,[73,77,80,76,73,67,73,84],v)::(5,[84,65,71,83],I)::(6,[58,58,61],A)::(5,[66,69,71,73,78],J)::(1,[65],t)::(6,[58,58,61],C)::(5,[67,72,79,73,67,69],n)::(6,[123],o)::c)=some (ucM e l m e' l' m'):=by
 have L:=AED (p:=n) (q:=o) K G y B D;have F:=AEC (p:=s) (q:=r) (ns:=SG e l m::Mx (e::l++m)) j i g h (by simp only[Mx,Ag,Bp,AP];omega) h1;rw[AEH,X0 (by decide) L,X0 (by decide) F,AAA];show some _=some _;unfold ucM;simp only[Mx,Hb,D9,Ag,Bp,]
theorem oR N len {e e'}{l m l' m':List En}(j:Dm e)(h:∀x∈l,Dm x)(g:∀x∈m,Dm x)(a:Dm e')(b:∀x∈l',Dm x)(c:∀x∈m',Dm x)(k:l.length+m.length<100)(d:l'.length+m'.length<100):
  ∃i,GN (N+10) len (Pg e l m e' l' m') i/\pv (Hd 2) i=some (ucM e l m e' l' m'):=by
 have ⟨v,w,B,C,t,A,r,y,u,s,r0,r1,E,F,z,p0,D,p2,p,n,h1,q,o⟩:=yL N len j h g a b c;exact⟨_,h1,AEG j h g a b c k d q o⟩
theorem XA{key:Nat->Nat}:∀{l:List Nat},l.Pairwise (λa b=>key a<=key b)->(∀a∈l,∀b∈l,key a=key b->a=b)->∀k∈l,l.idxOf k=l.countP λj=>decide (key j<key k)
 | [],_,_,k,p=>by cases p
 | a::l,n,u,k,p=>by
  rw[Rv]at n;by_cases e:a=k
  ·subst e
   have B:l.countP (λj=>decide (key j<key a))=0:=by
    rw[xp];intro j v;have:=n.1 j v;simp;omega
   rw[List.countP_cons,B];simp
  ·have g:k∈l:=by
    rcases A0.1 p with h|h
    ·exact absurd h.symm e
    ·exact h
   have h1:=n.1 k g;have D:key a≠key k:=λh=>e (u a AZ k p h);have z:=XA n.2 (λx w y A=>u x (Az _ w) y (Az _ A)) k g;rw[List.countP_cons,<-z,List.idxOf_cons];have C:(a==k)=false:=by simpa using e
   rw[C,if_pos (decide_eq_true (by omega))];rfl
theorem ZJ{xs l:List Nat}(i:l.Perm (CW xs.length))(s:l.Pairwise λa b=>xs.getD a 0<=xs.getD b 0)(o:xs.Nodup){k}(p:k<xs.length):l.idxOf k=(CW xs.length).countP λj=>decide (xs.getD j 0<xs.getD k 0):=by
 have n:∀a∈l,a<xs.length:=λa g=>EV.1 (i.mem_iff.1 g);rw[XA s (λa g b r e=>?_) k (i.mem_iff.2 (EV.2 p))]
 ·exact i.countP_eq _
 ·have h1:=n a g
  have m:=n b r;rw[BK,BK,AI h1,AI m]at e;have e:=e;have d:=EH.1 o;rcases WX a b with h|h|h
  ·exact absurd e (d a b h1 m h)
  ·exact h
  ·exact absurd e.symm (d b a m h1 h)
def Jn(xs:List Nat)(x:Nat):Nat->Nat->Nat
 | 0,_=>0
 | n+1,i=>(if xs.getD i 0<x then 1 else 0)+Jn xs x n (i+1)
theorem Qd(xs:List Nat) x:∀n i,Jn xs x n i=(Da i n).countP λj=>decide (xs.getD j 0<x)
 | 0,i=>rfl | n+1,i=>by
  rw[List.range'_succ,List.countP_cons,<-Qd xs x n (i+1)];show (if xs.getD i 0<x then 1 else 0)+_=_;by_cases h:xs.getD i 0<x
  ·rw[if_pos h,if_pos (decide_eq_true h)];omega
  ·rw[if_neg h,decide_eq_false h];simp
theorem pW{xs l:List Nat}(c:l.Perm (CW xs.length))(d:l.Pairwise λa b=>xs.getD a 0<=xs.getD b 0)(e:xs.Nodup){k}(f:k<xs.length):l.idxOf k=Jn xs (xs.getD k 0) xs.length 0:=by
 rw[ZJ c d e f,Qd,List.range_eq_range']
def Cy(a:Nat):Nat->List Nat->List En
 | _,[]=>[]
 | i,x::l=>(a,i,x)::Cy a (i+1) l
theorem Fq a:∀(l:List Nat) i,(Cy a i l).length=l.length:=by intro x;induction x with grind [Cy]
theorem HI{a}:∀{l:List Nat}{i}{e:En},e∈Cy a i l->e.1=a/\i<=e.2.1/\e.2.1<i+l.length/\e.2.2∈l:=by intro x;induction x with grind [Cy]
theorem If{a i}{l:List Nat}(h:a∈[101,102,103,104])(j:i+l.length<=100)(g:∀x∈l,x<100):∀e∈Cy a i l,Dm e:=λe f=>by
 have ⟨h1,k,m,d⟩:=HI f;exact⟨h1 ▸ h,by omega,g _ d⟩
theorem UK{a}:∀l i,(Cy a i l).Pairwise λe f=>(e.1,e.2.1)≠(f.1,f.2.1)
 | [],_ => .nil | x::l,i=>by
  refine Rv.2 ⟨λf d e=>?_,UK l (i+1)⟩;have h1:=(HI d).2.1;have g:i=f.2.1:=(Prod.mk.inj e).2;omega
theorem Xh{a b}(h:a≠b) l m:(Cy a 0 l++Cy b 0 m).Pairwise λe f=>(e.1,e.2.1)≠(f.1,f.2.1):=
 Hn.2 ⟨UK l 0,UK m 0,λe g f d k=>h (by have:=(Prod.mk.inj k).1;rw[(HI g).1,(HI d).1]at this;exact this)⟩
theorem AEQ:∀a∈[101,102,103,104],∀b∈[101,102,103,104],∀i j:Fin 12,(a,i)≠(b,j)->(BB (a::uW i.val)).beq (BB (b::uW j.val))=false:=by decide +kernel
theorem Ws{e f:En}(b:Dm e)(c:Dm f)(h1:e.2.1<12)(a:f.2.1<12)(h:(e.1,e.2.1)≠(f.1,f.2.1)):(BB (uN e)).beq (BB (uN f))=false:=
 AEQ e.1 b.1 f.1 c.1 ⟨e.2.1,h1⟩ ⟨f.2.1,a⟩ λk=>h (Prod.ext (Prod.mk.inj k).1 (Fin.mk.inj (Prod.mk.inj k).2))
theorem KP:∀l i k (f:BW),(Ea i l)[k]? = some f->∃e,l[k]? = some e/\f=⟨uN e,i+k,false,0⟩:=by intro x;induction x with grind [Ea]
theorem Ze{l:List En}(n:∀e∈l,Dm e/\e.2.1<12)(t:l.Pairwise λe f=>(e.1,e.2.1)≠(f.1,f.2.1)) i:∀(j k:Nat) (f g:BW),j<k->(Ea i l)[j]? = some f->(Ea i l)[k]? = some g->(BB f.name).beq (BB g.name)=false:=by
 intro j k f g b w x;obtain⟨z,y,rfl⟩:=KP l i j f w;obtain⟨u,v,rfl⟩:=KP l i k g x;have ⟨o,q⟩:=AN.1 y;have ⟨m,s⟩:=AN.1 v;have h:=EH.1 t j k o m b;rw[q,s]at h;have r:=n z (q ▸ Gg o);have p:=n u (s ▸ Gg m);exact Ws r.1 p.1 r.2 p.2 h
structure mY(its:List CS)(W:Nat):Prop where
 has:∀x∈its,x.has=true
 nm:its.Pairwise λa b=>(BB a.name).beq (BB b.name)=false
 nu:its.Pairwise λa b=>a.num≠b.num
 up:(its.drop W).Pairwise λa b=>a.num<b.num
def EL(m:Nat):List Nat:=(CW m).map (70 + ·)
theorem Ft m:(EL m).length=m:=by grind [EL]
theorem KW{m x}(h:x∈EL m):70<=x/\x<70+m:=by grind [EL]
theorem UQ m:(EL m).Pairwise (· < ·):=by
 unfold EL;rw[E6];exact List.pairwise_lt_range.imp λh=>by omega
theorem JF a:∀l i,(Cy a i l).map (λe=>e.2.2)=l:=by intro x;induction x with grind [Cy]
theorem oU{xs:List Nat}{m}(n:∀x∈xs,x<60)(v:xs.Nodup)(z:xs.length<=9)(B:m<=3):mY ((Cy 101 0 xs++Cy 104 0 (EL m)).map H8) xs.length:=by
 have w:=Ft m;have s:∀e∈Cy 101 0 xs++Cy 104 0 (EL m),Dm e/\e.2.1<12:=by
  intro e g;rcases CN.1 g with g|g
  ·exact⟨If (by decide) (by omega) (λx l=>by have:=n x l;omega) e g,by have:=(HI g).2.2.1;omega⟩
  ·exact⟨If (by decide) (by omega) (λx l=>by have:=KW l;omega) e g,by have:=(HI g).2.2.1;omega⟩
 have y:=Xh (a:=101) (b:=104) (by decide) xs (EL m);have j:(Cy 101 0 xs++Cy 104 0 (EL m)).map (λe=>e.2.2)=xs++EL m:=by rw[xY,JF,JF]
 have k:(xs++EL m).Pairwise (·≠·):=by
  refine Hn.2 ⟨v,(UQ m).imp λh=>by omega,λa r b p=>?_⟩;have h1:=n a r;have A:=KW p;omega
 refine⟨λx l=>?_,?_,?_,?_⟩
 ·obtain⟨e,_,rfl⟩:=Fb.1 l
  rfl
 ·rw[E6]
  exact y.imp_of_mem λr p h=>Ws (s _ r).1 (s _ p).1 (s _ r).2 (s _ p).2 h
 ·rw[<-j,E6]at k
  rw[E6];exact k.imp λh e=>h (AA.inj e)
 ·rw[xY,List.drop_left' (by rw[Bp,Fq]),E6]
  have h:=UQ m;rw[<-JF 104 (EL m) 0,E6]at h;exact h.imp λh=>by show AA _<AA _;simp;omega
def Jh(e:En):List Nat:=e.1::(uW e.2.1++([32,91]++(uW e.2.2++[93,32,78,85,76,76])))
def Jg(e:En):List Nat:=e.1::(uW e.2.1++([32,40]++(uW e.2.2++[41])))
theorem qU e t:fE e t=32::(Jh e++t):=by grind (gen:=20) (ematch:=20) [fE,Jh]
theorem qK e t:iE e t=32::(Jg e++t):=by grind [iE,Jg]
def GG(f:En->List Nat)(l:List En):List Nat:=l.flatMap λe=>44::32::f e
theorem UM{f g}(h:∀e t,f e t=32::(g e++t)) t:∀l,lX f l t=GG g l++t:=by intro x;induction x with grind [lX,GG]
def AE4(g:En->List Nat)(e:En)(l m:List En):List Nat:=g e++GG g l++[44,32,46,46,46]++GG g m
def Tm:List Nat:=[77,32,68,69,70,73,78,73,84,73,79,78,83,32,73,77,80,76,73,67,73,84,32,84,65,71,83,32,58,58,61,32,66,69,71,73,78,32,65,32,58,58,61,32,67,72,79,73,67,69,32,123,32]
def Wo:List Nat:=[32,125,32,66,32,58,58,61,32,69,78,85,77,69,82,65,84,69,68,32,123,32]
def kS:List Nat:=[32,125,32,69,78,68]
theorem kR e e' l m l' m':Tm++AE4 Jh e l m++Wo++AE4 Jg e' l' m'++kS=Pg e l m e' l' m':=by
 unfold Pg ucF ucI;rw[qU,UM qU,UM qU,qK,UM qK,UM qK];unfold AE4 Tm Wo kS;simp
def X4(g:En->List Nat):List En->List Nat
 | []=>[]
 | e::l=>g e++GG g l
theorem mS{g l}(h:l≠[]) e:X4 g (l++[e])=(X4 g l++[44,32])++g e:=by
 cases l with
 | nil=>exact absurd rfl h | cons a l=>
  show g a++GG g (l++[e])=g a++GG g l++[44,32]++g e;unfold GG;simp
theorem ZT{g} l e:GG g (l++[e])=GG g l++([44,32]++g e):=by grind [GG]
theorem Sp a:∀(l:List Nat) i x,Cy a i (l++[x])=Cy a i l++[(a,i+l.length,x)]:=by intro x;induction x with grind [Cy]
theorem Wq{n}(b:n<100):∀c∈uW n,c<256:=λc d=>by
 have:=(KT c).1 (oW b c d);omega
theorem gp{e:En}(h:Dm e):(∀c∈Jh e,c<256)/\(Jh e).length<=13:=by
 have h1:=Wq h.2.1;have m:=Wq h.2.2;have o:=(Lq ⟨e.2.1,h.2.1⟩).2.1;have n:=(Lq ⟨e.2.2,h.2.2⟩).2.1;have l:e.1<256:=by have:=h.1;simp at this;omega
 refine⟨λc g=>?_,?_⟩
 ·unfold Jh at g
  simp only[A0,CN,FU,or_false]at g;rcases g with rfl|g|(rfl|rfl)|g|g
  ·exact l
  ·exact h1 c g
  ·decide
  ·decide
  ·exact m c g
  ·omega
 ·unfold Jh
  simp at *;omega
theorem gh{e:En}(h:Dm e):(∀c∈Jg e,c<256)/\(Jg e).length<=13:=by
 have h1:=Wq h.2.1;have m:=Wq h.2.2;have o:=(Lq ⟨e.2.1,h.2.1⟩).2.1;have n:=(Lq ⟨e.2.2,h.2.2⟩).2.1;have l:e.1<256:=by have:=h.1;simp at this;omega
 refine⟨λc g=>?_,?_⟩
 ·unfold Jg at g
  simp only[A0,CN,FU,or_false]at g;rcases g with rfl|g|(rfl|rfl)|g|rfl
  ·exact l
  ·exact h1 c g
  ·decide
  ·decide
  ·exact m c g
  ·decide
 ·unfold Jg
  simp at *;omega
theorem Pj:∀tl a i (t:Cu) u,tl[i]? = some t->a[i]? = some u->((EF tl a).drop (i*13)).take 13=t.c u
 | [],_,i,t,u,h,_=>by simp at h
 | _::_,[],i,t,u,_,h=>by simp at h
 | x::tl,y::a,0,t,u,h,e=>by simp at h e;subst h;subst e;rfl
 | x::tl,y::a,i+1,t,u,h,e=>by
  have h:tl[i]? = some t:=by simpa using h
  have e:a[i]? = some u:=by simpa using e
  show ((x.c y++EF tl a).drop ((i+1)*13)).take 13=_;rw[show (i+1)*13=13+i*13 by omega,<-Cd,show (x.c y++EF tl a).drop 13=EF tl a from rfl];exact Pj tl a i t u h e
theorem fJ{tl b i j}{t:Cu}{u c}(h:tl[i]? = some t)(f:b[i]? = some u)(e:j<13)(d:(t.c u)[j]? = some c):(EF tl b)[i*13+j]? = some c:=by
 rw[<-Pj tl b i t u h f,CQ e,B6]at d;exact d
structure mU(U:H)(lv:V)(i:Nat)(t:Cu)(u:V × V × V):Prop where
 rd:∀(E:EB) (J:List V->AE),AS 13 lv (AA i) (λb o=>Bv E U b o 13 J)=J (t.c u)
 X:∀{j:Nat}{c:V},j<13->(t.c u)[j]? = some c->∀(E:EB) (J:V->AE),AS 13 lv (AA i) (λb o=>DF E U b (AM o j) J)=J c
 at0:∀(E:EB) (J:V->AE),AS 13 lv (AA i) (λb o=>DF E U b o J)=J (.int .i64 (AA t.A))
 tg:X6 U t.wn u.1
 it:Cv U 3 t.R.length u.2.1 (JE t.R)
 fd:Cv U 11 t.K.length u.2.2 (Ie t.K)
theorem fL{U l}{tl:List Cu}{k i}{t:Cu}{u:V × V × V}(h1:Cv U 13 tl.length l (EF tl k))(e:tl[i]? = some t)(h:k[i]? = some u)(a:X6 U t.wn u.1)(b:Cv U 3 t.R.length u.2.1 (JE t.R))(c:Cv U 11 t.K.length u.2.2 (Ie t.K)):mU U l i t u:=by
 have d:=(AN.1 e).1;refine⟨λE J=>HN h1 d (Pj _ _ _ _ _ e h) (by decide) J,λj m E J=>EM h1 d j (fJ e h j m) J,λE J=>?_,a,b,c⟩;exact EM (off:=0) h1 d (by decide) (fJ e h (by decide) rfl) J
section
variable {U0 U U':H}{xb:Nat}{m:Cs}{nv tv dv lv:V}{tl:List Cu}{Q:Nat->Prop}
theorem Mk.ty(h:Mk U0 U xb m nv tv dv tl lv Q){i t}(e:tl[i]? = some t):∃u,mU U lv i t u/\∀U',Fr AH U U'->mU U' lv i t u:=by
 have ⟨l,h1,r,p⟩:=h.w;have d:=h.ht;have o:=(AN.1 e).1;have ⟨w,g⟩:∃w,l[i]? = some w:=⟨l[i],AI (by omega)⟩;have ⟨a,b,c,_⟩:=p i t w e g;exact⟨w,fL h1.src e g a b c,λU' f=>fL (h1.src.Z f d (λ_ _ h=>h)) e g (a.Z f d (λ_ _ h=>h)) (b.Z f d (λ_ _ h=>h)) (c.Z f d (λ_ _ h=>h))⟩
end
def tgV(t:Nat × Nat):V := .agg [.int .i64 (AA t.1),.int .i64 (AA t.2)]
def tT(F:List V->H->AE):Prop:=∀{U v}{l:List (Nat × Nat)} t,Ai U->Cv U 2 l.length v (SJ l)->l.length<=9000->t ∉ l->∃U',F [v,tgV t] U=some (.bool false,U')/\Fr AH U U'
theorem fP:∀l i (t:Nat × Nat),l[i]? = some t->((SJ l).drop (i*2)).take 2=[.int .i64 (AA t.1),.int .i64 (AA t.2)]
 | [],i,t,h=>by simp at h
 | x::l,0,t,h=>by simp at h;subst h;rfl
 | x::l,i+1,t,h=>by
  have h:l[i]? = some t:=by simpa using h
  show (([V.int .i64 (AA x.1),V.int .i64 (AA x.2)]++SJ l).drop ((i+1)*2)).take 2=_;rw[show (i+1)*2=2+i*2 by omega,<-Cd,show ([V.int .i64 (AA x.1),V.int .i64 (AA x.2)]++SJ l).drop 2=SJ l from rfl];exact fP l i t h
theorem AFN a b c d J:Zh (.pm [(0,.int),(1,.int)]) (.agg [.int .i64 (AA a),.int .i64 (AA b)]) (.agg [.int .i64 (AA c),.int .i64 (AA d)]) J=J (decide ((a,b)=(c,d))):=by
 have h:KQ (.pm [(0,.int),(1,.int)]) (.agg [.int .i64 (AA a),.int .i64 (AA b)]) (.agg [.int .i64 (AA c),.int .i64 (AA d)])=some (Ar a c&&(Ar b d&&true)):=rfl;unfold Zh;rw[h];show J _=J _;have k:∀x y,Ar x y=decide (x=y):=λx y=>by rw[xd,AW];simp
 rw[k,k];congr 1;by_cases h1:a=c
 ·by_cases l:b=d
  ·subst h1;subst l;simp
  ·simp[]
 ·simp[h1]
section
variable {E:EB}{D:Ac}{W:AF}{N:Nat}
theorem AL0(hN:10000<N):tT (mh E D W N):=by
 intro U v l t I y Z u;have ⟨U1,Y,F,X,n1⟩:=Fh I [.int .i64 (AA t.1),.int .i64 (AA t.2)];have y:=y.Z F I (λ_ _ h=>h);have G:∀J,Ao v J=J l.length:=λJ=>y.ip;refine⟨U1,?_,F⟩;have s:∀m i n,i+m=l.length->m<n->Vb E D W N n v U.j 0 (AA i) U1=some (.bool false,U1):=by
  intro m;induction m with
  | zero=>
   intro i n T Q;obtain⟨n,rfl⟩:∃k,n=k+1:=⟨n-1,by omega⟩;have z:decide (i<l.length)=false:=decide_eq_false (by omega);have key:∀R,Qz E D W (UR E D W) R v U.j 0 (AA i) U1=some (.bool false,U1):=by
    intro R;unfold Qz UR;simp only[↓rP,rA,AB,↓G,z]
   exact key _
  | succ m L=>
   intro i n T Q;obtain⟨n,rfl⟩:∃k,n=k+1:=⟨n-1,by omega⟩;have q:i<l.length:=by omega
   have ⟨x,B⟩:∃x,l[i]? = some x:=⟨l[i],AI q⟩;have z:=decide_eq_true q;have rd:∀J,AS 2 v (AA i) (λb o=>Bv E U1 b o 2 J)=J [.int .i64 (AA x.1),.int .i64 (AA x.2)]:=λJ=>HN y q (fP l i x B) (by decide) J;have P:decide ((x.1,x.2)=(t.1,t.2))=false:=decide_eq_false λe=>u (by rw[show t=x from e.symm];exact Em B);have O:=AFN x.1 x.2 t.1 t.2;have key:∀R,Qz E D W (UR E D W) R v U.j 0 (AA i) U1=R v U.j 0 (AA (i+1)) U1:=by
    intro R;unfold Qz;simp only[↓rP,rA,AD,AG,AB,↓G,z,↓rd,↓BU X,↓O,P,Al (show i+1<=9223372036854775807 by omega)]
   exact(key _).trans (L (i+1) n (by omega) (by omega))
 show US E D W (Vb E D W N N) v (AA t.1) (AA t.2) U=_;have key:∀K,US E D W K v (AA t.1) (AA t.2) U=K v U.j 0 (AA 0) U1:=by
  intro K;unfold US;have S:BH (V.cells (.agg [.int .i64 (AA t.1),.int .i64 (AA t.2)]))=true:=rfl;simp only[↓rP,rA,AD,AG,AB,S,↓Y]
 rw[key];exact s l.length 0 N (by omega) (by omega)
end
def AG0(U:H)(b:List V)(a:List (Nat × Nat)):Prop:=b.length=a.length/\∀(k:Nat) w t,b[k]? = some w->a[k]? = some t->Cv U 2 1 w (SJ [t])/\V.beq w w=true
def dA(F:List V->H->AE):Prop:=∀{U v}{b:List V}{a:List (Nat × Nat)},Ai U->Cv U 1 b.length v b->AG0 U b a->a.Nodup->a.length<=5000->∃U',F [v] U=some (.bool true,U')/\Fr AH U U'
def jJ(F:List V->H->AE):Prop:=∀{U a i}{t:Cu}{u:V × V × V}{b},mU U a i t u->t.wn=[b]->F [a,.int .i64 (AA i)] U=some (u.1,U)
def cg(F:List V->H->AE):Prop:=∀{U a i}{t:Cu}{u},mU U a i t u->t.A≠9->F [a,.int .i64 (AA i)] U=some (.bool false,U)
section
variable {E:EB}{D:Ac}{W:AF}{N:Nat}
theorem AD5:cg (mw E D W N):=by
 intro U e i t u h j;have r0:=h.at0 E;have g:=decide_eq_false j;show UY E D W (dM E D W N N) e (AA i) U=_;have key:∀K,UY E D W K e (AA i) U=some (.bool false,U):=by
  intro K;unfold UY;simp only[↓rP,rA,↓r0,g]
 exact key _
theorem AEd b:CT 2 (.D b 0 1 (.ex 1)) none (some (.int .i64 (AA 1))) none=some (.D b 0 1 (.ex 1)):=rfl
theorem AMN:jJ (mq E D W N):=by
 intro U e i t u o h h1;have r1:=h.X (j:=1) (by decide) rfl E;have l:=h.tg;rw[h1]at l;have ⟨b,m⟩:=l.e rfl;rw[m]at r1 ⊢;show UX E D W (dL E D W N N) e (AA i) U=_;have n:∀J,gK (CT 2 (.D b 0 1 (.ex 1)) none (some (.int .i64 (AA 1))) none) J=J (.D b 0 1 (.ex 1)):=λJ=>by rw[AEd];rfl
 have key:∀K,UX E D W K e (AA i) U=some (.D b 0 1 (.ex 1),U):=by
  intro K;unfold UX;simp only[↓rP,rA,↓r1,show decide (0<1)=true from rfl,↓n]
 exact key _
theorem yR l (t:Nat × Nat):SJ (l++[t])=SJ l++[.int .i64 (AA t.1),.int .i64 (AA t.2)]:=by grind [SJ]
theorem AFS(hI:tT (D 199))(hN:10000<N):dA (mn E D W N):=by
 intro U v ws p O P ho hnd hl;have ⟨hol,hok⟩:=ho;have loop:∀m i n U1 y,i+m=p.length->m<n->Fr AH U U1->DW U1 2 i y (SJ (p.take i))->(∀b,AJ y b->U.j<=b) ->
   ∃U',Vd E D W N n v y (AA i) U1=some (.bool true,U')/\Fr AH U U':=by
  intro m;induction m with
  | zero=>
   intro i n U1 y hi hn f ha na;obtain⟨n,rfl⟩:∃k,n=k+1:=⟨n-1,by omega⟩;have sl:∀J:Nat->AE,Ao v J=J p.length:=λJ=>by rw[P.ip,hol]
   have d1:decide (i<p.length)=false:=decide_eq_false (by omega);refine⟨U1,?_,f⟩;have key:∀L,Q3 E D W (UU E D W) L v y (AA i) U1=some (.bool true,U1):=by
    intro L;unfold Q3 UU;simp only[↓rP,rA,AD,AG,AB,↓sl,d1]
   exact key _
  | succ m ih=>
   intro i n U1 y hi hn f ha na;obtain⟨n,rfl⟩:∃k,n=k+1:=⟨n-1,by omega⟩;have ⟨N2,hN2⟩:∃k,N=k+2:=⟨N-2,by omega⟩;have R:i<p.length:=by omega
   have ⟨t,C⟩:∃t,p[i]? = some t:=⟨p[i],AI R⟩;have ⟨w,z⟩:∃w,ws[i]? = some w:=⟨ws[i],AI (by omega)⟩;obtain⟨sw,_⟩:=hok i w t z C;have d1:decide (i<p.length)=true:=decide_eq_true R;have sl:∀J:Nat->AE,Ao v J=J p.length:=λJ=>by rw[P.ip,hol]
   have tk:(p.take i).length=i:=by rw[DM];omega
   have hv1:=P.Z f O (λ_ _ h=>h);have F:=sw.Z f O (λ_ _ h=>h);have rv:∀J,AS 1 v (AA i) (λb o=>DF E U1 b o J)=J w:=λJ=>EM (off:=0) hv1 (by omega) (by decide) (by rw[CB];exact z) J;have slw:∀J:Nat->AE,Ao w J=J 1:=λJ=>F.ip;have not:t ∉ p.take i:=by
    intro hm;obtain⟨j,hj⟩:=List.getElem?_of_mem hm;have hji:j<i:=by
     have:=(AN.1 hj).1;omega
    rw[CQ hji]at hj;have:=(List.getElem?_inj (by omega) hnd).1 (hj.trans C.symm);omega
   obtain⟨U2,g2,f2⟩:=hI t f.y (ha.src |> λs=>by rw[tk];exact s) (by rw[tk];omega) not;unfold tgV at g2;have rw1:∀J,AS 2 w (AA 0) (λb o=>Bv E U1 b o 2 J)=J [.int .i64 (AA t.1),.int .i64 (AA t.2)]:=λJ=>HN F (by decide) rfl (by decide) J;have f02:Fr AH U U2:=f.trans f2 (λ_ _ h=>h);have sw2:=sw.Z f02 O (λ_ _ h=>h);have hv2:=P.Z f02 O (λ_ _ h=>h);have rw2:∀J,AS 2 w (AA 0) (λb o=>Bv E U2 b o 2 J)=J [.int .i64 (AA t.1),.int .i64 (AA t.2)]:=λJ=>HN sw2 (by decide) rfl (by decide) J;have rv2:∀J,AS 1 v (AA i) (λb o=>DF E U2 b o J)=J w:=λJ=>EM (off:=0) hv2 (by omega) (by decide) (by rw[CB];exact z) J;obtain⟨U3,e3,f3,a3,n3⟩:=Fh f2.y [.int .i64 (AA t.1),.int .i64 (AA t.2)];have x3:Cv U3 2 1 (.D U2.j 0 1 (.ex 1)) [.int .i64 (AA t.1),.int .i64 (AA t.2)] := .inr ⟨_,_,_,_,rfl,a3,AL _,rfl⟩;have B:Fr AH U1 U3:=f2.trans f3 (λ_ _ h=>h);obtain⟨x,I,g4,d4,m4,f4⟩:=Dd (E:=E) (bytes:=16) (ha.Z B f.y (λ_ _ h=>h)) B.y x3 rfl (by unfold Bu;simp;omega);have le1:=f.le;have le3:=B.le;have Q:Fr AH U I:=(f.trans B (λ_ _ h=>h)).trans f4 (λb hb e=>by have:=na b e;omega);have slw4:∀J:Nat->AE,Ao w J=J 1:=λJ=>F.ip;have rv4:∀J,AS 1 v (AA i) (λb o=>DF E I b o J)=J w:=λJ=>EM (off:=0) (P.Z Q O (λ_ _ h=>h)) (by omega) (by decide) (by rw[CB];exact z) J;have uo:=d4.S;obtain⟨U',g',f'⟩:=ih (i+1) n I x (by omega) (by omega) Q (by
    rw[show p.take (i+1)=p.take i++[t] from by rw[ATI,C];rfl,yR];exact d4) (λb hb=>(m4 b hb).elim (na b) (λe=>by omega))
   refine⟨U',?_,f'⟩;have d01:decide (0<1)=true:=rfl;have d11:decide (1<1)=false:=rfl;have k2:∀L,Q3 E D W (UU E D W) L v y (AA i) U1=L v y (AA i) (AA 0) U1:=by
    intro L;unfold Q3;simp only[↓rP,rA,AD,AG,AB,↓sl,d1]
   have k4:∀K3 M,Q2 E D W K3 M v y (AA i) (AA 0) U1=M v x (AA i) (AA 1) I:=by
    intro K3 M;unfold Q2;simp only[↓rP,rA,AD,AG,AB,↓rv,↓slw,d01,↓rw1,↓g2,↓rv2,↓rw2,↓e3,↓g4,↓Bt uo,Al (show 0+1<=9223372036854775807 by decide)]
   have k5:∀R2 M,Q2 E D W (Z4 E D W R2) M v x (AA i) (AA 1) I=R2 v x (AA (i+1)) I:=by
    intro R2 M;unfold Q2 Z4;simp only[↓rP,rA,AD,AG,AB,↓rv4,↓slw4,d11,Al (show i+1<=9223372036854775807 by omega)]
   subst hN2;exact(k2 _).trans ((k4 _ _).trans ((k5 _ _).trans g'))
 have key:∀K,UW E D W K v U=K v .h (AA 0) U:=by
  intro K;unfold UW;rfl
 show ∃U',UW E D W (Vd E D W N N) v U=_/\_;rw[key];exact loop p.length 0 N U .h (by omega) (by omega) (Fr.refl O) (DW.nil _ _) (λb hb=>hb.elim)
end
def AUo(tl:List Cu)(f:BW)(a:Nat × Nat):Prop:=∃t,tl[f.type]? = some t/\t.A≠9/\t.wn=[a]
structure iD(tl:List Cu)(fs:List BW)(tgs:List (Nat × Nat)):Prop where
 len:tgs.length=fs.length
 of:∀(k:Nat) (f:BW) (tg:Nat × Nat),fs[k]? = some f->tgs[k]? = some tg->AUo tl f tg
 nd:tgs.Nodup
 few:fs.length<=5000
def cm(m:Cs)(F:List V->H->AE):Prop:=∀{d U xb c e g h fv tl Q}{a:List BW}{b} f,Mk d U xb m c e g tl h Q->Cv U 11 a.length fv (Ie a)->iD tl a b ->
 ∃U',F [.o xb 0,fv,.bool f] U=some (.bool true,U')/\Fr AH U U'
def VW(m:Cs)(F:List V->H->AE):Prop:=∀{c U xb b d e f tl Q}{t:Cu}{u:V × V × V}{a},Mk c U xb m b d e tl f Q->t.A≠7->u.1.S=true->u.2.1.S=true->Cv U 11 t.K.length u.2.2 (Ie t.K)->iD tl t.K a ->
 ∃U',F [.o xb 0,.agg (t.c u)] U=some (.bool true,U')/\Fr AH U U'
section
variable {E:EB}{D:Ac}{N:Nat}
theorem ou(hB:jJ (D 191)){m}{U0 U:H}{xb k}{nv tv dv w fv j:V}{tl Q}{s:List BW}{f:BW}{tg}{v:List V} op (h:Mk U0 U xb m nv tv dv tl w Q)(hf:Cv U 11 s.length fv (Ie s)){t:Cu}{u:V × V × V}(hk:s[k]? = some f)(h3:t.wn=[tg])(hu:∀U',Fr AH U U'->mU U' w f.type t u)(J:DW U 1 v.length j v)(hl:v.length<=5000)(sx:∀b,AJ j b->b≠xb/\¬AJ fv b):
  ∃e' g U',AV E D Nw Ri [(0,.o xb 0),(1,fv),(2,.bool op),(7,j),(8,.int .i64 (AA k))] U=some (e',U')/\Go.Og.look e' 0=some (.o xb 0)/\Go.Og.look e' 1=some fv/\Go.Og.look e' 2=some (.bool op)/\Go.Og.look e' 7=some g/\Go.Og.look e' 8=some (.int .i64 (AA k)) /\
   DW U' 1 (v.length+1) g (v++[u.1])/\(∀b,AJ g b->AJ j b\/U.j<=b)/\Fr (AJ j) U U':=by
 have i:=h.ht;have hx:=h.a;unfold ZV at hx;have x:=(B7 (E:=E) (n:=14) (S:=AH) i).Z;have g1:=hB (hu _ x) h3;have uo:=(hu _ x).tg.S;have ⟨y,z⟩:∃y,y=(⟨U.j+14,(U.j+11,.cells [u.1])::U.F⟩:H):=⟨_,rfl⟩;have f2:Fr (λk=>k=U.j+11) ⟨U.j+14,U.F⟩ y:=by
  rw[z];refine⟨λb p=>?_,AL _,λb p hn=>?_⟩
  ·have p:U.j+14<=b:=p
   show BX ((U.j+11,_)::U.F) b=none;rw[Aj,if_neg (by simp;omega)];exact x.y b p
  ·show BX ((U.j+11,_)::U.F) b=_
   rw[Aj,if_neg (by simp;omega)]
 have a2:Bx y (U.j+11) [u.1]:=by
  rw[z];show BX ((U.j+11,_)::U.F) _=_;rw[Aj,if_pos rfl]
 have xs:Cv y 1 1 (V.D (U.j+11) 0 1 (.ex 1)) [u.1] := .inr ⟨_,_,_,_,rfl,a2,AL _,rfl⟩;have sl:∀b,AJ j b->b<U.j:=λb p=>J.lt i p;have ⟨g,U3,g3,d3,m3,f3⟩:=Dd (E:=E) (bytes:=24) ((J.Z x i (λ_ _ h=>h)).Z f2 x.y (λb p e=>by have:=sl b p;omega)) f2.y xs (by simp only[Bg,CE,uo,Bz]) (by unfold Bu;simp;omega);have n2:y.j=U.j+14:=by rw[z]
 have ⟨fb,fo,fc,L,B,hfa,hfl,hfm⟩:∃b o c L,fv = .D b o s.length c/\Bx U b L/\o+s.length*11<=L.length/\Ie s=(L.drop o).take (s.length*11):=by
  have hlt:=(AN.1 hk).1;rcases hf with ⟨h0,_,_⟩|⟨b,o,c,L,e1,z,e3,e4⟩
  ·omega
  ·exact⟨b,o,c,L,e1,z,e3,e4⟩
 have hkl:k<s.length:=(AN.1 hk).1;have hLk:L[fo+k*11+1]? = some (.int .i64 (AA f.type)):=by
  have:=QV s k f hk;rw[hfm,CQ (by omega),B6]at this;rw[D4];exact this
 have lvo:w.S=true:=by
  have ⟨v,h1,_⟩:=h.w;exact h1.S
 have lvb:V.beq w w=true:=by
  have ⟨v,h1,_⟩:=h.w;exact nh h1
 have I:=J.S;have A:=d3.S;have fvo:=hf.S;have nx:¬AJ j xb:=λe=>(sx _ e).1 rfl;have nf:¬AJ j fb:=λe=>(sx _ e).2 (by rw[B];rfl);have go:JR E D U 14 0 (AJ j) Nw Ri ⟨[(0,.o xb 0),(1,fv),(2,.bool op),(7,j),(8,.int .i64 (AA k))],U.j+14,[U.F],[],0,[]⟩ _ U3:=
  C0 j rfl (QB rfl (GR I)) <|
  C0 (.o xb 0) rfl rfl <|
  C0 (.o xb 0) rfl rfl <|
  C0 (.o xb 5) rfl rfl <|
  Hg w (B7 i) rfl (Cj rfl hx rfl i nx lvb) λ_ r1=>
  C0 fv rfl (QB rfl (GR fvo)) <|
  C0 (.int .i64 (AA k)) rfl rfl <|
  C0 (.o fb (fo+k*11)) rfl (HE B rfl hkl) <|
  C0 (.o fb (fo+k*11+1)) rfl rfl <|
  Hg (.int .i64 (AA f.type)) r1 rfl (Cj rfl hfa hLk i nf (Be _ rfl)) λ_ r2=>
  LQ u.1 r2 rfl (by decide) (Fr.refl x.y) (λ_ _ h=>h.elim) (λ_ h _ _=>h) (Eb rfl (by
   show (w.J&&true)=true;rw[GR lvo];rfl) g1) λ_ _ _ r3=>
  Zc (.D (U.j+11) 0 1 (.ex 1)) (.cells [u.1]) 2048 r3 rfl (by decide) rfl (qy rfl uo) λ_ r4=>
  LQ g (by rw[<-z]at r4;exact r4) rfl (by decide) f3 (λ_ _ h=>h) (λb h h1 _=>by have:=sl b h;omega) (Jq rfl rfl g3) λ_ _ _ r5=>
  C0 g rfl (QB rfl (GR A)) <|
  KO r5
 have ⟨d1,d2⟩:=Ia (ops:=Nw) go;exact⟨_,g,U3,d1,rfl,rfl,rfl,rfl,rfl,d3,λb p=>(m3 b p).imp id (λe=>by omega),d2⟩
theorem AET {m} (hB:jJ (D 191)) (hW:cg (D 190)) (hD:dA (D 192)) (hN:10000<N):cm m (mz E D (AV E D) N):=by
  intro U0 U xb nv tv dv lv fv tl Q B r C h hf ht;have A:=h.ht;have ⟨hlen,hof,hnd,hfew⟩:=ht;have xl:=h.a.lt A;have loop:∀(q i n:Nat) (U1:H) (I:V) (G:List V),i+q=B.length->q<n->G.length=i->Fr AH U U1->DW U1 1 G.length I G->(∀b,AJ I b->U.j<=b)->AG0 U G (r.take i) ->
      ∃U',Ve E D (AV E D) N n xb 0 fv C I (AA i) U1=some (.bool true,U')/\Fr AH U U':=by
    intro q;induction q with
    | zero=>
      intro i n U1 I G hi hn F f hs na ho;obtain⟨n,rfl⟩:∃k,n=k+1:=⟨n-1,by omega⟩;have sl:∀J:Nat->AE,Ao fv J=J B.length:=λJ=>hf.ip;have d1:decide (i<B.length)=false:=decide_eq_false (by omega);rw[Js (by omega)]at ho;have ho1:AG0 U1 G r:=⟨ho.1,λk w t hk ht=>⟨(ho.2 k w t hk ht).1.Z f A (λ_ _ h=>h),(ho.2 k w t hk ht).2⟩⟩;obtain⟨M,g2,f2⟩:=hD f.y hs.src ho1 hnd (by omega);refine⟨M,?_,f.trans f2 (λ_ _ h=>h)⟩;have key:∀R,Q4 E D (AV E D) (Z9 E D (AV E D)) R xb 0 fv C I (AA i) U1=some (.bool true,M):=by
        intro R;unfold Q4 Z9;simp only[↓rP,rA,AD,AG,AB,↓sl,d1,↓g2]
      exact key _
    | succ q ih=>
      intro i n U1 I G hi hn F f hs na ho;obtain⟨n,rfl⟩:∃k,n=k+1:=⟨n-1,by omega⟩;have hlt:i<B.length:=by omega
      obtain⟨fd,hfd⟩:∃fd,B[i]? = some fd:=⟨B[i],AI hlt⟩;obtain⟨tg,htg⟩:∃tg,r[i]? = some tg:=⟨r[i],AI (by omega)⟩;have hto:=hof i fd tg hfd htg;have sl:∀J:Nat->AE,Ao fv J=J B.length:=λJ=>hf.ip;have d1:decide (i<B.length)=true:=decide_eq_true hlt;have h1:=h.Z f (λ_ h=>h.elim) (λ_ h=>h.elim);have hf1:=hf.Z f A (λ_ _ h=>h);have hx1:=h1.a;unfold ZV at hx1;obtain⟨t,ht1,ht2,ht3⟩:=hto;obtain⟨u,hu,hfr⟩:=h.ty ht1;have gW:=hW (hfr U1 f) ht2;have rf:∀J,AS 11 fv (AA i) (λb o=>DF E U1 b (AM o 1) J)=J (.int .i64 (AA fd.type)):=λJ=>EM hf1 hlt (by decide) (QV B i fd hfd) J;obtain⟨e',sv',M,g2,t0,t1,t2,t7,t8,d2,m2,f2⟩:=ou hB C h1 hf1 hfd ht3 (λU' f'=>hfr U' (f.trans f' (λ_ _ h=>h))) hs (by omega) (λb hb=>⟨λe=>by have:=na b hb;omega,λe=>by have:=na b hb;have:=hf.lt A e;omega⟩);have le:=f.le;have f02:Fr AH U M:=f.trans f2 (λb hb e=>by have:=na b e;omega);have s0:Cv U 2 1 u.1 (SJ [tg]):=by
        have:=hu.tg.s;rw[ht3]at this;exact this
      have b2:V.beq u.1 u.1=true:=by
        obtain⟨b,e⟩:=hu.tg.e (by rw[ht3];rfl);rw[e];exact Be _ rfl
      obtain⟨U',g',f'⟩:=ih (i+1) n M sv' (G++[u.1]) (by omega) (by omega) (by rw[AP,F];rfl) f02 (by rw[AP];exact d2) (λb hb=>(m2 b hb).elim (na b) (λe=>by omega)) (by
        rw[show r.take (i+1)=r.take i++[tg] from by rw[ATI,htg];rfl];have hl2:(r.take i).length=i:=by rw[DM];omega
        refine⟨by rw[AP,AP,F,hl2];rfl,λk w' t' s x=>?_⟩;rcases A2 k i with hki|hki
        · rw[CH (by omega)]at s
          rw[CH (by omega)]at x;exact ho.2 k w' t' s x
        · rw[Aw (by omega)]at s
          rw[Aw (by omega)]at x;rw[F]at s;rw[hl2]at x;obtain⟨j,hj⟩:∃j,k-i=j:=⟨_,rfl⟩;rw[hj]at s x;cases j with
          | succ j=>simp at s | zero=>cases s;cases x;exact⟨s0,b2⟩)
      refine⟨U',?_,f'⟩;have gd:∀J:CF->H->AE,CM (AV E D Nw Ri [(0,.o xb 0),(1,fv),(2,.bool C),(7,I),(8,.int .i64 (AA i))] U1) J=J e' M:=λJ=>by rw[g2];rfl
      have y0:∀J:V->AE,Bj e' 0 J=J (.o xb 0):=λJ=>Bc t0 rfl;have y1:∀J:V->AE,Bj e' 1 J=J fv:=λJ=>Bc t1 (GR hf.S);have y2:∀J:V->AE,Bj e' 2 J=J (.bool C):=λJ=>Bc t2 rfl;have y7:∀J:V->AE,Bj e' 7 J=J sv':=λJ=>Bc t7 (GR d2.S);have y8:∀J:V->AE,Bj e' 8 J=J (.int .i64 (AA i)):=λJ=>Bc t8 rfl;have key:∀K R,Q4 E D (AV E D) K R xb 0 fv C I (AA i) U1=R xb 0 fv C sv' (AA (i+1)) M:=by
        intro K R;unfold Q4;simp only[↓rP,rA,AD,AG,AB,↓sl,d1,↓AT hx1,↓rf,↓gW,↓gd,↓y0,↓y1,↓y2,↓y7,↓y8,Al (show i+1<=9223372036854775807 by omega)]
      exact(key _ _).trans g'
  show ∃U',UZ E D (AV E D) (Ve E D (AV E D) N N) xb 0 fv C U=_/\_;have key:∀K,UZ E D (AV E D) K xb 0 fv C U=K xb 0 fv C .h (AA 0) U:=λK=>by unfold UZ;rfl
  rw[key];exact loop B.length 0 N U .h [] (by omega) (by omega) rfl (Fr.refl A) (DW.nil _ _) (λb hb=>hb.elim) ⟨rfl,λk w t h _=>by simp at h⟩
theorem AAC{m}(p:cm m (D 181)):VW m (m8 E D (AV E D) N):=by
 intro G U xb C A I F tl Q t u z h v o q i r;have c:=h.ht;have ⟨U1,j,e,n,B⟩:=Fh c (t.c u);have ⟨g,s,y⟩:=p t.I (h.Z e (λ_ h=>h.elim) (λ_ h=>h.elim)) (i.Z e c (λ_ _ h=>h)) r;refine⟨g,?_,e.trans y (λ_ _ h=>h)⟩;have x:=decide_eq_false v;have w:=i.S;unfold Cu.c at j n;show Ug E D (AV E D) (dN E D (AV E D) N N) (.o xb 0) (AA t.A) u.1 t.T.has t.T.no t.T.i9 t.T.I t.T.low t.T.high u.2.1 u.2.2 (AA t.W) t.I (AA t.of_) U=_;have key:∀K,Ug E D (AV E D) K (.o xb 0) (AA t.A) u.1 t.T.has t.T.no t.T.i9 t.T.I t.T.low t.T.high u.2.1 u.2.2 (AA t.W) t.I (AA t.of_) U=some (.bool true,g):=by
  intro K;unfold Ug;simp only[↓rP,rA,o,q,w,↓j,↓AT n,x,↓s]
 exact key _
end
theorem Mw:∀l i (f:BW),l[i]? = some f->((Ie l).drop (i*11)).take 11=f.c
 | [],i,f,h=>by simp at h
 | x::l,0,f,h=>by simp at h;subst h;rfl
 | x::l,i+1,f,h=>by
  have h:l[i]? = some f:=by simpa using h
  show ((x.c++Ie l).drop ((i+1)*11)).take 11=_;rw[show (i+1)*11=11+i*11 by omega,<-Cd,show (x.c++Ie l).drop 11=Ie l from rfl];exact Mw l i f h
theorem AFJ{l i j}{f:BW}{c}(h:l[i]? = some f)(d:j<11)(b:f.c[j]? = some c):(Ie l)[i*11+j]? = some c:=by
 rw[<-Mw l i f h,CQ d,B6]at b;exact b
theorem Ww v l:∀(tl:List Cu) (a:List (V × V × V)) i t (u:V × V × V),a.length=tl.length->tl[i]? = some t->a[i]? = some u->FW (EF tl a) (i*13+9) [v]=EF (tl.set i { t with K:=l }) (a.set i (u.1,u.2.1,v))
 | x::tl,y::a,0,t,u,_,h,j=>by
  simp at h;subst h;simp at j;subst j;show FW (x.c y++EF tl a) 9 _=({ x with K:=l }:Cu).c (y.1,y.2.1,v)++EF tl a;generalize EF tl a=z;cases z<;>rfl
 | x::tl,y::a,i+1,t,u,h,m,k=>by
  have n:=Ww v l tl a i t u (by simpa using h) (by simpa using m) (by simpa using k);show FW (x.c y++EF tl a) ((i+1)*13+9) _=x.c y++EF (tl.set i { t with K:=l }) (a.set i (u.1,u.2.1,v));rw[<-n,show (i+1)*13+9=(x.c y).length+(i*13+9)by show _=13+_;omega,I5]
 | [],_,_,_,_,_,h,_=>by simp at h
 | _::_,[],_,_,_,h,_,_=>by simp at h
section
variable {U0 U U':H}{xb:Nat}{m:Cs}{nv tv dv lv:V}{tl:List Cu}{Q:Nat->Prop}
theorem Mk.fld(h:Mk U0 U xb m nv tv dv tl lv Q){i t v}{l:List BW}(W:tl[i]? = some t)(A:Cv U 11 l.length v (Ie l))(hn:∀b,AJ v b->b≠xb/\¬AJ lv b/\¬Q b):
  ∃b U',(∀J,AS 13 lv (AA i) J=J b (i*13))/\(∀J,DO 1 b (AM (i*13) 9) v U J=J U')/\Mk U0 U' xb m nv tv dv (tl.set i { t with K:=l }) lv Q/\Fr (AJ lv) U U':=by
 have ⟨z,h1,N,Z⟩:=h.w;have I:=(AN.1 W).1;have ⟨B,L⟩:∃w,z[i]? = some w:=⟨z[i],AI (by omega)⟩;have aa:=Hx tl z N;have ⟨b,cp,R,hb⟩:∃b cp,lv = .D b 0 tl.length cp/\Bx U b (EF tl z):=by
  rcases h1 with (⟨T,_⟩|⟨b,A,G,_⟩)|⟨b,A,G,_⟩
  ·omega
  ·exact⟨b,_,A,G⟩
  ·exact⟨b,_,A,G⟩
 have ⟨U',g,f,a⟩:=ZC (off:=i*13+9) h.ht hb A.S (by omega);rw[Ww v l tl z i t B N W L]at a;have Y:∀x,AJ lv x↔x=b:=λx=>by rw[R];exact Iff.rfl
 have u:=f.mono λx _ e=>(Y x).2 e;refine⟨b,U',λJ=>?_,g,⟨u.X h.a h.ht (λe=>(h.lx _ e).1 rfl),⟨z.set i (B.1,B.2.1,v),?_,by rw[BA,BA,N],λk t1 w O P=>?_⟩,h.lx,h.qx,h.x0,h.f.trans u (λx _ e=>by have:=(h.lx x e).2.1;omega)⟩,u⟩
 ·rw[R,CC I]
  show J b (0+i*13)=_;rw[BV]
 ·rw[BA]
  have F:(EF (tl.set i { t with K:=l }) (z.set i (B.1,B.2.1,v))).length=tl.length*13:=by rw[Hx _ _ (by rw[BA,BA,N]),BA]
  rcases h1 with (⟨T,_⟩|⟨M,n,G,T,hl⟩)|⟨M,n,G,hl⟩
  ·omega
  ·have:M=b:=by rw[R]at n;cases n;rfl
   subst this;exact .inl (.inr ⟨M,n,a,T,F⟩)
  ·have:M=b:=by rw[R]at n;cases n;rfl
   subst this;exact .inr ⟨M,n,a,F⟩
 ·by_cases E:i=k
  ·subst E
   rw[C3 I]at O;rw[C3 (by omega)]at P;cases O;cases P;have ⟨X,S,x3,s⟩:=Z i t B W L;refine⟨X.Z u h.ht (λx j e=>(s x (.inl j)).2.1 e),S.Z u h.ht (λx j e=>(s x (.inr (.inl j))).2.1 e),A.Z u h.ht (λx j e=>(hn x j).2.1 e),λx j=>?_⟩;rcases j with j|j|j
   ·exact s x (.inl j)
   ·exact s x (.inr (.inl j))
   ·exact hn x j
  ·rw[MW E]at O P
   have ⟨X,S,x3,s⟩:=Z k t1 w O P;exact⟨X.Z u h.ht (λx j e=>(s x (.inl j)).2.1 e),S.Z u h.ht (λx j e=>(s x (.inr (.inl j))).2.1 e),x3.Z u h.ht (λx j e=>(s x (.inr (.inr j))).2.1 e),s⟩
end
def Ic(T:MT)(d:Nat):List BW->List Cu->Option (List BW × List Cu)
 | [],tl=>some ([],tl)
 | f::b,tl=>(T (d+1) f.type tl).bind λr=>(Ic T d b r.2).map λq=>({ f with type:=r.1 }::q.1,q.2)
def AG1(a:List BW):Prop:=∀(j k:Nat) (f g:BW),j<k->a[j]? = some f->a[k]? = some g->(BB f.name).beq (BB g.name)=false
def LJ(m:Cs)(T:MT)(F:List V->H->AE):Prop:=∀{e U:H}{xb}{h k l g iv fv:V}{tl c:List Cu}{d i}{nd:Ae}{Q a j}{t:Cu},Ai e->PX e m h k l->Mk e U xb m h k l tl g Q->(∀b,Q b->b<U.j)->d<=800 ->
 iv.S=true->Cv U 11 nd.K.length fv (Ie nd.K)->(∀b,AJ fv b->b<e.j)->m.tg≠2->nd.K≠[]->AG1 nd.K->nd.K.length<=5000->Ic T d nd.K tl=some (a,c)->c[i]? = some t->t.A≠7->iD (c.set i { t with K:=a }) a j ->
 ∃f U',F [.o xb 0,.int .i64 (AA i),.agg (nd.c iv fv),.int .i64 (AA d)] U=some (.B [],U')/\Mk e U' xb m h k l (c.set i { t with K:=a }) f Q/\(∀b,AJ f b->AJ g b\/U.j<=b)/\Fr (λb=>b=xb\/AJ g b) U U'
section
variable {E:EB}{D:Ac}{N:Nat}
theorem qT l (f:BW):Ie (l++[f])=Ie l++f.c:=by grind [Ie]
theorem zA{U xb I N k iv fv l}{nd:Ae}{i d}{g:BW}{c}(X:Bx U I (nd.c iv fv))(hf:Cv U 11 nd.K.length fv (Ie nd.K))(P:nd.K[k]? = some g)(ha:Bx U N (.N (BB g.name)::c))(M:AG1 nd.K)(hl:nd.K.length<=5000)
  {K7}{L:Nat->Nat->Nat->Int->Int->Nat->Nat->Bool->V->Int->Nat->Nat->Int->H->AE}
  (R:∀n a b x y e f q v z g h w s,L (n+1) a b x y e f q v z g h w s=Up E D (AV E D) K7 (cK E D (AV E D) (L n)) a b x y e f q v z g h w s):∀q j n,j+q=k->q<n ->
  L n xb 0 i d I 0 true l (AA k) N 0 (AA j) U=K7 xb 0 i d I 0 true l (AA k) N 0 U:=by
 have Y:=(AN.1 P).1;intro q;induction q with
 | zero=>
  intro j n W K;obtain⟨n,rfl⟩:∃q,n=q+1:=⟨n-1,by omega⟩;have G:decide (j<k)=false:=decide_eq_false (by omega);rw[R];unfold Up;simp only[↓rP,rA,AG,AB,G]
 | succ q T=>
  intro j n W K;obtain⟨n,rfl⟩:∃q,n=q+1:=⟨n-1,by omega⟩;have G:decide (j<k)=true:=decide_eq_true (by omega);have ⟨x,Q⟩:∃x,nd.K[j]? = some x:=⟨nd.K[j],AI (by omega)⟩;have hb:=M j k x g (by omega) Q P;have rd:∀J,AS 11 fv (AA j) (λb o=>DF E U b o J)=J (.N (BB x.name)):=λJ=>EM (off:=0) hf (by omega) (by decide) (AFJ Q (by decide) rfl) J;have C:=X;unfold Ae.c at C;rw[R];refine Eq.trans ?_ (T (j+1) n (by omega) (by omega));unfold Up cK;simp only[↓rP,rA,AD,AG,AB,G,↓AT C,↓rd,↓AT ha,hb,Al (show j+1<=9223372036854775807 by omega)]
end
section
variable {E:EB}{D:Ac}{N:Nat}
theorem Sf {m:Cs} {T} (hT:Ii m T (D 35)) (hA:VW m (D 161)) (hN:10000<N):LJ m T (nD E D (AV E D) N):=by
  intro U0 U xb nv tv dv lv iv fv tl tl' d i nd Q fs' tgs t ht0 hs0 h hQ hd io hf hfb htg hne hnm hl hs hti hk7 htgs;have ht:=h.ht;have le0:=h.f.le;have fo:=hf.S;have lx:=h.a.lt ht;obtain⟨U1,e1,f1,a1,n1⟩:=Fh ht (nd.c iv fv);have h1:Mk U0 U1 xb m nv tv dv tl lv (λb=>Q b\/b=U.j\/AJ .h b):=(h.ext (λb q=>by
    rcases q with q|q|q
    · exact .inl q
    · exact .inr (by omega)
    · exact q.elim)).Z f1 (λ_ e=>e.elim) (λ_ e=>e.elim)
  have loop:∀(fs:List BW) (k n:Nat) (gs fs2:List BW) (B:H) (F lvk:V) (tlk:List Cu),nd.K.drop k=fs->fs.length<n->gs.length=k->k+fs.length=nd.K.length->Ic T d fs tlk=some (fs2,tl')->gs++fs2=fs'->Mk U0 B xb m nv tv dv tlk lvk (λb=>Q b\/b=U.j\/AJ F b)->Bx B U.j (nd.c iv fv)->DW B 11 gs.length F (Ie gs)->(∀b,AJ F b->U.j<b)->(∀b,AJ lvk b->AJ lv b\/U.j<b)->Fr (λb=>b=xb\/AJ lv b) U B->U.j<B.j ->
      ∃lv' U',dQ E D (AV E D) N n xb 0 (AA i) (AA d) U.j 0 true F (AA k) B=some (.B [],U')/\Mk U0 U' xb m nv tv dv (tl'.set i { t with K:=fs' }) lv' Q/\(∀b,AJ lv' b->AJ lv b\/U.j<=b)/\Fr (λb=>b=xb\/AJ lv b) U U':=by
    intro fs;induction fs with
    | nil=>
      intro k n gs fs2 B F lvk tlk hdr hn hgl hkl hs2 hgf hk an hlk G nlv f lt;obtain⟨n,rfl⟩:∃q,n=q+1:=⟨n-1,by omega⟩;cases hs2;rw[BP]at hgf;subst hgf;obtain⟨t',et⟩:∃t',t'=({ t with K:=gs }:Cu):=⟨_,rfl⟩;have hlt:i<tl'.length:=(AN.1 hti).1;have hk0:Mk U0 B xb m nv tv dv tl' lvk Q:=hk.ext λb q => .inl (.inl q);obtain⟨b,U2,g1,g2,h2,f2⟩:=hk0.fld hti hlk.src (λb A=>⟨λe=>by have:=G b A;omega,λe=>(hk.lx b e).2.2 (.inr (.inr A)),λq=>by have:=G b A;have:=hQ b q;omega⟩);have g2':∀J:H->AE,DO 1 b (i*13+9) F B J=J U2:=g2;rw[<-et]at h2 htgs;obtain⟨u,hu,_⟩:=h2.ty (C3 hlt);have hfd:=hu.fd;have ek:t'.A=t.A:=by rw[et]
      have ef:t'.K=gs:=by rw[et]
      obtain⟨U3,g3,f3⟩:=hA h2 (by rw[ek];exact hk7) hu.tg.S hu.it.S hfd (by rw[ef];exact htgs);have ldn:∀J:List V->AE,Bv E U2 b (i*13) 13 J=J (t'.c u):=λJ=>by
        have:=hu.rd E J;rw[g1]at this;exact this
      have h3:=h2.Z f3 (λ_ e=>e.elim) (λ_ e=>e.elim);rw[et]at h3;refine⟨lvk,U3,?_,h3,λb A=>(nlv b A).imp id (λe=>by omega),(f.trans f2 (λb A e=>(nlv b e).elim .inr (λe=>by omega))).trans f3 (λ_ _ e=>e.elim)⟩;have sl:∀J:Nat->AE,Ao fv J=J nd.K.length:=λJ=>hf.ip;have d1:decide (k<nd.K.length)=false:=decide_eq_false (by simp at hkl;omega);have hx:=hk.a;have hx2:=h2.a;unfold ZV at hx hx2;unfold Ae.c at an;unfold Cu.c at ldn g3;show Ni E D (AV E D) (Uq E D (AV E D)) _ xb 0 (AA i) (AA d) U.j 0 true F (AA k) B=_;have key:∀K8,Ni E D (AV E D) (Uq E D (AV E D)) K8 xb 0 (AA i) (AA d) U.j 0 true F (AA k) B=some (.B [],U3):=by
        intro K8;unfold Ni Uq;simp only[↓rP,rA,AD,AG,AB,↓AT an,↓sl,d1,↓AT hx,↓g1,↓g2,↓g2',↓AT hx2,↓ldn,↓g3]
      exact key _
    | cons g fs ih=>
      intro k n gs fs2 B F lvk tlk hdr hn hgl hkl hs2 hgf hk an hlk G nlv f lt;obtain⟨n,rfl⟩:∃q,n=q+1:=⟨n-1,by omega⟩;obtain⟨⟨r,tl2⟩,hr,hs2⟩:=AU.1 hs2;obtain⟨⟨fs3,tl3⟩,hq3,he⟩:=Aa.1 hs2;cases he;have hkt:=hk.ht;have hgk:nd.K[k]? = some g:=by
        have:=congrArg (λl=>l[0]?) hdr;simpa using this
      have hkl':k<nd.K.length:=(AN.1 hgk).1;obtain⟨Ua,ea,fa,aa,na⟩:=Fh hkt [.N ⟨0,0⟩,.int .i64 (AA 0),.bool false,.bool false,.int .i64 (AA 0),.int .i64 (AA 0),.h,.h,.int .i64 (AA 0),.h,.int .i64 (AA 0)];obtain⟨Ub,eb,fb,ab⟩:=Y2 fa.y aa g.c;have sb:∀J:H->AE,DO 11 B.j 0 (.agg g.c) Ua J=J Ub:=λJ=>by
        rw[Ed aa rfl];show J (Gl Ua B.j (.cells g.c))=_;rw[eb]
      have fab:Fr (λb=>b=B.j) B Ub:=(fa.mono (λ_ _ e=>e.elim):Fr (λb=>b=B.j) B Ua).trans fb (λ_ _ e=>e);have leb:=fab.le;have lfk:B.j<Ub.j:=ab.lt fb.y;have A:Mk U0 Ub xb m nv tv dv tlk lvk (λb=>(Q b\/b=U.j\/AJ F b)\/b=B.j):=(hk.ext (λb q=>q.imp id (λe=>by omega))).Z fab (λb e => .inl (by omega)) (λb e=>by have:=hk.f.le;omega);have lkl:∀b,AJ F b->b<B.j:=λb e=>hlk.lt hkt e;obtain⟨lv2,Uc,gc,hc,mc,fc⟩:=hT ht0 hs0 A (λb q=>by
        rcases q with (q|q|q)|q
        · have:=hQ b q;omega
        · omega
        · have:=lkl b q;omega
        · omega) (show d+1<=900 by omega) hr
      have lvl:∀b,AJ lvk b->b<B.j:=λb e=>hk.llt e;have ac:=fc.X ab fb.y (λe=>e.elim (λe=>by omega) (λe=>by have:=lvl _ e;omega));obtain⟨Ud,gd,fd,ad⟩:=ZC (off:=1) (y := .int .i64 (AA r)) hc.ht ac rfl (show 1<11 by decide);have ad:Bx Ud B.j (BW.c { g with type:=r }):=ad;have lec:=fc.le;have hd':=hc.Z fd (λb e => .inr (.inr e)) (λb e=>by have:=hk.f.le;omega);obtain⟨Ue,ee,fe,ae,ne⟩:=Fh fd.y (BW.c { g with type:=r });have he':=hd'.Z fe (λ_ e=>e.elim) (λ_ e=>e.elim);have xs:Cv Ue 11 1 (.D Ud.j 0 1 (.ex 1)) (BW.c { g with type:=r }) := .inr ⟨_,_,_,_,rfl,ae,AL _,rfl⟩;have led:=fd.le;have lee:=fe.le;have hlk1:DW Ue 11 gs.length F (Ie gs):=(((hlk.Z fab hkt (λb A e=>by have:=lkl b A;omega)).Z fc fb.y (λb A e=>e.elim (λe=>by have:=G b A;omega) (λe=>(hk.lx b e).2.2 (.inr (.inr A))))).Z fd hc.ht (λb A e=>by have:=lkl b A;omega)).Z fe fd.y (λ_ _ e=>e);obtain⟨lk',Uf,gf,df,mf,ff⟩:=Dd (E:=E) (bytes:=136) hlk1 fe.y xs rfl (by unfold Bu;simp;omega);have hf':Mk U0 Uf xb m nv tv dv tl2 lv2 (λb=>((Q b\/b=U.j\/AJ F b)\/b=B.j)\/Ue.j<=b):=(he'.ext (Q':=λb=>((Q b\/b=U.j\/AJ F b)\/b=B.j)\/Ue.j<=b) (λb q=>q)).Z ff (λb e => .inr (.inl (.inl (.inr (.inr e))))) (λb e=>by have:=G b e;omega);have hnext:Mk U0 Uf xb m nv tv dv tl2 lv2 (λb=>Q b\/b=U.j\/AJ lk' b):=hf'.ext λb q=>by
        rcases q with q|q|q
        · exact .inl (.inl (.inl (.inl q)))
        · exact .inl (.inl (.inl (.inr (.inl q))))
        · exact(mf b q).elim (λe => .inl (.inl (.inl (.inr (.inr e))))) (λe => .inl (.inr e))
      have anb:Bx Ub U.j (nd.c iv fv):=fab.X an hkt (by omega);have anc:=fc.X anb fb.y (λe=>e.elim (λe=>by omega) (λe=>(hk.lx _ e).2.2 (.inr (.inl rfl))));have anf:=ff.X (fe.X (fd.X anc hc.ht (by omega)) fd.y (λe=>e)) fe.y (λe=>by have:=G _ e;omega);have F1:Fr (λb=>b=xb\/AJ lv b) U Ub:=f.trans fab (λb A e=>by omega);have F2:Fr (λb=>b=xb\/AJ lv b) U Uc:=F1.trans fc (λb A e=>e.imp id (λe=>(nlv b e).elim id (λe=>by omega)));have F3:Fr (λb=>b=xb\/AJ lv b) U Ud:=F2.trans fd (λb A e=>by omega);have F4:Fr (λb=>b=xb\/AJ lv b) U Ue:=F3.trans fe (λb A e=>e.elim);have F5:Fr (λb=>b=xb\/AJ lv b) U Uf:=F4.trans ff (λb A e=>by have:=G b e;omega);have lef:=ff.le;obtain⟨lv',U',g',H',M',F'⟩:=ih (k+1) n (gs++[{ g with type:=r }]) fs3 Uf lk' lv2 tl2 (by rw[<-Cd,hdr];rfl) (by simp at hn;omega) (by rw[AP,hgl];rfl) (by simp at hkl;omega) hq3 (by rw[<-hgf,BC];rfl) hnext anf (by
        rw[AP,qT];exact df) (λb A=>(mf b A).elim (G b) (λe=>by omega)) (λb A=>(mc b A).elim (nlv b) (λe => .inr (by omega))) F5 (by omega)
      refine⟨lv',U',?_,H',M',F'⟩;have sl:∀J:Nat->AE,Ao fv J=J nd.K.length:=λJ=>hf.ip;have d1:decide (k<nd.K.length)=true:=decide_eq_true hkl';have hx:=hk.a;have hxd:=hd'.a;unfold ZV at hx hxd;have hfk:Cv B 11 nd.K.length fv (Ie nd.K):=hf.Z f ht (λb A e=>e.elim (λe=>by have:=hfb b A;have:=h.x0;omega) (λe=>by have:=hfb b A;have:=(h.lx b e).2.1;omega));have rd:∀J,AS 11 fv (AA k) (λb o=>Bv E B b o 11 J)=J g.c:=λJ=>HN hfk hkl' (Mw _ _ _ hgk) (by decide) J;have hfb2:Cv Ub 11 nd.K.length fv (Ie nd.K):=hfk.Z fab hkt (λb A e=>by have:=hfb b A;have:=hk.f.le;omega);have k5:∀K4 K8,Ni E D (AV E D) K4 K8 xb 0 (AA i) (AA d) U.j 0 true F (AA k) B=K8 xb 0 (AA i) (AA d) U.j 0 true F (AA k) B.j 0 (AA 0) Ub:=by
        intro K4 K8;unfold Ae.c at an;unfold BW.c at rd sb;unfold Ni;simp only[↓rP,rA,AD,AG,AB,↓AT an,↓sl,d1,↓AT hx,↓rd,↓ea,↓sb]
      have k8:∀R5,Vh E D (AV E D) N R5 N xb 0 (AA i) (AA d) U.j 0 true F (AA k) B.j 0 (AA 0) Ub=Np E D (AV E D) N R5 xb 0 (AA i) (AA d) U.j 0 true F (AA k) B.j 0 Ub:=λR5=>
        zA (K7:=Np E D (AV E D) N R5) (L:=Vh E D (AV E D) N R5) anb hfb2 hgk ab hnm hl (λ_ _ _ _ _ _ _ _ _ _ _ _ _ _=>rfl) k 0 N (by omega) (by omega)
      have adn:BQ .i64 (AA d) (AA 1)=AA (d+1):=Al (by omega);have k7:∀R5,Np E D (AV E D) N R5 xb 0 (AA i) (AA d) U.j 0 true F (AA k) B.j 0 Ub=R5 xb 0 (AA i) (AA d) U.j 0 true lk' (AA (k+1)) Uf:=by
        intro R5;have uo:=df.S;unfold BW.c at ab ad ee;show cL E D (AV E D) (Ut E D (AV E D) (Ur E D (AV E D) (cM E D (AV E D) R5))) xb 0 (AA i) (AA d) U.j 0 true F (AA k) B.j 0 Ub=_;unfold cL Ut Ur cM;have sub11:∀(a b c d e f g h i j k:V) (J:List V->AE),FD [a,b,c,d,e,f,g,h,i,j,k] 0 11 J=J [a,b,c,d,e,f,g,h,i,j,k]:=λ_ _ _ _ _ _ _ _ _ _ _ J=>rfl;simp only[↓rP,rA,AD,AG,AB,↓AT ab,adn,↓gc,↓gd,↓AT hxd,↓AT ad,↓BU ad,↓sub11,↓ee,↓gf,↓Bt uo,Al (show k+1<=9223372036854775807 by omega)]
      exact(k5 _ _).trans ((k8 _).trans ((k7 _).trans g'))
  have a1':=a1;obtain⟨lv',U',g',H',M',F'⟩:=loop nd.K 0 N [] fs' U1 .h lv tl rfl (by omega) rfl (by omega) hs (by simp) h1 a1 (DW.nil _ _) (λb A=>A.elim) (λb A => .inl A) (f1.mono λ_ _ e=>e.elim) (by omega);refine⟨lv',U',?_,H',M',F'⟩;have hx1:=h1.a;unfold ZV at hx1;have mark:∀(q k n:Nat),k+q=nd.K.length->q<n->Vi E D (AV E D) N n xb 0 (AA i) (AA d) U.j 0 true (AA k) U1=Rh E D (AV E D) N xb 0 (AA i) (AA d) U.j 0 true U1:=by
    intro q;induction q with
    | zero=>
      intro k n hk hn;obtain⟨n,rfl⟩:∃q,n=q+1:=⟨n-1,by omega⟩;have sl:∀J:Nat->AE,Ao fv J=J nd.K.length:=λJ=>hf.ip;have d1:decide (k<nd.K.length)=false:=decide_eq_false (by omega);have key:∀K1 R2,RC E D (AV E D) K1 R2 xb 0 (AA i) (AA d) U.j 0 true (AA k) U1=K1 xb 0 (AA i) (AA d) U.j 0 true U1:=by
        intro K1 R2;unfold Ae.c at a1;unfold RC;simp only[↓rP,rA,AD,AG,AB,↓AT a1,↓sl,d1]
      exact key _ _
    | succ q ih=>
      intro k n hk hn;obtain⟨n,rfl⟩:∃q,n=q+1:=⟨n-1,by omega⟩;have sl:∀J:Nat->AE,Ao fv J=J nd.K.length:=λJ=>hf.ip;have d1:decide (k<nd.K.length)=true:=decide_eq_true (by omega);obtain⟨g,hg⟩:∃g,nd.K[k]? = some g:=⟨nd.K[k],AI (by omega)⟩;have hf1:=hf.Z f1 ht (λ_ _ e=>e);have rd:∀J,AS 11 fv (AA k) (λb o=>Bv E U1 b o 11 J)=J g.c:=λJ=>HN hf1 (by omega) (Mw _ _ _ hg) (by decide) J;have key:∀K1 R2,RC E D (AV E D) K1 R2 xb 0 (AA i) (AA d) U.j 0 true (AA k) U1=R2 xb 0 (AA i) (AA d) U.j 0 true (AA (k+1)) U1:=by
        intro K1 R2;unfold Ae.c at a1;unfold BW.c at rd;unfold RC;simp only[↓rP,rA,AD,AG,AB,↓AT a1,↓sl,d1,↓rd,Al (show k+1<=9223372036854775807 by omega)]
      exact(key _ _).trans (ih (k+1) n (by omega) (by omega))
  have dtg:decide (m.tg=2)=false:=decide_eq_false htg;have dne:decide (nd.K.length=0)=false:=decide_eq_false λe=>hne (Ba e);have k0:∀K2,Uu E D (AV E D) K2 xb 0 (AA i) (AA nd.A) (BB nd.name) nd.mHas nd.mNum (AA nd.mMode) nd.T.has nd.T.no nd.T.i9 nd.T.I nd.T.low nd.T.high iv fv (AA nd.W) nd.I (AA nd.of_) (AA d) U=K2 xb 0 (AA i) (AA d) U.j 0 true (AA 0) U1:=by
    intro K2;unfold Ae.c at e1;unfold Uu;simp only[↓rP,rA,AD,AG,AB,io,fo,↓e1,↓AT hx1,dtg]
  have k1:Rh E D (AV E D) N xb 0 (AA i) (AA d) U.j 0 true U1=Vo E D (AV E D) N xb 0 (AA i) (AA d) U.j 0 true U1:=by
    have key:∀K3,cN E D (AV E D) K3 xb 0 (AA i) (AA d) U.j 0 true U1=K3 xb 0 (AA i) (AA d) U.j 0 true U1:=by
      intro K3;have sl:∀J:Nat->AE,Ao fv J=J nd.K.length:=λJ=>hf.ip;unfold Ae.c at a1;unfold cN;cases h9:decide (nd.A=9)with
      | true=>simp only[↓rP,rA,AD,AG,AB,↓AT a1,h9,↓sl,dne] | false=>simp only[↓rP,rA,AD,AG,AB,↓AT a1,h9]
    exact key _
  show Uu E D (AV E D) (Vi E D (AV E D) N N) xb 0 (AA i) (AA nd.A) (BB nd.name) nd.mHas nd.mNum (AA nd.mMode) nd.T.has nd.T.no nd.T.i9 nd.T.I nd.T.low nd.T.high iv fv (AA nd.W) nd.I (AA nd.of_) (AA d) U=_;rw[k0,mark nd.K.length 0 N (by omega) (by omega),k1];exact g'
end
def O2(x:CS):CS:={ x with has:=false }
theorem Mr:∀l i (x:CS),l[i]? = some x->((JE l).drop (i*3)).take 3=x.c
 | [],i,x,h=>by simp at h
 | y::l,0,x,h=>by simp at h;subst h;rfl
 | y::l,i+1,x,h=>by
  have h:l[i]? = some x:=by simpa using h
  show ((y.c++JE l).drop ((i+1)*3)).take 3=_;rw[show (i+1)*3=3+i*3 by omega,<-Cd,show (y.c++JE l).drop 3=JE l from rfl];exact Mr l i x h
theorem Za{l i j}{x:CS}{c}(h:l[i]? = some x)(d:j<3)(b:x.c[j]? = some c):(JE l)[i*3+j]? = some c:=by
 rw[<-Mr l i x h,CQ d,B6]at b;exact b
theorem qI l (x:CS):JE (l++[x])=JE l++x.c:=by grind [JE]
def zT(l:List CS)(i:Nat):List CS:=(l.take i).map O2
theorem qH{l i x}(h:l[i]? = some x):zT l (i+1)=zT l i++[O2 x]:=by unfold zT;rw[ATI,h];simp
def NC(F:List V->H->AE):Prop:=∀{U:H}{nd:Ae}{a iv fv:V},Ai U->mY nd.R nd.W->nd.W<=nd.R.length->nd.R.length<=900->fv.S=true->Cv U 3 nd.R.length iv (JE nd.R) ->
 ∃v U',F [a,.agg (nd.c iv fv)] U=some (v,U')/\DW U' 3 nd.R.length v (JE (nd.R.map O2))/\(∀b,AJ v b->U.j<=b)/\Fr AH U U'
section
variable {E:EB}{D:Ac}{W:AF}{N:Nat}
theorem px (hN:10000<N):NC (nE E D W N):=by
  intro U nd a iv fv ht hok hr hl fo hi;have io:=hi.S;obtain⟨U1,e1,f1,a1,n1⟩:=Fh ht (nd.c iv fv);have inner:∀(q k n:Nat) (i:Nat) (v:V) (t:H) (R:V->V->Bool->Int->H->AE),k+q=i->i<nd.R.length->q<n->Fr AH U1 t->Cv t 3 nd.R.length v (JE (nd.R.map O2))->Vk E D W N R n a v false (AA i) (AA k) t=PY E D W N R a v false (AA i) t:=by
    intro q;induction q with
    | zero=>
      intro k n i v t R hk L hn f G;obtain⟨n,rfl⟩:∃q,n=q+1:=⟨n-1,by omega⟩;have M:decide (k<i)=false:=decide_eq_false (by omega);have key:∀K R2,M7 E D W K R2 a v false (AA i) (AA k) t=K a v false (AA i) t:=by
        intro K R2;unfold M7;simp only[↓rP,rA,AD,AG,AB,M]
      exact key _ _
    | succ q ih=>
      intro k n i v t R hk L hn f G;obtain⟨n,rfl⟩:∃q,n=q+1:=⟨n-1,by omega⟩;have M:decide (k<i)=true:=decide_eq_true (by omega);obtain⟨x,I⟩:∃x,nd.R[k]? = some x:=⟨nd.R[k],AI (by omega)⟩;obtain⟨y,hy⟩:∃y,nd.R[i]? = some y:=⟨nd.R[i],AI L⟩;have hx':(nd.R.map O2)[k]? = some (O2 x):=by rw[As,I];rfl
      have hy':(nd.R.map O2)[i]? = some (O2 y):=by rw[As,hy];rfl
      have g:∀{j:Nat}{z:CS}{o:Nat}{c:V},j<nd.R.length->(nd.R.map O2)[j]? = some z->o<3->z.c[o]? = some c->∀J,AS 3 v (AA j) (λb p=>DF E t b (AM p o) J)=J c:=λhj hz ho hc J=>EM G hj ho (Za hz ho hc) J;have rx0:∀J,AS 3 v (AA k) (λb p=>DF E t b p J)=J (.N (BB x.name)):=λJ=>g (j:=k) (o:=0) (by omega) hx' (by decide) rfl J;have ry0:∀J,AS 3 v (AA i) (λb p=>DF E t b p J)=J (.N (BB y.name)):=λJ=>g (j:=i) (o:=0) L hy' (by decide) rfl J;have rx1:∀J,AS 3 v (AA k) (λb p=>DF E t b (AM p 1) J)=J (.int .i64 x.num):=λJ=>g (j:=k) (by omega) hx' (by decide) rfl J;have ry1:∀J,AS 3 v (AA i) (λb p=>DF E t b (AM p 1) J)=J (.int .i64 y.num):=λJ=>g (j:=i) L hy' (by decide) rfl J;obtain⟨bk,ck⟩:=AN.1 I;obtain⟨bi,ci⟩:=AN.1 hy;have nb:=EH.1 hok.nm k i bk bi (by omega);have ne:=EH.1 hok.nu k i bk bi (by omega);rw[ck,ci]at nb ne;have eb:B8 x.num y.num=false:=by rw[NX];simpa using ne
      have key:∀K R2,M7 E D W K R2 a v false (AA i) (AA k) t=R2 a v false (AA i) (AA (k+1)) t:=by
        intro K R2;unfold M7;simp only[↓rP,rA,AD,AG,AB,M,↓rx0,↓ry0,↓rx1,↓ry1,nb,eb,Al (show k+1<=9223372036854775807 by omega)]
      exact(key _ _).trans (ih (k+1) n i v t R (by omega) L (by omega) f G)
  have twice:∀(q i n:Nat) (v:V) (t:H),i+q=nd.R.length->q<n->Fr AH U1 t->Cv t 3 nd.R.length v (JE (nd.R.map O2))->Vl E D W N n a v false (AA i) t=some (v,t):=by
    intro q;induction q with
    | zero=>
      intro i n v t hi2 hn f G;obtain⟨n,rfl⟩:∃q,n=q+1:=⟨n-1,by omega⟩;have sl:∀J:Nat->AE,Ao v J=J nd.R.length:=λJ=>G.ip;have M:decide (i<nd.R.length)=false:=decide_eq_false (by omega);have key:∀K16,M8 E D W (Ux E D W (Uv E D W)) K16 a v false (AA i) t=some (v,t):=by
        intro K16;unfold M8 Ux Uv;simp only[↓rP,rA,AD,AG,AB,↓sl,M]
      exact key _
    | succ q ih=>
      intro i n v t hi2 hn f G;obtain⟨n,rfl⟩:∃q,n=q+1:=⟨n-1,by omega⟩;have sl:∀J:Nat->AE,Ao v J=J nd.R.length:=λJ=>G.ip;have M:decide (i<nd.R.length)=true:=decide_eq_true (by omega);have k1:∀K13 K16,M8 E D W K13 K16 a v false (AA i) t=K16 a v false (AA i) (AA 0) t:=by
        intro K13 K16;unfold M8;simp only[↓rP,rA,AD,AG,AB,↓sl,M]
      have k2:∀R,Uw E D W R a v false (AA i) t=R a v false (AA (i+1)) t:=by
        intro R;unfold Uw;simp only[↓rP,rA,AD,AG,AB,Al (show i+1<=9223372036854775807 by omega)]
      refine(k1 _ _).trans ?_;rw[inner i 0 N i v t _ (by omega) (by omega) (by omega) f G];exact(k2 _).trans (ih (i+1) n v t (by omega) (by omega) f G)
  have rd:∀{i:Nat}{x:CS}{t:H},nd.R[i]? = some x->Fr AH U1 t->∀J,AS 3 iv (AA i) (λb o=>Bv E t b o 3 J)=J x.c:=λ{i x t} I f J=>by
    have h2:=(hi.Z f1 ht (λ_ _ e=>e)).Z f f1.y (λ_ _ e=>e);exact HN h2 (AN.1 I).1 (Mr _ _ _ I) (by decide) J
  have put:∀{i:Nat}{x:CS}{v:V}{t:H},nd.R[i]? = some x->Fr AH U1 t->DW t 3 i v (JE (zT nd.R i))->(∀b,AJ v b->U1.j<=b)->∃F U3 U4,Cb t (.cells [.N (BB x.name),.int .i64 x.num,.bool false])=U3/\(∀J:V->H->AE,Dx E 3 32 v (.D t.j 0 1 (.ex 1)) U3 J=J F U4)/\F.S=true/\Fr AH U1 U4/\DW U4 3 (i+1) F (JE (zT nd.R (i+1)))/\(∀b,AJ F b->U1.j<=b):=by
    intro i x v t I f G nv;obtain⟨U3,e3,f3,a3,n3⟩:=Fh f.y [.N (BB x.name),.int .i64 x.num,.bool false];have x3:Cv U3 3 1 (.D t.j 0 1 (.ex 1)) [.N (BB x.name),.int .i64 x.num,.bool false] := .inr ⟨_,_,_,_,rfl,a3,AL _,rfl⟩;have il:=(AN.1 I).1;obtain⟨F,U4,g4,d4,m4,f4⟩:=Dd (E:=E) (bytes:=32) (G.Z f3 f.y (λ_ _ e=>e)) f3.y x3 rfl (by unfold Bu;simp;omega);have le:=f.le;have le3:=f3.le;exact⟨F,U3,U4,e3,g4,d4.S,(f.trans f3 (λ_ _ e=>e)).trans f4 (λb hb e=>by have:=nv b e;omega),by rw[qH I,qI];exact d4,λb hb=>(m4 b hb).elim (nv b) (λe=>by omega)⟩
  have le1:=f1.le;have EL:∀(q i n:Nat) (v:V) (ri:Int) (so:Bool) (t:H),i+q=nd.R.length->nd.W<=i->q<n->Fr AH U1 t->DW t 3 i v (JE (zT nd.R i))->(∀b,AJ v b->U1.j<=b)->(∀x,nd.R[i]? = some x->so=true->HL x.num ri=false) ->
      ∃F U',dR E D W N n a U.j 0 v ri so false (AA i) t=some (F,U')/\DW U' 3 nd.R.length F (JE (nd.R.map O2))/\(∀b,AJ F b->U.j<=b)/\Fr AH U U':=by
    intro q;induction q with
    | zero=>
      intro i n v ri so t hi2 hri hn f G nv hup;obtain⟨n,rfl⟩:∃q,n=q+1:=⟨n-1,by omega⟩;have L:i=nd.R.length:=by omega
      subst L;have et:zT nd.R nd.R.length=nd.R.map O2:=by unfold zT;rw[Iz]
      rw[et]at G;refine⟨v,t,?_,G,λb hb=>by have:=nv b hb;omega,f1.trans f (λ_ _ e=>e)⟩;have sl:∀J:Nat->AE,Ao iv J=J nd.R.length:=λJ=>hi.ip;have M:decide (nd.R.length<nd.R.length)=false:=decide_eq_false (Dp _);have a2:=f.X a1 f1.y (λe=>e);unfold Ae.c at a2;have key:∀K7 K10 K11,RD E D W K7 K10 K11 a U.j 0 v ri so false (AA nd.R.length) t=K7 a v false t:=by
        intro K7 K10 K11;unfold RD;simp only[↓rP,rA,AD,AG,AB,↓AT a2,↓sl,M]
      refine(key _ _ _).trans ?_;exact twice nd.R.length 0 N v t (by omega) (by omega) f G.src
    | succ q ih=>
      intro i n v ri so t hi2 hri hn f G nv hup;obtain⟨n,rfl⟩:∃q,n=q+1:=⟨n-1,by omega⟩;obtain⟨x,I⟩:∃x,nd.R[i]? = some x:=⟨nd.R[i],AI (by omega)⟩;have sl:∀J:Nat->AE,Ao iv J=J nd.R.length:=λJ=>hi.ip;have M:decide (i<nd.R.length)=true:=decide_eq_true (by omega);have a2:=f.X a1 f1.y (λe=>e);unfold Ae.c at a2;have r:=rd I f;have hh:x.has=true:=hok.has x (Em I);unfold CS.c at r;rw[hh]at r;obtain⟨F,U3,U4,e3,g4,o4,f4,d4,n4⟩:=put I f G nv;have up:=hup x I;obtain⟨v2,U',g',h'⟩:=ih (i+1) n F x.num true U4 (by omega) (by omega) (by omega) f4 d4 n4 (λy hy _=>by
        have hp:=EH.1 hok.up (i-nd.W) (i+1-nd.W);have bi:=(AN.1 I);have bj:=(AN.1 hy);have h1:i-nd.W<(nd.R.drop nd.W).length:=by rw[ey];omega
        have h2:i+1-nd.W<(nd.R.drop nd.W).length:=by rw[ey];have:=bj.1;omega
        have hp:=hp h1 h2 (by omega);simp only[List.getElem_drop,show nd.W+(i-nd.W)=i by omega,show nd.W+(i+1-nd.W)=i+1 by omega]at hp;rw[bi.2,bj.2]at hp;rw[ZY];exact decide_eq_false (by omega))
      refine⟨v2,U',?_,h'⟩;have k8:∀K7 K10 K11,RD E D W K7 K10 K11 a U.j 0 v ri so false (AA i) t=K10 a U.j 0 v ri so false (AA i) (BB x.name) x.num true t:=by
        intro K7 K10 K11;unfold RD;simp only[↓rP,rA,AD,AG,AB,↓AT a2,↓sl,M,↓r]
      have k10:∀R8,Uy E D W (cO E D W R8) a U.j 0 v ri so false (AA i) (BB x.name) x.num true t=R8 a U.j 0 F x.num true false (AA (i+1)) U4:=by
        intro R8;unfold Uy cO;cases so with
        | false=>simp only[↓rP,rA,AD,AG,AB,↓e3,↓g4,↓Bt o4,Al (show i+1<=9223372036854775807 by omega)] | true=>simp only[↓rP,rA,AD,AG,AB,up rfl,↓e3,↓g4,↓Bt o4,Al (show i+1<=9223372036854775807 by omega)]
      exact(k8 _ _ _).trans ((k10 _).trans g')
  have root:∀(q i n:Nat) (v:V) (t:H),i+q=nd.W->q<n->Fr AH U1 t->DW t 3 i v (JE (zT nd.R i))->(∀b,AJ v b->U1.j<=b) ->
      ∃F U',Vj E D W N n a U.j 0 v (AA 0) (AA i) t=some (F,U')/\DW U' 3 nd.R.length F (JE (nd.R.map O2))/\(∀b,AJ F b->U.j<=b)/\Fr AH U U':=by
    intro q;induction q with
    | zero=>
      intro i n v t hi2 hn f G nv;obtain⟨n,rfl⟩:∃q,n=q+1:=⟨n-1,by omega⟩;have hir:i=nd.W:=by omega
      subst hir;obtain⟨F,U',g',h'⟩:=EL (nd.R.length-nd.W) nd.W N v 0 false t (by omega) (AL _) (by omega) f G nv (λ_ _ h=>by cases h);refine⟨F,U',?_,h'⟩;have a2:=f.X a1 f1.y (λe=>e);unfold Ae.c at a2;have M:decide (nd.W<nd.W)=false:=decide_eq_false (Dp _);have key:∀K8 K4 K6,RE E D W (cR E D W K8) K4 K6 a U.j 0 v (AA 0) (AA nd.W) t=K8 a U.j 0 v (AA 0) false false (AA nd.W) t:=by
        intro K8 K4 K6;unfold RE cR;simp only[↓rP,rA,AD,AG,AB,↓AT a2,M]
      exact(key _ _ _).trans g'
    | succ q ih=>
      intro i n v t hi2 hn f G nv;obtain⟨n,rfl⟩:∃q,n=q+1:=⟨n-1,by omega⟩;obtain⟨x,I⟩:∃x,nd.R[i]? = some x:=⟨nd.R[i],AI (by omega)⟩;have M:decide (i<nd.W)=true:=decide_eq_true (by omega);have a2:=f.X a1 f1.y (λe=>e);unfold Ae.c at a2;have r:=rd I f;have hh:x.has=true:=hok.has x (Em I);unfold CS.c at r;rw[hh]at r;obtain⟨F,U3,U4,e3,g4,o4,f4,d4,n4⟩:=put I f G nv;obtain⟨v2,U',g',h'⟩:=ih (i+1) n F U4 (by omega) (by omega) f4 d4 n4;refine⟨v2,U',?_,h'⟩;have k2:∀K1 K4 K6,RE E D W K1 K4 K6 a U.j 0 v (AA 0) (AA i) t=K4 a U.j 0 v (AA 0) (AA i) (BB x.name) x.num true t:=by
        intro K1 K4 K6;unfold RE;simp only[↓rP,rA,AD,AG,AB,↓AT a2,M,↓r]
      have k4:∀R2,cP E D W (cQ E D W R2) a U.j 0 v (AA 0) (AA i) (BB x.name) x.num true t=R2 a U.j 0 F (AA 0) (AA (i+1)) U4:=by
        intro R2;unfold cP cQ;simp only[↓rP,rA,AD,AG,AB,↓e3,↓g4,↓Bt o4,Al (show i+1<=9223372036854775807 by omega)]
      exact(k2 _ _ _).trans ((k4 _).trans g')
  obtain⟨F,U',g',h'⟩:=root nd.W 0 N .h U1 (by omega) (by omega) (Fr.refl f1.y) (DW.nil _ _) (λb hb=>hb.elim);refine⟨F,U',?_,h'⟩;show Uz E D W (Vj E D W N N) a (AA nd.A) (BB nd.name) nd.mHas nd.mNum (AA nd.mMode) nd.T.has nd.T.no nd.T.i9 nd.T.I nd.T.low nd.T.high iv fv (AA nd.W) nd.I (AA nd.of_) U=_;have k0:∀K2,Uz E D W K2 a (AA nd.A) (BB nd.name) nd.mHas nd.mNum (AA nd.mMode) nd.T.has nd.T.no nd.T.i9 nd.T.I nd.T.low nd.T.high iv fv (AA nd.W) nd.I (AA nd.of_) U=K2 a U.j 0 .h (AA 0) (AA 0) U1:=by
    intro K2;unfold Ae.c at e1;unfold Uz;simp only[↓rP,rA,AD,AG,AB,io,fo,↓e1]
  rw[k0];exact g'
end
def Sg(m:Cs)(nd:Ae):Bool:=decide (nd.mMode=2) || (decide (nd.mMode=0) && !decide (m.tg=0))
abbrev AAP:=Nat->Ae->List Cu->Option (Nat × List Cu)
def ti(m:Cs)(nd:Ae)(i:Nat)(t:Cu)(b:List BW)(tl:List Cu):Prop:=m.tg≠2/\nd.K≠[]/\AG1 nd.K/\nd.K.length<=5000/\t.A≠7/\∃a,iD (tl.set i { t with K:=b }) b a
def NB(m:Cs)(M:AAP)(F:List V->H->AE):Prop:=∀{a U:H}{xb f g h j iv fv tl c d i}{nd:Ae}{Q},Ai a->PX a m f g h->Mk a U xb m f g h tl j Q->(∀b,Q b->b<U.j)->d<=900->Cv U 3 nd.R.length iv (JE nd.R)->Cv U 11 nd.K.length fv (Ie nd.K)->(∀b,AJ iv b->b<a.j)->(∀b,AJ fv b->b<a.j)->M d nd tl=some (i,c) ->
 ∃e U',F [.o xb 0,.agg (nd.c iv fv),.int .i64 (AA d)] U=some (.int .i64 (AA i),U')/\Mk a U' xb m f g h c e Q/\(∀b,AJ e b->AJ j b\/U.j<=b)/\Fr (λb=>b=xb\/AJ j b) U U'
theorem PX.nd2{U}{m:Cs}{n r i}(h:PX U m n r i)(p:Ai U){k}{nd:Ae}(g:m.ns[k]? = some nd):
  ∃iv fv,(∀U',Fr AH U U'->∀E J,AS 16 i (AA k) (λb o=>Bv E U' b o 16 J)=J (nd.c iv fv))/\Cv U 3 nd.R.length iv (JE nd.R)/\Cv U 11 nd.K.length fv (Ie nd.K):=by
 have ⟨j,h1,s,q⟩:=h.d;have d:=(AN.1 g).1;have ⟨u,l⟩:∃u,j[k]? = some u:=⟨j[k],AI (by omega)⟩;have ⟨a,b⟩:=q k nd u g l;exact⟨u.1,u.2,λU' f E J=>HN (h1.Z f p (λ_ _ h=>h)) d (T8 _ _ _ _ _ g l) (by decide) J,a,b⟩
theorem Wv v l:∀(tl:List Cu) (c:List (V × V × V)) i t (u:V × V × V),c.length=tl.length->tl[i]? = some t->c[i]? = some u->FW (EF tl c) (i*13+8) [v]=EF (tl.set i { t with R:=l }) (c.set i (u.1,v,u.2.2))
 | x::tl,y::c,0,t,u,_,h,j=>by
  simp at h;subst h;simp at j;subst j;generalize EF tl c=z;cases z<;>rfl
 | x::tl,y::c,i+1,t,u,h,m,k=>by
  have n:=Wv v l tl c i t u (by simpa using h) (by simpa using m) (by simpa using k);show FW (x.c y++EF tl c) ((i+1)*13+8) _=x.c y++EF (tl.set i { t with R:=l }) (c.set i (u.1,v,u.2.2));rw[<-n,show (i+1)*13+8=(x.c y).length+(i*13+8)by show _=13+_;omega,I5]
 | [],_,_,_,_,_,h,_=>by simp at h
 | _::_,[],_,_,_,h,_,_=>by simp at h
section
variable {U0 U U':H}{xb:Nat}{m:Cs}{nv tv dv lv:V}{tl:List Cu}{Q:Nat->Prop}
theorem Mk.itm(h:Mk U0 U xb m nv tv dv tl lv Q){i t v}{l:List CS}(T:tl[i]? = some t)(E:Cv U 3 l.length v (JE l))(hn:∀b,AJ v b->b≠xb/\¬AJ lv b/\¬Q b):
  ∃b G X,lv = .D b 0 tl.length G/\Bx U b X/\i*13+8<X.length/\∀U',Fr (λk=>k=b) U U'->Bx U' b (FW X (i*13+8) [v])->Mk U0 U' xb m nv tv dv (tl.set i { t with R:=l }) lv Q/\Fr (AJ lv) U U':=by
 have ⟨y,h1,L,Z⟩:=h.w;have P:=(AN.1 T).1;have ⟨z,I⟩:∃w,y[i]? = some w:=⟨y[i],AI (by omega)⟩;have aa:=Hx tl y L;have ⟨b,G,N,hb⟩:∃b G,lv = .D b 0 tl.length G/\Bx U b (EF tl y):=by
  rcases h1 with (⟨S,_⟩|⟨b,E,J,_⟩)|⟨b,E,J,_⟩
  ·omega
  ·exact⟨b,_,E,J⟩
  ·exact⟨b,_,E,J⟩
 refine⟨b,G,_,N,hb,by omega,λU' f a=>?_⟩;rw[Wv v l tl y i t z L T I]at a;have W:∀x,AJ lv x↔x=b:=λx=>by rw[N];exact Iff.rfl
 have s:=f.mono λx _ e=>(W x).2 e;refine⟨⟨s.X h.a h.ht (λe=>(h.lx _ e).1 rfl),⟨y.set i (z.1,v,z.2.2),?_,by rw[BA,BA,L],λk t1 w M K=>?_⟩,h.lx,h.qx,h.x0,h.f.trans s (λx _ e=>by have:=(h.lx x e).2.1;omega)⟩,s⟩
 ·rw[BA]
  have C:(EF (tl.set i { t with R:=l }) (y.set i (z.1,v,z.2.2))).length=tl.length*13:=by rw[Hx _ _ (by rw[BA,BA,L]),BA]
  rcases h1 with (⟨S,_⟩|⟨F,j,J,S,hl⟩)|⟨F,j,J,hl⟩
  ·omega
  ·have:F=b:=by rw[N]at j;cases j;rfl
   subst this;exact .inl (.inr ⟨F,j,a,S,C⟩)
  ·have:F=b:=by rw[N]at j;cases j;rfl
   subst this;exact .inr ⟨F,j,a,C⟩
 ·by_cases D:i=k
  ·subst D
   rw[C3 P]at M;rw[C3 (by omega)]at K;cases M;cases K;have ⟨O,x2,Y,u⟩:=Z i t z T I;refine⟨O.Z s h.ht (λx g e=>(u x (.inl g)).2.1 e),E.Z s h.ht (λx g e=>(hn x g).2.1 e),Y.Z s h.ht (λx g e=>(u x (.inr (.inr g))).2.1 e),λx g=>?_⟩;rcases g with g|g|g
   ·exact u x (.inl g)
   ·exact hn x g
   ·exact u x (.inr (.inr g))
  ·rw[MW D]at M K
   have ⟨O,x2,Y,u⟩:=Z k t1 w M K;exact⟨O.Z s h.ht (λx g e=>(u x (.inl g)).2.1 e),x2.Z s h.ht (λx g e=>(u x (.inr (.inl g))).2.1 e),Y.Z s h.ht (λx g e=>(u x (.inr (.inr g))).2.1 e),u⟩
end
section
variable {E:EB}{D:Ac}{N:Nat}
def Shp(v:V):Prop:=v = .h\/∃b o n c,v = .D b o n c
theorem JX{U e n v l}(h:Cv U e n v l):Shp v:=by grind [Cv,Shp]
theorem lH (I:NC (D 123)) {m} {W U:H} {xb eb i} {nv tv X l iv fv:V} {tl:List Cu} {t} {nd:Ae} {Q} (h:Mk W U xb m nv tv X tl l Q) (hQ:∀b,Q b->b<U.j) (he:Bx U eb (nd.c iv fv)) (K:¬AJ l eb) (hi:tl[i]? = some t) (T:Cv U 3 nd.R.length iv (JE nd.R)) (fo:fv.S=true) (fb:Shp fv) (ib:Shp iv)
    (A:mY nd.R nd.W) (hr:nd.W<=nd.R.length) (hl:nd.R.length<=900) :
    ∃e' U',AV E D TN Ov [(0,.o xb 0),(4,.o eb 0),(7,.int .i64 (AA i))] U=some (e',U')/\Go.Og.look e' 7=some (.int .i64 (AA i))/\Mk W U' xb m nv tv X (tl.set i { t with R:=nd.R.map O2 }) l Q/\Fr (AJ l) U U':=by
  have r:=h.ht;have F:Fr AH U ⟨U.j+11,U.F⟩:=(B7 (E:=E) r).Z;have ⟨v,U2,g2,P,n2,M⟩:=I (a := .o xb 0) F.y A hr hl fo (T.Z F r (λ_ _ e=>e));have u:=F.trans M (λ_ _ e=>e);have h2:=h.Z u (λ_ e=>e.elim) (λ_ e=>e.elim);have C:(nd.R.map O2).length=nd.R.length:=Bp ..;have o:∀b,AJ v b->U.j+11<=b:=n2;obtain⟨b,cp,cs,p,ab,aa,N⟩:=h2.itm hi (by rw[C];exact P.src) (λb L=>⟨λe=>by have:=h.a.lt r;have:=o b L;omega,λe=>by have:=h.llt e;have:=o b L;omega,λq=>by have:=hQ b q;have:=o b L;omega⟩);have w:=h.a;have ⟨o1,o2⟩:=Et P.S;have z:i<tl.length:=(AN.1 hi).1;have ⟨J,q1,q2,Z⟩:=HM (E:=E) (D:=D) (n:=1) (x := .tmp 106) M.y ab rfl (show (Ca [(106,V.o b (0+i*13+8)),(104,v)] (.tmp 104)).cells=[v] from o2) (by
    simp only[Bg,CE,P.S,Bz,Ag,Cm,BV,Gb,EX,Bn];omega)
  have G:∀x,AJ l x↔x=b:=λx=>by rw[p];exact Iff.rfl
  have bl:b<U.j:=h.llt ((G b).2 rfl);rw[BV]at Z;have ⟨h3,f3⟩:=N J q2 Z;have S:V.beq l l=true:=by rw[p];cases cp<;>exact Be _ rfl
  have O:V.beq (.agg (nd.c iv fv)) (.agg (nd.c iv fv))=true:=by
    rcases fb with rfl|⟨_,_,_,c1,rfl⟩<;>rcases ib with rfl|⟨_,_,_,c2,rfl⟩<;>(try cases c1)<;>(try cases c2)<;>exact Be _ rfl
  have go:FB (Jx E U 11 Ov _ J) E D U 11 0 TN Ov ⟨[(0,.o xb 0),(4,.o eb 0),(7,.int .i64 (AA i))],U.j+11,[U.F],[],0,[]⟩:=
    DR (.o xb 0) rfl rfl <|
    DR (.o xb 0) rfl rfl <|
    DR (.o xb 5) rfl rfl <|
    HF l (B7 r) rfl (Cj rfl w rfl r (λe=>(h.lx _ e).1 rfl) S) λr1=>
    DR (.int .i64 (AA i)) rfl rfl <|
    DR (.o xb 0) rfl rfl <|
    HF (.agg (nd.c iv fv)) r1 rfl (Fu rfl he rfl rfl r K O) λr2=>
    Mt v r2 rfl (by decide) M (λ_ _ h=>h.elim) (λ_ h _ _=>h) (Eb (vs:=[.o xb 0,.agg (nd.c iv fv)]) rfl rfl g2) λ_ _ r3=>
    DR (.o b (0+i*13)) rfl (HE p rfl z) <|
    DR (.o b (0+i*13+8)) rfl rfl <|
    LD .i5 r3 rfl (by decide) q2 (λk h h1 _=>by omega) q1 (λx w=>by
      simp at w;rcases w with rfl|rfl
      · show FG Ov 6 [10,7] []=false
        decide
      · show FG Ov 3 [10,7] []=false
        decide)
  have d:=HG (ops:=TN) go;exact⟨_,J,d,rfl,h3,(u.mono (λ_ _ e=>e.elim):Fr (AJ l) U U2).trans f3 (λ_ _ e=>e)⟩
def H6(m:Cs)(T:MT):AAP:=λd nd tl=>match decide (d<=16)&&decide (tl.length<300)with
 | false=>none
 | true=>match nd.A with
  | 4=>some (tl.length,tl++[HO nd])
  | 3=>@ite _ (mY nd.R nd.W/\nd.W<=nd.R.length/\nd.R.length<=900) (Classical.propDecidable _) (some (tl.length,tl++[{ HO nd with R:=nd.R.map O2 }])) none
  | 9=>(Ic T d nd.K (tl++[HO nd])).bind λr=>match r.2[tl.length]? with
   | none=>none
   | some t=>@ite _ (ti m nd tl.length t r.1 r.2) (Classical.propDecidable _) (some (tl.length,r.2.set tl.length { t with K:=r.1 })) none
  | _=>none
theorem lD{m}(hU:jB (D 121)){U0 U:H}{xb d}{nv tv dv lv iv fv:V}{tl:List Cu}{nd:Ae}{Q:Nat->Prop}(h:Mk U0 U xb m nv tv dv tl lv Q)(hQ:∀b,Q b->b<U.j)(hd:d<=16)(hl:tl.length<300)(hk:nd.A=3\/nd.A=4\/nd.A=9)(io:iv.S=true)(fo:fv.S=true):
  ∃gb g e' u f,(∀K1,YE E D (AV E D) K1 xb 0 (AA nd.A) (BB nd.name) nd.mHas nd.mNum (AA nd.mMode) nd.T.has nd.T.no nd.T.i9 nd.T.I nd.T.low nd.T.high iv fv (AA nd.W) nd.I (AA nd.of_) (AA d) U=K1 xb 0 (AA d) U.j 0 (AA tl.length) gb 0 g) /\
   AV E D Kf JQ [(0,.o xb 0),(2,.int .i64 (AA d)),(4,.o U.j 0),(7,.int .i64 (AA tl.length)),(8,.o gb 0)] g=some (e',f)/\Go.Og.look e' 0=some (.o xb 0)/\Go.Og.look e' 2=some (.int .i64 (AA d))/\Go.Og.look e' 4=some (.o U.j 0)/\Go.Og.look e' 7=some (.int .i64 (AA tl.length)) /\
   Mk U0 f xb m nv tv dv (tl++[HO nd]) u Q/\(∀b,AJ u b->AJ lv b\/U.j<b)/\Bx f U.j (nd.c iv fv)/\Fr (λb=>b=xb\/AJ lv b) U f:=by
 have ht:=h.ht;have ⟨U1,e1,f1,a1,n1⟩:=Fh ht (nd.c iv fv);have ⟨U2,e2,f2,a2,n2⟩:=Fh f1.y [.int .i64 (AA 0),.h,.bool false,.bool false,.bool false,.bool false,.int .i64 (AA 0),.int .i64 (AA 0),.h,.h,.int .i64 (AA 0),.bool false,.int .i64 (AA 0)];have ⟨j,e3,f3,a3⟩:=Y2 f2.y a2 ((HO nd).c (.h,.h,.h));have s3:∀J:H->AE,DO 13 U1.j 0 (.agg [.int .i64 (AA nd.A),.h,.bool nd.T.has,.bool nd.T.no,.bool nd.T.i9,.bool nd.T.I,.int .i64 nd.T.low,.int .i64 nd.T.high,.h,.h,.int .i64 (AA nd.W),.bool nd.I,.int .i64 (AA 0)]) U2 J=J j:=λJ=>by
  rw[Ed a2 rfl];show J (Gl U2 U1.j (.cells ((HO nd).c (.h,.h,.h))))=_;rw[e3]
 have le1:=f1.le;have le2:=f2.le;have le3:=f3.le;have lg:U1.j<U2.j:=a2.lt f2.y;have lx:=h.a.lt ht;have f03:Fr (λb=>U.j<=b) U j:=((f1.mono (λ_ _ h=>h.elim):Fr (λb=>U.j<=b) U U1).trans f2 (λ_ _ h=>h.elim)).trans f3 (λb _ e=>by omega);have a13:Bx j U.j (nd.c iv fv):=f3.X (f2.X a1 f1.y (λh=>h)) f2.y (by omega);have s:∀(g:H) (tgv:V),Fr (λb=>U.j<=b) U g->Bx g U1.j ((HO nd).c (tgv,.h,.h))->Bx g U.j (nd.c iv fv)->((tgv = .h/\J8 nd.A=[])\/∃tb,tgv = .D tb 0 1 (.ex 1)/\Bx g tb (SJ (J8 nd.A))/\(J8 nd.A).length=1/\U.j<=tb) ->
   ∃e' u f,AV E D Kf JQ [(0,.o xb 0),(2,.int .i64 (AA d)),(4,.o U.j 0),(7,.int .i64 (AA tl.length)),(8,.o U1.j 0)] g=some (e',f)/\Go.Og.look e' 0=some (.o xb 0)/\Go.Og.look e' 2=some (.int .i64 (AA d))/\Go.Og.look e' 4=some (.o U.j 0)/\Go.Og.look e' 7=some (.int .i64 (AA tl.length)) /\
   Mk U0 f xb m nv tv dv (tl++[HO nd]) u Q/\(∀b,AJ u b->AJ lv b\/U.j<b)/\Bx f U.j (nd.c iv fv)/\Fr (λb=>b=xb\/AJ lv b) U f:=by
  intro g tgv k a5 a15 htg;have h5:=h.Z k (λ_ h => .inl h) (λb e=>by have:=h.f.le;omega);have le05:=k.le;have ⟨e',u,f,g6,t0,t2,t4,t7,h6,m6,f6⟩:=h5.push (E:=E) (D:=D) (eb:=U.j) (dd:=AA d) (ii:=AA tl.length) hl a5 (htg.imp id λ⟨tb,x1,x2,x3,x4⟩=>⟨tb,x1,x2,x3,by omega,λe=>by have:=h.llt e;omega,λq=>by have:=hQ _ q;omega⟩) (by omega) (λe=>by have:=h.llt e;omega) (λb q=>by have:=hQ b q;omega);have ln:U.j<g.j:=a15.lt k.y;refine⟨e',u,f,g6,t0,t2,t4,t7,h6,λb hb=>(m6 b hb).imp id (λe=>by omega),f6.X a15 k.y (λe=>e.elim (by omega) (λe=>by have:=h.llt e;omega)),?_⟩;exact Fr.trans (k.mono λb hb e=>by omega) f6 (λb _ e=>e)
 have hx:=h.a;have hx1:=f1.X hx ht (λh=>h);unfold ZV at hx1
 have o:=a1
 unfold Ae.c at o e1
 have a3':=a3
 unfold HO Cu.c at a3'
 have sl1:∀J:Nat->AE,Ao lv J=J tl.length:=λJ=>h.len
 have d1:decide (16<d)=false:=decide_eq_false (by omega)
 have d2:decide (300<=tl.length)=false:=decide_eq_false (by omega)
 have p:∀J:List V->AE,FD [.int .i64 (AA nd.A),.N (BB nd.name),.bool nd.mHas,.int .i64 nd.mNum,.int .i64 (AA nd.mMode),.bool nd.T.has,.bool nd.T.no,.bool nd.T.i9,.bool nd.T.I,.int .i64 nd.T.low,.int .i64 nd.T.high,iv,fv,.int .i64 (AA nd.W),.bool nd.I,.int .i64 (AA nd.of_)] 5 6 J=J [.bool nd.T.has,.bool nd.T.no,.bool nd.T.i9,.bool nd.T.I,.int .i64 nd.T.low,.int .i64 nd.T.high]:=λJ=>by
  rw[E2 (by simp)];rfl
 have ak:Bx j U.j (nd.c iv fv):=a13
 unfold Ae.c at ak
 by_cases h9:nd.A=9
 ·have ⟨e',u,f,l⟩:=s j .h f03 a3 a13 (.inl ⟨rfl,by rw[h9];rfl⟩)
  refine⟨U1.j,j,e',u,f,λK1=>?_,l⟩
  have d9:decide (nd.A=9)=true:=decide_eq_true h9
  unfold YE
  simp only[↓rP,rA,AD,AG,AB,io,fo,↓e1,d1,↓AT hx1,↓sl1,d2,↓AT o,↓BU o,↓p,↓e2,↓s3,↓AT ak,d9]
 ·have gU:=hU j nd.A (by omega)
  have ⟨U4,e4,r,a4,n4⟩:=Fh f3.y [.int .i64 (AA 0),.int .i64 (AA (yK nd.A))]
  have a34:=r.X a3 f3.y (λh=>h)
  have ⟨g,g5,f5,a5⟩:=ZC (off:=1) (y := .D j.j 0 1 (.ex 1)) r.y a34 rfl (show 1<13 by decide)
  have a5:Bx g U1.j ((HO nd).c (.D j.j 0 1 (.ex 1),.h,.h)):=a5
  have le4:=r.le
  have lt4:j.j<U4.j:=a4.lt r.y
  have a45:=f5.X a4 r.y (by omega)
  have etg:J8 nd.A=[(0,yK nd.A)]:=by
   rcases hk with e|e|e
   ·rw[e];rfl
   ·rw[e];rfl
   ·exact absurd e h9
  have ⟨e',u,f,l⟩:=s g (.D j.j 0 1 (.ex 1)) ((f03.trans r (λ_ _ h=>h.elim)).trans f5 (λb _ e=>by omega)) a5 (f5.X (r.X a13 f3.y (λh=>h)) r.y (by omega)) (.inr ⟨_,rfl,by rw[etg];exact a45,by rw[etg];rfl,by omega⟩)
  refine⟨U1.j,g,e',u,f,λK1=>?_,l⟩
  have d9:decide (nd.A=9)=false:=decide_eq_false h9
  unfold YE
  simp only[↓rP,rA,AD,AG,AB,io,fo,↓e1,d1,↓AT hx1,↓sl1,d2,↓AT o,↓BU o,↓p,↓e2,↓s3,↓AT ak,d9,↓gU,↓e4,↓g5]
theorem gQ{m T}(hU:jB (D 121))(hIt:NC (D 123))(hFd:LJ m T (D 124)):NB m (H6 m T) (F69 E D (AV E D) N):=by
 intro U0 U xb nv tv dv lv iv fv tl tl' d i nd Q ht0 hs0 h hQ hd hi hf hib hfb n;have io:=hi.S;have fo:=hf.S;have ht:=h.ht;unfold H6 at n;cases hgd:(decide (d<=16)&&decide (tl.length<300))with
 | false=>rw[hgd]at n;cases n | true=>
  rw[hgd]at n;simp at hgd;have ⟨hd16,hl⟩:=hgd;dsimp only at n;have y:=λhk=>lD (E:=E) (nd:=nd) hU h hQ hd16 hl hk io fo;have F_eq:F69 E D (AV E D) N [.o xb 0,.agg (nd.c iv fv),.int .i64 (AA d)] U=YE E D (AV E D) (YD E D (AV E D) (YC E D (AV E D) (Qn E D (AV E D)) (ACo E D (AV E D) (Qn E D (AV E D))) (iG E D (AV E D) (Qn E D (AV E D))))) xb 0 (AA nd.A) (BB nd.name) nd.mHas nd.mNum (AA nd.mMode) nd.T.has nd.T.no nd.T.i9 nd.T.I nd.T.low nd.T.high iv fv (AA nd.W) nd.I (AA nd.of_) (AA d) U:=rfl;have hxb:=h.x0;have hlx:=h.lx;split at n
  ·rename_i hk
   cases n;have ⟨gb,U5,e',u,U6,p,g6,t0,t2,t4,t7,h6,mu,j,o⟩:=y (.inr (.inl hk));have gd:∀J:CF->H->AE,CM (AV E D Kf JQ [(0,.o xb 0),(2,.int .i64 (AA d)),(4,.o U.j 0),(7,.int .i64 (AA tl.length)),(8,.o gb 0)] U5) J=J e' U6:=λJ=>by rw[g6];rfl
   have m0:∀J:V->AE,Bj e' 0 J=J (.o xb 0):=λJ=>Bc t0 rfl;have m2:∀J:V->AE,Bj e' 2 J=J (.int .i64 (AA d)):=λJ=>Bc t2 rfl;have m4:∀J:V->AE,Bj e' 4 J=J (.o U.j 0):=λJ=>Bc t4 rfl;have m7:∀J:V->AE,Bj e' 7 J=J (.int .i64 (AA tl.length)):=λJ=>Bc t7 rfl;refine⟨u,U6,?_,h6,λb r=>(mu b r).imp id Nat.le_of_lt,o⟩;rw[F_eq,p];unfold Ae.c at j;simp only[hk]at j;unfold YD YC iG Qn;simp only[↓rP,rA,AD,AG,AB,↓gd,↓m0,↓m2,↓m4,↓m7,↓AT j]
  ·rename_i hk
   split at n
   ·rename_i hc
    have ⟨hok,hr,hl9⟩:=hc;cases n;have ⟨gb,U5,e',u,U6,p,g6,t0,t2,t4,t7,h6,mu,j,o⟩:=y (.inl hk);have gd:∀J:CF->H->AE,CM (AV E D Kf JQ [(0,.o xb 0),(2,.int .i64 (AA d)),(4,.o U.j 0),(7,.int .i64 (AA tl.length)),(8,.o gb 0)] U5) J=J e' U6:=λJ=>by rw[g6];rfl
    have m0:∀J:V->AE,Bj e' 0 J=J (.o xb 0):=λJ=>Bc t0 rfl;have m2:∀J:V->AE,Bj e' 2 J=J (.int .i64 (AA d)):=λJ=>Bc t2 rfl;have m4:∀J:V->AE,Bj e' 4 J=J (.o U.j 0):=λJ=>Bc t4 rfl;have m7:∀J:V->AE,Bj e' 7 J=J (.int .i64 (AA tl.length)):=λJ=>Bc t7 rfl;have le06:=o.le;have e6:(tl++[HO nd])[tl.length]? = some (HO nd):=by simp
    have i6:Cv U6 3 nd.R.length iv (JE nd.R):=hi.Z o ht (λb r e=>e.elim (λe=>by have:=hib b r;omega) (λe=>by have:=hib b r;have:=(hlx b e).2.1;omega));have w:∀b,AJ u b->AJ lv b\/U.j<=b:=λb r=>(mu b r).imp id Nat.le_of_lt;have ⟨e2,U7,g7,t77,h7,f7⟩:=lH (E:=E) (D:=D) hIt h6 (λb q=>by have:=hQ b q;omega) j (λe=>(mu _ e).elim (λe=>by have:=h.llt e;omega) (Dp _)) e6 i6 fo (JX hf) (JX hi) hok hr hl9;have gd2:∀J:CF->H->AE,CM (AV E D TN Ov [(0,.o xb 0),(4,.o U.j 0),(7,.int .i64 (AA tl.length))] U6) J=J e2 U7:=λJ=>by rw[g7];rfl
    have m77:∀J:V->AE,Bj e2 7 J=J (.int .i64 (AA tl.length)):=λJ=>Bc t77 rfl;refine⟨u,U7,?_,?_,w,o.trans f7 (λb r e=>(w b e).elim .inr (λe=>by omega))⟩
    ·rw[F_eq,p]
     unfold Ae.c at j;simp only[hk]at j;unfold YD YC Qn;simp only[↓rP,rA,AD,AG,AB,↓gd,↓m0,↓m2,↓m4,↓m7,↓AT j,↓gd2,↓m77]
    ·rw[Kv _ _ (AL _),Ec]at h7
     exact h7
   ·cases n
  ·rename_i hk
   have ⟨⟨fs',tl7⟩,hfs,n⟩:=AU.1 n;dsimp only at n;cases ht7:tl7[tl.length]? with
   | none=>rw[ht7]at n;cases n | some t=>
    rw[ht7]at n;dsimp only at n;split at n
    ·rename_i hok
     cases n;have ⟨k1,k2,k3,k4,k5,tgs,k6⟩:=hok;have ⟨gb,U5,e',u,U6,p,g6,t0,t2,t4,t7,h6,mu,j,o⟩:=y (.inr (.inr hk));have gd:∀J:CF->H->AE,CM (AV E D Kf JQ [(0,.o xb 0),(2,.int .i64 (AA d)),(4,.o U.j 0),(7,.int .i64 (AA tl.length)),(8,.o gb 0)] U5) J=J e' U6:=λJ=>by rw[g6];rfl
     have m0:∀J:V->AE,Bj e' 0 J=J (.o xb 0):=λJ=>Bc t0 rfl;have m2:∀J:V->AE,Bj e' 2 J=J (.int .i64 (AA d)):=λJ=>Bc t2 rfl;have m4:∀J:V->AE,Bj e' 4 J=J (.o U.j 0):=λJ=>Bc t4 rfl;have m7:∀J:V->AE,Bj e' 7 J=J (.int .i64 (AA tl.length)):=λJ=>Bc t7 rfl;have le06:=o.le;have i6:Cv U6 11 nd.K.length fv (Ie nd.K):=hf.Z o ht (λb r e=>e.elim (λe=>by have:=hfb b r;omega) (λe=>by have:=hfb b r;have:=(hlx b e).2.1;omega));have ⟨lv7,U7,g7,h7,m7',f7⟩:=hFd ht0 hs0 h6 (λb q=>by have:=hQ b q;omega) (by omega) io i6 hfb k1 k2 k3 k4 hfs ht7 k5 k6;have w:∀b,AJ u b->AJ lv b\/U.j<=b:=λb r=>(mu b r).imp id Nat.le_of_lt;refine⟨lv7,U7,?_,h7,λb r=>(m7' b r).elim (w b) (λe => .inr (by omega)),o.trans f7 (λb r e=>e.imp id (λe=>(w b e).elim id (λe=>by omega)))⟩;rw[F_eq,p];unfold Ae.c at j g7;have sub16:∀J:List V->AE,FD [.int .i64 (AA nd.A),.N (BB nd.name),.bool nd.mHas,.int .i64 nd.mNum,.int .i64 (AA nd.mMode),.bool nd.T.has,.bool nd.T.no,.bool nd.T.i9,.bool nd.T.I,.int .i64 nd.T.low,.int .i64 nd.T.high,iv,fv,.int .i64 (AA nd.W),.bool nd.I,.int .i64 (AA nd.of_)] 0 16 J=J [.int .i64 (AA nd.A),.N (BB nd.name),.bool nd.mHas,.int .i64 nd.mNum,.int .i64 (AA nd.mMode),.bool nd.T.has,.bool nd.T.no,.bool nd.T.i9,.bool nd.T.I,.int .i64 nd.T.low,.int .i64 nd.T.high,iv,fv,.int .i64 (AA nd.W),.bool nd.I,.int .i64 (AA nd.of_)]:=λJ=>by
      rw[E2 (by simp)];rfl
     simp only[hk]at j g7 sub16;unfold YD YC iG Qn;simp only[↓rP,rA,AD,AG,AB,↓gd,↓m0,↓m2,↓m4,↓m7,↓AT j,↓BU j,↓sub16,↓g7]
    ·cases n
  ·cases n
end
def Mh(m:Cs)(M:AAP):MT:=λd k tl=>match m.ns[k]? with
 | none=>none
 | some nd=>match decide (nd.A=11)with
  | true=>none
  | false=>(M d nd tl).bind λr=>match nd.mHas with
   | false=>some r
   | true=>match r.2[r.1]? with
    | none=>none
    | some t=>match decide (t.wn.length=1)&&(decide (0<=nd.mNum)&&decide (nd.mNum<=268435456))with
     | false=>none
     | true=>some (r.1,r.2.set r.1 { t with wn:=Wh nd.mNum.toNat (Sg m nd) t.wn })
def Fg(m:Cs):Nat->MT
 | 0=>λ_ _ _=>none
 | q+1=>Mh m (H6 m (Fg m q))
section
variable {E:EB}{D:Ac}{N:Nat}
theorem gJ {m:Cs} {M} (hM:NB m M (D 69)) (hS:VM m (D 70)) (hW:VL m (D 71)):Ii m (Mh m M) (F35 E D (AV E D) N):=by
 intro U0 U xb nv tv dv lv tl tl' d k i Q v hs0 h hQ hd o;unfold Mh at o;cases hn:m.ns[k]? with
 | none=>rw[hn]at o;cases o | some nd=>
  rw[hn]at o;dsimp only at o;cases h11:decide (nd.A=11)with
  | true=>rw[h11]at o;cases o | false=>
   rw[h11]at o;have ⟨⟨i3,tl3⟩,hs3,o⟩:=AU.1 o;dsimp only at o;have ht:=h.ht;have ⟨iv,fv,rd0,hi,hf⟩:=hs0.nd2 v hn;have rd:=rd0 U h.f E;have ⟨U1,e1,f1,a1,n1⟩:=Fh ht [.int .i64 (AA 0),.N ⟨0,0⟩,.bool false,.int .i64 (AA 0),.int .i64 (AA 0),.bool false,.bool false,.bool false,.bool false,.int .i64 (AA 0),.int .i64 (AA 0),.h,.h,.int .i64 (AA 0),.bool false,.int .i64 (AA 0)];have ⟨U2,e2,f2,a2⟩:=Y2 f1.y a1 (nd.c iv fv);have ho:BH (nd.c iv fv)=true:=by
    unfold Ae.c;simp only[Bg,CE,G3,FZ,G7,hi.S,hf.S,Bz]
   have s2:∀J,DO 16 U.j 0 (.agg (nd.c iv fv)) U1 J=J U2:=λJ=>by
    rw[Ed a1 (by
     rw[Dr,ho,PF];rfl),Dr]
    show J (Gl U1 U.j (.cells (nd.c iv fv)))=_;rw[e2]
   have f02:Fr (λb=>U.j<=b) U U2:=(f1.mono (λ_ _ h=>h.elim):Fr (λb=>U.j<=b) U U1).trans f2 (λb _ e=>by omega);have h2:=h.Z f02 (λ_ h => .inl h) (λb e=>by have:=h.f.le;omega);have le:=f02.le;have ⟨lv',U3,g3,h3,m3,f3⟩:=hM v hs0 h2 (λb q=>by have:=hQ b q;omega) hd (hi.Z h2.f v (λ_ _ e=>e)) (hf.Z h2.f v (λ_ _ e=>e)) (λb hb=>hi.lt v hb) (λb hb=>hf.lt v hb) hs3;have lx:=h.a.lt ht;have a3:=f3.X a2 f2.y (λe=>e.elim (by omega) (λe=>by have:=h.llt e;omega));have hx:=h.a;have u:=h3.a;have m03:∀b,AJ lv' b->AJ lv b\/U.j<=b:=λb hb=>(m3 b hb).imp id (λh=>by omega);have f03:Fr (λb=>b=xb\/AJ lv b) U U3:=Fr.trans (f02.mono λb hb e=>by omega) f3 (λb _ e=>e);unfold ZV at hx u;unfold Ae.c at rd s2 a2 a3 g3;have sub:∀J:List V->AE,FD [.int .i64 (AA nd.A),.N (BB nd.name),.bool nd.mHas,.int .i64 nd.mNum,.int .i64 (AA nd.mMode),.bool nd.T.has,.bool nd.T.no,.bool nd.T.i9,.bool nd.T.I,.int .i64 nd.T.low,.int .i64 nd.T.high,iv,fv,.int .i64 (AA nd.W),.bool nd.I,.int .i64 (AA nd.of_)] 0 16 J=J [.int .i64 (AA nd.A),.N (BB nd.name),.bool nd.mHas,.int .i64 nd.mNum,.int .i64 (AA nd.mMode),.bool nd.T.has,.bool nd.T.no,.bool nd.T.i9,.bool nd.T.I,.int .i64 nd.T.low,.int .i64 nd.T.high,iv,fv,.int .i64 (AA nd.W),.bool nd.I,.int .i64 (AA nd.of_)]:=λJ=>by
    rw[E2 (by simp)];rfl
   have key:∀K1,iS E D (AV E D) K1 xb 0 (AA k) (AA d) U=K1 xb 0 U.j 0 (AA i3) U3:=by
    intro K1;unfold iS;simp only[↓rP,rA,AD,AG,AB,↓AT hx,↓rd,↓e1,↓s2,↓AT a2,h11,↓BU a2,↓sub,↓g3]
   show ∃lv' U',iS E D (AV E D) (Qu E D (AV E D) (Ol E D (AV E D)) (S8 E D (AV E D) (Ol E D (AV E D)))) xb 0 (AA k) (AA d) U=_/\_;rw[key];cases hm:nd.mHas with
   | false=>
    rw[hm]at o;cases o;refine⟨lv',U3,?_,h3,m03,f03⟩;rw[hm]at a3;unfold Qu Ol;simp only[↓rP,rA,AD,AG,AB,↓AT u,↓AT a3]
   | true=>
    rw[hm]at o;dsimp only at o;cases ht3:tl3[i3]? with
    | none=>rw[ht3]at o;cases o | some t=>
     rw[ht3]at o;dsimp only at o;cases hc:(decide (t.wn.length=1)&&(decide (0<=nd.mNum)&&decide (nd.mNum<=268435456)))with
     | false=>rw[hc]at o;cases o | true=>
      rw[hc]at o;cases o;simp at hc;have ⟨h1,n0,n1'⟩:=hc;have ⟨n,hn'⟩:∃n:Nat,nd.mNum=AA n:=⟨nd.mNum.toNat,(Int.toNat_of_nonneg n0).symm⟩;have hQ3:∀b,Q b->b<U3.j:=λb q=>by have:=hQ b q;have:=f03.le;omega
      have ⟨U4,p,h4,f4⟩:=hW (n:=n) (Sg m nd) h3 hQ3 ht3 h1 (by rw[hn']at n1';simp at n1';omega);have gs:=hS h3 ht3 h1;have hnt:nd.mNum.toNat=n:=by rw[hn'];rfl
      refine⟨lv',U4,?_,by rw[hnt];exact h4,m03,f03.trans f4 (λb hb e=>(m03 b e).elim .inr (λh=>by omega))⟩;rw[hm,hn']at a3;unfold Sg at p;cases s:decide (nd.mMode=2)with
      | true=>
       rw[s]at p;have p:D 71 [.o xb 0,.int .i64 (AA i),.int .i64 (AA n),.int .i64 (AA 1)] U3=some (.B [],U4):=p;unfold Qu S8 Ol;simp only[↓rP,rA,AD,AG,AB,↓AT u,↓AT a3,s,↓p]
      | false=>
       rw[s,Fc]at p;cases w:decide (nd.mMode=0)with
       | false=>
        rw[w,Bool.false_and]at p;have p:D 71 [.o xb 0,.int .i64 (AA i),.int .i64 (AA n),.int .i64 (AA 0)] U3=some (.B [],U4):=p;unfold Qu S8 Ol;simp only[↓rP,rA,AD,AG,AB,↓AT u,↓AT a3,s,w,↓p]
       | true=>
        rw[w,EX]at p;cases y:decide (m.tg=0)with
        | true=>
         rw[y]at p;have p:D 71 [.o xb 0,.int .i64 (AA i),.int .i64 (AA n),.int .i64 (AA 0)] U3=some (.B [],U4):=p;unfold Qu S8 Ol;simp only[↓rP,rA,AD,AG,AB,↓AT u,↓AT a3,s,w,y,↓p]
        | false=>
         rw[y]at p;have p:D 71 [.o xb 0,.int .i64 (AA i),.int .i64 (AA n),.int .i64 (AA 1)] U3=some (.B [],U4):=p;unfold Qu S8 Ol;simp only[↓rP,rA,AD,AG,AB,↓AT u,↓AT a3,s,w,y,↓gs,↓p]
end
def qo:ABq:=⟨false,false,false,false,0,0⟩
def FL(e:En):Cu:=⟨4,[(2,e.2.2)],qo,[],[],0,false,0⟩
def Hw(l:List En)(r:Nat):Cu:=⟨9,[],qo,[],Ea 1 l,r,true,0⟩
def Wm(l:List En)(r:Nat):Cu:=⟨3,[(0,10)],qo,(l.map H8).map O2,[],r,true,0⟩
def Ry(l:List En)(r:Nat)(l':List En)(a:Nat):List Cu:=Hw l r::(l.map FL++[Wm l' a])
theorem Wn(l:List En) r l' b:(Ry l r l' b).length=l.length+2:=by grind [Ry]
theorem AKk{e e':En}{l m l' m':List En}(n:l.length+m.length<100):LR (ucM e l m e' l' m'):=by
 refine⟨λnd h=>?_,⟨?_,show 2<=40 by decide⟩,rfl,λi j=>?_⟩
 ·have h:nd=SG e l m\/nd=kU e' l' m'\/∃x:En,nd=LY x.2.2:=by
   rcases A0.1 h with h|h
   ·exact .inl h
   ·rcases CN.1 h with h|h
    ·have ⟨x,_,e⟩:=Fb.1 h
     exact .inr (.inr ⟨x,e.symm⟩)
    ·exact .inr (.inl (B5.1 h))
  rcases h with rfl|rfl|⟨x,rfl⟩
  ·refine⟨show 9≠11 by decide,show 9<=10 by decide,?_⟩
   show (Ea 1 (e::l++m)).length<=5000;rw[GU];simp;omega
  ·exact⟨show 3≠11 by decide,show 3<=10 by decide,show 0<=5000 by decide⟩
  ·exact⟨show 4≠11 by decide,show 4<=10 by decide,show 0<=5000 by decide⟩
 ·show (SG e l m::Mx (e::l++m)++[kU e' l' m']).length<=300
  unfold Mx;simp;omega
 ·have j:i<2:=j
  have:i=0\/i=1:=by omega
  rcases this with rfl|rfl<;>rfl
theorem yN {m:Cs} {k n d} {tl:List Cu} (p:m.ns[k]? = some (LY n)) (u:m.tg=1) (w:n<100) (r:d<=16) (q:tl.length<300):Fg m 1 d k tl=some (tl.length,tl++[⟨4,[(2,n)],qo,[],[],0,false,0⟩]):=by
  show Mh m (H6 m (Fg m 0)) d k tl=_;unfold Mh;rw[p];dsimp only;have l:decide ((LY n).A=11)=false:=rfl;have s:H6 m (Fg m 0) d (LY n) tl=some (tl.length,tl++[HO (LY n)]):=by
    unfold H6;rw[decide_eq_true r,decide_eq_true q];rfl
  rw[l,s];show (match (tl++[HO (LY n)])[tl.length]? with
        | none=>none | some t=>match decide (t.wn.length=1)&&(decide (0<=AA n)&&decide (AA n<=268435456))with
          | false=>none | true=>some (tl.length,(tl++[HO (LY n)]).set tl.length { t with wn:=Wh (AA n).toNat (Sg m (LY n)) t.wn }))=_
  have e:(tl++[HO (LY n)])[tl.length]? = some (HO (LY n)):=by simp
  rw[e];dsimp only;have c:(decide ((HO (LY n)).wn.length=1)&&(decide (0<=AA n)&&decide (AA n<=268435456)))=true:=by
    simp only[AQ,decide_eq_true_eq,Int.ofNat_eq_natCast];exact⟨rfl,by omega,by omega⟩
  rw[c];dsimp only;rw[Kv _ _ (AL _),Ec];have o:Sg m (LY n)=true:=by
    unfold Sg;rw[u];rfl
  rw[o];rfl
theorem Pf{m:Cs}(p:m.tg=1):∀(l:List En) i (tl:List Cu),(∀j (x:En),l[j]? = some x->m.ns[i+j]? = some (LY x.2.2))->(∀x∈l,Dm x)->tl.length=i->i+l.length<300->Ic (Fg m 1) 0 (Ea i l) tl=some (Ea i l,tl++l.map FL)
 | [],i,tl,_,_,_,_=>by simp[Ea,Ic]
 | x::l,i,tl,h,c,o,t=>by
  have A:=yN (d:=0+1) (tl:=tl) (h 0 x rfl) p (c x AZ).2.2 (by decide) (by simp at t;omega);have C:=Pf p l (i+1) (tl++[FL x]) (λj y z=>by
   have:=h (j+1) y (by simpa using z);rwa [show i+(j+1)=i+1+j by omega]at this) (λy w=>c y (Az _ w)) (by rw[AP,o];rfl) (by simp at t;omega)
  show ((Fg m 1 (0+1) (i+0) tl).bind λr=>(Ic (Fg m 1) 0 (Ea (i+1) l) r.2).map λq=>(({ name:=uN x,type:=r.1,opt:=false,group:=0 }:BW)::q.1,q.2))=_;rw[A,Bk];dsimp only;rw[show (⟨4,[(2,x.2.2)],qo,[],[],0,false,0⟩:Cu)=FL x from rfl,C,o];show some ((⟨uN x,i,false,0⟩:BW)::Ea (i+1) l,(tl++[FL x])++l.map FL)=_;rw[BC];rfl
structure ADG(l:List En):Prop where
 ok:∀e∈l,Dm e/\e.2.1<12
 pw:l.Pairwise λe f=>(e.1,e.2.1)≠(f.1,f.2.1)
 nd:(l.map λe=>e.2.2).Nodup
theorem oP{e e'}{l m l' m':List En}(hn:l.length+m.length<100)(h:ADG (e::l++m))(hi:mY ((e'::l'++m').map H8) (l'.length+1))(G:(e'::l'++m').length<=900):Lv (Fg (ucM e l m e' l' m') 2) (ucM e l m e' l' m').ks [] []=some ([0,(e::l++m).length+1],Ry (e::l++m) (l.length+1) (e'::l'++m') (l'.length+1)):=by
 have ⟨a,n⟩:∃a,a=e::l++m:=⟨_,rfl⟩;have v:a.length=l.length+m.length+1:=by rw[n];simp
 have ⟨M,B⟩:∃M,M=ucM e l m e' l' m':=⟨_,rfl⟩;have q:M.ns=SG e l m::Mx a++[kU e' l' m']:=by rw[B,n];rfl
 have D:M.ks=[0,a.length+1]:=by rw[B,n];rfl
 have z:M.tg=1:=by rw[B];rfl
 have I:(Mx a).length=a.length:=by unfold Mx;rw[Bp]
 have gn:∀j (x:En),a[j]? = some x->M.ns[1+j]? = some (LY x.2.2):=λj x P=>by
  have hjl:=(AN.1 P).1;rw[q,show 1+j=j+1 by omega,D9,Bh,CH (by omega)];unfold Mx;rw[As,P];rfl
 have O:SG e l m=⟨9,[],false,0,0,⟨false,false,false,false,0,0⟩,[],Ea 1 a,l.length+1,true,0⟩:=by rw[n];rfl
 have fs:=Pf z a 1 [HO (SG e l m)] gn (λx u=>(h.ok x (by rw[<-n];exact u)).1) rfl (by omega);have n0:M.ns[0]? = some (SG e l m):=by rw[q];rfl
 have n1:M.ns[a.length+1]? = some (kU e' l' m'):=by
  rw[q,D9,Bh,Aw (by omega),I,Ec];rfl
 have q0:Fg M 2 0 0 []=some (0,Hw a (l.length+1)::a.map FL):=by
  show Mh M (H6 M (Fg M 1)) 0 0 []=_;unfold Mh;rw[n0];show ((H6 M (Fg M 1) 0 (SG e l m) []).bind λr=>some r)=_;have J:H6 M (Fg M 1) 0 (SG e l m) []=some (0,Hw a (l.length+1)::a.map FL):=by
   show ((Ic (Fg M 1) 0 (SG e l m).K [HO (SG e l m)]).bind λr=>match r.2[0]? with
    | none=>none | some t=>@ite _ (ti M (SG e l m) 0 t r.1 r.2) (Classical.propDecidable _) (some (0,r.2.set 0 { t with K:=r.1 })) none)=_
   rw[show (SG e l m).K=Ea 1 a by rw[O],fs,Bk];show @ite _ (ti M (SG e l m) 0 (HO (SG e l m)) (Ea 1 a) ([HO (SG e l m)]++a.map FL)) (Classical.propDecidable _) (some (0,Hw a (l.length+1)::a.map FL)) none=_;have F:(SG e l m).K=Ea 1 a:=by rw[O]
   rw[if_pos];refine⟨by rw[z];decide,λL=>?_,?_,?_,show 9≠7 by decide,a.map λx=>(2,x.2.2),?_,λk f tg hf N=>?_,?_,?_⟩
   ·rw[F]at L
    have:=congrArg Rw L;rw[GU]at this;simp at this;rw[this]at v;simp at v
   ·rw[F]
    exact Ze (λx u=>h.ok x (by rw[<-n];exact u)) (by rw[n];exact h.pw) 1
   ·rw[F,GU];omega
   ·rw[GU,Bp]
   ·obtain⟨x,u,rfl⟩:=KP _ _ _ _ hf
    rw[As,u]at N;cases N;refine⟨FL x,?_,show 4≠9 by decide,rfl⟩;show (({ HO (SG e l m)with K:=Ea 1 a }:Cu)::a.map FL)[1+k]? = _;rw[show 1+k=k+1 by omega,Bh,As,u];rfl
   ·have y:=h.nd
    rw[<-n]at y;have:=E6.1 y;exact E6.2 (this.imp λC e=>C (by injection e))
   ·rw[GU];omega
  rw[J];rfl
 have w:(Hw a (l.length+1)::a.map FL).length=a.length+1:=by simp
 have q1:Fg M 2 0 (a.length+1) (Hw a (l.length+1)::a.map FL)=some (a.length+1,Ry a (l.length+1) (e'::l'++m') (l'.length+1)):=by
  show Mh M (H6 M (Fg M 1)) 0 (a.length+1) _=_;unfold Mh;rw[n1];show ((H6 M (Fg M 1) 0 (kU e' l' m') (Hw a (l.length+1)::a.map FL)).bind λr=>some r)=_;have J:H6 M (Fg M 1) 0 (kU e' l' m') (Hw a (l.length+1)::a.map FL)=some (a.length+1,Ry a (l.length+1) (e'::l'++m') (l'.length+1)):=by
   have d1:decide ((Hw a (l.length+1)::a.map FL).length<300)=true:=decide_eq_true (by rw[w];omega);unfold H6;rw[d1];show @ite _ (mY (kU e' l' m').R (kU e' l' m').W/\(kU e' l' m').W<=(kU e' l' m').R.length/\(kU e' l' m').R.length<=900) (Classical.propDecidable _) (some ((Hw a (l.length+1)::a.map FL).length,(Hw a (l.length+1)::a.map FL)++[Wm (e'::l'++m') (l'.length+1)])) none=_;rw[if_pos,w]
   ·rfl
   ·refine⟨hi,?_,?_⟩
    ·show l'.length+1<=((e'::l'++m').map H8).length
     rw[Bp];simp only[Ag,AP,D9];omega
    ·show ((e'::l'++m').map H8).length<=900
     rw[Bp];exact G
  rw[J];rfl
 rw[<-B,<-n,D];show (Fg M 2 0 0 []).bind (λr=>Lv (Fg M 2) [a.length+1] r.2 ([]++[r.1]))=_;rw[q0,Bk];show (Fg M 2 0 (a.length+1) (Hw a (l.length+1)::a.map FL)).bind (λr=>Lv (Fg M 2) [] r.2 ([]++[0]++[r.1]))=_;rw[q1];rfl
theorem fK:∀tl a i (t:Cu) w,tl[i]? = some t->a[i]? = some w->((EF tl a).drop (i*13)).take 13=t.c w
 | [],_,i,t,w,h,_=>by simp at h
 | _::_,[],i,t,w,_,h=>by simp at h
 | x::tl,y::a,0,t,w,h,e=>by simp at h e;subst h;subst e;rfl
 | x::tl,y::a,i+1,t,w,h,e=>by
  have h:tl[i]? = some t:=by simpa using h
  have e:a[i]? = some w:=by simpa using e
  show ((x.c y++EF tl a).drop ((i+1)*13)).take 13=_;rw[show (i+1)*13=13+i*13 by omega,<-Cd,show (x.c y++EF tl a).drop 13=EF tl a from rfl];exact fK tl a i t w h e
theorem X7.one4{n0 U d e tl}{u b c:V}(h:X7 n0 U d e tl u b c):u.S=true/\b.S=true/\c.S=true:=by
 have ⟨f,h1,_⟩:=h.t;exact⟨h.n.S,h.r.S,h1.S⟩
structure Zy(U:H)(x:Ty)(t:Cu):Prop where
 wn:X6 U t.wn x.wn
 A:x.A=AA t.A
 has:x.has=t.T.has
 no:x.no=t.T.no
 i9:x.i9=t.T.i9
 conMore:x.conMore=t.T.I
 low:x.low=t.T.low
 high:x.high=t.T.high
 W:x.W=AA t.W
 I:x.I=t.I
 of_:x.of_=AA t.of_
 R:Cv U 3 t.R.length x.R (JE t.R)
 K:Cv U 11 t.K.length x.K (Ie t.K)
def tyZ:Ty:=⟨0,.h,false,false,false,false,0,0,.h,.h,0,false,0,rfl,rfl,rfl⟩
theorem X7.rows{n0 U I B}{tl:List Cu}{u A z}(h:X7 n0 U I B tl u A z):
  ∃ty:Nat->Ty,MY U 13 tl.length z (λi=>(ty i).c)/\∀i (t:Cu),tl[i]? = some t->Zy U (ty i) t:=by
 have ⟨m,h1,N,F⟩:=h.t;have H:∀i:Nat,∃x,∀(t:Cu) (w:V × V × V),tl[i]? = some t->m[i]? = some w->x.c=t.c w/\Zy U x t:=by
  intro i;cases n:tl[i]? with
  | none=>exact⟨tyZ,λt w e=>by cases e⟩ | some t=>
   have s:=(AN.1 n).1;have ⟨w,q⟩:∃w,m[i]? = some w:=⟨m[i],AI (by omega)⟩;have ⟨a,b,c,_⟩:=F i t w n q;refine⟨⟨AA t.A,w.1,t.T.has,t.T.no,t.T.i9,t.T.I,t.T.low,t.T.high,w.2.1,w.2.2,AA t.W,t.I,AA t.of_,a.S,b.S,c.S⟩,λt' w' e e'=>?_⟩;cases e;rw[q]at e';cases e';exact⟨rfl,a,rfl,rfl,rfl,rfl,rfl,rfl,rfl,rfl,rfl,rfl,b,c⟩
 refine⟨λi=>(H i).choose,?_,λi t n=>?_⟩
 ·have p:=h.z
  rcases h1 with ⟨E,e,_⟩|⟨b,o,c,L,e,D,C,y⟩
  ·rw[E,e];exact⟨.inl ⟨rfl,rfl⟩⟩
  ·rcases p with p|⟨M,J,K,p⟩
   ·rw[e]at p;cases p
   ·rw[e]at p;cases p
    rw[e];rw[E7]at y;refine⟨.inr ⟨b,c,L,rfl,D,λk G=>⟨by omega,?_⟩⟩⟩;have ⟨t,n⟩:∃t,tl[k]? = some t:=⟨tl[k],AI G⟩;have ⟨w,q⟩:∃w,m[k]? = some w:=⟨m[k],AI (by omega)⟩;have:=fK tl m k t w n q;rw[y,Wb,List.take_take,Ha (by omega)]at this;rw[this];exact((H k).choose_spec t w n q).1.symm
 ·have s:i<tl.length:=(AN.1 n).1
  have ⟨w,q⟩:∃w,m[i]? = some w:=⟨m[i],AI (by omega)⟩;exact((H i).choose_spec t w n q).2
structure RwS(U:H)(esz n:Nat)(v:V)(g:Nat->List V):Prop where
 s:∃m,Cv U esz n v m/\∀k,k<n->(m.drop (k*esz)).take esz=g k
section
variable {U U':H}{esz n:Nat}{v:V}{g:Nat->List V}
theorem RwS.el(h:RwS U esz n v g){k}(t:k<n):∃b o c L,v = .D b o n c/\Bx U b L/\∀j w,j<esz->(g k)[j]? = some w->L[o+k*esz+j]? = some w:=by
 have ⟨m,s,c⟩:=h.s;rcases s with ⟨B,_⟩|⟨b,o,x,L,e,y,A,z⟩
 ·omega
 ·refine⟨b,o,x,L,e,y,λj w u p=>?_⟩
  rw[<-c k t,CQ u,B6,z]at p;have r:k*esz+esz<=n*esz:=by rw[<-Nat.succ_mul];exact Fm _ t
  rw[CQ (by omega),B6]at p;rw[D4];exact p
end
def AUN(f:BW):Fd:=⟨BB f.name,AA f.type,f.opt,false,AA 0,AA 0,.h,.h,AA 0,.h,AA f.group,rfl,rfl,rfl⟩
theorem AEf{U}{a:List BW}{v}(h:Cv U 11 a.length v (Ie a)):RwS U 11 a.length v λk=>(AUN (a.getD k ⟨[],0,false,0⟩)).c:=by
 refine⟨_,h,λk d=>?_⟩;have e:a[k]? = some (a.getD k ⟨[],0,false,0⟩):=by rw[BK,AI d];rfl
 rw[Mw a k _ e];rfl
def PS(F:List V->H->AE):Prop:=∀{U c i}{ty:Nat->Ty}{nm}{a b d:V},Ai U->MY U 13 c d (λi=>(ty i).c)->a.S=true->b.S=true->i<c->∃U',F [.agg [.N nm,a,b,d],.int .i64 (AA i)] U=some (.agg (ty i).c,U')/\Fr AH U U'
structure PQ(U:H)(ty:Nat->Ty)(nv rv tv:V)(tl:List Cu):Prop where
 tb:Tb U tl.length ty nv rv tv
 is:∀(i:Nat) (t:Cu),tl[i]? = some t->Zy U (ty i) t
 bq:V.beq nv nv=true/\V.beq rv rv=true/\V.beq tv tv=true
theorem Ls{v}(h:Shp v):V.beq v v=true:=by
 rcases h with rfl|⟨b,o,n,c,rfl⟩
 ·exact Be _ rfl
 ·cases c<;>exact Be _ rfl
theorem Zy.fr0{U U' x t}(h:Zy U x t)(f:Fr AH U U')(a:Ai U):Zy U' x t:={ h with wn:=h.wn.Z f a (λ_ _ e=>e),R:=h.R.Z f a (λ_ _ e=>e),K:=h.K.Z f a (λ_ _ e=>e) }
theorem PQ.Z{U U' ty c b a tl}(h:PQ U ty c b a tl)(f:Fr AH U U')(d:Ai U):PQ U' ty c b a tl:=⟨h.tb.Z f d,λi t e=>(h.is i t e).fr0 f d,h.bq⟩
theorem X7.uct{n0 U j g tl u e f}(h:X7 n0 U j g tl u e f):∃ty,PQ U ty u e f tl:=by
 have ⟨ty,h1,k⟩:=h.rows;have ⟨a,b,c⟩:=h.one4;have ⟨l,i,_⟩:=h.t;exact⟨ty,⟨h1,a,b,c⟩,k,Ls (JX h.n),Ls (JX h.r),Ls (JX i)⟩
section
variable {E:EB}{D:Ac}{W:AF}{N:Nat}
theorem yQ:PS (wh E D W N):=by
 intro U t i ty nm k l e j g h1 w s;have ⟨U1,u,n,q,x⟩:=DC j [.N nm,k,l,e];have r1:=g.fr0 n j;have m:=g.len;have rd:∀J,AS 13 e (AA i) (λb o=>Bv E U1 b o 13 J)=J (ty i).c:=λJ=>r1.all s J;refine⟨U1,?_,n⟩;have v:=m.1;have r:decide (t<=i)=false:=decide_eq_false (by omega);show bp E D W nm k l e (AA i) U=_;unfold bp;simp only[↓rP,rA,h1,w,v,↓u,DH,↓AT q,↓m.2,r,↓rd,Ty.c,(ty i).oneT,(ty i).oneI,(ty i).oneF]
end
def VN(F:List V->H->AE):Prop:=∀U a b,Ai U->∃U',F [.agg [.int .i64 (AA 2),.int .i64 (AA a)],.agg [.int .i64 (AA 2),.int .i64 (AA b)]] U=some (.bool (decide (a<b)),U')/\Fr AH U U'
def OK(n:Nat):List V:=[.int .i64 (AA 2),.int .i64 (AA n)]
def tO(F:List V->H->AE):Prop:=∀{U:H}{x:Ty}{ob n},Ai U->X6 U [(2,n)] x.wn->Bx U ob [.h]->¬AJ x.wn ob->∃v U',F ([]++[.agg x.c]++[.o ob 0]) U=some (.B [],U')/\Bx U' ob [v]/\Cv U' 2 1 v (OK n)/\(∀b,AJ v b->U.j<=b)/\Fr (λb=>b=ob) U U'
def tS(g:FuncId)(F:List V->H->AE):Prop:=∀{a U:H}{ty d e c tl i n pb cb ob}{t:Cu},Ai a->PQ a ty d e c tl->tl[i]? = some t->t.wn=[(2,n)]->Fr AH a U->Bx U pb [c]->Bx U cb [.int .i64 (AA 300)]->Bx U ob [.h]->a.j<=pb->a.j<=cb->a.j<=ob->pb≠cb->cb≠ob->pb≠ob ->
 ∃v U',F [.o pb 0,.int .i64 (AA i),.o cb 0,.fn g [] [.o ob 0]] U=some (.B [],U')/\Bx U' ob [v]/\Cv U' 2 1 v (OK n)/\(∀b,AJ v b->a.j<=b)/\Fr AH a U'
def tZ(F:List V->H->AE):Prop:=∀{a U:H}{ty d e c tl i n pb}{t:Cu},Ai a->PQ a ty d e c tl->tl[i]? = some t->t.wn=[(2,n)]->Fr AH a U->Bx U pb [c]->a.j<=pb ->
 ∃v U',F [.o pb 0,.int .i64 (AA i)] U=some (v,U')/\Cv U' 2 1 v (OK n)/\(∀b,AJ v b->a.j<=b)/\Fr AH a U'
def dC(F:List V->H->AE):Prop:=∀{U ty nm a b c tl i n}{t:Cu},Ai U->PQ U ty a b c tl->tl[i]? = some t->t.wn=[(2,n)] ->
 ∃v U',F [.agg [.N nm,a,b,c],.int .i64 (AA i)] U=some (v,U')/\Cv U' 2 1 v (OK n)/\Fr AH U U'
def VO(F:List V->H->AE):Prop:=∀{U ty nm a b c tl i n}{t:Cu},Ai U->PQ U ty a b c tl->tl[i]? = some t->t.wn=[(2,n)] ->
 ∃U',F [.agg [.N nm,a,b,c],.int .i64 (AA i)] U=some (.agg (OK n),U')/\Fr AH U U'
section
variable {E:EB}{D:Ac}{N:Nat}
theorem AE6{W}:VN (wX E D W N):=by
 intro U a b l;have ⟨U1,m,e,p,r⟩:=DC l [.int .i64 (AA 2),.int .i64 (AA a)];have ⟨q,n,i,o,s⟩:=DC e.y [.int .i64 (AA 2),.int .i64 (AA b)];have f:=i.X p e.y (λh=>h);refine⟨q,?_,e.trans i (λ_ _ h=>h)⟩;show a9 E D W (AA 2) (AA a) (AA 2) (AA b) U=_;unfold a9;simp only[↓rP,rA,↓m,↓n,↓AT f,↓AT o]
theorem AKr:tO (wN E D (AV E D) N):=by
  intro U x ob n P y ho hno;have ⟨tb,t⟩:=y.e rfl;have z:∃L,Bx U tb L/\(L.drop 0).take 2=OK n:=by
    rcases y.s with ⟨h,_⟩|⟨b,o,c,L,e,z,hle,hm⟩
    · cases h
    · rw[t]at e
      cases e;exact⟨L,z,hm.symm⟩
  have ⟨L,z,hL⟩:=z;have hL2:2<=L.length:=by
    have:=congrArg Rw hL;rw[E7,DM]at this;have h2:(OK n).length=2:=rfl;omega
  have ⟨U1,e1,i,G,n1⟩:=Fh P x.c;have u:=i.X ho P (λh=>h);have Q:=i.X z P (λh=>h);have fw:=(B7 (E:=E) (n:=8) (S:=AH) i.y).Z;have ⟨s,F⟩:∃s,s=(⟨U1.j+8,(U1.j+5,.cells (OK n))::U1.F⟩:H):=⟨_,rfl⟩;have f2:Fr AH U1 s:=by
    rw[F];refine⟨λb m=>?_,FT _ _,λb m hn=>?_⟩
    · have m:U1.j+8<=b:=m
      show BX ((U1.j+5,_)::U1.F) b=none;rw[Aj,if_neg (by simp;omega)];exact i.y b (by omega)
    · show BX ((U1.j+5,_)::U1.F) b=_
      rw[Aj,if_neg (by simp;omega)]
  have a2:Bx s (U1.j+5) (OK n):=by
    rw[F];show BX ((U1.j+5,_)::U1.F) _=_;rw[Aj,if_pos rfl]
  have xs:Cv s 2 1 (V.D (U1.j+5) 0 1 (.ex 1)) (OK n) := .inr ⟨_,_,_,_,rfl,a2,AL _,rfl⟩;have ⟨v,U3,g3,d3,m3,C⟩:=Dd (E:=E) (bytes:=16) (DW.nil s 2) f2.y xs rfl rfl;have A:=f2.trans C (λb m e=>e.elim);have n2:s.j=U1.j+8:=by rw[F]
  have vn:=λb m=>(m3 b m).elim (λe=>e.elim) (λe=>by omega);have lo:=u.lt i.y;have O:=A.X u i.y (λh=>h);have ⟨o1,o2⟩:=Et d3.S;have ⟨I,q1,K,q3⟩:=HM (E:=E) (D:=D) (n:=1) (x := .tmp 1) C.y O rfl (show (Ca [(1,V.o ob 0),(13,v)] (.tmp 13)).cells=[v] from o2) (by
    simp only[Bg,CE,d3.S,Bz,Ag,Cm,BV,Gb,EX,Bn];omega)
  have r:=G;unfold Ty.c at r;rw[t]at r;have go:FB (Jx E U1 8 Kc _ I) E D U1 8 0 Rk Kc ⟨[(1,.o ob 0),(2,.o U.j 0)],U1.j+8,[U1.F],[],0,[]⟩:=
    HF .h (B7 (S:=AH) i.y) rfl (Cj (b:=ob) (off:=0) rfl u rfl i.y (λe=>e) rfl) λr1=>
    DR (.o U.j 1) rfl rfl <|
    HF (.D tb 0 1 (.ex 1)) r1 rfl (Cj (b:=U.j) (off:=1) rfl r rfl i.y (λe=>e) (Be _ rfl)) λr2=>
    DR (.o tb (0+0*2)) rfl (HE rfl rfl Nat.one_pos) <|
    HF (.agg (OK n)) r2 rfl (Fu (b:=tb) (off:=0) rfl Q (by rw[Bn];omega) hL i.y (λe=>e) (Be _ rfl)) λr3=>
    Sk (.D (U1.j+5) 0 1 (.ex 1)) (.cells (OK n)) 32 r3 rfl (by decide) rfl rfl λ_ r4=>
    Mt v (by rw[<-F]at r4;exact r4) rfl (by decide) (S':=AJ .h) C (λ_ _ h=>h.elim) (λ_ h _ _=>h) (Jq rfl rfl g3) λ_ _ r5=>
    LD .i5 r5 rfl (by decide) K (λk h h1 _=>by omega) q1 (λx hx=>by
      simp at hx;rcases hx with rfl|rfl|rfl
      · show FG Kc 4 [7,6] []=false
        decide
      · show FG Kc 2 [7,6] []=false
        decide
      · show FG Kc 0 [7,6] []=false
        decide)
  have d:=HG (ops:=Rk) go;have le1:=i.le;refine⟨v,I,?_,q3,(d3.Z K C.y (λb m e=>by have:=vn b m;omega)).src,λb m=>by have:=vn b m;omega,(i.trans A (λ_ _ e=>e)).mono (λ_ _ e=>e.elim) |>.trans K (λ_ _ e=>e)⟩;have o1:=x.oneT;have o2:=x.oneI;have o3:=x.oneF;have sl:∀J:Nat->AE,Ao x.wn J=J 1:=λJ=>by rw[t];rfl
  have gd:∀J:CF->H->AE,CM (AV E D Rk Kc [(1,.o ob 0),(2,.o U.j 0)] U1) J=J _ I:=λJ=>by rw[d];rfl
  unfold Ty.c at e1 G;show Z3 E D (AV E D) x.A x.wn x.has x.no x.i9 x.conMore x.low x.high x.R x.K x.W x.I x.of_ (.o ob 0) U=_;unfold Z3;simp only[↓rP,rA,AD,AG,AB,o1,o2,o3,↓e1,↓AT G,↓sl,show decide (0<1)=true from rfl,↓gd]
theorem ow(hC:tO (D 196)):tS 196 (mm E D (AV E D) N):=by
 intro U0 U ty nv rv tv tl i n pb cb ob t j u I r f ap ac ao lp lc lo l F npo;have G:=f.y;have x:=(AN.1 I).1;have ⟨U1,g1,p,a1⟩:=ZC (y := .int .i64 (AA 299)) G ac rfl (show 0<1 by decide);have d:=f.trans p (λb B e=>by omega);have s:=p.X ap G l;have m:=p.X ao G (λe=>F e.symm);have q:=u.Z d j;have hx:=q.is i t I;have c:=hx.wn;rw[r]at c;have w:¬AJ (ty i).wn ob:=λe=>by
  have:=(u.is i t I).wn.lt j e;omega
 have ⟨v,A,g2,a2,s2,n2,f2⟩:=hC d.y c m w;have le1:=d.le;refine⟨v,A,?_,a2,s2,λb B=>by have:=n2 b B;omega,d.trans f2 (λb B e=>by omega)⟩;have hl:=q.tb.row.len;have hl0:=u.tb.row.len;have rd:∀J,AS 13 tv (AA i) (λb o=>Bv E U1 b o 13 J)=J (ty i).c:=λJ=>q.tb.row.all x J;have h3:=hl.1;have d1:decide (tl.length<=i)=false:=decide_eq_false (by omega);have o1:=(ty i).oneT;have o2:=(ty i).oneI;have o3:=(ty i).oneF;have ⟨tb,C⟩:=c.e rfl;have sl:∀J,Ao (ty i).wn J=J 1:=λJ=>by rw[C];rfl
 have cv:∀J,GA D (.fn 196 [] [.o ob 0]) [.agg (ty i).c] U1 J=J (.B []) A:=λJ=>by
  show CD (D 196 ([]++[.agg (ty i).c]++[.o ob 0]) U1) J=_;rw[g2];rfl
 have sb:Dj .i64 (AA 300) (AA 1)=AA 299:=rfl;unfold Ty.c at rd cv;show UT E D (AV E D) (dK E D (AV E D) N N) pb 0 (AA i) cb 0 (.fn 196 [] [.o ob 0]) U=_;have key:∀K,UT E D (AV E D) K pb 0 (AA i) cb 0 (.fn 196 [] [.o ob 0]) U=some (.B [],A):=by
  intro K;unfold UT;simp only[↓rP,rA,AD,AG,AB,DH,↓AT ap,↓hl.2,d1,↓AT ac,sb,↓g1,↓AT s,↓rd,o1,o2,o3,↓cv,↓sl,show decide (0<1)=true from rfl]
 exact key _
theorem AMM(L:tS 196 (D 195)):tZ (wO E D (AV E D) N):=by
 intro U0 U ty nv rv W tl i n pb t l F K m f s G;have q:=f.y;have ⟨U1,z,c,w,n1⟩:=Fh q [.h];have ⟨Z,C,d,M,n2⟩:=Fh c.y [.int .i64 (AA 0)];have ⟨U3,I,o,A⟩:=ZC (y := .int .i64 (AA 300)) d.y M rfl (show 0<1 by decide);have X:=f.le;have T:=c.le;have O:=s.lt q;have l1:=w.lt c.y;have p:=((f.trans c (λ_ _ e=>e)).trans d (λ_ _ e=>e)).trans o (λb Y e=>by omega);have j:=o.X (d.X w c.y (λe=>e)) d.y (by omega);have r:=o.X (d.X (c.X s q (λe=>e)) c.y (λe=>e)) d.y (by omega);have ⟨v,R,J,B,P,Q,S⟩:=L l F K m p r A j G (by omega) (by omega) (by omega) (by omega) (by omega);refine⟨v,R,?_,P,Q,S⟩;show Z8 E D (AV E D) (.o pb 0) (AA i) U=_;unfold Z8;simp only[↓rP,↓z,↓C,↓I,↓J,↓AT B]
theorem AFb(y:tZ (D 187)):dC (wU E D (AV E D) N):=by
 intro U ty nm p q b tl i n t r d I g;have ⟨U1,x,k,O,R⟩:=Fh r [.N nm,p,q,b];have ⟨T,w,L,G,Q⟩:=Fh k.y [b];have f:=k.trans L (λ_ _ e=>e);have h:=k.le;have ⟨v,C,F,m,W,B⟩:=y r d I g f G h;refine⟨v,C,?_,m,B⟩;have h1:=d.tb.n1;have K:=d.tb.r1;have u:=d.tb.t1;have P:=m.S;show ay E D (AV E D) nm p q b (AA i) U=_;have z:∀J,H9 [(0,1,b)] [.h] J=J [b]:=λJ=>by
  have ⟨A,M⟩:=Et u;show (match GK [(0,1,b)] [V.h]with | some l=>J l | none=>none)=_;unfold GK;rw[A,M];rfl
 unfold ay;simp only[↓rP,rA,h1,K,u,↓x,↓AT O,↓z,↓w,↓F,↓Bt P,]
theorem zN(W:dC (D 167))(Y:VN (D 150))(hN:2<N):VO (m9 E D (AV E D) N):=by
 intro U ty nm y x q tl i n t A m Z r;obtain⟨N,rfl⟩:∃k,N=k+2:=⟨N-2,by omega⟩;have ⟨U1,e1,s,X,n1⟩:=Fh A [.N nm,y,x,q];have ⟨v,l,L,u,C⟩:=W (nm:=nm) s.y (m.Z s A) Z r;have ⟨h,B,G⟩:=Y l n n C.y;rw[decide_eq_false (Dp n)]at B;refine⟨h,?_,(s.trans C (λ_ _ e=>e)).trans G (λ_ _ e=>e)⟩;have h1:=m.tb.n1;have F:=m.tb.r1;have I:=m.tb.t1;have T:=u.S;have S:∀J,Ao v J=J 1:=λJ=>u.ip;have rd:∀J,AS 2 v (AA 0) (λb o=>Bv E l b o 2 J)=J (OK n):=λJ=>HN u (by decide) rfl (by decide) J;unfold OK at rd ⊢;show Ul E D (AV E D) (dO E D (AV E D) (N+2) (N+2)) nm y x q (AA i) U=_;have O:∀K,Ul E D (AV E D) K nm y x q (AA i) U=K v (AA 1) (AA 0) (AA 0) (AA 0) (AA 2) (AA n) l:=by
  intro K;unfold Ul;simp only[↓rP,rA,AD,h1,F,I,↓e1,↓BU X,↓L,↓Bt T,↓S,↓rd]
 have M:∀K R,Q9 E D (AV E D) K (ba E D (AV E D) R) v (AA 1) (AA 0) (AA 0) (AA 0) (AA 2) (AA n) l=R v (AA 1) (AA 1) (AA 0) (AA 0) (AA 2) (AA n) h:=by
  intro K R;unfold Q9 ba;simp only[↓rP,rA,AD,AG,AB,show decide (0<1)=true from rfl,↓rd,↓B,Al (show 0+1<=9223372036854775807 by decide)]
 have P:∀z,Q9 E D (AV E D) (be E D (AV E D)) z v (AA 1) (AA 1) (AA 0) (AA 0) (AA 2) (AA n) h=some (.agg [.int .i64 (AA 2),.int .i64 (AA n)],h):=by
  intro z;unfold Q9 be;simp only[↓rP,rA,AD,AG,AB,show decide (1<1)=false from rfl]
 rw[O];exact(M _ _).trans (P _)
end
def xk(key:Nat->Nat)(a b:Nat):Prop:=key a<=key b
def YS(D:Ac)(fv:V)(key:Nat->Nat)(n:Nat)(c:H):Prop:=∀U a b,Fr AH c U->a<n->b<n->∃r U',(∀J,GA D fv [.int .i64 (AA a),.int .i64 (AA b)] U J=J (.int .i64 r) U')/\C5 r (AA 0)=decide (key a<key b)/\Fr AH U U'
def jK(D:Ac)(A:V->V->H->AE):Prop:=∀{d U:H}{fv key b c}{vs:List Nat},YS D fv key vs.length d->Fr AH d U->d.j<=b->Bx U b (FJ vs)->(∀p∈vs,p<vs.length)->vs.length<=19 ->
 ∃a U',A (.D b 0 vs.length c) fv U=some (.B [],U')/\a.Perm vs/\a.Pairwise (xk key)/\Bx U' b (FJ a)/\Fr AH d U'/\Fr (λk=>k=b) U U'
theorem Mp l m:FJ (l++m)=FJ l++FJ m:=by grind [FJ]
theorem QL x m:FJ (x::m) = .int .i64 (AA x)::FJ m:=rfl
theorem UD(l:List Nat):(FJ l).length=l.length:=by grind [FJ]
theorem gS:∀l,BH (FJ l)=true
 | []=>rfl | x::l=>by rw[QL,Bg,gS l];rfl
theorem pF{U b o}{l:List V}{y:V}(v:Ai U)(q:Bx U b l)(t:y.S=true)(n:o<l.length):∃U',(∀J,DO 1 b o y U J=J U')/\Fr (λk=>k=b) U U'/\Bx U' b (l.set o y):=by
 have ⟨U',g,f,a⟩:=ZC v q t n;refine⟨U',g,f,?_⟩;have e:FW l o [y]=l.set o y:=by
  clear a g q;induction l generalizing o with
  | nil=>simp at n | cons x l z=>
   cases o with
   | zero=>cases l<;>rfl | succ o=>show x::FW l o [y]=x::l.set o y;rw[z (by simpa using n)]
 rw[<-e];exact a
section
variable {E:EB}{D:Ac}{W:AF}{N:Nat}
theorem ALz {U0:H} {fv key n0 b n c i} (hC:YS D fv key n0 U0) (b0:U0.j<=b) (hn:n<=19)
    {K2:V->Int->Int->V->Int->H->AE}{L:Nat->V->Int->Int->V->Int->Int->H->AE}
    (hL:∀k v a q f x y s,L (k+1) v a q f x y s=Q0 E D W K2 (L k) v a q f x y s):∀(k:Nat) (l:List Nat) (x:Nat) (m r:List Nat) (M:Nat) (U:H),l.length=k->k<M->(l++x::(m++r)).length=n->Fr AH U0 U->Bx U b (FJ (l++x::(m++r)))->(∀p∈l++x::(m++r),p<n0)->(l++m).Pairwise (xk key)->(∀y∈m,xk key x y) ->
    ∃vs U',L M (.D b 0 n c) (AA 0) (AA n) fv i (AA k) U=K2 (.D b 0 n c) (AA 0) (AA n) fv i U'/\vs.Perm (l++x::m)/\vs.Pairwise (xk key)/\Bx U' b (FJ (vs++r))/\Fr AH U0 U'/\Fr (λk=>k=b) U U':=by
  intro k;induction k with
  | zero=>
    intro l x m r M U hl hn' O R T he X hx;obtain⟨M,rfl⟩:∃q,M=q+1:=⟨M-1,by omega⟩;have:l=[]:=Ba hl;subst this;refine⟨x::m,U,?_,List.Perm.refl _,?_,T,R,Fr.refl R.y⟩
    · rw[hL]
      unfold Q0;simp only[↓rP,rA,AD,AG,AB,Dp]
    · exact Rv.2 ⟨hx,X⟩
  | succ k ih=>
    intro l x m r M U hl hn' O R T he X hx;have ht:=R.y;obtain⟨M,rfl⟩:∃q,M=q+1:=⟨M-1,by omega⟩;obtain⟨l',y,rfl⟩:∃l' y,l=l'++[y]:=by
      rcases List.eq_nil_or_concat l with h|⟨l',y,h⟩
      · rw[h]at hl;simp at hl
      · exact⟨l',y,by rw[h,List.concat_eq_append]⟩
    have hl':l'.length=k:=by simpa using hl
    have hyl:(l'++[y])++x::(m++r)=l'++y::x::(m++r):=by simp
    rw[hyl]at T he O;have ⟨rr,U1,cv,e1,f1⟩:=hC U x y R (he x (by simp)) (he y (by simp));have I:(FJ l').length=k:=by rw[UD,hl']
    have N:FJ (l'++y::x::(m++r))=FJ l' ++ .int .i64 (AA y) :: .int .i64 (AA x)::FJ (m++r):=by rw[Mp,QL,QL]
    have gk:(FJ (l'++y::x::(m++r)))[k]? = some (.int .i64 (AA y)):=by
      rw[N,Aw (by omega),I,Ec];rfl
    have aa:(FJ (l'++y::x::(m++r)))[k+1]? = some (.int .i64 (AA x)):=by
      rw[N,Aw (by omega),I,DL];rfl
    have hkn:k+1<n:=by
      simp at O;omega
    have ia:∀(j:Nat),j<n->∀J:Nat->Nat->AE,AS 1 (.D b 0 n c) (AA j) J=J b j:=λj hj J=>by
      rw[CC hj];show J b (0+j*1)=_;rw[BV,CB]
    have i1:=ia (k+1) hkn;have i0:=ia k (by omega);have sb:Dj .i64 (AA (k+1)) (AA 1)=AA k:=by rw[E8 (by omega) (by omega)];rfl
    have d0:decide (0<k+1)=true:=decide_eq_true (by omega);have lx:∀J:V->AE,DF E U b (k+1) J=J (.int .i64 (AA x)):=λJ=>GS T aa;have ly:∀J:V->AE,DF E U b k J=J (.int .i64 (AA y)):=λJ=>GS T gk;have Z:=f1.X T ht (λh=>h);have lx1:∀J:V->AE,DF E U1 b (k+1) J=J (.int .i64 (AA x)):=λJ=>GS Z aa;have ly1:∀J:V->AE,DF E U1 b k J=J (.int .i64 (AA y)):=λJ=>GS Z gk;by_cases P:key x<key y
    · rw[decide_eq_true P]at e1
      rw[N]at Z;have ⟨U2,g2,f2,a2⟩:=pF (o:=k+1) (y := .int .i64 (AA y)) f1.y Z rfl (by simp only[AP,Ag,I];omega);have ⟨U3,g3,f3,a3⟩:=pF (o:=k) (y := .int .i64 (AA x)) f2.y a2 rfl (by simp only[BA,AP,Ag,I];omega);have e3:((FJ l' ++ .int .i64 (AA y) :: .int .i64 (AA x)::FJ (m++r)).set (k+1) (.int .i64 (AA y))).set k (.int .i64 (AA x))=FJ (l'++x::(y::m++r)):=by
        rw[Kv _ _ (by omega),Kv _ _ (by omega),I,DL,Ec,Mp l'];rfl
      rw[e3]at a3;have F:Fr (λk=>k=b) U U3:=((f1.mono λ_ _ e=>e.elim:Fr (λk=>k=b) U U1).trans f2 (λ_ _ e=>e)).trans f3 (λ_ _ e=>e);have F0:Fr AH U0 U3:=R.trans F (λk hk e=>by omega);have hp:(l'++x::(y::m++r)).Perm (l'++y::x::(m++r)):=List.Perm.append_left _ (List.Perm.swap ..);have ⟨vs,U4,g4,p4,s4,a4,F4,f4⟩:=ih l' x (y::m) r M U3 hl' (by omega) (by rw[<-O];exact hp.length_eq) F0 a3 (λp h=>he p (hp.mem_iff.1 h)) (by rw[BC]at X;exact X) (λz Q=>by
        rcases A0.1 Q with rfl|Q
        · exact Nat.le_of_lt P
        · exact hx z Q)
      refine⟨vs,U4,?_,p4.trans ?_,s4,a4,F4,F.trans f4 (λ_ _ e=>e)⟩
      · rw[hL,<-g4]
        unfold Q0;simp only[↓rP,rA,AD,AG,AB,d0,↓i1,↓i0,sb,↓lx,↓ly,↓cv,e1,↓lx1,↓ly1,↓g2,↓g3]
      · rw[BC]
        exact List.Perm.append_left _ (List.Perm.swap ..)
    · rw[decide_eq_false P]at e1
      refine⟨(l'++[y])++x::m,U1,?_,List.Perm.refl _,?_,?_,R.trans f1 (λ_ _ e=>e),f1.mono λ_ _ e=>e.elim⟩
      · rw[hL]
        unfold Q0;simp only[↓rP,rA,AD,AG,AB,d0,↓i1,↓i0,sb,↓lx,↓ly,↓cv,e1]
      · rw[Hn]at X ⊢
        have ⟨h1,h2,h3⟩:=X;refine⟨h1,Rv.2 ⟨hx,h2⟩,λa ha' z Q=>?_⟩;rcases A0.1 Q with rfl|Q
        · have hay:key a<=key y:=by
            rcases CN.1 ha' with h|h
            · rw[Hn]at h1
              exact h1.2.2 a h y (by simp)
            · rw[B5.1 h];exact AL _
          show key a<=key z;omega
        · exact h3 a ha' z Q
      · have e:((l'++[y])++x::m++r)=l'++y::x::(m++r):=by simp
        rw[e];exact Z
theorem AFD(hN:30<N):jK D (λv fv U=>mj E D W N [v,.int .i64 (AA 0),.int .i64 (AA (match v with | .D _ _ n _=>n | _=>0)),fv] U):=by
 intro U0 U fv key b c vs hC O b0 ha he hn;have ⟨n,w⟩:∃n,n=vs.length:=⟨_,rfl⟩;have B:∀q i t (s r:List Nat) U1,i+q=n->q<t->s.length=i->(s++r).Perm vs->s.Pairwise (xk key)->Fr AH U0 U1->Bx U1 b (FJ (s++r))->Fr (λk=>k=b) U U1 ->
   ∃o U',MU E D W N t (.D b 0 n c) (AA 0) (AA n) fv (AA i) U1=some (.B [],U')/\o.Perm vs/\o.Pairwise (xk key)/\Bx U' b (FJ o)/\Fr AH U0 U'/\Fr (λk=>k=b) U U':=by
  intro q;induction q with
  | zero=>
   intro i t s r U1 hi hn' hs F G F1 u f1;obtain⟨t,rfl⟩:∃q,t=q+1:=⟨t-1,by omega⟩;have l:=F.length_eq;have:r=[]:=Ba (by rw[AP]at l;omega);subst this;rw[BP]at F u;refine⟨s,U1,?_,F,G,u,F1,f1⟩;have d1:decide (i<n)=false:=decide_eq_false (by omega);show Q1 E D W _ (.D b 0 n c) (AA 0) (AA n) fv (AA i) U1=_;unfold Q1;rw[GQ,d1,DU];all_goals rfl
  | succ q ih=>
   intro i t s r U1 hi hn' hs F G F1 u f1;obtain⟨t,rfl⟩:∃q,t=q+1:=⟨t-1,by omega⟩;have l:=F.length_eq;obtain⟨x,r,rfl⟩:∃x r',r=x::r':=by
    cases r with
    | nil=>rw[BP]at l;omega | cons x r=>exact⟨x,r,rfl⟩
   have ⟨ws,U2,g2,p2,s2,a2,F2,f2⟩:=ALz (W:=W) (n:=n) (c:=c) (i:=AA i) hC b0 (by omega) (L:=dJ E D W N (MU E D W N t)) (λ_ _ _ _ _ _ _ _=>rfl) i s x [] r N U1 hs (by omega) (by rw[w,<-l];rfl) F1 u (λp h=>he p (F.mem_iff.1 h)) (by rw[BP];exact G) (λy hy=>by simp at hy);have hwl:ws.length=i+1:=by rw[p2.length_eq,AP,hs];rfl
   have hp2:(ws++r).Perm vs:=by
    refine List.Perm.trans ?_ F;have:=p2.append_right r;simpa using this
   obtain⟨o,U3,g3,h3⟩:=ih (i+1) t ws r U2 (by omega) (by omega) hwl hp2 s2 F2 a2 (f1.trans f2 (λ_ _ e=>e));refine⟨o,U3,?_,h3⟩;have d1:decide (i<n)=true:=decide_eq_true (by omega);have k1:∀K3,Q1 E D W K3 (.D b 0 n c) (AA 0) (AA n) fv (AA i) U1=K3 (.D b 0 n c) (AA 0) (AA n) fv (AA i) (AA i) U1:=λK3=>by
    unfold Q1;rw[GQ,d1,Eg]
   refine(k1 _).trans (g2.trans ?_);show Z1 E D W (MU E D W N t) (.D b 0 n c) (AA 0) (AA n) fv (AA i) U2=_;unfold Z1;rw[Al (by omega)];exact g3
 show ∃o U',Z2 E D W (MU E D W N N) (.D b 0 vs.length c) (AA 0) (AA vs.length) fv U=_/\_;have k0:∀K,Z2 E D W K (.D b 0 n c) (AA 0) (AA n) fv U=K (.D b 0 n c) (AA 0) (AA n) fv (AA 1) U:=λK=>rfl;rw[<-w,k0];cases vs with
 | nil=>
  obtain⟨N,rfl⟩:∃q,N=q+1:=⟨N-1,by omega⟩;refine⟨[],U,?_,List.Perm.refl _,List.Pairwise.nil,ha,O,Fr.refl O.y⟩;subst w;rfl
 | cons x r=>
  exact B (n-1) 1 N [x] r U (by simp at w;omega) (by omega) rfl (List.Perm.refl _) (List.pairwise_singleton _ _) O ha (Fr.refl O.y)
def ACv(F:List V->H->AE)(D:Ac):Prop:=jK D (λv fv U=>F [v,.int .i64 (AA 0),.int .i64 (AA (match v with | .D _ _ n _=>n | _=>0)),fv] U)
def tP(F:List V->H->AE)(D:Ac):Prop:=jK D (λv fv U=>F [v,.int .i64 (AA (match v with | .D _ _ n _=>n | _=>0)),fv] U)
def tQ(F:List V->H->AE)(D:Ac):Prop:=jK D (λv fv U=>F [v,fv] U)
theorem AEZ{n}(t:ACv (D 197) n)(z:0<N):tP (my E D W N) n:=by
 intro y U fv key b c vs x o u r v p;obtain⟨N,rfl⟩:∃q,N=q+1:=⟨N-1,by omega⟩;have ⟨i,U1,h,h1⟩:=t (c:=c) x o u r v p;have h:=h;refine⟨i,U1,?_,h1⟩;have s:decide (20<=vs.length)=false:=decide_eq_false (by omega);have w:decide (20<vs.length)=false:=decide_eq_false (by omega);have key:∀K5 m,Z6 E D W (Z7 E D W (Z5 E D W K5)) m (.D b 0 vs.length c) (AA vs.length) fv (AA 20) (AA 0) (AA 20) U=some (.B [],U1):=λK5 m=>by
  unfold Z6 Z7 Z5;simp only[↓rP,rA,s,↓h,w]
 exact key _ _
theorem AEb{j}(k:tP (D 188) j):tQ (wQ E D W N) j:=by
 intro r U fv key b c vs l m q p o n;have ⟨g,U1,f,h1⟩:=k (c:=c) l m q p o n;have f:=f;refine⟨g,U1,?_,h1⟩;show au E D W (.D b 0 vs.length c) fv U=_;unfold au;simp only[↓rP,↓f]
def jG(F:List V->H->AE):Prop:=∀(U:H) a n,Ai U->a+n<=1000->∃v U',F [.int .i64 (AA a),.int .i64 (AA (a+n))] U=some (v,U')/\DW U' 1 n v (FJ (Da a n))/\(∀b,AJ v b->U.j<=b)/\Fr AH U U'
theorem ALY (hN:2000<N):jG (nA E D W N):=by
  intro U a n X hn;have s:∀q i k v (U1:H),i+q=n->q<k->Fr AH U U1->DW U1 1 i v (FJ (Da a i))->(∀b,AJ v b->U.j<=b)->∃p U',dP E D W N k (AA (a+n)) v (AA (a+i)) U1=some (p,U')/\DW U' 1 n p (FJ (Da a n))/\(∀b,AJ p b->U.j<=b)/\Fr AH U U':=by
    intro q;induction q with
    | zero=>
      intro i k v U1 y Y f A u;obtain⟨k,rfl⟩:∃q,k=q+1:=⟨k-1,by omega⟩;have y:i=n:=by omega
      subst y;refine⟨v,U1,?_,A,u,f⟩;have w:decide (a+i<a+i)=false:=decide_eq_false (Dp _);have key:∀R,RA E D W (bg E D W) R (AA (a+i)) v (AA (a+i)) U1=some (v,U1):=λR=>by
        unfold RA bg;simp only[↓rP,rA,w]
      exact key _
    | succ q S=>
      intro i k v U1 y Y f A u;obtain⟨k,rfl⟩:∃q,k=q+1:=⟨k-1,by omega⟩;have ⟨T,M,z,Q,n2⟩:=Fh f.y [.int .i64 (AA (a+i))];have Z:Cv T 1 1 (.D U1.j 0 1 (.ex 1)) [.int .i64 (AA (a+i))] := .inr ⟨_,_,_,_,rfl,Q,AL _,rfl⟩;have ⟨p,F,P,G,I,L⟩:=Dd (E:=E) (bytes:=8) (A.Z z f.y (λ_ _ e=>e)) z.y Z rfl (by unfold Bu;simp;omega);have le:=f.le;have ⟨J,U',g',O⟩:=S (i+1) k p F (by omega) (by omega) ((f.trans z (λ_ _ e=>e)).trans L (λb t e=>by have:=u b e;omega)) (by
        rw[List.range'_concat,Nat.one_mul,Mp];exact G) (λb t=>(I b t).elim (u b) (λe=>by omega))
      refine⟨J,U',?_,O⟩;have uo:=G.S;have w:decide (a+i<a+n)=true:=decide_eq_true (by omega);have key:∀K R,RA E D W K R (AA (a+n)) v (AA (a+i)) U1=R (AA (a+n)) p (AA (a+(i+1))) F:=λK R=>by
        unfold RA;simp only[↓rP,rA,AD,AG,AB,w,↓M,↓P,↓Bt uo,Al (show a+i+1<=9223372036854775807 by omega),D4]
      exact(key _ _).trans g'
  have k0:∀K,tK E D W K (AA a) (AA (a+n)) U=K (AA (a+n)) .h (AA a) U:=λK=>rfl;exact s n 0 N .h U (by omega) (by omega) (Fr.refl X) (DW.nil _ _) (λb t=>t.elim)
def jD(F:List V->H->AE)(D:Ac):Prop:=∀{a U:H}{fv l bh key n m},YS D fv key n a->Fr AH a U->0<n->n<=19->m<=900->DW U 1 n l (FJ (Da 0 n))->(∀b,AJ l b->a.j<=b/\¬AJ bh b)->Cv U 1 m bh (FJ (Da n m)) ->
 ∃vs v U',F [fv,l,bh] U=some (v,U')/\vs.Perm (CW n)/\vs.Pairwise (xk key)/\Cv U' 1 (n+m) v (FJ (vs++Da n m))/\Fr AH a U'/\Fr (AJ l) U U'
theorem AKv{J}(hS:tQ (D 176) J):jD (wg E D W N) J:=by
 intro U0 U fv l bh key n m T K h0 hn hm I B X;have ⟨b,c,k,r⟩:∃b c,l = .D b 0 n c/\Bx U b (FJ (Da 0 n)):=by
  rcases I with (⟨h,_⟩|⟨b,e,r,_⟩)|⟨b,e,r,_⟩
  ·omega
  ·exact⟨b,_,e,r⟩
  ·exact⟨b,_,e,r⟩
 have g:(Da 0 n).length=n:=AJC;obtain⟨vs,U1,t,M,S,F,Q,R⟩:=hS (by rw[g];exact T) K (B b (by rw[k];rfl)).1 r (λp Y=>by rw[g];have:=List.mem_range'_1.1 Y;omega) (by rw[g];exact hn);rw[g]at t;have q:vs.length=n:=by rw[M.length_eq,g]
 have d1:DW U1 1 n l (FJ vs):=by
  rcases I with (⟨h,_⟩|⟨b',e,A,C,_⟩)|⟨b',e,A,_⟩
  ·omega
  ·rw[k]at e;cases e
   exact .inl (.inr ⟨b,k,F,C,by rw[UD,q,CB]⟩)
  ·rw[k]at e;cases e
   exact .inr ⟨b,k,F,by rw[UD,q,CB]⟩
 have z:=X.Z R K.y (λx G e=>(B x (by rw[k];exact e)).2 G);have ⟨v,Z,g2,P,m2,L⟩:=Dd (E:=E) (bytes:=8) d1 Q.y z (gS _) (by unfold Bu;simp;omega);refine⟨vs,v,Z,?_,by rw[List.range_eq_range'];exact M,S,by rw[Mp];exact P.src,Q.trans L (λx G e=>by have:=(B x e).1;omega),(R.mono (λx _ e=>by rw[k];exact e):Fr (AJ l) U U1).trans L (λ_ _ e=>e)⟩;have t:D 176 [l,fv] U=some (.B [],U1):=by rw[k];exact t
 have uo:=P.S;show bo E D W fv l bh U=_;unfold bo;simp only[↓rP,↓t,↓g2,↓Bt uo]
def TF(F:List V->H->AE):Prop:=∀U v (vs:List Nat) k,Cv U 1 vs.length v (FJ vs)->vs.length<=1000->k∈vs->F [v,.int .i64 (AA k)] U=some (.int .i64 (AA (vs.idxOf k)),U)
theorem AL3 (X:2000<N):TF (F88 E D W N):=by
  intro U v vs k G Y S;have Q:∀J,Ao v J=J vs.length:=λJ=>G.ip;have u:∀(l m:List Nat) j,m++l=vs->k ∉ m->k∈l->l.length<j->jQ E D W N j v (AA k) (AA vs.length) (AA m.length) U=some (.int .i64 (AA (vs.idxOf k)),U):=by
    intro l;induction l with
    | nil=>intro m j _ _ h;cases h | cons x l L=>
      intro m j i I A C;obtain⟨j,rfl⟩:∃q,j=q+1:=⟨j-1,by omega⟩;have t:m.length<vs.length:=by rw[<-i];simp
      have O:vs[m.length]? = some x:=by rw[<-i,Aw (AL _),Ec];rfl
      have F:=decide_eq_true t;have rd:∀J,AS 1 v (AA m.length) (λb o=>DF E U b o J)=J (.int .i64 (AA x)):=λJ=>EM (off:=0) G t (by decide) (by
        rw[CB];show (FJ vs)[m.length]? = _;unfold FJ;rw[As,O];rfl) J
      by_cases e:k=x
      · have P:vs.idxOf k=m.length:=by
          rw[<-i,ATJ,if_neg I,<-e,List.idxOf_cons_self];simp
        have z:=decide_eq_true e;have key:∀K R,X9 E D W K R v (AA k) (AA vs.length) (AA m.length) U=some (.int .i64 (AA m.length),U):=λK R=>by
          unfold X9;simp only[↓rP,rA,F,↓rd,z]
        rw[P];exact key _ _
      · have z:=decide_eq_false e
        have key:∀K R,X9 E D W K R v (AA k) (AA vs.length) (AA m.length) U=R v (AA k) (AA vs.length) (AA (m.length+1)) U:=λK R=>by
          unfold X9;simp only[↓rP,rA,AD,AG,AB,F,↓rd,z,Al (show m.length+1<=9223372036854775807 by omega)]
        have w:=L (m++[x]) j (by rw[BC];exact i) (λh=>(CN.1 h).elim I (λh=>e (B5.1 h))) ((A0.1 A).resolve_left e) (by simp at C;omega);rw[AP]at w;exact(key _ _).trans w
  show iF E D W (jQ E D W N N) v (AA k) U=_;have T:∀K,iF E D W K v (AA k) U=K v (AA k) (AA vs.length) (AA 0) U:=λK=>by
    unfold iF;simp only[↓rP,rS,↓Q]
  rw[T];exact u vs [] N rfl (by simp) S (by omega)
end
end
end Go.Proofs.YtpbligmafbkeaaaGreatDoor
