/- What the last text leans on, part 6 of 10: merged out of smaller texts. No condition. -/
import Derived.Test.YtnpcmeaplmfdlaaGreatDoorV4
open Int renaming ofNat -> AA,negSucc -> Bh
open Nat renaming reduceLeDiff -> AD,reduceEqDiff -> AE,reduceLT -> AF,le_refl -> AL,add -> AN,le_trans -> AU,ble -> Ac,ble_eq -> Ag,lt_or_ge -> Av,beq -> Ax,zero_le -> BF,zero_add -> BQ,lt_of_lt_of_le -> Cj,blt -> Cr,blt_eq -> Cs,mul_one -> DO,succ_ne_zero -> Df,mul_le_mul_right -> Et,mul -> FP,beq_refl -> GC,min_eq_left -> Gi,le_add_right -> HQ,succ_pos -> Ih,pow_le_pow_right -> Ii,le_succ_of_le -> Ij,lt_irrefl -> JH,mul_comm -> OI,add_eq -> SW,succ_le_succ -> Zz,mod_lt -> AFa,or_lt_two_pow -> ANx
open Bool renaming and_eq_true -> AI,and_true -> Au,true_and -> BX,false_and -> BY,or_eq_false_iff -> Ba,not_true -> B3,or_eq_true -> B5,not_false -> CE,false_eq_true -> CF,false_or -> C7,or_false -> EW,and_false -> EX,not_eq_true -> HR,or_true -> xU
open List renaming length_cons -> AK,length_drop -> AQ,getElem?_eq_getElem -> AV,length_append -> AY,length_nil -> Aa,mem_cons_of_mem -> Ar,mem_cons_self -> As,getD_eq_getElem?_getD -> A1,mem_cons -> BK,getElem?_map -> BR,drop_drop -> BU,length_take -> Bn,mem_of_mem_drop -> Bq,mem_singleton -> B0,getElem?_drop -> CD,append_assoc -> CK,getElem?_take -> CY,append_nil -> CZ,map_cons -> Cf,getElem?_append_right -> Ck,getElem?_append_left -> Cu,length -> Du,mem_append -> Dw,length_set -> Dx,not_mem_nil -> D7,drop_eq_getElem_cons -> EE,mem_of_mem_take -> Eu,drop_succ_cons -> Gy,nil_append -> IW,map_append -> IX,map_nil -> Km,any_cons -> P0,take_succ_cons -> th,length_pos_iff -> tn
open Eq renaming trans -> j1
set_option linter.all false
set_option maxRecDepth 100000
namespace Go.Proofs.YtnpcmeaplmfdlaaGreatDoor
open Go Go.Og
noncomputable section
def Yq(T:DA)(d g:Nat):Nat->AM->List Ad->Er->List AM->V8
 | 0,nd,l,er,h=>(false,nd,l,EJ er (BJ l).2.2 7,h)
 | n+1,nd,l,er,h=>match Ci T d g nd l er h with
  | (false,c,i,er1,a)=>(false,c,i,er1,a)
  | (true,c,i,er1,a)=>match CP (BS.mk 1 44) i with
   | (true,e)=>Yq T d g n c e er1 a
   | (false,e)=>match Ao [BS.mk 2 23901] e er1 with
    | (b,j,f)=>(b,c,j,f,a)
@[irreducible] def XU(T:DA)(d g:Nat)(nd:AM)(l:List Ad)(er:Er)(b:List AM):V8:=Yq T d g 9001 nd l er b
def Px(T:DA)(d:Nat):Nat->Nat->AM->List Ad->Er->List AM->V8
 | 0,_,nd,l,er,f=>(false,nd,l,EJ er (BJ l).2.2 7,f)
 | n+1,g,nd,l,er,f=>match CP (BS.mk 1 44) l with
  | (false,i)=>(true,nd,i,er,f)
  | (true,i)=>match CP (BS.mk 2 23387) i with
   | (true,h)=>match XU T d (g+1) nd h er f with
    | (false,c,e,b,a)=>(false,c,e,b,a)
    | (true,c,e,b,a)=>Px T d n (g+1) c e b a
   | (false,h)=>match Ci T d 0 nd h er f with
    | (false,c,e,b,a)=>(false,c,e,b,a)
    | (true,c,e,b,a)=>Px T d n g c e b a
@[irreducible] def Zb(T:DA)(d:Nat)(nd:AM)(l:List Ad)(er:Er)(b:List AM):V8:=Px T d 9001 0 nd l er b
def AM.mr(x:AM)(m:Bool)(r:Nat):AM:=⟨x.kind,x.name,x.mHas,x.mNum,x.mMode,x.con,x.items,x.fields,r,m,x.of_⟩
def QC(T:DA)(d:Nat):Nat->Bool->AM->List Ad->Er->List AM->V8
 | 0,_,nd,l,er,g=>(false,nd,l,EJ er (BJ l).2.2 7,g)
 | n+1,f,nd,l,er,g=>match f with
  | false=>match Ao [BS.mk 1 125] l er with
   | (b,i,er1)=>(b,nd.mr nd.more nd.fields.length,i,er1,g)
  | true=>match CP (BS.mk 3 3026478) l with
   | (true,i)=>match Zb T d (nd.mr true nd.fields.length) i er g with
    | (b,e,h,c,a)=>match Dj b [BS.mk 1 125] h c with
     | (o,j,k)=>(o,e,j,k,a)
   | (false,i)=>match Ci T d 0 nd i er g with
    | (false,e,h,c,a)=>(false,e,h,c,a)
    | (true,e,h,c,a)=>match CP (BS.mk 1 44) h with
     | (m,j)=>QC T d n m e j c a
@[irreducible] def dC(T:DA)(d:Nat)(f:Bool)(nd:AM)(l:List Ad)(er:Er)(b:List AM):V8:=QC T d 9002 f nd l er b
def DK(T:DA)(d:Nat)(nd:AM)(l:List Ad)(er:Er)(b:List AM):V8:=match Ao [BS.mk 1 123] l er with
 | (false,a,er1)=>(false,nd,a,er1,b)
 | (true,a,er1)=>dC T d (!FE (BS.mk 1 125) a) nd a er1 b
def TLe(T:DA):Prop:=∀d l er a,(T.go d l er a).2.2.1.length<=l.length
theorem uf(l:List Ad) er:(Ks l er).2.2.1.length<=l.length:=by
 unfold Ks;have h:=DY (BS.mk 4 1163219540) l;generalize CP (BS.mk 4 1163219540) l=v at h ⊢;obtain⟨r,q⟩:=v;cases r with
 | true=>exact h | false=>
  have j:=DY (BS.mk 5 297750249798) q;simp only[]at h ⊢;generalize CP (BS.mk 5 297750249798) q=s at j ⊢;obtain⟨u,o⟩:=s;cases u with
  | true=>exact AU j h | false=>
   have m:=DY (BS.mk 4 1280070990) o;simp only[]at j ⊢;generalize CP (BS.mk 4 1280070990) o=x at m ⊢;obtain⟨w,k⟩:=x;cases w with
   | true=>exact AU m (AU j h) | false=>
    simp only[]at m ⊢;have z:=JW k;have p:=MF k er;generalize Fl k er=t at p ⊢;obtain⟨y,n,l4,er4⟩:=t;simp only[]at p ⊢;cases decide ((BJ l).1=3)with
    | true=>simp only[]at ⊢;omega | false=>cases decide ((BJ l).1=2)with
     | true=>simp only[]at ⊢;omega | false=>cases decide ((BJ l).1=7)with
      | true=>simp only[]at ⊢;omega | false=>cases decide ((BJ l).1=4)with
       | true=>simp only[]at ⊢;omega | false=>simp only[]at ⊢;omega
theorem dB(nd:AM) w g i (l:List Ad) er:(Pv nd w g i l er).2.2.1.length<=l.length:=by
 unfold Pv;cases decide (nd.kind=9)with
 | true=>exact AL _ | false=>
  have h:=DY (BS.mk 8 5494759122808361039) l;simp only[]at ⊢;generalize CP (BS.mk 8 5494759122808361039) l=u at h ⊢;obtain⟨q,o⟩:=u;cases q with
  | true=>exact h | false=>
   have m:=DY (BS.mk 7 23727827094750532) o;simp only[]at h ⊢;generalize CP (BS.mk 7 23727827094750532) o=x at m ⊢;obtain⟨r,n⟩:=x;cases r with
   | false=>exact AU m h | true=>
    have p:=uf n er;simp only[]at m ⊢;generalize Ks n er=s at p ⊢;obtain⟨y,v,z,t⟩:=s;simp only[]at p ⊢;omega
theorem jM{T:DA}(B:TLe T) d g (nd:AM)(l:List Ad) er n:(Ci T d g nd l er n).2.2.1.length<=l.length/\(∀k,(∀l' s,Jk 2 l er=(true,l',s)->l'.length+k<=l.length)->(Ci T d g nd l er n).1=true->(Ci T d g nd l er n).2.2.1.length+k<=l.length/\(Ci T d g nd l er n).2.1.fields.length=nd.fields.length+1):=by
 unfold Ci;have r:=VG 2 l er;generalize Jk 2 l er=D at r ⊢;obtain⟨G,u,er1⟩:=D;cases G with
 | false=>exact⟨r,λk _ h=>by cases h⟩ | true=>
  have t:=B (d+1) u er1 n;simp only[]at r ⊢;generalize T.go (d+1) u er1 n=z at t ⊢;obtain⟨A,i,v,o,F⟩:=z;cases A with
  | false=>exact⟨AU t r,λk _ h=>by cases h⟩ | true=>
   have w:=dB nd (BJ l).2.1 g i v o;simp only[]at t ⊢;generalize Pv nd (BJ l).2.1 g i v o=y at w ⊢;obtain⟨J,x,K,E⟩:=y;simp only[]at w ⊢;refine⟨by omega,λk C I=>⟨?_,?_⟩⟩
   ·have:=C u er1 rfl
    omega
   ·show (nd.fields++[x]).length=_
    simp
structure jr(r:V8)(U U':H)(pb:Nat)(lv:V)(ts l:List Ad)(R:Rp)(Q:Nat->Prop)(nb:Nat)(nd:AM)(iv:V)(fv fv':FV)(dv':V):Prop where
 s:BG U U' pb lv ts r.2.2.1 R r.2.2.2.1 r.2.2.2.2 Q nb r.2.1 iv fv fv' dv'
 le:r.2.2.1.length<=l.length
 me:r.1=true->r.2.1.fields.length+r.2.2.1.length<=nd.fields.length+l.length
def fJ(T:DA)(F:List V->H->AH):Prop:=∀{U:H}{a h}{ts l:List Ad}{R:Rp}{c Q nb}{nd:AM}{iv fv d g},
 Pn U a h ts l R c (λb=>Q b\/LB nb iv fv b)->(∀b,Q b->b<U.next)->Nq U nb nd iv fv->Aq a h R.dv nb iv fv->nd.fields.length+l.length<=9000->(T.lo<=d+1/\d<=900)->g<=9000 ->
 ∃f e U',F [.ptr a 0,.ptr nb 0,.int .i64 (AA g),.int .i64 (AA d)] U=some (.bool (XU T d g nd l R.er c).1,U')/\jr (XU T d g nd l R.er c) U U' a h ts l R Q nb nd iv fv e f
def fK(T:DA)(F:List V->H->AH):Prop:=∀{U:H}{a g}{ts l:List Ad}{R:Rp}{c Q nb}{nd:AM}{iv fv d},
 Pn U a g ts l R c (λb=>Q b\/LB nb iv fv b)->(∀b,Q b->b<U.next)->Nq U nb nd iv fv->Aq a g R.dv nb iv fv->nd.fields.length+l.length<=9000->(T.lo<=d+1/\d<=900) ->
 ∃f e U',F [.ptr a 0,.ptr nb 0,.int .i64 (AA d)] U=some (.bool (Zb T d nd l R.er c).1,U')/\jr (Zb T d nd l R.er c) U U' a g ts l R Q nb nd iv fv e f
def KL(T:DA)(F:List V->H->AH):Prop:=∀{U:H}{c g ts l}{R:Rp}{a Q nb}{nd:AM}{iv fv d},
 Pn U c g ts l R a (λb=>Q b\/LB nb iv fv b)->(∀b,Q b->b<U.next)->Nq U nb nd iv fv->Aq c g R.dv nb iv fv->nd.fields=[]->(T.lo<=d+1/\d<=900) ->
 ∃f e U',F [.ptr c 0,.ptr nb 0,.int .i64 (AA d)] U=some (.bool (DK T d nd l R.er a).1,U')/\BG U U' c g ts (DK T d nd l R.er a).2.2.1 R (DK T d nd l R.er a).2.2.2.1 (DK T d nd l R.er a).2.2.2.2 Q nb (DK T d nd l R.er a).2.1 iv fv e f
section
variable {E:EB}{D:Am}{N:Nat}
theorem ZL{T:DA}(u:TLe T)(y:JB T (D 106)){U:H}{m n}{ts l:List Ad}{R:Rp}{j Q nb}{nd:AM}{iv fv d g}
  (h:Pn U m n ts l R j (λb=>Q b\/LB nb iv fv b)) (A:∀b,Q b->b<U.next) (q:Nq U nb nd iv fv) (r:Aq m n R.dv nb iv fv) (B:nd.fields.length+l.length<=9000) (w:(T.lo<=d+1/\d<=900)) (x:g<=9000) :
  ∃f c U',D 106 [.ptr m 0,.ptr nb 0,.int .i64 (AA g),.int .i64 (AA d)] U=some (.bool (Ci T d g nd l R.er j).1,U')/\jr (Ci T d g nd l R.er j) U U' m n ts l R Q nb nd iv fv c f/\((Ci T d g nd l R.er j).1=true->(Ci T d g nd l R.er j).2.2.1.length+1<=l.length):=by
 obtain⟨f,c,U',t,s⟩:=y h A q r (by omega) w x;obtain⟨z,k⟩:=jM u d g nd l R.er j;have k:=k 1 λl' v e=>h.p.ofS_lt (by decide) e;exact⟨f,c,U',t,⟨s,z,λo=>by have:=k o;omega⟩,λo=>(k o).1⟩
theorem ym{T}(hT:TLe T)(hI:Gr (D 62))(hW:D6 (D 27))(hF:JB T (D 106))(hN:9002<N):fJ T (Zw E D (AZ E D) N):=by
 intro U x X ts l R C Q nb nd iv fv d g h G q S Z hd hg;have K:∀n k {U:H}{l:List Ad}{R:Rp}{C}{nd:AM}{fv},Pn U x X ts l R C (λb=>Q b\/LB nb iv fv b)->(∀b,Q b->b<U.next)->Nq U nb nd iv fv->Aq x X R.dv nb iv fv->nd.fields.length+l.length<=9000->l.length<n->l.length<k ->
   ∃u t U',WC E D (AZ E D) N k x 0 (.ptr nb 0) (AA g) (AA d) U=some (.bool (Yq T d g n nd l R.er C).1,U')/\jr (Yq T d g n nd l R.er C) U U' x X ts l R Q nb nd iv fv t u:=by
  intro n;induction n with
  | zero=>intro k U l R C nd fv h G q S Z hn;omega | succ n ih=>
   intro k U l R C nd fv h G q S Z hn hk;obtain⟨k,rfl⟩:∃j,k=j+1:=⟨k-1,by omega⟩;obtain⟨w,J,U1,F,s,v⟩:=ZL hT hF h G q S Z hd hg;unfold Yq;generalize Ci T d g nd l R.er C=i1 at F s v ⊢;obtain⟨b1,af,l1,er1,ah⟩:=i1;show ∃u t U',Rx E D (AZ E D) (WC E D (AZ E D) N k) x 0 (.ptr nb 0) (AA g) (AA d) U=_/\_;cases b1 with
   | false=>
    refine⟨w,J,U1,?_,s⟩;unfold Rx;simp only[↓rP,rS,↓F]
   | true=>
    obtain⟨s,aa,y⟩:=s;have y:=y rfl;have v:=v rfl;simp only[]at F s aa y v ⊢;obtain⟨U2,W,p2,f2⟩:=hI (BS.mk 1 44) s.p.p;have r:=s.trans (BG.go s.p s.q s.ap p2 f2);have L:=DY (BS.mk 1 44) l1;have ag:=r.f.le;generalize CP (BS.mk 1 44) l1=i2 at W p2 r L ⊢;obtain⟨b2,P⟩:=i2;simp only[]at W p2 r L ⊢;cases b2 with
    | true=>
     simp only[]at ⊢;obtain⟨u,t,U',g',s',ab,ac⟩:=ih k r.p (λb Y=>by have:=G b Y;omega) r.q r.ap (by omega) (by omega) (by omega);refine⟨u,t,U',?_,r.trans s',AU ab (by omega),λY=>AU (ac Y) (by omega)⟩;unfold Rx;simp only[↓rP,rS,↓F,↓W];exact g'
    | false=>
     simp only[]at ⊢;obtain⟨U3,U4,e3,I,O,f4⟩:=EM hW r.p.p [BS.mk 2 23901] (by decide);have e3:B9 U2 (.cells [.str (BS.mk 2 23901)])=U3:=e3;have I:D 27 [.ptr x 0,.sl U2.next 0 1 (.ex 1)] U3=some (.bool (Ao [BS.mk 2 23901] P er1).1,U4):=I;have O:Ps U4 x X ts (Ao [BS.mk 2 23901] P er1).2.1 (((R.wd w).e er1).e (Ao [BS.mk 2 23901] P er1).2.2):=O;have s4:=r.trans (BG.go r.p r.q r.ap O f4);have M:=DI [BS.mk 2 23901] P er1;generalize Ao [BS.mk 2 23901] P er1=i4 at I O s4 M ⊢;obtain⟨b4,l4,er4⟩:=i4;simp only[]at I O s4 M ⊢;refine⟨w,J,U4,?_,s4,by simp only[];omega,λY=>by simp only[];omega⟩;unfold Rx;simp only[↓rP,rS,↓F,↓W,↓e3,↓I]
 unfold XU;exact K 9001 N h G q S Z (by omega) (by omega)
theorem yr{T}(hT:TLe T)(hI:Gr (D 62))(hB:fJ T (D 113))(hF:JB T (D 106))(hN:9002<N):fK T (Zy E D (AZ E D) N):=by
 intro U J lv ts l R K Q nb nd iv fv d h hQ q ap hl hd;have loop:∀(n k g:Nat) {U:H}{l:List Ad}{R:Rp}{K:List AM}{nd:AM}{fv:FV},Pn U J lv ts l R K (λb=>Q b\/LB nb iv fv b)->(∀b,Q b->b<U.next)->Nq U nb nd iv fv->Aq J lv R.dv nb iv fv->nd.fields.length+l.length<=9000->l.length<n->l.length<k->g+l.length<=9000 ->
   ∃t s U',SN E D (AZ E D) N k J 0 (.ptr nb 0) (AA d) (AA g) U=some (.bool (Px T d n g nd l R.er K).1,U')/\jr (Px T d n g nd l R.er K) U U' J lv ts l R Q nb nd iv fv s t:=by
  intro n;induction n with
  | zero=>intro k g U l R K nd fv h hQ q ap hl hn;omega | succ n ih=>
   intro k g U l R K nd fv h hQ q ap hl hn hk hg;obtain⟨k,rfl⟩:∃j,k=j+1:=⟨k-1,by omega⟩;show ∃t s U',M7 E D (AZ E D) (Zg E D (AZ E D)) (Oq E D (AZ E D) (SN E D (AZ E D) N k)) J 0 (.ptr nb 0) (AA d) (AA g) U=_/\_;have ag:BP .i64 (AA g) (AA 1)=AA (g+1):=BB (by omega);obtain⟨U1,P,p1,f1⟩:=hI (BS.mk 1 44) h.p;have L:=BG.go h q ap p1 f1;have O:=DY (BS.mk 1 44) l;have lt1:∀l',CP (BS.mk 1 44) l=(true,l')->l'.length+1<=l.length:=λl' e=>h.p.isS_lt e;unfold Px;generalize CP (BS.mk 1 44) l=i1 at P p1 L O lt1 ⊢;obtain⟨b1,l1⟩:=i1;cases b1 with
   | false=>
    simp only[]at P p1 L O ⊢;refine⟨R.dv,fv,U1,?_,L,O,λ_=>by simp only[];omega⟩;unfold M7 Zg;simp only[↓rP,rS,↓P]
   | true=>
    have lt1:=lt1 l1 rfl;simp only[]at P p1 L O ⊢;obtain⟨U2,g2,p2,f2⟩:=hI (BS.mk 2 23387) L.p.p;have F:=L.trans (BG.go L.p L.q L.ap p2 f2);have le2:=DY (BS.mk 2 23387) l1;have lex:=F.f.le;generalize CP (BS.mk 2 23387) l1=i2 at g2 p2 F le2 ⊢;obtain⟨b2,l2⟩:=i2;simp only[]at g2 p2 F le2 ⊢;have hQ2:∀b,Q b->b<U2.next:=λb hb=>by have:=hQ b hb;omega
    have on:∀(y:AM) (S:List Ad) (z:Er) (B:List AM) (g':Nat) (U3:H) (v:FV) (w:V),BG U2 U3 J lv ts S R z B Q nb y iv fv v w->S.length<=l2.length->y.fields.length+S.length<=nd.fields.length+l2.length->g'<=g+1 ->
      ∃t s U',Oq E D (AZ E D) (SN E D (AZ E D) N k) J 0 (.ptr nb 0) (AA d) (AA g') true U3=some (.bool (Px T d n g' y S z B).1,U')/\jr (Px T d n g' y S z B) U U' J lv ts l R Q nb nd iv fv s t:=by
     intro y S z B g' U3 v w G A C hg';have I:=F.trans G;have lex3:=G.f.le;obtain⟨t,s,U',g4,s',le',me'⟩:=ih k g' I.p (λb hb=>by have:=hQ2 b hb;omega) I.q I.ap (by omega) (by omega) (by omega) (by omega);refine⟨t,s,U',?_,I.trans s',AU le' (by omega),λhb=>AU (me' hb) (by omega)⟩;unfold Oq;simp only[↓rP,rS];exact g4
    have s2p:Pn U2 J lv ts l2 R K (λb=>Q b\/LB nb iv fv b):=F.p;cases b2 with
    | true=>
     simp only[]at ⊢;obtain⟨w,v,U3,M,r3⟩:=hB (g:=g+1) s2p hQ2 F.q F.ap (by omega) hd (by omega);generalize XU T d (g+1) nd l2 R.er K=i3 at M r3 ⊢;obtain⟨b3,y,S,z,B⟩:=i3;obtain⟨G,A,C⟩:=r3;simp only[]at M G A C ⊢;cases b3 with
     | false=>
      refine⟨w,v,U3,?_,F.trans G,by simp only[];omega,λh=>by cases h⟩;unfold M7 Oq;simp only[↓rP,rS,↓P,↓g2,ag,↓M]
     | true=>
      obtain⟨t,s,U',g4,r4⟩:=on _ _ _ _ (g+1) U3 v w G A (C rfl) (AL _);refine⟨t,s,U',?_,r4⟩;unfold M7;simp only[↓rP,rS,↓P,↓g2,ag,↓M];exact g4
    | false=>
     simp only[]at ⊢;obtain⟨w,v,U3,M,r3,_⟩:=ZL (g:=0) hT hF s2p hQ2 F.q F.ap (by omega) hd (by omega);generalize Ci T d 0 nd l2 R.er K=i3 at M r3 ⊢;obtain⟨b3,y,S,z,B⟩:=i3;obtain⟨G,A,C⟩:=r3;simp only[]at M G A C ⊢;cases b3 with
     | false=>
      refine⟨w,v,U3,?_,F.trans G,by simp only[];omega,λh=>by cases h⟩;unfold M7 Oq;simp only[↓rP,rS,↓P,↓g2,↓M]
     | true=>
      obtain⟨t,s,U',g4,r4⟩:=on _ _ _ _ g U3 v w G A (C rfl) (by omega);refine⟨t,s,U',?_,r4⟩;unfold M7;simp only[↓rP,rS,↓P,↓g2,↓M];exact g4
 unfold Zb;exact loop 9001 N 0 h hQ q ap hl (by omega) (by omega) (by omega)
theorem TI{T}(hT:TLe T)(hI:Gr (D 62))(hS:PL (D 28))(hW:D6 (D 27))(hA:fK T (D 105))(hF:JB T (D 106))(hN:9003<N):KL T (F95 E D (AZ E D) N):=by
 intro U w I ts l R C Q nb nd iv fv d h hQ q ap h0 hd;have loop:∀(n k:Nat) (f:Bool) {U:H}{l:List Ad}{R:Rp}{C:List AM}{nd:AM}{fv:FV},Pn U w I ts l R C (λb=>Q b\/LB nb iv fv b)->(∀b,Q b->b<U.next)->Nq U nb nd iv fv->Aq w I R.dv nb iv fv->nd.fields.length+l.length<=9000->(f=true->l.length+1<n/\l.length+1<k)->0<n->0<k ->
   ∃z x U',X3 E D (AZ E D) N k w 0 nb 0 (AA d) f U=some (.bool (QC T d n f nd l R.er C).1,U')/\BG U U' w I ts (QC T d n f nd l R.er C).2.2.1 R (QC T d n f nd l R.er C).2.2.2.1 (QC T d n f nd l R.er C).2.2.2.2 Q nb (QC T d n f nd l R.er C).2.1 iv fv x z:=by
  intro n;induction n with
  | zero=>intro k f U l R C nd fv h hQ q ap hl hf hn;omega | succ n ih=>
   intro k f U l R C nd fv h hQ q ap hl hf hn hk;obtain⟨k,rfl⟩:∃j,k=j+1:=⟨k-1,by omega⟩;show ∃z x U',RX E D (AZ E D) (ot E D (AZ E D)) (X3 E D (AZ E D) N k) w 0 nb 0 (AA d) f U=_/\_;unfold QC;have qa:=q.a;unfold AM.c at qa;have sl:∀J:Nat->AH,BV fv.1 J=J nd.fields.length:=λJ=>q.f.slen;cases f with
   | false=>
    simp only[]at ⊢;obtain⟨U1,L,f1,q1⟩:=q.set (off:=13) (y := .int .i64 (AA nd.fields.length)) h.p.ht (nd.mr nd.more nd.fields.length) ⟨rfl,rfl⟩ (by decide) rfl rfl rfl;have s:=BG.own h ap q1 f1;obtain⟨U3,U4,e3,O,p4,f4⟩:=EM hW s.p.p [BS.mk 1 125] (by decide);have e3:B9 U1 (.cells [.str (BS.mk 1 125)])=U3:=e3;have O:D 27 [.ptr w 0,.sl U1.next 0 1 (.ex 1)] U3=some (.bool (Ao [BS.mk 1 125] l R.er).1,U4):=O;have p4:Ps U4 w I ts (Ao [BS.mk 1 125] l R.er).2.1 (R.e (Ao [BS.mk 1 125] l R.er).2.2):=p4;have G:=s.trans (BG.go s.p s.q s.ap p4 f4);generalize Ao [BS.mk 1 125] l R.er=i4 at O G ⊢;obtain⟨b4,l4,er4⟩:=i4;refine⟨_,fv,U4,?_,G⟩;unfold RX ot;simp only[↓rP,rA,AE,AF,AD,↓AT qa,↓sl,↓L,↓e3,↓O]
   | true=>
    obtain⟨hf1,hf2⟩:=hf rfl;simp only[]at ⊢;obtain⟨U1,L,p1,f1⟩:=hI (BS.mk 3 3026478) h.p;have s:=BG.go h q ap p1 f1;have le1:=DY (BS.mk 3 3026478) l;have lex1:=s.f.le;generalize CP (BS.mk 3 3026478) l=i1 at L p1 s le1 ⊢;obtain⟨b1,l1⟩:=i1;have q1a:=s.q.a;unfold AM.c at q1a;have sl1:∀J:Nat->AH,BV fv.1 J=J nd.fields.length:=λJ=>s.q.f.slen;cases b1 with
    | true=>
     simp only[]at L p1 s le1 ⊢;obtain⟨U2,B,f2,q2⟩:=s.q.set (off:=14) (y := .bool true) p1.ht (nd.mr true nd.root) ⟨rfl,rfl⟩ (by decide) rfl rfl rfl;obtain⟨U3,P,f3,q3⟩:=q2.set (off:=13) (y := .int .i64 (AA nd.fields.length)) f2.tidy (nd.mr true nd.fields.length) ⟨rfl,rfl⟩ (by decide) rfl rfl rfl;have F:=s.trans (BG.own s.p s.ap q3 (f2.trans f3 (λ_ _ h=>h)));have lex3:=F.f.le;have s3p:Pn U3 w I ts l1 R C (λb=>Q b\/LB nb iv fv b):=F.p;obtain⟨dv4,fv4,U4,O,G,le4,_⟩:=hA s3p (λb hb=>by have:=hQ b hb;omega) F.q F.ap (by show nd.fields.length+l1.length<=9000;omega) hd;have G:=F.trans G;generalize Zb T d (nd.mr true nd.fields.length) l1 R.er C=i4 at O G ⊢;obtain⟨b4,nd4,l4,er4,ns4⟩:=i4;simp only[]at O G ⊢;cases b4 with
     | false=>
      refine⟨dv4,fv4,U4,?_,G⟩;unfold RX;simp only[↓rP,rA,AE,AF,AD,↓L,↓AT q1a,↓sl1,↓B,↓P,↓O];rfl
     | true=>
      obtain⟨U5,U6,e5,g6,p6,f6⟩:=EM hW G.p.p [BS.mk 1 125] (by decide);have e5:B9 U4 (.cells [.str (BS.mk 1 125)])=U5:=e5;have g6:D 27 [.ptr w 0,.sl U4.next 0 1 (.ex 1)] U5=some (.bool (Ao [BS.mk 1 125] l4 er4).1,U6):=g6;have p6:Ps U6 w I ts (Ao [BS.mk 1 125] l4 er4).2.1 (((R.wd dv4).e er4).e (Ao [BS.mk 1 125] l4 er4).2.2):=p6;have s6:=G.trans (BG.go G.p G.q G.ap p6 f6);refine⟨_,fv4,U6,?_,s6⟩;unfold RX;simp only[↓rP,rA,AE,AF,AD,↓L,↓AT q1a,↓sl1,↓B,↓P,↓O,↓e5,↓g6];rfl
    | false=>
     simp only[]at L p1 s le1 ⊢;have s1p:Pn U1 w I ts l1 R C (λb=>Q b\/LB nb iv fv b):=s.p;obtain⟨S,fv2,U2,B,⟨u,le2,M⟩,K⟩:=ZL (g:=0) hT hF s1p (λb hb=>by have:=hQ b hb;omega) s.q s.ap (by omega) hd (by omega);have u:=s.trans u;generalize Ci T d 0 nd l1 R.er C=i2 at B u le2 M K ⊢;obtain⟨b2,nd2,l2,v,ns2⟩:=i2;simp only[]at B u le2 M K ⊢;cases b2 with
     | false=>
      refine⟨S,fv2,U2,?_,u⟩;unfold RX;simp only[↓rP,rA,AE,AF,AD,↓L,↓B]
     | true=>
      have M:=M rfl;have K:=K rfl;simp only[]at ⊢;obtain⟨U3,P,p3,f3⟩:=hI (BS.mk 1 44) u.p.p;have F:=u.trans (BG.go (er1:=v) u.p u.q u.ap p3 f3);have le3:=DY (BS.mk 1 44) l2;have lex3:=F.f.le;generalize CP (BS.mk 1 44) l2=i3 at P F le3 ⊢;obtain⟨m,l3⟩:=i3;simp only[]at P F le3 ⊢;have s3p:Pn U3 w I ts l3 ((R.wd S).e v) ns2 (λb=>Q b\/LB nb iv fv2 b):=F.p;obtain⟨z,x,U',g',s'⟩:=ih k m s3p (λb hb=>by have:=hQ b hb;omega) F.q F.ap (by omega) (λ_=>⟨by omega,by omega⟩) (by omega) (by omega);have er3:((R.wd S).e v).er=v:=rfl;rw[er3]at g' s';refine⟨z,x,U',?_,F.trans s'⟩;unfold RX;simp only[↓rP,rA,AE,AF,AD,↓L,↓B,↓P];exact g'
 obtain⟨U1,U2,e1,B,p2,f2⟩:=EM hW h.p [BS.mk 1 123] (by decide);have e1:B9 U (.cells [.str (BS.mk 1 123)])=U1:=e1;have B:D 27 [.ptr w 0,.sl U.next 0 1 (.ex 1)] U1=some (.bool (Ao [BS.mk 1 123] l R.er).1,U2):=B;have p2:Ps U2 w I ts (Ao [BS.mk 1 123] l R.er).2.1 (R.e (Ao [BS.mk 1 123] l R.er).2.2):=p2;have hle:=DI [BS.mk 1 123] l R.er;have u:=BG.go h q ap p2 f2;have hfew:=h.p.few;have lex:=f2.le;show ∃z x U',dU E D (AZ E D) (X3 E D (AZ E D) N N) w 0 nb 0 (AA d) U=_/\_;unfold DK;generalize Ao [BS.mk 1 123] l R.er=i2 at B p2 u hle ⊢;obtain⟨b2,l2,v⟩:=i2;simp only[]at B p2 u hle ⊢;cases b2 with
 | false=>
  refine⟨R.dv,fv,U2,?_,u⟩;unfold dU;simp only[↓rP,rS,↓e1,↓B]
 | true=>
  have P:=hS (BS.mk 1 125) p2;simp only[]at ⊢;unfold dC;have s2p:Pn U2 w I ts l2 (R.e v) C (λb=>Q b\/LB nb iv fv b):=u.p;obtain⟨z,x,U',g',s'⟩:=loop 9002 N (!FE (BS.mk 1 125) l2) s2p (λb hb=>by have:=hQ b hb;omega) u.q u.ap (by rw[h0];simp only[Aa];omega) (λ_=>⟨by omega,by omega⟩) (by omega) (by omega);have er3:(R.e v).er=v:=rfl;rw[er3]at g' s';refine⟨z,x,U',?_,u.trans s'⟩;unfold dU;simp only[↓rP,rS,↓e1,↓B,↓P];exact g'
end
def AM.kd(x:AM)(k:Nat):AM:=⟨k,x.name,x.mHas,x.mNum,x.mMode,x.con,x.items,x.fields,x.root,x.more,x.of_⟩
def AM.lo(x:AM)(i:Nat):AM:=⟨x.kind,x.name,x.mHas,x.mNum,x.mMode,x.con,x.items,x.fields,x.root,x.more,i⟩
def Ju(T:DA)(d:Nat)(nd:AM)(l:List Ad)(er:Er)(e:List AM):V8:=match FE (BS.mk 1 123) l with
 | true=>DK T d (nd.kd 7) l er e
 | false=>match Ea nd.con l er with
  | (false,c,h,er1)=>(false,(nd.kd 10).cn c,h,er1,e)
  | (true,c,h,er1)=>match Ao [BS.mk 2 17999] h er1 with
   | (false,j,a)=>(false,(nd.kd 10).cn c,j,a,e)
   | (true,j,a)=>match T.go (d+1) j a e with
    | (b,i,k,g,f)=>(b,((nd.kd 10).cn c).lo i,k,g,f)
structure L6(U U':H)(pb:Nat)(lv:V)(ts l':List Ad)(R:Rp)(er':Er)(ns':List AM)(Q:Nat->Prop)(nb:Nat)(nd':AM)(iv:V)(fv:FV)(iv':V)(fv':FV)(dv':V):Prop where
 p:Pn U' pb lv ts l' ((R.wd dv').e er') ns' (λb=>Q b\/LB nb iv' fv' b)
 q:Nq U' nb nd' iv' fv'
 ap:Aq pb lv dv' nb iv' fv'
 mi:∀b,AS iv' b->AS iv b\/U.next<=b
 mf:∀b,NF fv' b->NF fv b\/U.next<=b
 md:∀b,AS dv' b->AS R.dv b\/U.next<=b
 f:Fr (λb=>PB pb R.dv b\/LB nb iv fv b) U U'
def Vy(T:DA)(F:List V->H->AH):Prop:=∀{U:H}{c g ts l}{R:Rp}{a Q nb}{nd:AM}{iv fv d},
 Pn U c g ts l R a (λb=>Q b\/LB nb iv fv b)->(∀b,Q b->b<U.next)->Nq U nb nd iv fv->Aq c g R.dv nb iv fv->nd.fields=[]->(T.lo<=d+1/\d<=900) ->
 ∃f e U',F [.ptr c 0,.ptr nb 0,.int .i64 (AA d)] U=some (.bool (Ju T d nd l R.er a).1,U')/\BG U U' c g ts (Ju T d nd l R.er a).2.2.1 R (Ju T d nd l R.er a).2.2.2.1 (Ju T d nd l R.er a).2.2.2.2 Q nb (Ju T d nd l R.er a).2.1 iv fv e f
section
variable {U U1 U2:H}{pb:Nat}{lv:V}{ts l l1 l2:List Ad}{R:Rp}{er er1 er2:Er}{ns ns1 ns2:List AM}{Q:Nat->Prop}{nb:Nat}{nd nd1 nd2:AM}{iv:V}{fv fv1 fv2:FV}{dv1 dv2:V}
theorem BG.base(h:BG U U1 pb lv ts l1 R er ns1 Q nb nd1 iv fv fv1 dv1):L6 U U1 pb lv ts l1 R er ns1 Q nb nd1 iv fv iv fv1 dv1:=
 ⟨h.p,h.q,h.ap,λ_ h => .inl h,h.mf,h.md,h.f.mono λ_ _ e=>e.imp id λe=>e.imp id .inr⟩
theorem Aq.an(a:Aq pb lv dv1 nb iv fv):An pb lv nb:=⟨a.a.x,λb g e=>a.a.l (e ▸ g)⟩
theorem BG.cel(h:Pn U pb lv ts l R ns (λb=>Q b\/LB nb iv fv b))(q:Nq U nb nd iv fv)(i:Aq pb lv R.dv nb iv fv)(p:Ps U1 pb lv ts l1 (R.e er1))(a:DQ U1 nb (nd1.c iv fv.1))(E:nd1.items=nd.items)(w:nd1.fields=nd.fields)(f:Fr (λk=>k=pb\/k=nb) U U1):BG U U1 pb lv ts l1 R er1 ns Q nb nd1 iv fv fv R.dv:=by
 obtain⟨C,D,A,G⟩:=h.w;have z:=q.i.fr f h.p.ht (λb d e=>e.elim (i.a.i b d).1 (λe=>q.ni (e ▸ d)));have J:=q.f.fr f h.p.ht (λb d e=>e.elim (i.a.f b (.inl d)).1 (λe=>q.nf (e ▸ .inl d)));have K:=q.g.fr f h.p.ht (λv y b d e=>e.elim (i.a.f b (.inr ⟨v,y,d⟩)).1 (λe=>q.nf (e ▸ .inr ⟨v,y,d⟩)));refine⟨⟨p,⟨C,D.fr f h.p.ht λb d e=>e.elim (h.dx b d).1 (λe=>i.d (e ▸ d)),A,λk nd u B F=>?_⟩,h.dx⟩,⟨a,by rw[E];exact z,by rw[w];exact J,by rw[w];exact K,q.ni,q.nf,q.d,q.gd⟩,i,λ_ h => .inl h,λ_ h => .inl h,f.mono λ_ _ e=>e.elim (λe => .inl (.inl e)) (λe => .inr (.inl e))⟩;have o:=G k nd u B F;exact o.fr f h.p.ht λx d e=>e.elim (o.n x d).1 (λe=>(o.n x d).2.2 (.inr (.inl e)))
theorem yT(h:Nq U nb nd iv fv)(f:CI U)(g:∀b,Q b->b<U.next):∀b,(Q b\/LB nb iv fv b)->b<U.next:=λb c=>by
 rcases c with c|c|c|c
 ·exact g b c
 ·have:=h.a.lt f;omega
 ·exact h.lt_i f c
 ·exact h.lt_f f c
end
section
variable {E:EB}{D:Am}{W:AJ}{N:Nat}
theorem lK{T:DA}(hS:PL (D 28))(hZ:Xx (D 92))(hW:D6 (D 27))(hF:KL T (D 95))(hT:HG T (D 63)):Vy T (F96 E D W N):=by
 intro U p A ts l R ns Q nb nd iv fv d h hQ q ap h0 hd;have K:=hS (BS.mk 1 123) h.p;show ∃X S U',TP E D W p 0 nb 0 (AA d) U=_/\_;unfold Ju;cases L:FE (BS.mk 1 123) l with
 | true=>
  rw[L]at K;simp only[]at ⊢;obtain⟨U2,g2,f2,q2⟩:=q.set (off:=0) (y := .int .i64 (AA 7)) h.p.ht (nd.kd 7) ⟨rfl,rfl⟩ (by decide) rfl rfl rfl;have o:=BG.own h ap q2 f2;have z:Pn U2 p A ts l R ns (λb=>Q b\/LB nb iv fv b):=o.p;have ag:=f2.le;obtain⟨X,S,U',g',s'⟩:=hF z (λb L=>by have:=hQ b L;omega) o.q o.ap h0 hd;refine⟨X,S,U',?_,o.trans s'⟩;unfold TP;simp only[↓rP,rA,AE,AF,AD,↓K,↓g2,↓g']
 | false=>
  rw[L]at K;simp only[]at ⊢;obtain⟨U2,g2,f2,q2⟩:=q.set (off:=0) (y := .int .i64 (AA 10)) h.p.ht (nd.kd 10) ⟨rfl,rfl⟩ (by decide) rfl rfl rfl;have o:=BG.own h ap q2 f2;have z:Pn U2 p A ts l R ns (λb=>Q b\/LB nb iv fv b):=o.p;obtain⟨U3,J,p3,a3,f3⟩:=hZ z.p o.ap.an o.q.a;have ec:(nd.kd 10).con=nd.con:=rfl;rw[ec]at J p3 a3;have F:=o.trans (BG.cel z o.q o.ap p3 a3 rfl rfl f3);generalize Ea nd.con l R.er=i3 at J F ⊢;obtain⟨b3,c,l3,t⟩:=i3;simp only[]at J F ⊢;cases b3 with
  | false=>
   refine⟨_,fv,U3,?_,F⟩;unfold TP;simp only[↓rP,rA,AE,AF,AD,↓K,↓g2,↓J]
  | true=>
   simp only[]at ⊢;have Y:=F.p;obtain⟨U4,I,e4,M,p5,f5⟩:=EM hW Y.p [BS.mk 2 17999] (by decide);have e4:B9 U3 (.cells [.str (BS.mk 2 17999)])=U4:=e4;have M:D 27 [.ptr p 0,.sl U3.next 0 1 (.ex 1)] U4=some (.bool (Ao [BS.mk 2 17999] l3 t).1,I):=M;have p5:Ps I p A ts (Ao [BS.mk 2 17999] l3 t).2.1 ((R.e t).e (Ao [BS.mk 2 17999] l3 t).2.2):=p5;have v:=F.trans (BG.go Y F.q F.ap p5 f5);generalize Ao [BS.mk 2 17999] l3 t=i5 at M v ⊢;obtain⟨b5,l5,s⟩:=i5;simp only[]at M v ⊢;cases b5 with
   | false=>
    refine⟨_,fv,I,?_,v⟩;unfold TP;simp only[↓rP,rA,AE,AF,AD,↓K,↓g2,↓J,↓e4,↓M]
   | true=>
    simp only[]at ⊢;have w:Pn I p A ts l5 (R.e s) ns (λb=>Q b\/LB nb iv fv b):=v.p;have O:Aq p A R.dv nb iv fv:=v.ap;have ad:BP .i64 (AA d) (AA 1)=AA (d+1):=BB (by omega);have af:=v.f.le;obtain⟨x,U6,g6,C,f6,m6⟩:=hT (d:=d+1) w (yT v.q w.p.ht λb L=>by have:=hQ b L;omega) (by omega);have ab:(R.e s).er=s:=rfl;rw[ab]at g6 C;have f6:Fr (PB p R.dv) I U6:=f6;have m6:∀b,AS x b->AS R.dv b\/I.next<=b:=m6;have q6:=v.q.frq f6 w.p.ht O;have ae:Aq p A x nb iv fv:=O.ndv v.q w.p.ht m6;obtain⟨i6,Z⟩:∃r,T.go (d+1) l5 s ns=r:=⟨_,rfl⟩;rw[Z]at g6 C ⊢;clear Z;obtain⟨b6,i,l6,B,P⟩:=i6;simp only[]at g6 C ⊢;have C:Pn U6 p A ts l6 ((R.wd x).e B) P (λb=>Q b\/LB nb iv fv b):=C;obtain⟨U7,g7,f7,q7⟩:=q6.set (off:=15) (y := .int .i64 (AA i)) C.p.ht (((nd.kd 10).cn c).lo i) ⟨rfl,rfl⟩ (by decide) rfl rfl rfl;have s6:BG I U6 p A ts l6 (R.e s) B P Q nb ((nd.kd 10).cn c) iv fv fv x:=⟨C,q6,ae,λ_ h => .inl h,m6,f6.mono λ_ _ e => .inl e⟩;have G:=v.trans s6;have s7:=G.trans (BG.own G.p G.ap q7 f7);refine⟨_,fv,U7,?_,s7⟩;unfold TP;simp only[↓rP,rA,AE,AF,AD,↓K,↓g2,↓J,↓e4,↓M,ad,↓g6,↓g7]
end
def W8(nd:AM)(l:List Ad)(er:Er)(f:List AM):V8:=match CP (BS.mk 1 40) l with
 | (false,e)=>(true,nd,e,er,f)
 | (true,e)=>match Dc nd.con e er with
  | (b,c,i,d)=>match Dj b [BS.mk 1 41] i d with
   | (h,g,a)=>(h,nd.cn c,g,a,f)
def O5(nd:AM)(l:List Ad)(er:Er)(e:List AM):V8:=match Ao [BS.mk 6 78401563153491] l er with
 | (false,d,er1)=>(false,nd,d,er1,e)
 | (true,d,er1)=>match Ea nd.con d er1 with
  | (b,c,f,a)=>(b,nd.cn c,f,a,e)
def xz(nd:AM)(l:List Ad)(er:Er)(d:List AM):V8:=match Ea nd.con l er with
 | (b,c,e,a)=>(b,nd.cn c,e,a,d)
def ye(nd:AM)(l:List Ad)(er:Er)(c:List AM):V8:=match HB nd.is l er with
 | (b,s,d,a)=>(b,nd.wi s,d,a,c)
def WX:List (BS × Nat):=[(BS.mk 7 22026814072246082,1),(BS.mk 4 1280070990,4),(BS.mk 10 488440487847103610377301,6),(BS.mk 7 23157120498421321,2),(BS.mk 5 361940403023,5),(BS.mk 10 322399817400452109389381,3),(BS.mk 3 5522771,8),(BS.mk 6 76155295057987,9),(BS.mk 8 4990918871747741011,7)]
def LD:List (BS × Nat)->List Ad->Nat × List Ad
 | [],l=>(0,l)
 | (s,k)::r,l=>match CP s l with
  | (true,a)=>(k,a)
  | (false,a)=>LD r a
def J4(T:DA)(d:Nat)(nd:AM)(l:List Ad)(er:Er)(a:List AM):Nat->V8
 | 0=>(false,nd,l,EJ er (BJ l).2.2 7,a)
 | 2=>W8 (nd.kd 2) l er a
 | 3=>ye (nd.kd 3) l er a
 | 5=>O5 (nd.kd 5) l er a
 | 6=>xz (nd.kd 6) l er a
 | 7=>Ju T d nd l er a
 | 8=>DK T d (nd.kd 8) l er a
 | 9=>DK T d (nd.kd 9) l er a
 | k=>(true,nd.kd k,l,er,a)
def Wr(T:DA)(d:Nat)(nd:AM)(l:List Ad)(er:Er)(b:List AM):V8:=match LD WX l with
 | (k,a)=>J4 T d nd a er b k
def CA(m:Bool × Int × Nat):AM:=⟨0,[],m.1,m.2.1,m.2.2,Of,[],[],0,false,0⟩
def AM.rf(x:AM)(w:List Nat):AM:=⟨11,w,x.mHas,x.mNum,x.mMode,x.con,x.items,x.fields,x.root,x.more,x.of_⟩
def Gm(T:DA)(d:Nat)(l:List Ad)(er:Er)(b:List AM):V8:=match H0 l er with
 | (false,_,a,er1)=>(false,Iz,a,er1,b)
 | (true,m,a,er1)=>match decide ((BJ a).1=1)with
  | true=>(true,(CA m).rf (BJ a).2.1,Fh a,er1,b)
  | false=>Wr T d (CA m) a er1 b
structure AJ7(U U':H)(pb:Nat)(lv:V)(ts l':List Ad)(R:Rp)(er':Er)(ns':List AM)(Q:Nat->Prop)(nd':AM)(iv:V)(fv:FV)(dv':V):Prop where
 p:Pn U' pb lv ts l' ((R.wd dv').e er') ns' Q
 g:qt U' pb dv' Q nd' (iv,fv)
 md:∀b,AS dv' b->AS R.dv b\/U.next<=b
 f:Fr (PB pb R.dv) U U'
def QN(T:DA)(F:List V->H->AH):Prop:=∀{U:H}{c f ts l}{R:Rp}{a Q d},Pn U c f ts l R a Q->(∀b,Q b->b<U.next)->(T.lo<=d+1/\d<=900) ->
 ∃iv fv e U',F [.ptr c 0,.int .i64 (AA d)] U=some (.tup [.agg ((Gm T d l R.er a).2.1.c iv fv.1),.bool (Gm T d l R.er a).1],U')/\AJ7 U U' c f ts (Gm T d l R.er a).2.2.1 R (Gm T d l R.er a).2.2.2.1 (Gm T d l R.er a).2.2.2.2 Q (Gm T d l R.er a).2.1 iv fv e
def zC:List V:=[.int .i64 (AA 0),.str (BS.mk 0 0),.bool false,.int .i64 (AA 0),.int .i64 (AA 0),.bool false,.bool false,.bool false,.bool false,.int .i64 (AA 0),.int .i64 (AA 0),.nils,.nils,.int .i64 (AA 0),.bool false,.int .i64 (AA 0)]
theorem vv{E U b}{nd:AM}{iv fv}(h:DQ U b (nd.c iv fv)) J:Dt E U b 0 16 J=J (nd.c iv fv):=by
 rw[Ev h];rfl
theorem yk{nd:AM}{iv fv:V}(e:iv.one=true)(d:fv.one=true):BM (nd.c iv fv)=true:=by
 unfold AM.c;simp only[BW,Bg,Ed,FF,GP,e,d,Au]
theorem u1{U b}{z:List V}{nd:AM}{iv fv:V}(j:CI U)(h:DQ U b z)(f:z.length=16)(g:iv.one=true)(i:fv.one=true):∃U',(∀J,Cg 16 b 0 (.agg (nd.c iv fv)) U J=J U')/\DQ U' b (nd.c iv fv)/\Fr (λk=>k=b) U U':=by
 obtain⟨x,l⟩:∃x,z++[]=x:=⟨_,rfl⟩;refine Jo j h (by
  rw[GB,yk g i,f,Au];rfl) ?_
 rw[GB];have:=Qi z [] (nd.c iv fv) (by rw[f];rfl);rw[CZ,CZ]at this;exact this
section
variable {E:EB}{D:Am}{N:Nat}
theorem vN{U:H}{rb nb g}{nd:AM}{iv fv k a w}(f:CI U)(m:DQ U nb (nd.c iv fv))(l:DQ U g [.int .i64 k,.str (BO w),.int .i64 a])(r:g≠nb):
  ∃j U',AZ E D Tv YP [(4,.ptr rb 0),(8,.ptr nb 0),(9,.ptr g 0)] U=some (j,U')/\Go.Og.look j 4=some (.ptr rb 0)/\Go.Og.look j 8=some (.ptr nb 0)/\DQ U' nb ((nd.rf w).c iv fv)/\Fr (λk=>k=nb) U U':=by
 have p:=(Cn (E:=E) (n:=6) (S:=Af) f).fr;have L:=m.lt f;obtain⟨K,G,f1,q⟩:=Fj (n:=1) (x := .tmp 33) (y := .con (.int .i64 (AA 11))) (e:=[(33,.ptr nb 0)]) p.tidy (p.at_ m f (λh=>h)) rfl rfl rfl;obtain⟨o,v,B,C⟩:=Fj (n:=1) (x := .tmp 34) (y := .tmp 32) (e:=[(34,.ptr nb 1),(32,.str (BO w))]) f1.tidy q rfl rfl rfl;have I:ID E D U 6 0 (λk=>k=nb) Tv YP ⟨[(4,.ptr rb 0),(8,.ptr nb 0),(9,.ptr g 0)],U.next+6,[U.bl],[],0,[]⟩ _ o:=
  EI (.ptr g 1) rfl rfl <|
  RA (.str (BO w)) (Cn f) rfl (FG rfl l rfl f r (Bz _ rfl)) λ_ t=>
  EI (.ptr nb 0) rfl rfl <|
  OZ .dead t rfl (by decide) f1 (λ_ _ h=>h) (λb h A _=>by omega) G λ_ _ _ u=>
  EI (.ptr nb 1) rfl rfl <|
  OZ .dead u rfl (by decide) B (λ_ _ h=>h) (λb h A _=>by omega) v λ_ _ _ J=>
  Li J
 obtain⟨z,F⟩:=JP (ops:=Tv) I;exact⟨_,o,z,rfl,rfl,C,F⟩
theorem mN{U U3 U4:H}{r rb nb C ts l4}{R:Rp}{er1 er4 ns4 Q}{nd4:AM}{iv4}{fv4:FV}{dv4}{z:List V} L
  (i:Fr (λk=>k=r) U U3) (N:rb=U.next) (P:U.next<nb) (K:DQ U3 rb z) (W:z.length=16) (Z:∀b,Q b->b<U.next) (B:∀b,AS C b->b<U.next) (u:∀b,AS R.dv b->b<U.next) (hp:r<U.next)
  (s:L6 U3 U4 r C ts l4 (R.e er1) er4 ns4 (λb=>Q b\/b=rb) nb nd4 .nils (.nils,[]) iv4 fv4 dv4) :
  ∃w,Xd E D (AZ E D) rb 0 L nb 0 U4=some (.tup [.agg (nd4.c iv4 fv4.1),.bool L],w)/\AJ7 U w r C ts l4 R er4 ns4 Q nd4 iv4 fv4 dv4:=by
 have aa:=i.le;have l3:=K.lt (show CI U3 from i.tidy);have Y:=s.f.le;have S:=s.q.i.one;have O:=s.q.f.one;have I:=s.md;have F:=λb d=>(s.mi b d).elim (λh=>h.elim) id;have y:=λb d=>(s.mf b d).elim (λh=>h.elim (λh=>h.elim) (λ⟨v,m,_⟩=>by cases m)) id;have nr:rb≠nb:=by omega
 have X:=s.f.at_ K i.tidy (λe=>by
  rcases e with (e|e)|e|e|e|⟨v,m,_⟩
  ·omega
  ·have:=u _ e;omega
  ·omega
  ·exact e
  ·exact e
  ·cases m)
 obtain⟨w,M,a5,t⟩:=u1 (nd:=nd4) s.p.p.ht X W S O;have p:=vv (E:=E) s.q.a;have o:=vv (E:=E) a5;refine⟨w,?_,?_,⟨?_,?_,?_,?_⟩,λb d=>(I b d).imp id (λh=>by omega),?_⟩
 ·unfold AM.c at p M o ⊢
  unfold Xd;simp only[↓rP,rA,AE,AF,AD,↓p,↓M,↓o]
 ·have A:∀b,AS dv4 b->b≠rb:=λb d e=>(I b d).elim (λh=>by have:=u b h;omega) (λh=>by omega)
  have T:=s.p.fr t (by omega) (λb d e=>by have:=B b d;omega) A (λb _ e => .inl (.inr e));exact T.ext λb d => .inl (.inl (.inl d))
 ·exact s.q.i.src.fr t s.p.p.ht (λb d e=>by have:=F b d;omega)
 ·exact s.q.f.src.fr t s.p.p.ht (λb d e=>by have:=y b (.inl d);omega)
 ·exact s.q.g.fr t s.p.p.ht (λv m b d e=>by have:=y b (.inr ⟨v,m,d⟩);omega)
 ·intro b d
  refine⟨?_,?_,?_⟩
  ·exact d.elim (λe=>(s.ap.a.i b e).1) (λe=>(s.ap.a.f b e).1)
  ·exact d.elim (s.ap.i b) (s.ap.f b)
  ·intro q
   have:=Z b q;exact d.elim (λe=>by have:=F b e;omega) (λe=>by have:=y b e;omega)
 ·refine((i.mono (λ_ _ e => .inl e):Fr (PB r R.dv) U U3).trans s.f (λb d e=>?_)).trans t (λb d e=>by omega)
  rcases e with e|e|e|e|⟨v,m,_⟩
  ·exact e
  ·omega
  ·exact e.elim
  ·exact e.elim
  ·cases m
theorem c7{U v:H}{m nb n ts l z}{R:Rp}{er1 w Q j iv o fv}
  (h:Pn U m n ts l R w (λb=>Q b\/LB nb iv fv b)) (r:Aq m n R.dv nb iv fv) (s:GK U v m n ts z (R.e er1) nb j iv o fv):L6 U v m n ts z R er1 w Q nb j iv fv o fv R.dv:=by
 have J:=s.f.le;have I:=h.p.lt;obtain⟨B,A,E,F⟩:=h.w;have C:Pn v m n ts z (R.e er1) w (λb=>(Q b\/LB nb iv fv b)\/U.next<=b):=by
  refine⟨s.p,⟨B,A.fr s.f h.p.ht λb c e=>?_,E,λk nd u y D=>?_⟩,h.dx⟩
  ·rcases e with e|e|e
   ·exact(h.dx b c).1 e
   ·exact r.d (e ▸ c)
   ·exact r.i b e c
  ·have p:=F k nd u y D
   have i:=p.fr s.f h.p.ht λx c e=>by
    rcases e with e|e|e
    ·exact(p.n x c).1 e
    ·exact(p.n x c).2.2 (.inr (.inl e))
    ·exact(p.n x c).2.2 (.inr (.inr (.inl e)))
   exact⟨i.i,i.f,i.g,λb c=>⟨(i.n b c).1,(i.n b c).2.1,λq=>q.elim (i.n b c).2.2 λG=>by have:=p.lt h.p.ht c;omega⟩⟩
 refine⟨C.ext λb c => .inl ?_,s.q,⟨s.ap,r.d,λb c=>(s.m b c).elim (r.i b) (λe y=>by have:=h.dlt y;omega),r.f⟩,s.m,λ_ h => .inl h,λ_ h => .inl h,s.f.mono λb _ e=>?_⟩
 ·rcases c with c|c|c|c
  ·exact .inl (.inl c)
  ·exact .inl (.inr (.inl c))
  ·exact(s.m b c).elim (λe => .inl (.inr (.inr (.inl e)))) .inr
  ·exact .inl (.inr (.inr (.inr c)))
 ·rcases e with e|e|e
  ·exact .inl (.inl e)
  ·exact .inr (.inl e)
  ·exact .inr (.inr (.inl e))
theorem BG.tb{U s q o nb n ts u r}{R:Rp}{er1 f t i Q m c iv g fv d j}
  (h:BG U s o n ts u R er1 t Q nb m iv fv fv R.dv) (k:L6 s q o n ts r (R.e er1) f i Q nb c iv fv g d j):L6 U q o n ts r R f i Q nb c iv fv g d j:=by
 have v:=h.f.le;exact⟨k.p,k.q,k.ap,λb l=>(k.mi b l).imp id (λe=>by omega),λb l=>(k.mf b l).imp id (λe=>by omega),λb l=>(k.md b l).imp id (λe=>by omega),(h.f.mono λb _ e=>e.imp id λe=>e.imp id .inr).trans k.f λb _ e=>e⟩
section
variable {T:DA}{d:Nat}{nd:AM}{l:List Ad}{er:Er}{ns:List AM}
theorem kn0:J4 T d nd l er ns 0=(false,nd,l,EJ er (BJ l).2.2 7,ns):=rfl
theorem kn1:J4 T d nd l er ns 1=(true,nd.kd 1,l,er,ns):=rfl
theorem kn2:J4 T d nd l er ns 2=W8 (nd.kd 2) l er ns:=rfl
theorem kn3:J4 T d nd l er ns 3=ye (nd.kd 3) l er ns:=rfl
theorem kn4:J4 T d nd l er ns 4=(true,nd.kd 4,l,er,ns):=rfl
theorem kn5:J4 T d nd l er ns 5=O5 (nd.kd 5) l er ns:=rfl
theorem kn6:J4 T d nd l er ns 6=xz (nd.kd 6) l er ns:=rfl
theorem kn7:J4 T d nd l er ns 7=Ju T d nd l er ns:=rfl
theorem kn8:J4 T d nd l er ns 8=DK T d (nd.kd 8) l er ns:=rfl
theorem kn9:J4 T d nd l er ns 9=DK T d (nd.kd 9) l er ns:=rfl
end
theorem kV{l}:LD WX l=(match CP (BS.mk 7 22026814072246082) l with | (true,a)=>(1,a) | (false,a)=>LD [(BS.mk 4 1280070990,4),(BS.mk 10 488440487847103610377301,6),(BS.mk 7 23157120498421321,2),(BS.mk 5 361940403023,5),(BS.mk 10 322399817400452109389381,3),(BS.mk 3 5522771,8),(BS.mk 6 76155295057987,9),(BS.mk 8 4990918871747741011,7)] a):=rfl
theorem kU{l}:LD [(BS.mk 4 1280070990,4),(BS.mk 10 488440487847103610377301,6),(BS.mk 7 23157120498421321,2),(BS.mk 5 361940403023,5),(BS.mk 10 322399817400452109389381,3),(BS.mk 3 5522771,8),(BS.mk 6 76155295057987,9),(BS.mk 8 4990918871747741011,7)] l=(match CP (BS.mk 4 1280070990) l with | (true,a)=>(4,a) | (false,a)=>LD [(BS.mk 10 488440487847103610377301,6),(BS.mk 7 23157120498421321,2),(BS.mk 5 361940403023,5),(BS.mk 10 322399817400452109389381,3),(BS.mk 3 5522771,8),(BS.mk 6 76155295057987,9),(BS.mk 8 4990918871747741011,7)] a):=rfl
theorem kT{l}:LD [(BS.mk 10 488440487847103610377301,6),(BS.mk 7 23157120498421321,2),(BS.mk 5 361940403023,5),(BS.mk 10 322399817400452109389381,3),(BS.mk 3 5522771,8),(BS.mk 6 76155295057987,9),(BS.mk 8 4990918871747741011,7)] l=(match CP (BS.mk 10 488440487847103610377301) l with | (true,a)=>(6,a) | (false,a)=>LD [(BS.mk 7 23157120498421321,2),(BS.mk 5 361940403023,5),(BS.mk 10 322399817400452109389381,3),(BS.mk 3 5522771,8),(BS.mk 6 76155295057987,9),(BS.mk 8 4990918871747741011,7)] a):=rfl
theorem kS{l}:LD [(BS.mk 7 23157120498421321,2),(BS.mk 5 361940403023,5),(BS.mk 10 322399817400452109389381,3),(BS.mk 3 5522771,8),(BS.mk 6 76155295057987,9),(BS.mk 8 4990918871747741011,7)] l=(match CP (BS.mk 7 23157120498421321) l with | (true,a)=>(2,a) | (false,a)=>LD [(BS.mk 5 361940403023,5),(BS.mk 10 322399817400452109389381,3),(BS.mk 3 5522771,8),(BS.mk 6 76155295057987,9),(BS.mk 8 4990918871747741011,7)] a):=rfl
theorem kR{l}:LD [(BS.mk 5 361940403023,5),(BS.mk 10 322399817400452109389381,3),(BS.mk 3 5522771,8),(BS.mk 6 76155295057987,9),(BS.mk 8 4990918871747741011,7)] l=(match CP (BS.mk 5 361940403023) l with | (true,a)=>(5,a) | (false,a)=>LD [(BS.mk 10 322399817400452109389381,3),(BS.mk 3 5522771,8),(BS.mk 6 76155295057987,9),(BS.mk 8 4990918871747741011,7)] a):=rfl
theorem kQ{l}:LD [(BS.mk 10 322399817400452109389381,3),(BS.mk 3 5522771,8),(BS.mk 6 76155295057987,9),(BS.mk 8 4990918871747741011,7)] l=(match CP (BS.mk 10 322399817400452109389381) l with | (true,a)=>(3,a) | (false,a)=>LD [(BS.mk 3 5522771,8),(BS.mk 6 76155295057987,9),(BS.mk 8 4990918871747741011,7)] a):=rfl
theorem kP{l}:LD [(BS.mk 3 5522771,8),(BS.mk 6 76155295057987,9),(BS.mk 8 4990918871747741011,7)] l=(match CP (BS.mk 3 5522771) l with | (true,a)=>(8,a) | (false,a)=>LD [(BS.mk 6 76155295057987,9),(BS.mk 8 4990918871747741011,7)] a):=rfl
theorem kO{l}:LD [(BS.mk 6 76155295057987,9),(BS.mk 8 4990918871747741011,7)] l=(match CP (BS.mk 6 76155295057987) l with | (true,a)=>(9,a) | (false,a)=>LD [(BS.mk 8 4990918871747741011,7)] a):=rfl
theorem kN{l}:LD [(BS.mk 8 4990918871747741011,7)] l=(match CP (BS.mk 8 4990918871747741011) l with | (true,a)=>(7,a) | (false,a)=>LD [] a):=rfl
theorem cX{T}(hP:C0 (D 29))(hX:FL (D 61))(hM:QO (D 91))(hI:Gr (D 62))(hFl:HH (D 60))(hW:D6 (D 27))(hZ:Xx (D 92))(hB:SC (D 93))(hIt:N9 (D 94))(hF:KL T (D 95))(hS:Vy T (D 96)):QN T (F80 E D (AZ E D) N):=by
 intro U pb lv ts l R ns Q d h hQ hd;obtain⟨U0,e0,f0,a0,n0⟩:=Ia h.p.ht zC;have h0:=(h.ext (Q':=λb=>Q b\/b=U.next) λb C=>C.imp id (λe=>by omega)).fr f0 (λh=>h) (λ_ _ h=>h) (λ_ _ h=>h) (λ_ _ h=>h.elim);have lp:=h.p.lt;have ll:=h.p.llt;have ld:∀b,AS R.dv b->b<U.next:=λb C=>h.dlt C;obtain⟨U1,g1,p1,f1⟩:=hM h0.p;have h1:=h0.goe p1 f1;have f01:Fr (λk=>k=pb) U U1:=(f0.mono λ_ _ h=>h.elim:Fr (λk=>k=pb) U U0).trans f1 (λ_ _ h=>h);have r1:=f1.at_ a0 h0.p.ht (by omega);show ∃iv fv dv' U',IC E D (AZ E D) (Xd E D (AZ E D)) pb 0 (AA d) U=_/\_;unfold zC at e0 a0 r1;unfold Gm;generalize H0 l R.er=i1 at g1 p1 h1 ⊢;obtain⟨b1,m,l1,er1⟩:=i1;simp only[]at g1 p1 h1 ⊢;cases b1 with
 | false=>
  obtain⟨U2,g2,a2,f2⟩:=u1 (nd:=Iz) (iv := .nils) (fv := .nils) p1.ht r1 rfl rfl rfl;have l2':=vv (E:=E) a2;refine⟨.nils,(.nils,[]),R.dv,U2,?_,⟨?_,⟨.inl ⟨rfl,rfl,rfl⟩,.inl ⟨rfl,rfl,rfl⟩,⟨rfl,λk x v hx=>by cases hx⟩,λb C=>?_⟩,λ_ h => .inl h,?_⟩⟩
  ·unfold AM.c at g2 l2' ⊢
   have g2:∀J:H->AH,Cg 16 U.next 0 (.agg zC) U1 J=J U2:=g2;have l2':∀J:List V->AH,Dt E U2 U.next 0 16 J=J zC:=l2';unfold zC at g2 l2';unfold IC;simp only[↓rP,rA,AE,AF,AD,↓e0,↓g1,↓g2,↓l2'];rfl
  ·exact(h1.fr f2 (by omega) (λb C e=>by have:=ll b C;omega) (λb C e=>by have:=ld b C;omega) (λb _ e => .inr e)).ext λb C => .inl (.inl C)
  ·rcases C with C|C|⟨v,hv,_⟩
   ·exact C.elim
   ·exact C.elim
   ·cases hv
  ·exact(f01.mono λ_ _ e => .inl e).trans f2 (λb C e=>by omega)
 | true=>
  simp only[]at ⊢;obtain⟨U2,e2,f2,a2,n2⟩:=Ia p1.ht zC;have le1:=f01.le;have r1l:=r1.lt p1.ht;have le2:=f2.le;have h2:=(h1.ext (Q':=λb=>(Q b\/b=U.next)\/LB U1.next .nils (.nils,[]) b) λb C=>by
   rcases C with C|C|C|C|⟨v,hv,_⟩
   ·exact .inl C
   ·exact .inr (by omega)
   ·exact C.elim
   ·exact C.elim
   ·cases hv).fr f2 (λh=>h) (λ_ _ h=>h) (λ_ _ h=>h) (λ_ _ h=>h.elim)
  obtain⟨U3,s3,a3,f3⟩:=u1 (nd:=CA m) (iv := .nils) (fv := .nils) f2.tidy a2 rfl rfl rfl;have h3:=h2.fr f3 (by omega) (λb C e=>by have:=ll b C;omega) (λb C e=>by have:=ld b C;omega) (λb _ e => .inr (.inl e));have g4:=hP h3.p;obtain⟨U5,e5,f5,a5,n5⟩:=Ia h3.p.ht [.int .i64 (AA 0),.str ⟨0,0⟩,.int .i64 (AA 0)];obtain⟨U6,s6,a6,f6⟩:=Jo (n:=3) (o:=0) (v := .agg (Bu (BJ l1))) (l':=Bu (BJ l1)) f5.tidy a5 rfl rfl;have f36:Fr Af U3 U6:=f5.trans f6 (λb C e=>by omega);have h6:=h3.fr f36 (λh=>h) (λ_ _ h=>h) (λ_ _ h=>h) (λ_ _ h=>h.elim);have le3:=f3.le;have le6:=f36.le;have f06:Fr (λk=>k=pb) U U6:=((f01.trans f2 (λ_ _ h=>h.elim)).trans f3 (λb C e=>by omega)).trans f36 (λ_ _ h=>h.elim);have r6:DQ U6 U.next zC:=f36.at_ (f3.at_ (f2.at_ r1 p1.ht (λh=>h)) f2.tidy (by omega)) h3.p.ht (λh=>h);have b6:=f36.at_ a3 h3.p.ht (λh=>h);have nf0:∀b,¬NF ((.nils,[]):FV) b:=λb h=>by
   rcases h with h|⟨v,hv,_⟩
   ·exact h.elim
   ·cases hv
  have q6:Nq U6 U1.next (CA m) .nils (.nils,[]):=⟨b6,ES.nil _ _,ES.nil _ _,⟨rfl,λk x v hx=>(by cases hx)⟩,λh=>h.elim,nf0 _,λb h=>h.elim,λv hv=>(by cases hv)⟩;have ap6:Aq pb lv R.dv U1.next .nils (.nils,[]):=⟨⟨by omega,λhn=>by have:=ll _ hn;omega,λb h=>h.elim,λb h=>(nf0 b h).elim⟩,λhn=>by have:=ld _ hn;omega,λb h=>h.elim,λb h=>(nf0 b h).elim⟩;have hQ6:∀b,(Q b\/b=U.next)->b<U6.next:=λb C=>C.elim (λe=>by have:=hQ b e;omega) (λe=>by omega);unfold Bu at g4 s6 a6;have s3:∀J:H->AH,Cg 16 U1.next 0 (.agg [.int .i64 (AA 0),.str (BS.mk 0 0),.bool m.1,.int .i64 m.2.1,.int .i64 (AA m.2.2),.bool false,.bool false,.bool false,.bool false,.int .i64 (AA 0),.int .i64 (AA 0),.nils,.nils,.int .i64 (AA 0),.bool false,.int .i64 (AA 0)]) U2 J=J U3:=s3;unfold zC at e2;have fin:=λ(ok:Bool) {U4:H}{l4:List Ad}{er4:Er}{ns4:List AM}{nd4:AM}{iv4:V}{fv4:FV}{dv4:V} s=>mN (E:=E) (D:=D) (U:=U) (U3:=U6) (U4:=U4) (ts:=ts) (l4:=l4) (R:=R) (er1:=er1) (er4:=er4) (ns4:=ns4) (nd4:=nd4) (iv4:=iv4) (fv4:=fv4) (dv4:=dv4) (rb:=U.next) (nb:=U1.next) ok f06 rfl r1l r6 rfl hQ ll ld lp s;have h6p:Pn U6 pb lv ts l1 (R.e er1) ns (λb=>(Q b\/b=U.next)\/LB U1.next .nils (.nils,[]) b):=h6;have er:(R.e er1).er=er1:=rfl;have t0:BG U6 U6 pb lv ts l1 (R.e er1) er1 ns (λb=>Q b\/b=U.next) U1.next (CA m) .nils (.nils,[]) (.nils,[]) R.dv:=⟨h6p,q6,ap6,λ_ h => .inl h,λ_ h => .inl h,Fr.refl h6p.p.ht⟩;cases hk:decide ((BJ l1).1=1)with
  | true=>
   simp only[]at ⊢;obtain⟨U7,g7,p7,f7⟩:=hX h6p.p;have t7:=t0.trans (BG.go (er1:=er1) h6p q6 ap6 p7 f7);have a7:=f7.at_ a6 h6p.p.ht (by have:=h3.p.lt;omega);unfold Bu at g7;obtain⟨e',U8,g8,m4,m8,a8,f8⟩:=vN (E:=E) (D:=D) (rb:=U.next) p7.ht t7.q.a a7 (by omega);have t8:=t7.trans (BG.own t7.p t7.ap (⟨a8,ES.nil _ _,ES.nil _ _,⟨rfl,λk x v hx=>by cases hx⟩,λh=>h.elim,nf0 _,λb h=>h.elim,λv hv=>by cases hv⟩:Nq U8 U1.next ((CA m).rf (BJ l1).2.1) .nils (.nils,[])) f8);obtain⟨U9,g9,s9⟩:=fin true t8.base;refine⟨_,_,_,U9,?_,s9⟩;have gd:∀J:Cb->H->AH,DZ (AZ E D Tv YP [(4,.ptr U.next 0),(8,.ptr U1.next 0),(9,.ptr U3.next 0)] U7) J=J e' U8:=λJ=>by rw[g8];rfl
   have m4':∀J:V->AH,EO e' 4 J=J (.ptr U.next 0):=λJ=>D4 m4 rfl;have m8':∀J:V->AH,EO e' 8 J=J (.ptr U1.next 0):=λJ=>D4 m8 rfl;rw[<-g9];unfold IC Xd;simp only[↓rP,rA,AE,AF,AD,↓e0,↓g1,↓e2,↓s3,↓g4,↓e5,↓s6,↓AT a6,hk,↓g7,↓gd,↓m4',↓m8']
  | false=>
   simp only[]at ⊢;have word:∀{U':H}{l':List Ad} (s:BS),BG U6 U' pb lv ts l' (R.e er1) er1 ns (λb=>Q b\/b=U.next) U1.next (CA m) .nils (.nils,[]) (.nils,[]) R.dv->∃U'',D 62 [.ptr pb 0,.str s] U'=some (.bool (CP s l').1,U'')/\BG U6 U'' pb lv ts (CP s l').2 (R.e er1) er1 ns (λb=>Q b\/b=U.next) U1.next (CA m) .nils (.nils,[]) (.nils,[]) R.dv:=by
    intro U' l' s st;obtain⟨U'',g,p,f⟩:=hI s st.p.p;exact⟨U'',g,st.trans (BG.go (er1:=er1) st.p st.q st.ap p f)⟩
   have kind:∀{U':H}{l':List Ad} (k:Nat),BG U6 U' pb lv ts l' (R.e er1) er1 ns (λb=>Q b\/b=U.next) U1.next (CA m) .nils (.nils,[]) (.nils,[]) R.dv->∃U'',(∀J:H->AH,Cg 1 U1.next 0 (.int .i64 (AA k)) U' J=J U'')/\BG U6 U'' pb lv ts l' (R.e er1) er1 ns (λb=>Q b\/b=U.next) U1.next ((CA m).kd k) .nils (.nils,[]) (.nils,[]) R.dv:=by
    intro U' l' k st;obtain⟨U'',g,f,q'⟩:=st.q.set (off:=0) (y := .int .i64 (AA k)) st.p.p.ht ((CA m).kd k) ⟨rfl,rfl⟩ (by decide) rfl rfl rfl;exact⟨U'',g,st.trans (BG.own st.p st.ap q' f)⟩
   unfold Wr;obtain⟨UxA,F,txA⟩:=word (BS.mk 7 22026814072246082) t0;rw[kV];generalize CP (BS.mk 7 22026814072246082) l1=ixA at F txA ⊢;obtain⟨bxA,lxA⟩:=ixA;cases bxA with
   | true=>
    simp only[]at F txA ⊢;rw[kn1];obtain⟨Uk,gk,B⟩:=kind 1 txA;obtain⟨U9,g9,s9⟩:=fin true B.base;refine⟨_,_,_,U9,?_,s9⟩;unfold IC;simp only[↓rP,rA,AE,AF,AD,↓e0,↓g1,↓e2,↓s3,↓g4,↓e5,↓s6,↓AT a6,hk,↓F,↓gk];exact g9
   | false=>
   simp only[]at F txA ⊢;obtain⟨UyA,gyA,tyA⟩:=word (BS.mk 4 1280070990) txA;rw[kU];generalize CP (BS.mk 4 1280070990) lxA=iyA at gyA tyA ⊢;obtain⟨byA,lyA⟩:=iyA;cases byA with
   | true=>
    simp only[]at gyA tyA ⊢;rw[kn4];obtain⟨Uk,gk,B⟩:=kind 4 tyA;obtain⟨U9,g9,s9⟩:=fin true B.base;refine⟨_,_,_,U9,?_,s9⟩;unfold IC;simp only[↓rP,rA,AE,AF,AD,↓e0,↓g1,↓e2,↓s3,↓g4,↓e5,↓s6,↓AT a6,hk,↓F,↓gyA,↓gk];exact g9
   | false=>
   simp only[]at gyA tyA ⊢;obtain⟨UzA,gzA,tzA⟩:=word (BS.mk 10 488440487847103610377301) tyA;rw[kT];generalize CP (BS.mk 10 488440487847103610377301) lyA=izA at gzA tzA ⊢;obtain⟨bzA,lzA⟩:=izA;cases bzA with
   | true=>
    simp only[]at gzA tzA ⊢;rw[kn6];obtain⟨Uk,gk,B⟩:=kind 6 tzA;obtain⟨Uz,A,pz,az,fz⟩:=hZ B.p.p B.ap.an B.q.a;have A:D 92 [.ptr pb 0,.ptr U1.next 5] Uk=some (.bool (Ea ((CA m).kd 6).con lzA er1).1,Uz):=A;have pz:Ps Uz pb lv ts (Ea ((CA m).kd 6).con lzA er1).2.2.1 ((R.e er1).e (Ea ((CA m).kd 6).con lzA er1).2.2.2):=pz;have az:DQ Uz U1.next ((((CA m).kd 6).cn (Ea ((CA m).kd 6).con lzA er1).2.1).c .nils .nils):=az;have tz:=B.trans (BG.cel B.p B.q B.ap pz az rfl rfl fz);unfold xz;generalize Ea ((CA m).kd 6).con lzA er1=iz at A tz ⊢;obtain⟨bz,c,lz,erz⟩:=iz;simp only[]at A tz ⊢;obtain⟨U9,g9,s9⟩:=fin bz tz.base;refine⟨_,_,_,U9,?_,s9⟩;unfold IC;simp only[↓rP,rA,AE,AF,AD,↓e0,↓g1,↓e2,↓s3,↓g4,↓e5,↓s6,↓AT a6,hk,↓F,↓gyA,↓gzA,↓gk,↓A];exact g9
   | false=>
   simp only[]at gzA tzA ⊢;obtain⟨UuA,guA,tuA⟩:=word (BS.mk 7 23157120498421321) tzA;rw[kS];generalize CP (BS.mk 7 23157120498421321) lzA=iuA at guA tuA ⊢;obtain⟨buA,luA⟩:=iuA;cases buA with
   | true=>
    simp only[]at guA tuA ⊢;rw[kn2];obtain⟨Uk,gk,B⟩:=kind 2 tuA;obtain⟨Uy,gy,py,fy⟩:=hI (BS.mk 1 40) B.p.p;have ty:=B.trans (BG.go (er1:=er1) B.p B.q B.ap py fy);unfold W8;generalize CP (BS.mk 1 40) luA=iy at gy ty ⊢;obtain⟨by_,ly⟩:=iy;cases by_ with
    | false=>
     simp only[]at gy ty ⊢;obtain⟨U9,g9,s9⟩:=fin true ty.base;refine⟨_,_,_,U9,?_,s9⟩;unfold IC;simp only[↓rP,rA,AE,AF,AD,↓e0,↓g1,↓e2,↓s3,↓g4,↓e5,↓s6,↓AT a6,hk,↓F,↓gyA,↓gzA,↓guA,↓gk,↓gy];exact g9
    | true=>
     simp only[]at gy ty ⊢;obtain⟨Uz,A,pz,az,fz⟩:=hB ty.p.p ty.ap.an ty.q.a;have A:D 93 [.ptr pb 0,.ptr U1.next 5] Uy=some (.bool (Dc ((CA m).kd 2).con ly er1).1,Uz):=A;have pz:Ps Uz pb lv ts (Dc ((CA m).kd 2).con ly er1).2.2.1 ((R.e er1).e (Dc ((CA m).kd 2).con ly er1).2.2.2):=pz;have az:DQ Uz U1.next ((((CA m).kd 2).cn (Dc ((CA m).kd 2).con ly er1).2.1).c .nils .nils):=az;have tz:=ty.trans (BG.cel ty.p ty.q ty.ap pz az rfl rfl fz);generalize Dc ((CA m).kd 2).con ly er1=iz at A tz ⊢;obtain⟨bz,c,lz,erz⟩:=iz;simp only[]at A tz ⊢;cases bz with
     | false=>
      obtain⟨U9,g9,s9⟩:=fin false tz.base;refine⟨_,_,_,U9,?_,s9⟩;unfold IC;simp only[↓rP,rA,AE,AF,AD,↓e0,↓g1,↓e2,↓s3,↓g4,↓e5,↓s6,↓AT a6,hk,↓F,↓gyA,↓gzA,↓guA,↓gk,↓gy,↓A];exact g9
     | true=>
      have tzp:Pn Uz pb lv ts lz (R.e erz) ns (λb=>(Q b\/b=U.next)\/LB U1.next .nils (.nils,[]) b):=tz.p;obtain⟨U7,U8,e7,g8,p8,f8⟩:=EM hW tzp.p [BS.mk 1 41] (by decide);have e7:B9 Uz (.cells [.str (BS.mk 1 41)])=U7:=e7;have g8:D 27 [.ptr pb 0,.sl Uz.next 0 1 (.ex 1)] U7=some (.bool (Ao [BS.mk 1 41] lz erz).1,U8):=g8;have p8:Ps U8 pb lv ts (Ao [BS.mk 1 41] lz erz).2.1 ((R.e erz).e (Ao [BS.mk 1 41] lz erz).2.2):=p8;have t8:=tz.trans (BG.go tzp tz.q tz.ap p8 f8);obtain⟨U9,g9,s9⟩:=fin (Ao [BS.mk 1 41] lz erz).1 t8.base;refine⟨_,_,_,U9,?_,s9⟩;unfold IC;simp only[↓rP,rA,AE,AF,AD,↓e0,↓g1,↓e2,↓s3,↓g4,↓e5,↓s6,↓AT a6,hk,↓F,↓gyA,↓gzA,↓guA,↓gk,↓gy,↓A,↓e7,↓g8];exact g9
   | false=>
   simp only[]at guA tuA ⊢;obtain⟨UvA,gvA,tvA⟩:=word (BS.mk 5 361940403023) tuA;rw[kR];generalize CP (BS.mk 5 361940403023) luA=ivA at gvA tvA ⊢;obtain⟨bvA,lvA⟩:=ivA;cases bvA with
   | true=>
    simp only[]at gvA tvA ⊢;rw[kn5];obtain⟨Uk,gk,B⟩:=kind 5 tvA;have tkp:Pn Uk pb lv ts lvA (R.e er1) ns (λb=>(Q b\/b=U.next)\/LB U1.next .nils (.nils,[]) b):=B.p;obtain⟨U7,U8,e7,g8,p8,f8⟩:=EM hW tkp.p [BS.mk 6 78401563153491] (by decide);have e7:B9 Uk (.cells [.str (BS.mk 6 78401563153491)])=U7:=e7;have g8:D 27 [.ptr pb 0,.sl Uk.next 0 1 (.ex 1)] U7=some (.bool (Ao [BS.mk 6 78401563153491] lvA er1).1,U8):=g8;have p8:Ps U8 pb lv ts (Ao [BS.mk 6 78401563153491] lvA er1).2.1 ((R.e er1).e (Ao [BS.mk 6 78401563153491] lvA er1).2.2):=p8;have t8:=B.trans (BG.go tkp B.q B.ap p8 f8);unfold O5;generalize Ao [BS.mk 6 78401563153491] lvA er1=i8 at g8 t8 ⊢;obtain⟨b8,l8,er8⟩:=i8;cases b8 with
    | false=>
     simp only[]at g8 t8 ⊢;obtain⟨U9,g9,s9⟩:=fin false t8.base;refine⟨_,_,_,U9,?_,s9⟩;unfold IC;simp only[↓rP,rA,AE,AF,AD,↓e0,↓g1,↓e2,↓s3,↓g4,↓e5,↓s6,↓AT a6,hk,↓F,↓gyA,↓gzA,↓guA,↓gvA,↓gk,↓e7,↓g8];exact g9
    | true=>
     simp only[]at g8 t8 ⊢;obtain⟨Uz,A,pz,az,fz⟩:=hZ t8.p.p t8.ap.an t8.q.a;have A:D 92 [.ptr pb 0,.ptr U1.next 5] U8=some (.bool (Ea ((CA m).kd 5).con l8 er8).1,Uz):=A;have pz:Ps Uz pb lv ts (Ea ((CA m).kd 5).con l8 er8).2.2.1 ((R.e er8).e (Ea ((CA m).kd 5).con l8 er8).2.2.2):=pz;have az:DQ Uz U1.next ((((CA m).kd 5).cn (Ea ((CA m).kd 5).con l8 er8).2.1).c .nils .nils):=az;have tz:=t8.trans (BG.cel t8.p t8.q t8.ap pz az rfl rfl fz);generalize Ea ((CA m).kd 5).con l8 er8=iz at A tz ⊢;obtain⟨bz,c,lz,erz⟩:=iz;simp only[]at A tz ⊢;obtain⟨U9,g9,s9⟩:=fin bz tz.base;refine⟨_,_,_,U9,?_,s9⟩;unfold IC;simp only[↓rP,rA,AE,AF,AD,↓e0,↓g1,↓e2,↓s3,↓g4,↓e5,↓s6,↓AT a6,hk,↓F,↓gyA,↓gzA,↓guA,↓gvA,↓gk,↓e7,↓g8,↓A];exact g9
   | false=>
   simp only[]at gvA tvA ⊢;obtain⟨UwA,gwA,twA⟩:=word (BS.mk 10 322399817400452109389381) tvA;rw[kQ];generalize CP (BS.mk 10 322399817400452109389381) lvA=iwA at gwA twA ⊢;obtain⟨bwA,lwA⟩:=iwA;cases bwA with
   | true=>
    simp only[]at gwA twA ⊢;rw[kn3];obtain⟨Uk,gk,B⟩:=kind 3 twA;have tkp:Pn Uk pb lv ts lwA (R.e er1) ns (λb=>(Q b\/b=U.next)\/LB U1.next .nils (.nils,[]) b):=B.p;obtain⟨iv',Uz,A,sz⟩:=hIt tkp.p B.q B.ap.a rfl;rw[er]at A sz;have bz:=B.tb (c7 tkp B.ap sz);unfold ye;generalize HB ((CA m).kd 3).is lwA er1=iz at A bz ⊢;obtain⟨ok,s,lz,erz⟩:=iz;simp only[]at A bz ⊢;obtain⟨U9,g9,s9⟩:=fin ok bz;refine⟨_,_,_,U9,?_,s9⟩;unfold IC;simp only[↓rP,rA,AE,AF,AD,↓e0,↓g1,↓e2,↓s3,↓g4,↓e5,↓s6,↓AT a6,hk,↓F,↓gyA,↓gzA,↓guA,↓gvA,↓gwA,↓gk,↓A];exact g9
   | false=>
   simp only[]at gwA twA ⊢;obtain⟨UpA,gpA,tpA⟩:=word (BS.mk 3 5522771) twA;rw[kP];generalize CP (BS.mk 3 5522771) lwA=ipA at gpA tpA ⊢;obtain⟨bpA,lpA⟩:=ipA;cases bpA with
   | true=>
    simp only[]at gpA tpA ⊢;rw[kn8];obtain⟨Uk,gk,B⟩:=kind 8 tpA;have tkp:Pn Uk pb lv ts lpA (R.e er1) ns (λb=>(Q b\/b=U.next)\/LB U1.next .nils (.nils,[]) b):=B.p;have lek:=B.f.le;obtain⟨dv',fv',Uz,A,sz⟩:=hF tkp (λb C=>Cj (hQ6 b C) lek) B.q B.ap rfl hd;rw[er]at A sz;have bz:=B.trans sz;generalize DK T d ((CA m).kd 8) lpA er1 ns=iz at A bz ⊢;obtain⟨ok,nz,lz,erz,nsz⟩:=iz;simp only[]at A bz ⊢;obtain⟨U9,g9,s9⟩:=fin ok bz.base;refine⟨_,_,_,U9,?_,s9⟩;unfold IC;simp only[↓rP,rA,AE,AF,AD,↓e0,↓g1,↓e2,↓s3,↓g4,↓e5,↓s6,↓AT a6,hk,↓F,↓gyA,↓gzA,↓guA,↓gvA,↓gwA,↓gpA,↓gk,↓A];exact g9
   | false=>
   simp only[]at gpA tpA ⊢;obtain⟨UqA,gqA,tqA⟩:=word (BS.mk 6 76155295057987) tpA;rw[kO];generalize CP (BS.mk 6 76155295057987) lpA=iqA at gqA tqA ⊢;obtain⟨bqA,lqA⟩:=iqA;cases bqA with
   | true=>
    simp only[]at gqA tqA ⊢;rw[kn9];obtain⟨Uk,gk,B⟩:=kind 9 tqA;have tkp:Pn Uk pb lv ts lqA (R.e er1) ns (λb=>(Q b\/b=U.next)\/LB U1.next .nils (.nils,[]) b):=B.p;have lek:=B.f.le;obtain⟨dv',fv',Uz,A,sz⟩:=hF tkp (λb C=>Cj (hQ6 b C) lek) B.q B.ap rfl hd;rw[er]at A sz;have bz:=B.trans sz;generalize DK T d ((CA m).kd 9) lqA er1 ns=iz at A bz ⊢;obtain⟨ok,nz,lz,erz,nsz⟩:=iz;simp only[]at A bz ⊢;obtain⟨U9,g9,s9⟩:=fin ok bz.base;refine⟨_,_,_,U9,?_,s9⟩;unfold IC;simp only[↓rP,rA,AE,AF,AD,↓e0,↓g1,↓e2,↓s3,↓g4,↓e5,↓s6,↓AT a6,hk,↓F,↓gyA,↓gzA,↓guA,↓gvA,↓gwA,↓gpA,↓gqA,↓gk,↓A];exact g9
   | false=>
   simp only[]at gqA tqA ⊢;obtain⟨UrA,grA,trA⟩:=word (BS.mk 8 4990918871747741011) tqA;rw[kN];generalize CP (BS.mk 8 4990918871747741011) lqA=irA at grA trA ⊢;obtain⟨brA,lrA⟩:=irA;cases brA with
   | true=>
    simp only[]at grA trA ⊢;rw[kn7];have tkp:Pn UrA pb lv ts lrA (R.e er1) ns (λb=>(Q b\/b=U.next)\/LB U1.next .nils (.nils,[]) b):=trA.p;have lek:=trA.f.le;obtain⟨dv',fv',Uz,A,sz⟩:=hS tkp (λb C=>Cj (hQ6 b C) lek) trA.q trA.ap rfl hd;rw[er]at A sz;have bz:=trA.trans sz;generalize Ju T d (CA m) lrA er1 ns=iz at A bz ⊢;obtain⟨ok,nz,lz,erz,nsz⟩:=iz;simp only[]at A bz ⊢;obtain⟨U9,g9,s9⟩:=fin ok bz.base;refine⟨_,_,_,U9,?_,s9⟩;unfold IC;simp only[↓rP,rA,AE,AF,AD,↓e0,↓g1,↓e2,↓s3,↓g4,↓e5,↓s6,↓AT a6,hk,↓F,↓gyA,↓gzA,↓guA,↓gvA,↓gwA,↓gpA,↓gqA,↓grA,↓A];exact g9
   | false=>
   simp only[]at grA trA ⊢;rw[show LD [] lrA=(0,lrA)from rfl];simp only[]at ⊢;rw[kn0];have tkp:Pn UrA pb lv ts lrA (R.e er1) ns (λb=>(Q b\/b=U.next)\/LB U1.next .nils (.nils,[]) b):=trA.p;have gp:=hP tkp.p;unfold Bu at gp;obtain⟨Uz,A,pz,fz⟩:=hFl (BJ lrA).2.2 7 tkp.p;rw[er]at pz;have tz:=trA.trans (BG.go tkp trA.q trA.ap pz fz);obtain⟨U9,g9,s9⟩:=fin false tz.base;refine⟨_,_,_,U9,?_,s9⟩;unfold IC;simp only[↓rP,rA,AE,AF,AD,↓e0,↓g1,↓e2,↓s3,↓g4,↓e5,↓s6,↓AT a6,hk,↓F,↓gyA,↓gzA,↓guA,↓gvA,↓gwA,↓gpA,↓gqA,↓grA,↓gp,↓A];exact g9
end
def Kt(T:DA)(d:Nat)(l:List Ad)(er:Er)(b:List AM):Bool × Nat × List Ad × Er × List AM:=match XW (BJ l)with
 | false=>(false,0,l,EJ er (BJ l).2.2 7,b)
 | true=>match decide (16<d) || decide (300<=b.length)with
  | true=>(false,0,l,EJ er (BJ l).2.2 5,b)
  | false=>match Gm T d l er (b++[Iz])with
   | (false,_,c,er1,a)=>(false,0,c,er1,a)
   | (true,nd,c,er1,a)=>(true,b.length,c,er1,a.set b.length nd)
def Sa(T:DA):DA:=⟨T.lo-1,Kt T⟩
def NG:Nat->DA
 | 0=>⟨18,λ_ l er a=>(false,0,l,EJ er (BJ l).2.2 7,a)⟩
 | q+1=>Sa (NG q)
structure FM(l l':List Ad)(ns ns':List AM):Prop where
 l:l'.length<=l.length
 n:ns.length<=ns'.length
def dS(T:DA):Prop:=∀d l er a,FM l (T.go d l er a).2.2.1 a (T.go d l er a).2.2.2.2
theorem FM.refl l a:FM l l a a:=⟨AL _,AL _⟩
theorem FM.trans{l d e c b a}(h:FM l d c b)(k:FM d e b a):FM l e c a:=⟨AU k.l h.l,AU h.n k.n⟩
theorem FM.of{l a:List Ad}{b}(h:a.length<=l.length):FM l a b b:=⟨h,AL _⟩
theorem En{l l' b a}:FM l l' b a↔l'.length<=l.length/\b.length<=a.length:=⟨λh=>⟨h.l,h.n⟩,λh=>⟨h.1,h.2⟩⟩
section
variable {T:DA} (hT:dS T)
include hT
theorem Od d g nd l er b:FM l (Ci T d g nd l er b).2.2.1 b (Ci T d g nd l er b).2.2.2.2:=by
 grind [Ci,dS,En,VG,dB]
theorem ABg(d g n):∀nd l er c,FM l (Yq T d g n nd l er c).2.2.1 c (Yq T d g n nd l er c).2.2.2.2:=by
 induction n with grind [Yq,Od,En,DY,DI]
theorem ABd(d g nd l er c):FM l (XU T d g nd l er c).2.2.1 c (XU T d g nd l er c).2.2.2.2:=by unfold XU;exact ABg hT ..
theorem ABq(d n):∀(g) nd l er c,FM l (Px T d n g nd l er c).2.2.1 c (Px T d n g nd l er c).2.2.2.2:=by
 induction n with grind (gen:=20) [Px,Od,ABd,En,DY,DI]
theorem ABp(d nd l er c):FM l (Zb T d nd l er c).2.2.1 c (Zb T d nd l er c).2.2.2.2:=by unfold Zb;exact ABq hT ..
theorem ABS(d n):∀(f) nd l er g,FM l (QC T d n f nd l er g).2.2.1 g (QC T d n f nd l er g).2.2.2.2:=by
 induction n with
 | zero=>grind [QC,En] | succ n j=>intro f;cases f<;>grind [QC,ABp,Od,En,DY,DI,L8]
theorem ABQ(d f nd l er c):FM l (dC T d f nd l er c).2.2.1 c (dC T d f nd l er c).2.2.2.2:=by unfold dC;exact ABS hT ..
theorem RE d nd l er b:FM l (DK T d nd l er b).2.2.1 b (DK T d nd l er b).2.2.2.2:=by
 grind [DK,ABQ,En,DI]
end
theorem vn c (l:List Ad) er:(MV c l er).2.2.1.length<=l.length:=by
 grind [MV,DY,MF]
theorem nH c (l:List Ad) er:(IT c l er).2.2.1.length<=l.length:=by
 grind [IT,DY,MF]
theorem ny c (l:List Ad) er:(JR c l er).2.2.1.length<=l.length:=by
 grind [JR,DY,DI]
theorem RT c (l:List Ad) er:(Dc c l er).2.2.1.length<=l.length:=by
 grind [Dc,vn,nH,ny]
theorem Wa c (l:List Ad) er:(Ea c l er).2.2.1.length<=l.length:=by
 grind [Ea,DY,DI,RT]
theorem mV(l:List Ad) er:(H0 l er).2.2.1.length<=l.length:=by
 grind (gen:=20) [H0,DY,DI,MF]
theorem jH(n):∀s (l:List Ad) er,(GG n s l er).2.2.1.length<=l.length:=by
 induction n with grind [GG,GN,jQ,W7,DY,DI]
theorem jG s (l:List Ad) er:(HB s l er).2.2.1.length<=l.length:=by
 grind [HB,DI,jH]
theorem kW w:∀(l:List Ad),(LD w l).2.length<=l.length:=by
 induction w with grind [LD,DY]
section
variable {T:DA} (hT:dS T)
include hT
theorem vA d nd l er b:FM l (Ju T d nd l er b).2.2.1 b (Ju T d nd l er b).2.2.2.2:=by
 grind [Ju,dS,RE,Wa,DI,En]
theorem vy d nd l er e k:FM l (J4 T d nd l er e k).2.2.1 e (J4 T d nd l er e k).2.2.2.2:=by
 unfold J4;split<;>grind [W8,ye,O5,xz,vA,RE,En,DY,RT,L8,jG,DI,Wa]
theorem Wq d l er b:FM l (Gm T d l er b).2.2.1 b (Gm T d l er b).2.2.2.2:=by
 grind [Gm,Wr,vy,kW,JW,mV,En]
theorem uj:dS (Sa T):=by
 intro d l er b;show FM l (Kt T d l er b).2.2.1 b (Kt T d l er b).2.2.2.2;grind [Kt,Wq,En]
end
theorem KR:∀q,dS (NG q)
 | 0=>λd l er a=>FM.refl _ _ | q+1=>uj (KR q)
section
variable {E:EB}{U U':H}{nd:AM}{iv:V}{fv:FV}{pb:Nat}{lv dv dv':V}{ts l l':List Ad}{R:Rp}{ns:List AM}{Q Q':Nat->Prop}
theorem Pn.push(h:Pn U pb lv ts l R ns Q)(hQ:∀b,Q b->b<U.next)(hl:ns.length<300):∃u t D U3,B9 U (.cells zC)=t/\(∀J,Gv E 16 144 R.dv (.sl U.next 0 1 (.ex 1)) t J=J u D)/\u.one=true/\(∀J,Cg 1 pb 6 u D J=J U3) /\
  Pn U3 pb lv ts l (R.wd u) (ns++[Iz]) Q/\Fr (PB pb R.dv) U U3/\(∀b,AS u b->AS R.dv b\/U.next<=b):=by
 obtain⟨ws,k1,S,k3⟩:=h.w;obtain⟨a,ha,P⟩:=h.p.ex;obtain⟨t,e1,f1,a1,n1⟩:=Ia h.p.ht zC;have xs:D0 t 16 1 (V.sl U.next 0 1 (.ex 1)) zC := .inr ⟨_,_,_,_,rfl,a1,AL _,rfl⟩;obtain⟨u,D,g2,G,m2,C⟩:=Fa (bytes:=144) (k1.fr f1 h.p.ht (λ_ _ h=>h)) f1.tidy xs rfl (by unfold CX;simp only[AI,Ag];omega);have le1:=f1.le;have le2:=C.le;have T:=h.p.lt;have O:=C.at_ (f1.at_ ha h.p.ht (λh=>h)) f1.tidy (λe=>(h.dx pb e).1 rfl);obtain⟨uo1,B⟩:=E3 G.one;obtain⟨U3,g3,a3,W⟩:=Jo (o:=6) (v:=u) (l':=II lv a (R.wd u)) C.tidy O (by
  rw[B];show (Ax 1 1&&Ac (AN 6 1) 9&&BM [u])=true;simp only[BW,Bg,G.one,Au];rfl) (by rw[B];rfl)
 have L:∀b,AS u b->AS R.dv b\/U.next<=b:=λb f=>(m2 b f).imp id λh=>by omega
 have ux:=λb f=>(L b f).elim (λe=>(h.dx b e).1) (λe=>by omega);have q:=((f1.mono (λ_ _ h=>h.elim):Fr (PB pb R.dv) U t).trans C (λ_ _ e => .inr e)).trans W (λ_ _ e => .inl e);refine⟨u,t,D,U3,e1,g2,G.one,g3,⟨⟨⟨a,a3,P⟩,h.p.src.fr q h.p.ht (λb f e=>e.elim (h.p.nx b f) (λe=>(h.dx b e).2 f)),h.p.ne,h.p.nx,h.p.ok,q.tidy⟩,⟨ws++[(.nils,(.nils,[]))],?_,by simp[S],λk nd w p y=>?_⟩,λb f=>⟨ux b f,λp=>(L b f).elim (λe=>(h.dx b e).2 p) (λe=>by have:=h.llt p;omega)⟩⟩,q,L⟩
 ·rw[AY,AK,Aa,Wv _ _ _ _ S]
  exact G.fr W C.tidy (λb f e=>ux b f e)
 ·rcases Av k ns.length with N|N
  ·rw[Cu N]at p
   rw[Cu (by omega)]at y;have r:=k3 k nd w p y;have M:=r.fr q h.p.ht λb f e=>e.elim (r.n b f).1 (r.n b f).2.1;exact⟨M.i,M.f,M.g,λb f=>⟨(r.n b f).1,λhu=>(L b hu).elim (r.n b f).2.1 (λe=>by have:=r.lt h.p.ht f;omega),(r.n b f).2.2⟩⟩
  ·rw[Ck N]at p
   rw[Ck (by omega),S]at y;obtain⟨j,hj⟩:∃j,k-ns.length=j:=⟨_,rfl⟩;rw[hj]at p y;cases j with
   | succ j=>simp at p | zero=>
    cases p;cases y;exact⟨.inl ⟨rfl,rfl,rfl⟩,.inl ⟨rfl,rfl,rfl⟩,⟨rfl,λk x v T=>(by cases T)⟩,λb f=>by
     rcases f with f|f|⟨v,hv,_⟩
     ·exact f.elim
     ·exact f.elim
     ·cases hv⟩
theorem Pn.put(h:Pn U pb lv ts l R ns Q)(g:qt U pb R.dv Q nd (iv,fv)){i}(M:i<ns.length):
    ∃b U',(∀J,Bl 16 R.dv (AA i) J=J b (i*16))/\(∀J,Cg 16 b (i*16) (.agg (nd.c iv fv.1)) U J=J U')/\Pn U' pb lv ts l R (ns.set i nd) Q/\Fr (AS R.dv) U U':=by
  obtain⟨t,Y,y,k3⟩:=h.w;have C:=NV ns t y;obtain⟨b,W,r,T⟩:∃b W,R.dv = .sl b 0 ns.length W/\DQ U b (HO ns t):=by
    rcases Y with (⟨K,_⟩|⟨b,p,B,_⟩)|⟨b,p,B,_⟩
    · omega
    · exact⟨b,_,p,B⟩
    · exact⟨b,_,p,B⟩
  obtain⟨U',e,f,a⟩:=yO h.p.ht T (HO (ns.set i nd) (t.set i (iv,fv)));have N:∀x,AS R.dv x↔x=b:=λx=>by rw[r];exact Iff.rfl
  have F:=f.mono λx _ e=>(N x).2 e;have ho:BM (nd.c iv fv.1)=true:=yk g.i.one g.f.one;have v:i*16+16<=(HO ns t).length:=by rw[C];omega
  refine⟨b,U',λJ=>?_,λJ=>?_,⟨h.p.fr F (λe=>(h.dx pb e).1 rfl) (λx z e=>(h.dx x e).2 z),⟨t.set i (iv,fv),?_,by rw[Dx,Dx,y],λk I w D E=>?_⟩,h.dx⟩,F⟩
  · rw[r,DG M]
    show J b (0+i*16)=_;rw[BQ]
  · rw[LH T (by
      rw[GB,ho,VK];simp only[GC,BX,Au,Ag];exact v),GB,Wu ns t i nd (iv,fv) y M,e]
  · rw[Dx]
    rcases Y with (⟨K,_⟩|⟨A,p,B,K,Z⟩)|⟨A,p,B,Z⟩
    · omega
    · have:A=b:=by rw[r]at p;cases p;rfl
      subst this;exact .inl (.inr ⟨A,p,a,K,by rw[NV _ _ (by rw[Dx,Dx,y]),Dx]⟩)
    · have:A=b:=by rw[r]at p;cases p;rfl
      subst this;exact .inr ⟨A,p,a,by rw[NV _ _ (by rw[Dx,Dx,y]),Dx]⟩
  · by_cases X:i=k
    · subst X
      rw[List.getElem?_set_self M]at D;rw[List.getElem?_set_self (by omega)]at E;cases D;cases E;exact g.fr F h.p.ht λx z e=>(g.n x z).2.1 e
    · rw[List.getElem?_set_ne X]at D E
      have P:=k3 k I w D E;exact P.fr F h.p.ht λx z e=>(P.n x z).2.1 e
end
section
variable {E:EB}{D:Am}{W:AJ}{N:Nat}
theorem Ul{T:DA}(hG:dS T)(hP:C0 (D 29))(hBe:V4 (D 79))(C:HH (D 60))(hNd:T.lo<=17->QN T (D 80)):HG (Sa T) (F63 E D W N):=by
 intro U q lv ts l R o Q d h hQ hd;have A:=hP h.p;unfold Bu at A;obtain⟨U1,r,y⟩:=hBe U (BJ l) h.p.ht;unfold Bu at r;have t:=h.fr y (λh=>h) (λ_ _ h=>h) (λ_ _ h=>h) (λ_ _ h=>h.elim);obtain⟨a,ha,_⟩:=t.p.ex;unfold II at ha;have sl:∀J,BV R.dv J=J o.length:=λJ=>by
  obtain⟨ws,k1,_⟩:=t.w;exact k1.slen
 show ∃m U',Rj E D W q 0 (AA d) U=_/\_;have hd1:T.lo-1<=d:=hd.1;show ∃m U',_=some (V.tup [.int .i64 (AA (Kt T d l R.er o).2.1),.bool (Kt T d l R.er o).1],U')/\Pn U' q lv ts (Kt T d l R.er o).2.2.1 ((R.wd m).e (Kt T d l R.er o).2.2.2.1) (Kt T d l R.er o).2.2.2.2 Q/\_;unfold Kt;have le2:=y.le;cases p:XW (BJ l)with
 | false=>
  rw[p]at r;simp only[]at ⊢;obtain⟨U3,g3,p3,v⟩:=C (BJ l).2.2 7 t.p;refine⟨R.dv,U3,?_,t.goe p3 v,(y.mono λ_ _ h=>h.elim:Fr (PB q R.dv) U U1).trans v (λ_ _ e => .inl e),λ_ h => .inl h⟩;unfold Rj;simp only[↓rP,rA,AE,AF,AD,↓A,↓r,↓g3]
 | true=>
  rw[p]at r;simp only[]at ⊢;obtain⟨U3,g3,p3,v⟩:=C (BJ l).2.2 5 t.p;cases c1:decide (16<d)with
  | true=>
   refine⟨R.dv,U3,?_,t.goe p3 v,(y.mono λ_ _ h=>h.elim:Fr (PB q R.dv) U U1).trans v (λ_ _ e => .inl e),λ_ h => .inl h⟩;unfold Rj;simp only[↓rP,rA,AE,AF,AD,↓A,↓r,c1,↓g3]
  | false=>
   cases c2:decide (300<=o.length)with
   | true=>
    refine⟨R.dv,U3,?_,t.goe p3 v,(y.mono λ_ _ h=>h.elim:Fr (PB q R.dv) U U1).trans v (λ_ _ e => .inl e),λ_ h => .inl h⟩;unfold Rj;simp only[↓rP,rA,AE,AF,AD,↓A,↓r,c1,↓AT ha,↓sl,c2,↓g3]
   | false=>
    have hd16:=of_decide_eq_false c1;have hl:o.length<300:=by have:=of_decide_eq_false c2;omega
    simp only[EW]at ⊢;obtain⟨u,U4,U5,U6,e4,g5,uo,g6,h6,f6,m6⟩:=Pn.push (E:=E) t (λb p=>by have:=hQ b p;omega) hl;have le6:=f6.le;unfold zC at e4;obtain⟨iv,fv,m,U7,z,w,x,m7,f7⟩:=hNd (by omega) (d:=d) h6 (λb p=>by have:=hQ b p;omega) (by omega);have er:(R.wd u).er=R.er:=rfl;have gr:=Wq hG d l R.er (o++[Iz]);rw[er]at z w x;have md:∀b,AS m b->AS R.dv b\/U.next<=b:=λb p=>(m7 b p).elim (λe=>(m6 b e).imp id (λe=>by omega)) (λe => .inr (by omega));have f07:Fr (PB q R.dv) U U7:=((y.mono λ_ _ h=>h.elim:Fr (PB q R.dv) U U1).trans f6 (λ_ _ e=>e)).trans f7 (λb p e=>e.imp id λe=>(m6 b e).elim id (λe=>by omega));generalize Gm T d l R.er (o++[Iz])=i7 at z w x gr ⊢;obtain⟨b7,nd,l7,er7,ns7⟩:=i7;simp only[]at z w x ⊢;have B:=gr.n;rw[AY,AK,Aa]at B;have io:iv.one=true:=x.i.one;have fo:fv.1.one=true:=x.f.one;unfold AM.c at z;cases b7 with
    | false=>
     refine⟨m,U7,?_,w,f07,md⟩;unfold Rj;simp only[↓rP,rA,AE,AF,AD,↓A,↓r,c1,↓AT ha,↓sl,c2,↓e4,↓g5,Ec uo,↓g6,↓z,io,fo]
    | true=>
     obtain⟨b8,U8,i8,g8,h8,f8⟩:=Pn.put w x (by show o.length<ns7.length;simp only[]at B;omega);obtain⟨a7,ha7,_⟩:=w.p.ex;unfold II at ha7;have ld7:((R.wd u).wd m).dv=m:=rfl;have i8:∀J:Nat->Nat->AH,Bl 16 m (AA o.length) J=J b8 (o.length*16):=i8;have r7:∀J:V->AH,Ee E U7 q 6 J=J m:=λJ=>by rw[AT ha7];rfl
     unfold AM.c at g8;refine⟨m,U8,?_,h8,f07.trans f8 (λb p e=>(md b e).elim .inr (λe=>by omega)),md⟩;unfold Rj;simp only[↓rP,rA,AE,AF,AD,↓A,↓r,c1,↓AT ha,↓sl,c2,↓e4,↓g5,Ec uo,↓g6,↓z,io,fo,↓r7,↓i8,↓g8]
end
theorem Qh:∀(l:List V) o c,(Gj l o c).length=l.length
 | [],o,c=>by cases o<;>cases c<;>rfl
 | x::l,0,[]=>rfl | x::l,0,c::b=>by
  show (c::Gj l 0 b).length=_;rw[AK,Qh l 0 b,AK]
 | x::l,o+1,[]=>by
  simp[Gj]
 | x::l,o+1,c::b=>by
  show (x::Gj l o (c::b)).length=_;rw[AK,Qh l o (c::b),AK]
theorem dF{U d k v m}(e:ES U d k v m):V.beq v v=true:=by
 rcases e with h|⟨b,rfl,_⟩
 ·rcases h with ⟨_,rfl,_⟩|⟨_,rfl,_⟩<;>exact Bz _ rfl
 ·exact Bz _ rfl
section
variable {E:EB}{D:Am}{N:Nat}
theorem wh{U:H}{p F}{l:List V}{v t kn kt mn mt s k a i}{c:Bool}(B:CI U)(ha:DQ U p l)(hl:l.length=9)(hv4:l[4]? = some v)(hv5:l[5]? = some t)(htb:DQ U F [.int .i64 k,.str s,.int .i64 a])(hd1:ES U 1 kn v mn)(hd2:ES U 1 kt t mt)(h1:kn<=4000)(h2:kt<=4000)
    (ne:F≠p) (np:¬AS v p) (tp:¬AS t p) (nt:¬AS v F) (tt:¬AS t F) (dj:∀b,AS v b->¬AS t b) :
    ∃e' u w U',AZ E D Ty KN [(0,.ptr p 0),(3,.ptr F 0),(4,.int .i64 i),(5,.bool c)] U=some (e',U')/\Go.Og.look e' 5=some (.bool c)/\DQ U' p (Gj (Gj l 4 [u]) 5 [w])/\ES U' 1 (kn+1) u (mn++[.str s])/\ES U' 1 (kt+1) w (mt++[.int .i64 i]) /\
      (∀b,AS u b->AS v b\/U.next<=b)/\(∀b,AS w b->AS t b\/U.next<=b)/\(∀b,AS u b->¬AS w b)/\Fr (λb=>b=p\/AS v b\/AS t b) U U':=by
  have lp:=ha.lt B;have lt:=htb.lt B;have nl:∀b,AS v b->b<U.next:=λb o=>hd1.lt B o;have tl:∀b,AS t b->b<U.next:=λb o=>hd2.lt B o;obtain⟨Ua,ha'⟩:∃Ua,Ua=(⟨U.next+27,(U.next+9,.cells [.str s])::U.bl⟩:H):=⟨_,rfl⟩;have fa:Fr Af U Ua:=by
    rw[ha'];refine⟨λb o=>?_,HQ _ _,λb o hn=>?_⟩
    · have o:U.next+27<=b:=o
      show CB ((U.next+9,_)::U.bl) b=none;rw[Bb,if_neg (by simp only[];omega)];exact B b (by omega)
    · show CB ((U.next+9,_)::U.bl) b=_
      rw[Bb,if_neg (by simp only[];omega)]
  have aa:DQ Ua (U.next+9) [.str s]:=by
    rw[ha'];show CB ((U.next+9,_)::U.bl) _=_;rw[Bb,if_pos rfl]
  have na:Ua.next=U.next+27:=by rw[ha']
  have xs:D0 Ua 1 1 (V.sl (U.next+9) 0 1 (.ex 1)) [.str s] := .inr ⟨_,_,_,_,rfl,aa,AL _,rfl⟩;obtain⟨u,C,g2,d2,m2,G⟩:=Fa (E:=E) (bytes:=16) (hd1.fr fa B (λ_ _ h=>h)) fa.tidy xs rfl (by unfold CX;simp only[AI,Ag];omega);have le2:=G.le;obtain⟨Ub,hb'⟩:∃Ub,Ub=(⟨C.next,(U.next+17,.cells [.int .i64 i])::C.bl⟩:H):=⟨_,rfl⟩;have fb:Fr (λk=>k=U.next+17) C Ub:=by
    rw[hb'];refine⟨λb o=>?_,AL _,λb o hn=>?_⟩
    · have o:C.next<=b:=o
      show CB ((U.next+17,_)::C.bl) b=none;rw[Bb,if_neg (by simp only[];omega)];exact G.tidy b o
    · show CB ((U.next+17,_)::C.bl) b=_
      rw[Bb,if_neg (λe=>hn e.symm)]
  have ab:DQ Ub (U.next+17) [.int .i64 i]:=by
    rw[hb'];show CB ((U.next+17,_)::C.bl) _=_;rw[Bb,if_pos rfl]
  have nb:Ub.next=C.next:=by rw[hb']
  have ys:D0 Ub 1 1 (V.sl (U.next+17) 0 1 (.ex 1)) [.int .i64 i] := .inr ⟨_,_,_,_,rfl,ab,AL _,rfl⟩;have t2:ES Ub 1 kt t mt:=((hd2.fr fa B (λ_ _ h=>h)).fr G fa.tidy (λb o e=>dj b e o)).fr fb G.tidy (λb o e=>by have:=tl b o;omega);obtain⟨w,U3,g3,d3,m3,f3⟩:=Fa (E:=E) (bytes:=8) t2 fb.tidy ys rfl (by unfold CX;simp only[AI,Ag];omega);have le3:=f3.le;have un:∀b,AS u b->AS v b\/U.next+27<=b:=λb o=>(m2 b o).imp id (λe=>by omega);have ul:∀b,AS u b->b<C.next:=λb o=>d2.lt G.tidy o;have wn:∀b,AS w b->AS t b\/C.next<=b:=λb o=>(m3 b o).imp id (λe=>by omega);have uw:∀b,AS u b->¬AS w b:=λb o e=>by
    rcases wn b e with h|h
    · rcases un b o with h' | h'
      · exact dj b h' h
      · have:=tl b h;omega
    · have:=ul b o;omega
  have a3:DQ U3 p l:=f3.at_ (fb.at_ (G.at_ (fa.at_ ha B (λh=>h)) fa.tidy np) G.tidy (by omega)) fb.tidy tp;obtain⟨_,o2⟩:=E3 d2.one;obtain⟨_,o3⟩:=E3 d3.one;obtain⟨U4,g4,f4,c4⟩:=Fj (E:=E) (D:=D) (n:=1) (x := .tmp 51) (y := .tmp 40) (e:=[(51,.ptr p 4),(40,u)]) f3.tidy a3 rfl (show (Cv [(51,.ptr p 4),(40,u)] (.tmp 40)).cells=[u] from o2) (by
    simp only[BW,Bg,d2.one,Au,AK,Aa,BQ,GC,BX,Ag];omega)
  have ls4:(Gj l 4 [u]).length=9:=by rw[Qh,hl]
  obtain⟨U5,g5,f5,c5⟩:=Fj (E:=E) (D:=D) (n:=1) (x := .tmp 54) (y := .tmp 48) (e:=[(54,.ptr p 5),(48,w)]) f4.tidy c4 rfl (show (Cv [(54,.ptr p 5),(48,w)] (.tmp 48)).cells=[w] from o3) (by
    simp only[BW,Bg,d3.one,Au,AK,Aa,BQ,GC,BX,Ag];omega)
  have le4:=f4.le;have go:Ha (Ml E U 27 KN _ U5) E D U 27 0 Ty KN ⟨[(0,.ptr p 0),(3,.ptr F 0),(4,.int .i64 i),(5,.bool c)],U.next+27,[U.bl],[],0,[]⟩:=
    DC (.ptr p 0) rfl rfl <|
    DC (.ptr p 0) rfl rfl <|
    DC (.ptr p 0) rfl rfl <|
    DC (.ptr p 0) rfl rfl <|
    DC (.ptr p 2) rfl rfl <|
    DC (.ptr p 4) rfl rfl <|
    Lg v (Cn (S:=λb=>AS v b\/AS t b) B) rfl (FG (b:=p) (off:=4) rfl ha hv4 B (λ(e:AS v p\/AS t p)=>e.elim np tp) (dF hd1)) λr1=>
    DC (.ptr F 1) rfl rfl <|
    Lg (.str s) r1 rfl (FG (b:=F) (off:=1) rfl htb rfl B (λ(e:AS v F\/AS t F)=>e.elim nt tt) (Bz _ rfl)) λr2=>
    TC (.sl (U.next+9) 0 1 (.ex 1)) (.cells [.str s]) 512 r2 rfl (by decide) (by decide) rfl λ_ r3=>
    TA u (by rw[<-ha']at r3;exact r3) rfl (by decide) (S':=AS v) G (λ_ _ h=>Or.inl h) (λb h h1 _=>by have:=nl b h;omega) (MN rfl rfl g2) λ_ _ r4=>
    DC (.ptr p 0) rfl rfl <|
    DC (.ptr p 0) rfl rfl <|
    DC (.ptr p 2) rfl rfl <|
    DC (.ptr p 5) rfl rfl <|
    Lg t r4 rfl (FG (b:=p) (off:=5) rfl ha hv5 B (λ(e:AS v p\/AS t p)=>e.elim np tp) (dF hd2)) λr5=>
    DC (.int .i64 i) rfl rfl <|
    TC (.sl (U.next+17) 0 1 (.ex 1)) (.cells [.int .i64 i]) 131584 r5 rfl (by decide) (by decide) rfl λ_ r6=>
    TA w (by rw[<-hb']at r6;exact r6) rfl (by decide) (S':=AS t) f3 (λ_ _ h=>Or.inr h) (λb h h1 _=>by have:=tl b h;omega) (MN rfl rfl g3) λ_ _ r7=>
    DC (.ptr p 0) rfl rfl <|
    DC (.ptr p 2) rfl rfl <|
    DC (.ptr p 4) rfl rfl <|
    yZ .dead (r7.c (pl0:=KN)) (by omega) rfl (by decide) f4 (λb h h1 _=>by omega) g4 (λx hx=>by
      simp only[BK,D7,or_false]at hx;rcases hx with rfl|rfl|rfl
      · show (KN.getD 22 ⟨0,[]⟩).anc.testBit 15=true
        decide
      · show (KN.getD 22 ⟨0,[]⟩).anc.testBit 8=true
        decide
      · show (KN.getD 22 ⟨0,[]⟩).anc.testBit 6=true
        decide) λ_ _ _ r8=>
    DC (.ptr p 0) rfl rfl <|
    DC (.ptr p 2) rfl rfl <|
    DC (.ptr p 5) rfl rfl <|
    yZ .dead r8 (by omega) rfl (by decide) f5 (λb h h1 _=>by omega) g5 (λx hx=>by
      simp only[BK,D7,or_false]at hx;rcases hx with rfl|rfl|rfl
      · show (KN.getD 26 ⟨0,[]⟩).anc.testBit 15=true
        decide
      · show (KN.getD 26 ⟨0,[]⟩).anc.testBit 8=true
        decide
      · show (KN.getD 26 ⟨0,[]⟩).anc.testBit 6=true
        decide) λ_ _ _ r9=>
    wE r9
  have d:=Lh (ops:=Ty) go;have f45:=f4.trans f5 (λ_ _ h=>h);refine⟨_,u,w,U5,d,rfl,c5,?_,d3.fr f45 f3.tidy (λb o e=>?_),λb o=>(un b o).imp id (λe=>by omega),λb o=>(wn b o).imp id (λe=>by omega),uw,?_⟩
  · have f23:Fr (λb=>b=U.next+17\/AS t b) C U3:=(fb.mono λ_ _ e => .inl e:Fr (λb=>b=U.next+17\/AS t b) C Ub).trans f3 (λ_ _ e => .inr e)
    exact(d2.fr f23 G.tidy (λb o e=>by
      rcases un b o with h|h
      · have:=nl b h
        rcases e with e|e
        · omega
        · exact dj b h e
      · rcases e with e | e
        · omega
        · have:=tl b e;omega)).fr f45 f3.tidy (λb o e=>by
      rcases un b o with h|h
      · exact np (e ▸ h)
      · omega)
  · rcases wn b o with h | h
    · exact tp (e ▸ h)
    · omega
  · exact((((fa.mono λ_ _ h=>h.elim:Fr (λb=>b=p\/AS v b\/AS t b) U Ua).trans G (λ_ _ e => .inr (.inl e))).trans fb (λb o e=>by omega)).trans f3 (λ_ _ e => .inr (.inr e))).trans f45 (λ_ _ e => .inl e)
end
abbrev NT:=List (List Nat) × List Nat
def j4(a:List (List Nat)):List V:=a.map λw => .str (BO w)
def j5(a:List Nat):List V:=a.map λk => .int .i64 (AA k)
def Jd(T:DA)(z:NT)(l:List Ad)(er:Er)(e:List AM):Bool × NT × List Ad × Er × List AM:=match decide (40<=z.1.length)with
 | true=>(false,z,Fh l,EJ er (BJ l).2.2 5,e)
 | false=>match Ao [BS.mk 3 4012602] (Fh l) er with
  | (false,f,a)=>(false,z,f,a,e)
  | (true,f,a)=>match T.go 0 f a e with
   | (b,i,g,c,d)=>(b,(z.1++[(BJ l).2.1],z.2++[i]),g,c,d)
structure Pm(U:H)(pb:Nat)(lv:V)(ts l:List Ad)(R:Rp)(ns:List AM)(z:NT):Prop where
 p:Pn U pb lv ts l R ns (λb=>(AS R.nv b\/AS R.tv b)\/b<pb)
 n:ES U 1 z.1.length R.nv (j4 z.1)
 t:ES U 1 z.2.length R.tv (j5 z.2)
 nx:∀b,AS R.nv b->b≠pb/\¬AS lv b/\¬AS R.dv b/\¬AS R.tv b
 tx:∀b,AS R.tv b->b≠pb/\¬AS lv b/\¬AS R.dv b
def MB(R:Rp)(b:Nat):Prop:=AS R.dv b\/AS R.nv b\/AS R.tv b
structure WA(U U':H)(pb:Nat)(lv:V)(ts l':List Ad)(R R':Rp)(er':Er)(ns':List AM)(z':NT):Prop where
 p:Pm U' pb lv ts l' R' ns' z'
 nm:R'.nm=R.nm
 tg:R'.tg=R.tg
 er:R'.er=er'
 m:∀b,MB R' b->MB R b\/U.next<=b
 f:Fr (λb=>b=pb\/MB R b) U U'
section
variable {U U' U1 U2:H}{pb:Nat}{lv:V}{ts l l' l1 l2:List Ad}{R R1 R2:Rp}{er er1 er2:Er}{ns ns1 ns2:List AM}{z z1 z2:NT}
theorem Pm.q(h:Pm U pb lv ts l R ns z):∀b,(AS R.nv b\/AS R.tv b)->b<U.next:=λb c=>by
 rcases c with c|c
 ·exact h.n.lt h.p.p.ht c
 ·exact h.t.lt h.p.p.ht c
theorem Pm.go(h:Pm U pb lv ts l R ns z)(p:Ps U' pb lv ts l' (R.e er))(f:Fr (λk=>k=pb) U U'):WA U U' pb lv ts l' R (R.e er) er ns z:=
 ⟨⟨h.p.goe p f,h.n.fr f h.p.p.ht (λb a e=>(h.nx b a).1 e),h.t.fr f h.p.p.ht (λb a e=>(h.tx b a).1 e),h.nx,h.tx⟩,rfl,rfl,rfl,λ_ h => .inl h,f.mono λ_ _ e => .inl e⟩
theorem WA.trans(h:WA U U1 pb lv ts l1 R R1 er1 ns1 z1)(k:WA U1 U2 pb lv ts l2 R1 R2 er2 ns2 z2):WA U U2 pb lv ts l2 R R2 er2 ns2 z2:=by
 have t:=h.f.le;exact⟨k.p,k.nm.trans h.nm,k.tg.trans h.tg,k.er,λb i=>(k.m b i).elim (h.m b) (λe => .inr (by omega)),h.f.trans k.f λb i e=>e.imp id λe=>(h.m b e).elim id (λe=>by omega)⟩
theorem Pm.typ(h:Pm U pb lv ts l R ns z){i}(p:Pn U' pb lv ts l' ((R.wd i).e er) ns1 (λb=>(AS R.nv b\/AS R.tv b)\/b<pb))(f:Fr (PB pb R.dv) U U')(m:∀b,AS i b->AS R.dv b\/U.next<=b):WA U U' pb lv ts l' R ((R.wd i).e er) er ns1 z:=by
 have t:=h.p.p.ht;have u:=h.q;refine⟨⟨p,h.n.fr f t (λb c e=>e.elim (h.nx b c).1 (h.nx b c).2.2.1),h.t.fr f t (λb c e=>e.elim (h.tx b c).1 (h.tx b c).2.2),λb c=>?_,λb c=>?_⟩,rfl,rfl,rfl,λb c=>?_,f.mono λ_ _ e=>e.imp id .inl⟩
 ·obtain⟨o,r,q,w⟩:=h.nx b c
  exact⟨o,r,λe=>(m b e).elim q (λe=>by have:=u b (.inl c);omega),w⟩
 ·obtain⟨o,r,q⟩:=h.tx b c
  exact⟨o,r,λe=>(m b e).elim q (λe=>by have:=u b (.inr c);omega)⟩
 ·rcases c with c|c|c
  ·exact(m b c).imp .inl id
  ·exact .inl (.inr (.inl c))
  ·exact .inl (.inr (.inr c))
end
def SD(T:DA)(F:List V->H->AH):Prop:=∀{U b c ts l}{R:Rp}{a}{z:NT},Pm U b c ts l R a z->z.2.length<=4000 ->
 ∃d U',F [.ptr b 0] U=some (.bool (Jd T z l R.er a).1,U')/\WA U U' b c ts (Jd T z l R.er a).2.2.1 R d (Jd T z l R.er a).2.2.2.1 (Jd T z l R.er a).2.2.2.2 (Jd T z l R.er a).2.1
section
variable {E:EB}{D:Am}{N:Nat}
theorem oT{T:DA}(hX:FL (D 61))(hFl:HH (D 60))(hW:D6 (D 27))(hT:HG T (D 63))(hT0:T.lo=0):SD T (F30 E D (AZ E D) N):=by
 intro U C I ts l R ns z h hz;obtain⟨U1,g1,p1,f1⟩:=hX h.p.p;unfold Bu at g1;have s1:=h.go p1 f1;have F:=s1.p;obtain⟨U2,e2,f2,a2,n2⟩:=Ia p1.ht [.int .i64 (AA 0),.str ⟨0,0⟩,.int .i64 (AA 0)];obtain⟨U3,s3,a3,f3⟩:=Jo (n:=3) (o:=0) (v := .agg (Bu (BJ l))) (l':=Bu (BJ l)) f2.tidy a2 rfl rfl;have K:=f2.trans f3 (λb g e=>by omega);have le1:=f1.le;have le3:=K.le;have lt3:=a3.lt f3.tidy;unfold Bu at s3 a3;have h3p:Pn U3 C I ts (Fh l) R ns (λb=>((AS R.nv b\/AS R.tv b)\/b<C)\/b=U1.next):=(F.p.ext λb g=>g.elim .inl (λe => .inr (by omega))).fr K (λh=>h) (λ_ _ h=>h) (λ_ _ h=>h) (λ_ _ h=>h.elim);have h3:Pm U3 C I ts (Fh l) R ns z:=⟨h3p.ext λb g => .inl (.inl g),F.n.fr K p1.ht (λ_ _ h=>h),F.t.fr K p1.ht (λ_ _ h=>h),F.nx,F.tx⟩;have s3':WA U U3 C I ts (Fh l) R R R.er ns z:=⟨h3,rfl,rfl,rfl,λ_ h => .inl h,(f1.mono λ_ _ e => .inl e:Fr (λb=>b=C\/MB R b) U U1).trans K (λ_ _ h=>h.elim)⟩;obtain⟨a,ha,_⟩:=h3.p.p.ex;unfold II at ha;have sl:∀J:Nat->AH,BV R.nv J=J z.1.length:=λJ=>h3.n.slen;show ∃R' U',Xp E D (AZ E D) C 0 U=_/\_;unfold Jd;cases hc:decide (40<=z.1.length)with
 | true=>
  simp only[]at ⊢;obtain⟨U4,g4,p4,f4⟩:=hFl (BJ l).2.2 5 h3.p.p;refine⟨_,U4,?_,s3'.trans (h3.go p4 f4)⟩;unfold Xp;simp only[↓rP,rA,AE,AF,AD,↓g1,↓e2,↓s3,↓AT ha,↓sl,hc,↓AT a3,↓g4]
 | false=>
  have hl:z.1.length<40:=by have:=of_decide_eq_false hc;omega
  simp only[]at ⊢;obtain⟨U4,U5,e4,g5,p5,f5⟩:=EM hW h3.p.p [BS.mk 3 4012602] (by decide);have e4:B9 U3 (.cells [.str (BS.mk 3 4012602)])=U4:=e4;have g5:D 27 [.ptr C 0,.sl U3.next 0 1 (.ex 1)] U4=some (.bool (Ao [BS.mk 3 4012602] (Fh l) R.er).1,U5):=g5;have p5:Ps U5 C I ts (Ao [BS.mk 3 4012602] (Fh l) R.er).2.1 (R.e (Ao [BS.mk 3 4012602] (Fh l) R.er).2.2):=p5;have s5:=s3'.trans (h3.go p5 f5);have h5p:=h3p.goe p5 f5;have lp:=h.p.p.lt;have a5:=f5.at_ a3 f3.tidy (by omega);generalize Ao [BS.mk 3 4012602] (Fh l) R.er=i5 at g5 p5 s5 h5p ⊢;obtain⟨b5,l5,M⟩:=i5;simp only[]at g5 p5 s5 h5p ⊢;cases b5 with
  | false=>
   refine⟨_,U5,?_,s5⟩;unfold Xp;simp only[↓rP,rA,AE,AF,AD,↓g1,↓e2,↓s3,↓AT ha,↓sl,hc,↓e4,↓g5]
  | true=>
   simp only[]at ⊢;have le5:=f5.le;obtain⟨A,Q,g6,h6,f6,m6⟩:=hT (d:=0) h5p (λb g=>by
    rcases g with (g|g)|g
    ·exact s5.p.q b g
    ·omega
    ·omega) (by omega)
   have er5':(R.e M).er=M:=rfl;rw[er5']at g6 h6;have f6:Fr (PB C R.dv) U5 Q:=f6;have m6:∀b,AS A b->AS R.dv b\/U5.next<=b:=m6;have dl:∀b,AS R.dv b->b<U1.next:=λb g=>F.p.dlt g;have a6:=f6.at_ a5 p5.ht (λe=>e.elim (by omega) (λe=>by have:=dl _ e;omega));generalize T.go 0 l5 M ns=i6 at g6 h6 ⊢;obtain⟨b6,i,l6,B,P⟩:=i6;simp only[]at g6 h6 ⊢;have m:Pn Q C I ts l6 ((R.wd A).e B) P (λb=>((AS R.nv b\/AS R.tv b)\/b<C)\/b=U1.next):=h6;have s6:WA U5 Q C I ts l6 (R.e M) ((R.wd A).e B) B P z:=s5.p.typ (m.ext λb g => .inl (.inl g)) f6 m6;have s06:=s5.trans s6;obtain⟨a9,ha9,hl9⟩:=m.p.ex;have hn6:=s6.p.n;have ht6:=s6.p.t;have nl1:∀b,AS R.nv b->b<U1.next:=λb g=>F.q b (.inl g);have tl1:∀b,AS R.tv b->b<U1.next:=λb g=>F.q b (.inr g);obtain⟨e',u,w,S,g7,t7,a7,d7,k7,mu,mw,uw,f7⟩:=wh m.p.ht ha9 rfl rfl rfl a6 hn6 ht6 (by omega) (by omega) (by omega) (λe=>(h.nx _ e).1 rfl) (λe=>(h.tx _ e).1 rfl) (λe=>by have:=nl1 _ e;omega) (λe=>by have:=tl1 _ e;omega) (λb g=>(h.nx b g).2.2.2);have le6:=f6.le;have le7:=f7.le;have a7:DQ S C (II I a9 ⟨R.nm,R.tg,u,w,A,B⟩):=a7;have ll:∀b,AS I b->b<Q.next:=λb g=>m.llt g;have dl6:∀b,AS A b->b<Q.next:=λb g=>m.dlt g;have nd':∀b,AS R.nv b->¬AS A b:=λb g e=>(s6.p.nx b g).2.2.1 e;have td':∀b,AS R.tv b->¬AS A b:=λb g e=>(s6.p.tx b g).2.2 e;have p7:Ps S C I ts l6 ⟨R.nm,R.tg,u,w,A,B⟩:=⟨⟨a9,a7,hl9⟩,m.p.src.fr f7 m.p.ht (λb g e=>by
    rcases e with e|e|e
    ·exact m.p.nx b g e
    ·exact(h.nx b e).2.1 g
    ·exact(h.tx b e).2.1 g),m.p.ne,m.p.nx,m.p.ok,f7.tidy⟩
   have hP7:Pn S C I ts l6 ⟨R.nm,R.tg,u,w,A,B⟩ P (λb=>(AS u b\/AS w b)\/b<C):=by
    obtain⟨ws,k1,k2,k3⟩:=m.w;refine⟨p7,⟨ws,k1.fr f7 m.p.ht λb g e=>?_,k2,λk nd v O hv=>?_⟩,m.dx⟩
    ·rcases e with e|e|e
     ·exact(m.dx b g).1 e
     ·exact nd' b e g
     ·exact td' b e g
    ·have L:=k3 k nd v O hv
     have hM:=L.fr f7 m.p.ht λx g e=>by
      rcases e with e|e|e
      ·exact(L.n x g).1 e
      ·exact(L.n x g).2.2 (.inl (.inl (.inl e)))
      ·exact(L.n x g).2.2 (.inl (.inl (.inr e)))
     exact⟨hM.i,hM.f,hM.g,λx g=>⟨(L.n x g).1,(L.n x g).2.1,λq=>by
      have lx:=L.lt m.p.ht g;rcases q with (q|q)|q
      ·exact(mu x q).elim (λe=>(L.n x g).2.2 (.inl (.inl (.inl e)))) (λe=>by omega)
      ·exact(mw x q).elim (λe=>(L.n x g).2.2 (.inl (.inl (.inr e)))) (λe=>by omega)
      ·exact(L.n x g).2.2 (.inl (.inr q))⟩⟩
   have s7:WA Q S C I ts l6 ((R.wd A).e B) ⟨R.nm,R.tg,u,w,A,B⟩ B P (z.1++[(BJ l).2.1],z.2++[i]):=by
    refine⟨⟨hP7,?_,?_,λb g=>?_,λb g=>?_⟩,rfl,rfl,rfl,λb g=>?_,f7.mono λb _ e=>?_⟩
    ·show ES S 1 (z.1++[(BJ l).2.1]).length u (j4 (z.1++[(BJ l).2.1]))
     rw[AY,j4,IX];exact d7
    ·show ES S 1 (z.2++[i]).length w (j5 (z.2++[i]))
     rw[AY,j5,IX];exact k7
    ·refine⟨?_,?_,?_,uw b g⟩
     ·exact(mu b g).elim (λe=>(h.nx b e).1) (λe=>by have:=m.p.lt;omega)
     ·exact(mu b g).elim (λe=>(h.nx b e).2.1) (λe O=>by have:=ll b O;omega)
     ·exact(mu b g).elim (λe=>nd' b e) (λe O=>by have:=dl6 b O;omega)
    ·refine⟨?_,?_,?_⟩
     ·exact(mw b g).elim (λe=>(h.tx b e).1) (λe=>by have:=m.p.lt;omega)
     ·exact(mw b g).elim (λe=>(h.tx b e).2.1) (λe O=>by have:=ll b O;omega)
     ·exact(mw b g).elim (λe=>td' b e) (λe O=>by have:=dl6 b O;omega)
    ·rcases g with g|g|g
     ·exact .inl (.inl g)
     ·exact(mu b g).imp (λe => .inr (.inl e)) id
     ·exact(mw b g).imp (λe => .inr (.inr e)) id
    ·rcases e with e|e|e
     ·exact .inl e
     ·exact .inr (.inr (.inl e))
     ·exact .inr (.inr (.inr e))
   refine⟨_,S,?_,s06.trans s7⟩;have gd:∀J:Cb->H->AH,DZ (AZ E D Ty KN [(0,.ptr C 0),(3,.ptr U1.next 0),(4,.int .i64 (AA i)),(5,.bool b6)] Q) J=J e' S:=λJ=>by rw[g7];rfl
   have m5:∀J:V->AH,EO e' 5 J=J (.bool b6):=λJ=>D4 t7 rfl;have g6:D 63 [.ptr C 0,.int .i64 (AA 0)] U5=some (.tup [.int .i64 (AA i),.bool b6],Q):=g6;unfold Xp;simp only[↓rP,rA,AE,AF,AD,↓g1,↓e2,↓s3,↓AT ha,↓sl,hc,↓e4,↓g5,↓g6,↓gd,↓m5]
end
def NH:List BS:=[BS.mk 8 6073459554577832005,BS.mk 8 6073459554577829193,BS.mk 9 1241215773001651606849]
def Uq:List BS->Nat->Int->List Ad->Er->Bool × Int × List Ad × Er
 | [],_,a,l,er=>(true,a,l,er)
 | w::d,i,a,l,er=>match FE w l with
  | false=>Uq d (i+1) a l er
  | true=>match Ao [w,BS.mk 4 1397178708] l er with
   | (b,c,er1)=>(b,AA i,c,er1)
def Kh(T:DA):Nat->NT->List Ad->Er->List AM->Bool × NT × List Ad × Er × List AM
 | 0,z,l,er,d=>(false,z,l,EJ er (BJ l).2.2 7,d)
 | n+1,z,l,er,d=>match decide ((BJ l).1=1)with
  | true=>match Jd T z l er d with
   | (false,f,a,er1,c)=>(false,f,a,er1,c)
   | (true,f,a,er1,c)=>Kh T n f a er1 c
  | false=>match Ao [BS.mk 3 4476485] l er with
   | (false,a,er1)=>(false,z,a,er1,d)
   | (true,a,er1)=>match Jk 0 a er1 with
    | (b,g,e)=>(b,z,g,e,d)
abbrev WT:=List Nat × Int × NT × List AM
def mT:WT:=([],0,([],[]),[])
@[irreducible] def j7(T:DA)(l:List Ad)(er:Er):Bool × NT × List Ad × Er × List AM:=Kh T fu ([],[]) l er []
def KY(T:DA)(l:List Ad)(er:Er):Bool × WT × Er:=match Jk 1 l er with
 | (false,_,er1)=>(false,mT,er1)
 | (true,g,er1)=>match Ao [BS.mk 11 100710650190388740279911748] g er1 with
  | (false,_,a)=>(false,mT,a)
  | (true,h,a)=>match Uq NH 0 0 h a with
   | (false,_,_,c)=>(false,mT,c)
   | (true,d,e,c)=>match Ao [BS.mk 3 4012602,BS.mk 5 336236856642] e c with
    | (false,_,er4)=>(false,mT,er4)
    | (true,l4,er4)=>match j7 T l4 er4 with
     | (false,_,_,b,_)=>(false,mT,b)
     | (true,z,_,b,f)=>(true,((BJ l).2.1,d,z,f),b)
theorem wj{T}(n:dS T)(z:NT) l er e:(Jd T z l er e).2.2.1.length<=(Fh l).length/\((Jd T z l er e).1=true->z.1.length<40/\(Jd T z l er e).2.1.1.length=z.1.length+1/\(Jd T z l er e).2.1.2.length=z.2.length+1):=by
 unfold Jd;cases o:decide (40<=z.1.length)with
 | true=>exact⟨AL _,λh=>by cases h⟩ | false=>
  have:=of_decide_eq_false o;have i:=DI [BS.mk 3 4012602] (Fh l) er;simp only[]at ⊢;generalize Ao [BS.mk 3 4012602] (Fh l) er=p at i ⊢;obtain⟨r,m,er1⟩:=p;cases r with
  | false=>exact⟨i,λh=>by cases h⟩ | true=>
   have q:=(n 0 m er1 e).l;exact⟨AU q i,λ_=>⟨by omega,by simp,by simp⟩⟩
structure APH(U U':H)(pb:Nat)(lv:V)(ts:List Ad)(R R':Rp)(r:Bool × WT × Er):Prop where
 p:∃l' ns' z',Pm U' pb lv ts l' R' ns' z'/\(r.1=true->R'.nm=BO r.2.1.1/\R'.tg=r.2.1.2.1/\z'=r.2.1.2.2.1/\ns'=r.2.1.2.2.2)
 er:R'.er=r.2.2
 m:∀b,MB R' b->MB R b\/U.next<=b
 f:Fr (λb=>b=pb\/MB R b) U U'
def V1(T:DA)(F:List V->H->AH):Prop:=∀{U a b ts l}{R:Rp},Pm U a b ts l R [] ([],[])->R.tg=0 ->
 ∃c U',F [.ptr a 0] U=some (.bool (KY T l R.er).1,U')/\APH U U' a b ts R c (KY T l R.er)
section
variable {U U' U1 U2:H}{pb:Nat}{lv:V}{ts l l' l1 l2:List Ad}{R R1 R2:Rp}{er er1 er2:Er}{ns ns1 ns2:List AM}{z z1 z2:NT}
theorem Pm.cel(h:Pm U pb lv ts l R ns z){off}{y:V} nm o (q:y.cells=[y]/\y.one=true)(L:off<9)(x:∀a,Gj (II lv a R) off [y]=II lv a ⟨nm,o,R.nv,R.tv,R.dv,R.er⟩):
    ∃U',(∀J,Cg 1 pb off y U J=J U')/\Pm U' pb lv ts l ⟨nm,o,R.nv,R.tv,R.dv,R.er⟩ ns z/\Fr (λk=>k=pb) U U':=by
  obtain⟨a,F,E⟩:=h.p.p.ex;obtain⟨U',g,G,f⟩:=Jo (n:=1) (l':=II lv a ⟨nm,o,R.nv,R.tv,R.dv,R.er⟩) h.p.p.ht F (by
    rw[q.1];simp only[AK,Aa,BW,Bg,q.2,Au,BQ,GC,BX,Ag,SW];show off+1<=9;omega) (by rw[q.1];exact x a)
  have I:Ps U' pb lv ts l ⟨nm,o,R.nv,R.tv,R.dv,R.er⟩:=⟨⟨a,G,E⟩,h.p.p.src.fr f h.p.p.ht (λb d e=>h.p.p.nx b d e),h.p.p.ne,h.p.p.nx,h.p.p.ok,f.tidy⟩;obtain⟨B,A,D,s⟩:=h.p.w;exact⟨U',g,⟨⟨I,⟨B,A.fr f h.p.p.ht λb d e=>(h.p.dx b d).1 e,D,λk nd u t v=>(s k nd u t v).fr f h.p.p.ht λb d e=>((s k nd u t v).n b d).1 e⟩,h.p.dx⟩,h.n.fr f h.p.p.ht (λb d e=>(h.nx b d).1 e),h.t.fr f h.p.p.ht (λb d e=>(h.tx b d).1 e),h.nx,h.tx⟩,f⟩
end
section
variable {E:EB}{D:Am}{N:Nat}
theorem ABl{T}(hG:dS T)(hP:C0 (D 29))(hO:PN (D 26))(hW:D6 (D 27))(W:SD T (D 30)){w Q ts}:∀n k {U:H}{l:List Ad}{R:Rp}{q}{z:NT},Pm U w Q ts l R q z->z.1.length<=40->z.2.length<=40->l.length<n->l.length<k ->
  (z.1.length=z.2.length)->∃S U',YI E D (AZ E D) N k w 0 U=some (.bool (Kh T n z l R.er q).1,U')/\WA U U' w Q ts (Kh T n z l R.er q).2.2.1 R S (Kh T n z l R.er q).2.2.2.1 (Kh T n z l R.er q).2.2.2.2 (Kh T n z l R.er q).2.1:=by
 intro n;induction n with
 | zero=>intro k U l R q z h h1 h2 hn;omega | succ n ih=>
  intro k U l R q z h h1 h2 hn hk hz;obtain⟨k,rfl⟩:∃j,k=j+1:=⟨k-1,by omega⟩;have y:=hP h.p.p;unfold Bu at y;show ∃S U',TZ E D (AZ E D) (fH E D (AZ E D)) (YI E D (AZ E D) N k) w 0 U=_/\_;unfold Kh;cases p:decide ((BJ l).1=1)with
  | true=>
   simp only[]at ⊢;obtain⟨R1,U1,B,u⟩:=W h (by omega);obtain⟨K,C⟩:=wj hG z l R.er q;have lt:=h.p.p.less (λe=>by have:=of_decide_eq_true p;omega);generalize Jd T z l R.er q=i1 at B u K C ⊢;obtain⟨b1,z1,l1,er1,ns1⟩:=i1;simp only[]at B u K C ⊢;cases b1 with
   | false=>
    refine⟨R1,U1,?_,u⟩;unfold TZ;simp only[↓rP,rA,AE,AF,AD,↓y,p,↓B]
   | true=>
    obtain⟨q1,q2,q3⟩:=C rfl;obtain⟨R2,U2,O,I⟩:=ih k u.p (by omega) (by omega) (by omega) (by omega) (by omega);rw[u.er]at O I;refine⟨R2,U2,?_,u.trans I⟩;unfold TZ;simp only[↓rP,rA,AE,AF,AD,↓y,p,↓B];exact O
  | false=>
   simp only[]at ⊢;obtain⟨U3,U4,A,v,s,f4⟩:=EM hW h.p.p [BS.mk 3 4476485] (by decide);have A:B9 U (.cells [.str (BS.mk 3 4476485)])=U3:=A;have v:D 27 [.ptr w 0,.sl U.next 0 1 (.ex 1)] U3=some (.bool (Ao [BS.mk 3 4476485] l R.er).1,U4):=v;have s:=s;have x:=h.go s f4;generalize Ao [BS.mk 3 4476485] l R.er=i4 at v s x ⊢;obtain⟨b4,l4,er4⟩:=i4;simp only[]at v s x ⊢;cases b4 with
   | false=>
    refine⟨_,U4,?_,x⟩;unfold TZ fH;simp only[↓rP,rA,AE,AF,AD,↓y,p,↓A,↓v]
   | true=>
    simp only[]at ⊢;obtain⟨L,r,P,f5⟩:=hO 0 s s.llt;have er:(R.e er4).er=er4:=rfl;rw[er]at r P;have r:D 26 [.ptr w 0,.int .i64 (AA 0)] U4=some (.tup [.agg (Bu (BJ l4)),.bool (Jk 0 l4 er4).1],L):=r;unfold Bu at r;have F:=x.trans (x.p.go P f5);generalize Jk 0 l4 er4=i5 at r F ⊢;obtain⟨b5,l5,er5⟩:=i5;simp only[]at r F ⊢;refine⟨_,L,?_,F⟩;unfold TZ fH;simp only[↓rP,rA,AE,AF,AD,↓y,p,↓A,↓v,↓r]
theorem AAr{K}(hS:PL (D 28))(hW:D6 (D 27)){r y T ts l ns z}:∀(t:List BS) i k {U}{R:Rp},Pm U r T ts l R ns z->NH.drop i=t->t.length<k->DQ U y (NH.map .str)->y≠r ->
  ∃U',Nat.rec (motive:=λ_=>Nat->Nat->V->Int->Int->H->AH) (λ_ _ _ _ _ _=>none) (λ_ B=>PK E D (AZ E D) K B) k r 0 (.sl y 0 3 (.ex 3)) (AA 3) (AA i) U=(match (Uq t i R.tg l R.er).1 with | true=>K r 0 U' | false=>some (.bool false,U')) /\
   Pm U' r T ts (Uq t i R.tg l R.er).2.2.1 ⟨R.nm,(Uq t i R.tg l R.er).2.1,R.nv,R.tv,R.dv,(Uq t i R.tg l R.er).2.2.2⟩ ns z/\Fr (λb=>b=r) U U':=by
 intro t;induction t with
 | nil=>
  intro i k U R h A I a ne;obtain⟨k,rfl⟩:∃j,k=j+1:=⟨k-1,by simp only[Aa]at I;omega⟩;have G:3<=i:=by
   have:=congrArg Du A;simp only[AQ,Aa]at this;have e:NH.length=3:=rfl;omega
  refine⟨U,?_,h,Fr.refl h.p.p.ht⟩;have d:decide (i<3)=false:=decide_eq_false (by omega);show PK E D (AZ E D) K _ r 0 _ _ _ U=K r 0 U;unfold PK;simp only[↓rP,rA,AE,AF,AD,d]
 | cons w t B=>
  intro i k U R h A I a ne;obtain⟨k,rfl⟩:∃j,k=j+1:=⟨k-1,by simp only[AK]at I;omega⟩;have W:t.length+1=3-i:=by
   have:=congrArg Du A;simp only[AQ,AK]at this;have e:NH.length=3:=rfl;omega
  have G:i<3:=by omega
  have d:decide (i<3)=true:=decide_eq_true G;have P:NH[i]? = some w:=by
   have:=congrArg (λx:List BS=>x[0]?) A;simpa using this
  have rd:∀J:V->AH,Bl 1 (.sl y 0 3 (.ex 3)) (AA i) (λb o=>Ee E U b o J)=J (.str w):=λJ=>by
   rw[DG G];show Ee E U y (0+i*1) J=_;rw[show 0+i*1=i by omega,AT a];match i,G,P with
   | 0,_,h=>cases h;rfl | 1,_,h=>cases h;rfl | 2,_,h=>cases h;rfl
  have ai:BP .i64 (AA i) (AA 1)=AA (i+1):=BB (by omega);have L:=hS w h.p.p;show ∃U',PK E D (AZ E D) K (Nat.rec (λ_ _ _ _ _ _=>none) (λ_ B=>PK E D (AZ E D) K B) k) r 0 (.sl y 0 3 (.ex 3)) (AA 3) (AA i) U=_/\_;unfold Uq;cases hb:FE w l with
  | false=>
   rw[hb]at L;obtain⟨U',g',p',f'⟩:=B (i+1) k h (by rw[<-BU,A];rfl) (by simp only[AK]at I;omega) a ne;refine⟨U',?_,p',f'⟩;unfold PK;simp only[↓rP,rA,AE,AF,AD,d,↓rd,↓L,ai];exact g'
  | true=>
   rw[hb]at L;simp only[]at ⊢;obtain⟨X,g2,Y,f2⟩:=h.cel (off:=3) R.nm (AA i) ⟨rfl,rfl⟩ (by decide) (λ_=>rfl);obtain⟨U3,U4,Q,C,S,f4⟩:=EM hW Y.p.p [w,BS.mk 4 1397178708] (by show 2<=10;decide);have Q:B9 X (.cells [.str w,.str (BS.mk 4 1397178708)])=U3:=Q;have C:D 27 [.ptr r 0,.sl X.next 0 2 (.ex 2)] U3=some (.bool (Ao [w,BS.mk 4 1397178708] l R.er).1,U4):=C;have S:Ps U4 r T ts (Ao [w,BS.mk 4 1397178708] l R.er).2.1 ((⟨R.nm,AA i,R.nv,R.tv,R.dv,R.er⟩:Rp).e (Ao [w,BS.mk 4 1397178708] l R.er).2.2):=S;have M:=Y.go S f4;generalize Ao [w,BS.mk 4 1397178708] l R.er=i4 at C M ⊢;obtain⟨b4,l4,er4⟩:=i4;simp only[]at C M ⊢;refine⟨U4,?_,M.p,f2.trans f4 (λ_ _ e=>e)⟩;unfold PK;cases b4<;>simp only[↓rP,rA,AE,AF,AD,d,↓rd,↓L,↓g2,↓Q,↓C]
end
structure yz(U:H)(nd:AM)(u:V × FV):Prop where
 i:D0 U 3 nd.items.length u.1 (Yo nd.items)
 f:D0 U 11 nd.fields.length u.2.1 (WS nd.fields u.2.2)
 g:j8 U nd.fields u.2.2
structure zA(U:H)(m:WT)(nv tv dv:V):Prop where
 n:ES U 1 m.2.2.1.1.length nv (j4 m.2.2.1.1)
 t:D0 U 1 m.2.2.1.2.length tv (j5 m.2.2.1.2)
 d:∃ws:List (V × FV),D0 U 16 m.2.2.2.length dv (HO m.2.2.2 ws)/\ws.length=m.2.2.2.length/\∀(k:Nat) (nd:AM) (u:V × FV),m.2.2.2[k]? = some nd->ws[k]? = some u->yz U nd u
def Ym(m:WT)(a b c:V):List V:=[.str (BO m.1),.int .i64 m.2.1,a,b,c]
@[irreducible] def GO:DA:=NG 18
def Fk(M:Nat)(s:BS):Except (Nat × Nat) WT:=match IK M s with
 | .error e => .error e
 | .ok ts=>match KY GO ts (0,0)with
  | (true,m,_) => .ok m
  | (false,_,er) => .error er
def KK(E:EB)(M:Nat)(F:List V->H->AH):Prop:=∀(U:H) s,CI U->KF E U ->
 match Fk M s with
 | .ok m=>∃a c d U',F [.str s] U=some (.tup [.agg (Ym m a c d),.int .i64 (AA 0),.int .i64 (AA 0)],U')/\zA U' m a c d/\(∀b,AS a b\/AS c b\/AS d b->U.next<=b)/\Fr Af U U'
 | .error e=>∃U',F [.str s] U=some (.tup [.agg [.str (BS.mk 0 0),.int .i64 (AA 0),.nils,.nils,.nils],.int .i64 (AA e.1),.int .i64 (AA e.2)],U')/\Fr Af U U'
section
variable {E:EB}{D:Am}{N:Nat}
theorem mR{T}(hG:dS T)(hP:C0 (D 29))(hS:PL (D 28))(hO:PN (D 26))(hW:D6 (D 27))(hA:SD T (D 30))(hN:9002<N):V1 T (F11 E D (AZ E D) N):=by
 intro U o X ts l R h htg;obtain⟨U1,t,p1,f1⟩:=hO 1 h.p.p h.p.p.llt;have t:D 26 [.ptr o 0,.int .i64 (AA 1)] U=some (.tup [.agg (Bu (BJ l)),.bool (Jk 1 l R.er).1],U1):=t;unfold Bu at t;have u:=h.go p1 f1;have P:=VG 1 l R.er;have hfew:=h.p.p.few;show ∃R' U',Rv E D (AZ E D) (Tm E D (AZ E D) N N) o 0 U=_/\_;unfold KY;generalize Jk 1 l R.er=i1 at t p1 u P ⊢;obtain⟨b1,L,er1⟩:=i1;simp only[]at t p1 u P ⊢;cases b1 with
 | false=>
  refine⟨R.e er1,U1,?_,⟨⟨_,_,_,u.p,λh=>by cases h⟩,rfl,u.m,u.f⟩⟩;unfold Rv;simp only[↓rP,rA,AE,AF,AD,↓t]
 | true=>
  simp only[]at ⊢;obtain⟨U3,U4,S,I,p4,f4⟩:=EM hW u.p.p.p [BS.mk 11 100710650190388740279911748] (by decide);have S:B9 U1 (.cells [.str (BS.mk 11 100710650190388740279911748)])=U3:=S;have I:D 27 [.ptr o 0,.sl U1.next 0 1 (.ex 1)] U3=some (.bool (Ao [BS.mk 11 100710650190388740279911748] L er1).1,U4):=I;have p4:Ps U4 o X ts (Ao [BS.mk 11 100710650190388740279911748] L er1).2.1 ((R.e er1).e (Ao [BS.mk 11 100710650190388740279911748] L er1).2.2):=p4;have B:=u.trans (u.p.go p4 f4);have W:=DI [BS.mk 11 100710650190388740279911748] L er1;generalize Ao [BS.mk 11 100710650190388740279911748] L er1=i4 at I B W ⊢;obtain⟨b4,l4,er4⟩:=i4;simp only[]at I B W ⊢;cases b4 with
  | false=>
   refine⟨R.e er4,U4,?_,⟨⟨_,_,_,B.p,λh=>by cases h⟩,rfl,B.m,B.f⟩⟩;unfold Rv;simp only[↓rP,rA,AE,AF,AD,↓t,↓S,↓I]
  | true=>
   simp only[]at ⊢;have s4p:Pm U4 o X ts l4 (R.e er4) [] ([],[]):=B.p;obtain⟨U5,g5,v,f5⟩:=s4p.cel (off:=2) (BO (BJ l).2.1) R.tg ⟨rfl,rfl⟩ (by decide) (λ_=>rfl);have v:Pm U5 o X ts l4 ⟨BO (BJ l).2.1,R.tg,R.nv,R.tv,R.dv,er4⟩ [] ([],[]):=v;obtain⟨U6,e6,f6,a6,n6⟩:=Ia f5.tidy (NH.map .str);have h6:Pm U6 o X ts l4 ⟨BO (BJ l).2.1,R.tg,R.nv,R.tv,R.dv,er4⟩ [] ([],[]):=⟨v.p.fr f6 (λh=>h) (λ_ _ h=>h) (λ_ _ h=>h) (λ_ _ h=>h.elim),v.n.fr f6 f5.tidy (λ_ _ h=>h),v.t.fr f6 f5.tidy (λ_ _ h=>h),v.nx,v.tx⟩;have lp:=v.p.p.lt;obtain⟨x,J,y,f7⟩:=AAr hS hW NH 0 N h6 rfl (by show 3<N;omega) a6 (by omega);have f07:Fr (λb=>b=o\/MB R b) U x:=((B.f.trans f5 (λ_ _ e => .inl e)).trans f6 (λ_ _ h=>h.elim)).trans f7 (λ_ _ e => .inl e);have tle:∀(ws:List BS) (i:Nat) (F:Int) (l:List Ad) (er:Er),(Uq ws i F l er).2.2.1.length<=l.length:=by
    intro ws;induction ws with
    | nil=>intro i F l er;exact AL _ | cons w ws ih=>
     intro i F l er;unfold Uq;cases FE w l with
     | false=>exact ih _ _ _ _ | true=>exact DI _ _ _
   have Q:=tle NH 0 0 l4 er4;rw[htg]at J y;simp only[]at J y;generalize Uq NH 0 0 l4 er4=i7 at J y Q ⊢;obtain⟨b7,F,K,p⟩:=i7;simp only[]at J y Q ⊢;have e6:B9 U5 (.cells [.str (BS.mk 8 6073459554577832005),.str (BS.mk 8 6073459554577829193),.str (BS.mk 9 1241215773001651606849)])=U6:=e6;have m7:∀b,MB (⟨BO (BJ l).2.1,F,R.nv,R.tv,R.dv,p⟩:Rp) b->MB R b\/U.next<=b:=λb hb => .inl hb;cases b7 with
   | false=>
    have A:Tm E D (AZ E D) N N o 0 (.sl U5.next 0 3 (.ex 3)) (AA 3) (AA 0) U6=some (.bool false,x):=J;refine⟨_,x,?_,⟨⟨_,_,_,y,λh=>by cases h⟩,rfl,m7,f07⟩⟩;unfold Rv;simp only[↓rP,rA,AE,AF,AD,↓t,↓S,↓I,↓g5,↓e6,↓A]
   | true=>
    have A:Tm E D (AZ E D) N N o 0 (.sl U5.next 0 3 (.ex 3)) (AA 3) (AA 0) U6=Tt E D (AZ E D) N o 0 x:=J;simp only[]at ⊢;obtain⟨U8,U9,e8,z,p9,f9⟩:=EM hW y.p.p [BS.mk 3 4012602,BS.mk 5 336236856642] (by decide);have e8:B9 x (.cells [.str (BS.mk 3 4012602),.str (BS.mk 5 336236856642)])=U8:=e8;have z:D 27 [.ptr o 0,.sl x.next 0 2 (.ex 2)] U8=some (.bool (Ao [BS.mk 3 4012602,BS.mk 5 336236856642] K p).1,U9):=z;have p9:Ps U9 o X ts (Ao [BS.mk 3 4012602,BS.mk 5 336236856642] K p).2.1 ((⟨BO (BJ l).2.1,F,R.nv,R.tv,R.dv,p⟩:Rp).e (Ao [BS.mk 3 4012602,BS.mk 5 336236856642] K p).2.2):=p9;have s9:=y.go p9 f9;have M:=DI [BS.mk 3 4012602,BS.mk 5 336236856642] K p;have G:Fr (λb=>b=o\/MB R b) U U9:=f07.trans f9 (λ_ _ e => .inl e);have lef:=G.le;have key:Rv E D (AZ E D) (Tm E D (AZ E D) N N) o 0 U=Tt E D (AZ E D) N o 0 x:=by
     unfold Rv;simp only[↓rP,rA,AE,AF,AD,↓t,↓S,↓I,↓g5,↓e6,↓A]
    rw[key];show ∃R' U',Xu E D (AZ E D) (YI E D (AZ E D) N N) o 0 x=_/\_;generalize Ao [BS.mk 3 4012602,BS.mk 5 336236856642] K p=i9 at z s9 M ⊢;obtain⟨b9,l9,s⟩:=i9;simp only[]at z s9 M ⊢;cases b9 with
    | false=>
     refine⟨_,U9,?_,⟨⟨_,_,_,s9.p,λh=>by cases h⟩,rfl,m7,G⟩⟩;unfold Xu;simp only[↓rP,rA,AE,AF,AD,↓e8,↓z]
    | true=>
     have hfu:=Nk;obtain⟨Rz,Uz,O,r⟩:=ABl hG hP hO hW hA fu N s9.p (by show 0<=40;omega) (by show 0<=40;omega) (by omega) (by omega) rfl;have ez:j7 T l9 s=Kh T fu ([],[]) l9 s []:=by unfold j7;rfl
     have er:((⟨BO (BJ l).2.1,F,R.nv,R.tv,R.dv,p⟩:Rp).e s).er=s:=rfl;rw[er,<-ez]at O r;simp only[]at ⊢;generalize j7 T l9 s=iz at O r ⊢;obtain⟨bz,zz,lz,erz,nsz⟩:=iz;simp only[]at O r ⊢;have fz:Fr (λb=>b=o\/MB R b) U Uz:=G.trans r.f (λb hb e=>e.imp id id);have mz:∀b,MB Rz b->MB R b\/U.next<=b:=λb hb=>(r.m b hb).imp id (λe=>by omega);cases bz with
     | false=>
      refine⟨Rz,Uz,?_,⟨⟨_,_,_,r.p,λh=>by cases h⟩,r.er,mz,fz⟩⟩;unfold Xu;simp only[↓rP,rA,AE,AF,AD,↓e8,↓z];exact O
     | true=>
      refine⟨Rz,Uz,?_,⟨⟨_,_,_,r.p,λ_=>⟨r.nm,r.tg,rfl,rfl⟩⟩,r.er,mz,fz⟩⟩;unfold Xu;simp only[↓rP,rA,AE,AF,AD,↓e8,↓z];exact O
end
structure tf(r:List Nat)(x:Sg):Prop where
 bd:∀c∈x.2.1,c<256
 ln:x.2.1.length<=r.length
 nm:x.1=1\/x.1=2->x.2.1≠[]
 nu:x.1=3->∃m ds,x.2.1=De m ds/\(∀d∈ds,Ai d=true)/\ds≠[]/\C4 0 ds<=Jc m
 hx:x.1=4->∀c∈x.2.1,Bk c=true
 rs:∀c∈x.2.2,c∈r
theorem NP:∀b (r:List Nat) (p:List Nat × List Nat),D1 b r=some p->(∀c∈p.1,c∈r\/c=34)/\p.1.length<=r.length/\∀c∈p.2,c∈r
 | false,[],p,h=>(by cases h) | true,[],p,h=>by cases h;exact⟨λc n=>(by cases n),AL _,λc n=>(by cases n)⟩
 | false,c::r,p,h=>by
  have h:(match decide (c=34)with | true=>D1 true r | false=>(D1 false r).map λp=>(c::p.1,p.2))=some p:=h;cases o:decide (c=34)with
  | true=>
   rw[o]at h;obtain⟨l,s,m⟩:=NP true r p h;exact⟨λx e=>(l x e).imp (Ar _) id,Ij s,λx e=>Ar _ (m x e)⟩
  | false=>
   rw[o]at h;cases j:D1 false r with
   | none=>rw[j]at h;cases h | some q=>
    rw[j]at h;cases h;obtain⟨l,s,m⟩:=NP false r q j;refine⟨λx e=>?_,Zz s,λx e=>Ar _ (m x e)⟩;rcases BK.1 e with rfl|e
    ·exact .inl (As ..)
    ·exact(l x e).imp (Ar _) id
 | true,c::r,p,h=>by
  have h:(match decide (c=34)with | true=>(D1 false r).map λp=>(34::p.1,p.2) | false=>some ([],c::r))=some p:=h;cases o:decide (c=34)with
  | false=>rw[o]at h;cases h;exact⟨λc n=>(by cases n),BF _,λx e=>e⟩ | true=>
   rw[o]at h;cases j:D1 false r with
   | none=>rw[j]at h;cases h | some q=>
    rw[j]at h;cases h;obtain⟨l,s,m⟩:=NP false r q j;refine⟨λx e=>?_,Zz s,λx e=>Ar _ (m x e)⟩;rcases BK.1 e with rfl|e
    ·exact .inr rfl
    ·exact(l x e).imp (Ar _) id
theorem tf.none r q (h:∀c∈q,c∈r):tf r (0,[],q):=⟨λc d=>(by cases d),BF _,λe=>(by rcases e with e | e<;>cases e),λe=>(by cases e),λe=>(by cases e),h⟩
theorem xy{c}{r:List Nat}(C:∀x∈c::r,x<256):tf (c::r) (Hc (c::r)):=by
 have eT:Hc (c::r)=(if Em c=true then NU c r else if(Ai c || (decide (c=45)&&Ai (r.headD 0)))=true then Kw (c::r)else if c=39 then Kx (c::r)else if c=34 then OL (c::r)else Ql (c::r)):=rfl;rw[eT];by_cases F:Em c=true
 ·rw[if_pos F]
  have G:OT c r=true:=by unfold OT;rw[F];rfl
  have O:1<=Fm (c::r):=by unfold Fm;rw[G];exact Ih _
  unfold NU;cases Ma ((c::r).take (Fm (c::r)))with
  | true=>exact tf.none _ _ λx i=>Bq i | false=>
   refine⟨λx i=>C x (Eu i),by simp only[Bn];omega,λ_ e=>?_,λe=>?_,λe=>?_,λx i=>Bq i⟩
   ·have:=congrArg Du e
    simp only[Bn,AK,Aa]at this;omega
   ·exfalso
    simp only[]at e;split at e
    ·omega
    ·split at e<;>omega
   ·exfalso
    simp only[]at e;split at e
    ·omega
    ·split at e<;>omega
 ·rw[if_neg F]
  by_cases B:(Ai c || (decide (c=45)&&Ai (r.headD 0)))=true
  ·rw[if_pos B]
   obtain⟨q,A⟩:∃q,q=(if decide (c=45)=true then r else c::r):=⟨_,rfl⟩;have z:∀x∈q,x∈c::r:=by
    rw[A];split
    ·exact λx i=>Ar _ i
    ·exact λx i=>i
   have e:Kw (c::r)=(if EU (decide (c=45)) (q.take (Al Ai q)) ((q.drop (Al Ai q)).headD 0)=true then((3,De (decide (c=45)) (q.take (Al Ai q)),q.drop (Al Ai q)):Sg)else(0,[],q.drop (Al Ai q))):=by rw[A];rfl
   rw[e];by_cases D:EU (decide (c=45)) (q.take (Al Ai q)) ((q.drop (Al Ai q)).headD 0)=true
   ·rw[if_pos D]
    have hv:C4 0 (q.take (Al Ai q))<=Jc (decide (c=45)):=by
     unfold EU at D;rw[AI]at D;exact of_decide_eq_true D.1
    have I:q.take (Al Ai q)≠[]:=by
     by_cases t:c=45
     ·have u:q=r:=by rw[A,decide_eq_true t,if_pos rfl]
      have E:Ai (r.headD 0)=true:=by
       subst t;have:Ai 45=false:=by decide
       rw[this,C7,AI]at B;exact B.2
      rw[u];cases r with
      | nil=>exact absurd E (by decide) | cons d r=>
       rw[ED];have E:Ai d=true:=E;rw[E];simp
     ·have u:q=c::r:=by rw[A,decide_eq_false t,if_neg (by decide)]
      rw[decide_eq_false t,BY,EW]at B;rw[u,ED,B];simp
    have J:(De (decide (c=45)) (q.take (Al Ai q))).length<=(c::r).length:=by
     unfold De;have:(q.take (Al Ai q)).length<=q.length:=by rw[Bn];omega
     by_cases t:c=45
     ·have u:q=r:=by rw[A,decide_eq_true t,if_pos rfl]
      rw[decide_eq_true t,if_pos rfl];rw[u]at this ⊢;simp only[AK];omega
     ·have u:q=c::r:=by rw[A,decide_eq_false t,if_neg (by decide)]
      rw[decide_eq_false t,if_neg (by decide)];rw[u]at this ⊢;exact this
    refine⟨λx i=>?_,J,λe=>(by rcases e with e | e<;>cases e),λ_=>⟨_,_,rfl,LL Ai q,I,hv⟩,λe=>(by cases e),λx i=>z x (Bq i)⟩;have i:=i;unfold De at i;split at i
    ·rcases BK.1 i with rfl|i
     ·omega
     ·exact C x (z x (Eu i))
    ·exact C x (z x (Eu i))
   ·rw[if_neg D]
    exact tf.none _ _ λx i=>z x (Bq i)
  ·rw[if_neg B]
   by_cases Q:c=39
   ·rw[if_pos Q]
    have e:Kx (c::r)=(if(decide ((r.take (Al Bk r)).length % 2=0)&&Pw (BS.mk 2 18471) (r.drop (Al Bk r)))=true then((4,r.take (Al Bk r),(r.drop (Al Bk r)).drop 2):Sg)else(0,[],r.drop (Al Bk r))):=rfl;rw[e];split
    ·exact⟨λx i=>C x (Ar _ (Eu i)),by simp only[Bn,AK];omega,λe=>(by rcases e with e | e<;>cases e),λe=>(by cases e),λ_=>LL Bk r,λx i=>Ar _ (Bq (Bq i))⟩
    ·exact tf.none _ _ λx i=>Ar _ (Bq i)
   ·rw[if_neg Q]
    by_cases P:c=34
    ·rw[if_pos P]
     show tf _ (GF [] r);unfold GF;cases A:quo r with
     | none=>exact tf.none _ _ λx i=>(by cases i) | some p=>
      obtain⟨G,O,N⟩:=NP false r p A;simp only[IW];cases CR p.1 with
      | true=>
       refine⟨λx i=>?_,Ij O,λe=>(by rcases e with e | e<;>cases e),λe=>(by cases e),λe=>(by cases e),λx i=>Ar _ (N x i)⟩;rcases G x i with h|h
       ·exact C x (Ar _ h)
       ·omega
      | false=>exact tf.none _ _ λx i=>Ar _ (N x i)
    ·rw[if_neg P]
     unfold Ql;cases IY Cp (c::r)with
     | zero=>exact tf.none _ _ λx i=>i | succ n=>exact⟨λx i=>C x (Eu i),by simp only[Bn];omega,λe=>(by rcases e with e | e<;>cases e),λe=>(by cases e),λe=>(by cases e),λx i=>Bq i⟩
theorem L7:∀n (r:List Nat),∀c∈HS n r,c∈r
 | 0,r,c,h=>h | n+1,[],c,h=>h | n+1,x::r,c,h=>by
  unfold HS at h;split at h
  ·exact Ar _ (L7 n r c h)
  ·split at h
   ·obtain⟨k,_,f⟩:=P4 (r.drop 1)
    have:=L7 n _ c h;rw[f]at this;exact Ar _ (Bq (Bq this))
   ·exact h
structure TkQ(len:Nat)(t:Ad):Prop where
 bd:∀c∈t.2.1,c<256
 ln:t.2.1.length<=len
 nm:t.1=1\/t.1=2->t.2.1≠[]
 nu:t.1=3->∃m ds,t.2.1=De m ds/\(∀d∈ds,Ai d=true)/\ds≠[]/\C4 0 ds<=Jc m
 hx:t.1=4->∀c∈t.2.1,Bk c=true
 at_:t.2.2<=len
theorem mc{M len}:∀k (r:List Nat) ts,r.length<=len->(∀c∈r,c<256)->HA M len k r = .ok ts->∀t∈ts,TkQ len t
 | 0,r,ts,_,_,h=>(by cases h) | k+1,[],ts,_,_,h=>by
  cases h;intro t i;rw[B0]at i;subst i;exact⟨λc B=>(by cases B),BF _,λe=>(by rcases e with e | e<;>cases e),λe=>(by cases e),λe=>(by cases e),AL _⟩
 | k+1,c::r,ts,E,y,h=>by
  have j:=xy y;have D:=λx A=>y x (j.rs x (L7 M _ x A));unfold HA at h;cases v:(Hc (c::r)).1 with
  | zero=>rw[v]at h;cases h | succ G=>
   have C:=Up (c:=c) (r:=r) (by omega);have F:=G1 M (Hc (c::r)).2.2;rw[v]at h;cases o:HA M len k (HS M (Hc (c::r)).2.2)with
   | error e=>simp only[o]at h;cases h | ok s=>
    simp only[o]at h;cases h;intro t i;rcases BK.1 i with rfl|i
    ·rw[<-v]
     exact⟨j.bd,AU j.ln E,j.nm,j.nu,j.hx,Nat.sub_le _ _⟩
    ·exact mc k _ s (by omega) D o t i
theorem jj.fin_{len ts}(h:jj len ts):∃p e,ts=p++[e]/\e.1=0/\∀t∈p,t.1≠0:=by
 induction h with
 | fin=>exact⟨[],_,rfl,rfl,λt k=>(by cases k)⟩ | @cons t ts l _ j=>
  obtain⟨p,e,rfl,m,n⟩:=j;exact⟨t::p,e,rfl,m,λx g=>by
   rcases BK.1 g with rfl|g
   ·exact l
   ·exact n x g⟩
theorem Kb{M}{s:BS}{ts}(h:IK M s = .ok ts):TsX ts/\∀t∈ts,TkQ 8000 t:=by
 unfold IK at h;cases q:decide (8000<s.len)with
 | true=>rw[q]at h;cases h | false=>
  rw[q]at h;have x:s.len<=8000:=by have:=of_decide_eq_false q;omega
  cases k:HA M s.len (s.len+1) (HS M s.nats)with
  | error e=>simp only[k]at h;cases h | ok r=>
   simp only[k]at h;cases h;obtain⟨w,z⟩:=cq _ _ _ k;have y:=BS.length_nats s;have f:=mc _ _ _ (by have:=G1 M s.nats;omega) (λc u=>s.nats_lt c (L7 M _ c u)) k;refine⟨⟨by omega,w.fin_,λt d n=>(f t d).nu n,λt d=>by have:=(f t d).at_;omega,λt d=>⟨by have:=(f t d).ln;omega,(f t d).bd⟩,λt d n=>(f t d).hx n⟩,λt d=>?_⟩;have:=f t d;exact⟨this.bd,by have:=this.ln;omega,this.nm,this.nu,this.hx,by have:=this.at_;omega⟩
theorem W2{M}{s:BS}{e:Nat × Nat}(h:IK M s = .error e):e.2≠0:=by
 unfold IK at h;cases g:decide (8000<s.len)with
 | true=>rw[g]at h;cases h;decide | false=>
  rw[g]at h;cases i:HA M s.len (s.len+1) (HS M s.nats)with
  | error e=>
   simp only[i]at h;cases h;show 6≠0;decide
  | ok j=>simp only[i]at h;cases h
theorem yd{u a:V}(h:u.one=true) J:JQ [(0,1,u)] [.nils,a] J=J [u,a]:=by
 obtain⟨f,o⟩:=E3 h;unfold JQ I3;rw[o];simp only[BW,Bg,h,Au,AK,Aa,BQ,GC,f];rfl
def R0:Rp:=⟨BS.mk 0 0,AA 0,.nils,.nils,.nils,(0,0)⟩
def zM:List V:=[.str (BS.mk 0 0),.int .i64 (AA 0),.nils,.nils,.nils]
section
variable {E:EB}{D:Am}{N M:Nat}
theorem vW{U:H}{rb c a w}{R:Rp}(f:CI U)(p:DQ U c (II w a R))(o:DQ U rb zM)(q:rb≠c):
  ∃g U',AZ E D jq sj [(2,.ptr rb 0),(8,.ptr c 0)] U=some (g,U')/\Go.Og.look g 2=some (.ptr rb 0)/\Go.Og.look g 3=some (.int .i64 (AA R.er.1))/\Go.Og.look g 4=some (.int .i64 (AA R.er.2))/\DQ U' rb zM/\Fr (λk=>k=rb) U U':=by
 have m:=(Cn (E:=E) (n:=12) (S:=Af) f).fr;have F:=o.lt f;obtain⟨U3,A,r,z⟩:=Fj (n:=5) (x := .tmp 2) (y := .tmp 27) (e:=[(2,.ptr rb 0),(27,.agg zM)]) m.tidy (m.at_ o f (λh=>h)) rfl rfl rfl;have C:ID E D U 12 0 (λk=>k=rb) jq sj ⟨[(2,.ptr rb 0),(8,.ptr c 0)],U.next+12,[U.bl],[],0,[]⟩ _ U3:=
  EI (.agg zM) rfl rfl <|
  EI (.ptr c 0) rfl rfl <|
  EI (.ptr c 0) rfl rfl <|
  EI (.ptr c 7) rfl rfl <|
  RA (.int .i64 (AA R.er.1)) (Cn f) rfl (FG rfl p rfl f (λe=>q e.symm) (Bz _ rfl)) λ_ t=>
  EI (.ptr c 0) rfl rfl <|
  EI (.ptr c 0) rfl rfl <|
  EI (.ptr c 8) rfl rfl <|
  RA (.int .i64 (AA R.er.2)) t rfl (FG rfl p rfl f (λe=>q e.symm) (Bz _ rfl)) λ_ s=>
  OZ .dead s rfl (by decide) r (λ_ _ h=>h) (λb h G _=>by omega) A λ_ _ _ B=>
  EI (.int .i64 (AA R.er.1)) rfl rfl <|
  EI (.int .i64 (AA R.er.2)) rfl rfl <|
  Li B
 obtain⟨v,u⟩:=JP (ops:=jq) C;exact⟨_,U3,v,rfl,rfl,rfl,z,u⟩
theorem ld5{U b x y z u w}(h:DQ U b [x,y,z,u,w]) J:Dt E U b 0 5 J=J [x,y,z,u,w]:=by
 rw[Ev h];rfl
theorem Wm(hL:N8 E M (D 10))(T:V1 GO (D 11)):KK E M (F6 E D (AZ E D) N):=by
 intro U s ht hu;obtain⟨U0,X,f0,a0,n0⟩:=Ia ht zM;have u0:=hu.fr f0 (λ_ h=>h.elim);have W:=hL U0 s f0.tidy u0;have hlr:=@Kb M s;have hle:=@W2 M s;unfold zM at X a0;unfold Fk;cases hx:IK M s with
 | error e=>
  rw[hx]at W;obtain⟨G,g1,f1⟩:=W;have he:=hle hx;have d1:=decide_eq_false he;have a1:=f1.at_ a0 f0.tidy (λh=>h);have le1:=f1.le;obtain⟨U2,g2,a2,B⟩:=Jo (n:=5) (o:=0) (v := .agg zM) f1.tidy a1 rfl rfl;unfold zM at g2 a2;have l2:=ld5 (E:=E) a2;show ∃U',Ze E D (AZ E D) s U=_/\_;refine⟨U2,?_,(f0.trans f1 (λ_ _ h=>h)).trans B (λb j e=>by omega)⟩;unfold Ze;simp only[↓rP,rA,AE,AF,AD,↓X,↓g1,d1,↓g2,↓l2]
 | ok ts=>
  rw[hx]at W;obtain⟨v,G,g1,x,nv1,f1⟩:=W;obtain⟨R,_⟩:=hlr hx;have le1:=f1.le;have vl:∀b,AS v b->b<G.next:=λb j=>x.lt f1.tidy j;obtain⟨U2,O,B,a2,n2⟩:=Ia f1.tidy (II v 0 R0);have vo:=x.one;have fl:=yd (a := .int .i64 (AA 0)) x.one;have ao:BM [v,.int .i64 (AA 0),.str (BS.mk 0 0),.int .i64 (AA 0),.nils,.nils,.nils,.int .i64 (AA 0),.int .i64 (AA 0)]=true:=by
   simp only[BW,Bg,Ed,FF,FR,x.one,Au]
  have hp:Pm U2 G.next v ts ts R0 [] ([],[]):=by
   refine⟨⟨⟨⟨0,a2,rfl⟩,x.src.fr B f1.tidy (λ_ _ h=>h),?_,λb j=>by have:=vl b j;omega,R,B.tidy⟩,⟨[],ES.nil _ _,rfl,λk nd u hn=>by cases hn⟩,λb h=>h.elim⟩,ES.nil _ _,ES.nil _ _,λb h=>h.elim,λb h=>h.elim⟩;obtain⟨p,e,rfl,_⟩:=R.fin;simp
  obtain⟨g,U3,Z,P⟩:=T hp rfl;have er0:R0.er=(0,0):=rfl;rw[er0]at Z P;have I:∀b,¬MB R0 b:=λb h=>by rcases h with h | h | h<;>exact h.elim
  have a3:=P.f.at_ (B.at_ (f1.at_ a0 f0.tidy (λh=>h)) f1.tidy (λh=>h)) B.tidy (λe=>e.elim (by omega) (I _));have Q:=((f0.trans f1 (λ_ _ h=>h)).trans B (λ_ _ h=>h)).trans P.f (λb j e=>e.elim (by omega) (I _));unfold II R0 at O;simp only[]at O;have O:=O;have le3:=P.f.le;simp only[]at ⊢;generalize KY GO ts (0,0)=r at Z P ⊢;obtain⟨b3,m,er⟩:=r;obtain⟨⟨l',ns',z',w,hqe⟩,K,hmm,hf⟩:=P;obtain⟨a,ha,_⟩:=w.p.p.ex;cases b3 with
  | false=>
   obtain⟨Y,U4,g4,t2,t3,t4,a4,F⟩:=vW (D:=D) w.p.p.ht ha a3 (by omega);have K:=K;rw[K]at t3 t4;unfold zM at a4;have l4:=ld5 (E:=E) a4;show ∃U',Ze E D (AZ E D) s U=_/\_;refine⟨U4,?_,Q.trans F (λb j e=>by omega)⟩;have gd:∀J,DZ (AZ E D jq sj [(2,.ptr U.next 0),(8,.ptr G.next 0)] U3) J=J Y U4:=λJ=>by rw[g4];rfl
   have m2:∀J:V->AH,EO Y 2 J=J (.ptr U.next 0):=λJ=>D4 t2 rfl;have m3:∀J:V->AH,EO Y 3 J=J (.int .i64 (AA er.1)):=λJ=>D4 t3 rfl;have m4:∀J:V->AH,EO Y 4 J=J (.int .i64 (AA er.2)):=λJ=>D4 t4 rfl;unfold Ze OU;simp only[↓rP,rA,AE,AF,AD,↓X,↓g1,↓fl,ao,↓O,↓Z,↓gd,↓m2,↓m3,↓m4,↓l4,vo]
  | true=>
   obtain⟨q1,q2,rfl,rfl⟩:=hqe rfl;simp only[]at q1 q2;have no:=w.n.one;have to:=w.t.one;have dn:∃S:List (V × FV),ES U3 16 m.2.2.2.length g.dv (HO m.2.2.2 S)/\S.length=m.2.2.2.length/\∀(k:Nat) (nd:AM) (u:V × FV),m.2.2.2[k]? = some nd->S[k]? = some u->qt U3 G.next g.dv (λb=>(AS g.nv b\/AS g.tv b)\/b<G.next) nd u:=w.p.w;obtain⟨S,k1,k2,k3⟩:=dn;have aa:=k1.one;obtain⟨U4,g4,a4,F⟩:=Jo (n:=5) (o:=0) (v := .agg [.str g.nm,.int .i64 g.tg,g.nv,g.tv,g.dv]) (l':=[.str g.nm,.int .i64 g.tg,g.nv,g.tv,g.dv]) w.p.p.ht a3 (by
    show (Ax 5 5&&Ac (AN 0 5) 5&&BM [.str g.nm,.int .i64 g.tg,g.nv,g.tv,g.dv])=true;simp only[BW,Bg,Ed,FF,no,to,aa,Au];rfl) rfl
   have l4:=ld5 (E:=E) a4;have t:∀b,MB g b->U2.next<=b:=λb j=>(hmm b j).elim (λe=>(I b e).elim) id;have l3:∀J:List V->AH,Dt E U3 G.next 2 5 J=J [.str g.nm,.int .i64 g.tg,g.nv,g.tv,g.dv]:=λJ=>by
    rw[Ev ha];rfl
   show ∃nv tv dv U',Ze E D (AZ E D) s U=_/\_;refine⟨g.nv,g.tv,g.dv,U4,?_,⟨w.n.fr F w.p.p.ht (λb j e=>by have:=t b (.inr (.inl j));omega),w.t.src.fr F w.p.p.ht (λb j e=>by have:=t b (.inr (.inr j));omega),⟨S,k1.src.fr F w.p.p.ht (λb j e=>by have:=t b (.inl j);omega),k2,λk nd u hn hw=>?_⟩⟩,λb j=>?_,Q.trans F (λb j e=>by omega)⟩
   ·unfold Ze OU Ym
    rw[<-q1,<-q2];simp only[↓rP,rA,AE,AF,AD,↓X,↓g1,↓fl,ao,↓O,↓Z,↓l3,↓g4,↓l4,vo]
   ·have hN:=k3 k nd u hn hw
    have T:=hN.fr F w.p.p.ht λb j e=>(hN.n b j).2.2 (.inr (by omega));exact⟨T.i,T.f,T.g⟩
   ·rcases j with j|j|j
    ·have:=t b (.inr (.inl j));omega
    ·have:=t b (.inr (.inr j));omega
    ·have:=t b (.inl j);omega
end
def awT:BS:=BS.mk 68 15365082312408104876030393846070986292879098561787164772861530402028165223365166853668485259252883950828983602805086268172999713095979834202427583881019512347435085
def awM:WT:=([77],0,([[65]],[0]),[⟨7,[],false,0,0,Of,[],[⟨[120],1,false,false,0,0,[],0⟩],1,true,0⟩,⟨2,[],false,0,0,⟨true,true,true,false,0,7⟩,[],[],0,false,0⟩])
theorem AIU:Fk 600000 awT = .ok awM:=by
 have e:∀l er,j7 GO l er=Kh (NG 18) 9001 ([],[]) l er []:=λl er=>by unfold j7 GO;rw[Nk]
 unfold Fk KY;simp only[e];refine j1 ?_ rfl;kernel_rfl
def PD(F:List V->H->AH)(a:List V)(U:H):Prop:=∃U',F a U=some (.bool true,U')/\Fr Af U U'
section
variable {E:EB}{D:Am}{W:AJ}{N:Nat}
theorem AIV(S:KK E 600000 (D 6)) U (C:CI U)(G:KF E U):PD (F5 E D W N) [] U:=by
 have y:=S U awT C G;rw[AIU]at y;obtain⟨Y,X,r,m,z,q,_,f1⟩:=y;refine⟨m,?_,f1⟩;obtain⟨A,n,R,_⟩:=q.d;have T:=q.n.one;have P:=q.t.one;have O:=n.one;have B:∀J,BV r J=J 2:=λJ=>n.slen;obtain⟨u,v,rfl⟩:∃u v,A=[u,v]:=by
  match A,R with
  | [u,v],_=>exact⟨u,v,rfl⟩
 have F:∀J,Bl 16 r (AA 0) (λb o=>Ee E m b (AN o 14) λu=>CN u J)=J true:=by
  intro J;rcases n with ⟨w,_,_⟩|⟨b,o,c,L,rfl,t,s,x⟩
  ·cases w
  ·have l:=congrArg (·[14]?) x
   simp only[CY,CD]at l;rw[DG (by decide)];show Ee E m b (o+0*16+14) _=_;rw[VM t (by rw[KW];exact l.symm)];rfl
 have Q:∀J,Bl 16 r (AA 1) (λb o=>Ee E m b (AN (AN o 5) 5) λu=>BZ .i64 u J)=J 7:=by
  intro J;rcases n with ⟨w,_,_⟩|⟨b,o,c,L,rfl,t,s,x⟩
  ·cases w
  ·have l:=congrArg (·[26]?) x
   simp only[CY,CD]at l;rw[DG (by decide)];show Ee E m b (o+1*16+5+5) _=_;rw[VM t (by rw[KW];exact l.symm)];rfl
 unfold Ym awT at z;have I:decide (0=0)=true:=rfl;have M:decide (2=2)=true:=rfl;have K:Cc 7 (AA 7)=true:=rfl;show ABs E D W U=_;unfold ABs;simp only[↓rP,rA,AE,AF,AD,↓z,T,P,O,I,↓B,M,↓F,↓Q,K]
end
structure Sx(x:BS)(l:List Nat):Prop where
 is:x=BO l
 bd:∀c∈l,c<256
 few:l.length<=100000
theorem Sx.slen{x:BS}{l:List Nat}(h:Sx x l):x.len=l.length:=by rw[h.is,DR]
theorem Wo{l:List Nat}(e:∀c∈l,c<256){k}(d:k<=l.length):(BO l).sub k (BO l).len=BO (l.drop k):=by
 have h:OM (BO l) 0 l:=by have:=OM.start (BO l);rwa [Dk e]at this
 have b:=h.drop d;rw[BQ]at b;exact b.subAll
theorem Sx.rd{x}{l:List Nat}(h:Sx x l){i}(d:i<l.length) J:Az x (AA i) J=J (AA (l.getD i 0)):=by
 rw[h.is,JO (by rw[DR];exact d)];have c:=BS.nats_get (by rw[DR];exact d);rw[Dk h.bd]at c;rw[A1,c];rfl
theorem Sx.cut{x}{l:List Nat}(h:Sx x l){k}(f:k<=l.length)(i:l≠[]):∃y,(∀J,BA x (some (.int .i64 (AA k))) none J=J y)/\Sx y (l.drop k):=by
 refine⟨BO (l.drop k),λJ=>?_,⟨rfl,λc g=>h.bd c (Bq g),by rw[AQ];have:=h.few;omega⟩⟩;rw[h.is,G7 (by rw[DR];exact f),Wo h.bd f]
def Tc(F:List V->H->AH):Prop:=∀{U x}{l:List Nat},Sx x l->8<=l.length->F [.str x] U=some (.int .u64 (AA (w8 l)),U)
def Xw(E:EB)(F:List V->H->AH):Prop:=∀{U}{l:List Nat},KF E U->(∀c∈l,c<256)->l.length<=100000->F [.str (BO l)] U=some (.bool (CR l),U)
section
variable {E:EB}{D:Am}{W:AJ}{N:Nat}
theorem xp:Tc (F86 E D W N):=by
 intro U x l h h8;have rd:∀i,i<8->∀J,Az x (AA i) J=J (AA (l.getD i 0)):=λi v J=>h.rd (by omega) J;have r0:=rd 0 (by decide);have G:=rd 1 (by decide);have T:=rd 2 (by decide);have Z:=rd 3 (by decide);have O:=rd 4 (by decide);have r5:=rd 5 (by decide);have r6:=rd 6 (by decide);have R:=rd 7 (by decide);have g:=Ke h.bd;have b:∀i,i<8->l.getD i 0*2 ^ (8*i)<18446744073709551616:=λi v=>Va (g i) v;have w:∀i,BH .u64 (AA (l.getD i 0))=AA (l.getD i 0):=λi=>Cq (by rw[ch];have:=g i;omega);have S:AA (l.getD 0 0)=AA (l.getD 0 0*2 ^ (8*0)):=by rw[Nat.mul_zero,Nat.pow_zero,DO]
 have s:∀k,k<8->Eb .u64 (AA (l.getD k 0)) (8*k)=AA (l.getD k 0*2 ^ (8*k)):=λk hk=>Wb (g k) (by omega);have m:=b 0 (by decide);have n:=b 1 (by decide);have p:=b 2 (by decide);have y:=b 3 (by decide);have j:=b 4 (by decide);have r:=b 5 (by decide);have C:=b 6 (by decide);have K:=b 7 (by decide);have F:=s 1 (by decide);have Q:=s 2 (by decide);have M:=s 3 (by decide);have I:=s 4 (by decide);have P:=s 5 (by decide);have Y:=s 6 (by decide);have L:=s 7 (by decide);have d:Gt .u64 (Gt .u64 (Gt .u64 (Gt .u64 (Gt .u64 (Gt .u64 (Gt .u64 (BH .u64 (AA (l.getD 0 0))) (Eb .u64 (BH .u64 (AA (l.getD 1 0))) 8)) (Eb .u64 (BH .u64 (AA (l.getD 2 0))) 16)) (Eb .u64 (BH .u64 (AA (l.getD 3 0))) 24)) (Eb .u64 (BH .u64 (AA (l.getD 4 0))) 32)) (Eb .u64 (BH .u64 (AA (l.getD 5 0))) 40)) (Eb .u64 (BH .u64 (AA (l.getD 6 0))) 48)) (Eb .u64 (BH .u64 (AA (l.getD 7 0))) 56)=AA (w8 l):=by
  rw[w,w,w,w,w,w,w,w,show 8=8*1 from rfl,F,show 16=8*2 from rfl,Q,show 24=8*3 from rfl,M,show 32=8*4 from rfl,I,show 40=8*5 from rfl,P,show 48=8*6 from rfl,Y,show 56=8*7 from rfl,L,S];rw[Db m n];have A:=EH m n;rw[Db A p];have t:=EH A p;rw[Db t y];have z:=EH t y;rw[Db z j];have o:=EH z j;rw[Db o r];have B:=EH o r;rw[Db B C];have X:=EH B C;rw[Db X K];rfl
 show oz E D W x U=_;unfold oz;simp only[↓rP,rS,↓r0,↓G,↓T,↓Z,↓O,↓r5,↓r6,↓R,d]
theorem vs5(B:Tc (D 86)) R {U}:∀m x (l:List Nat),l.length<m->Sx x l->∃y l',X6 E D W N R m x U=R y U/\Sx y l'/\CR l'=CR l/\l'.length<=l.length
 | 0,x,l,h,_=>by omega
 | m+1,x,l,hm,h=>by
  show ∃y l',Nz E D W (YM E D W N R) (X6 E D W N R m) x U=_/\_;have S:=h.slen;by_cases p:32<l.length
  ·have o:l≠[]:=λe=>by rw[e]at p;cases p
   have J:=decide_eq_true p;obtain⟨y8,s8,Y⟩:=h.cut (k:=8) (by omega) o;obtain⟨UZ,I,w⟩:=h.cut (k:=16) (by omega) o;obtain⟨xZ,F,v⟩:=h.cut (k:=24) (by omega) o;obtain⟨Z4,O,X⟩:=h.cut (k:=32) (by omega) o;have Z:=B (U:=U) h (by omega);have g8:=B (U:=U) Y (by rw[AQ];omega);have C:=B (U:=U) w (by rw[AQ];omega);have G:=B (U:=U) v (by rw[AQ];omega);have P:=HT h.bd;have Q:=HT Y.bd;have t:=HT w.bd;have u:=HT v.bd;have e1:Gt .u64 (Gt .u64 (AA (w8 l)) (AA (w8 (l.drop 8)))) (Gt .u64 (AA (w8 (l.drop 16))) (AA (w8 (l.drop 24))))=AA ((w8 l ||| w8 (l.drop 8)) ||| (w8 (l.drop 16) ||| w8 (l.drop 24))):=by
    rw[Db P Q,Db t u,Db (EH P Q) (EH t u)]
   have e2:IP .u64 (AA ((w8 l ||| w8 (l.drop 8)) ||| (w8 (l.drop 16) ||| w8 (l.drop 24)))) (AA 9259542123273814144)=AA (((w8 l ||| w8 (l.drop 8)) ||| (w8 (l.drop 16) ||| w8 (l.drop 24))) &&& H8):=Ho (EH (EH P Q) (EH t u)) (by decide);by_cases M:((w8 l ||| w8 (l.drop 8)) ||| (w8 (l.drop 16) ||| w8 (l.drop 24))) &&& H8=0
   ·obtain⟨ha,hb⟩:=EG M
    obtain⟨z0,z8⟩:=EG ha;obtain⟨K,L⟩:=EG hb;have v0:=DE 8 l (G3 h.bd (by omega) z0);have v8:=DE 8 (l.drop 8) (G3 Y.bd (by rw[AQ];omega) z8);have z:=DE 8 (l.drop 16) (G3 w.bd (by rw[AQ];omega) K);have A:=DE 8 (l.drop 24) (G3 v.bd (by rw[AQ];omega) L);rw[BU]at v8 z A;obtain⟨y,l',e',o',hv,hl⟩:=vs5 B R m Z4 (l.drop 32) (by rw[AQ];omega) X;refine⟨y,l',?_,o',hv.trans (A.trans (z.trans (v8.trans v0))),AU hl (by rw[AQ];omega)⟩;have i:∀n q,Nz E D W n q x U=q Z4 U:=by
     intro n q;unfold Nz;simp only[↓rP,rA,AE,AF,AD,S,J,↓Z,↓s8,↓g8,↓I,↓C,↓F,↓G,e1,e2,decide_eq_true M,↓O]
    rw[i,e']
   ·refine⟨x,l,?_,h,rfl,AL _⟩
    have i:∀n q,Nz E D W n q x U=n x U:=by
     intro n q;unfold Nz;simp only[↓rP,rA,AE,AF,AD,S,J,↓Z,↓s8,↓g8,↓I,↓C,↓F,↓G,e1,e2,decide_eq_false M]
    rw[i];rfl
  ·have J:=decide_eq_false p
   refine⟨x,l,?_,h,rfl,AL _⟩;have i:∀n q,Nz E D W n q x U=n x U:=by
    intro n q;unfold Nz;simp only[↓rP,rA,AE,AF,AD,S,J]
   rw[i];rfl
theorem vs3 {U} {x:BS} {c:Nat} {r:List Nat} (h:Sx x (c::r)) (ht:KF E U) (hc:¬c<128) (R:BS->H->AH) (b:Bool)
    (hR:∀k y,Sx y (r.drop k)->R y U=some (.bool (CR (r.drop k)),U)) :
    fW E D W N R x (AA c) U=some (.bool (CR (c::r)),U):=by
  have hc2:c<256:=h.bd c (As ..);have hf:=nN c;rw[Sq hc];have sl:x.len=(r.length+1):=h.slen;have l0:∀J:V->AH,Ee E U 0 (FP c 1) J=J (.int .u8 (AA (EP.getD c 0))):=λJ=>by rw[show FP c 1=c from DO c];exact ht.ld0 hc2 J
  have l1:∀J:List V->AH,Dt E U 1 (FP (EP.getD c 0 / 16) 2) 2 J=J [.int .u8 (AA (E9.getD (EP.getD c 0 / 16*2) 0)),.int .u8 (AA (E9.getD (EP.getD c 0 / 16*2+1) 0))]:=λJ=>ht.ld1 (by omega) J;have c1:Cr c 256=true:=by rw[Cs];exact hc2
  have c2:Cr (EP.getD c 0 / 16) 16=true:=by rw[Cs];omega
  have bd:=λi=>Ke h.bd i;show Xh E D W (fV E D W N R) (WE E D W N R) R x (AA c) U=_;have a7:=AIa hf;have s4:=AG7 (EP.getD c 0)
  have z:∀i,i<r.length->∀J,Az x (AA (i+1)) J=J (AA (r.getD i 0)):=λi w J=>h.rd (by simp;omega) J
  have cutx:∀k,k<r.length+1->∃y,(∀J:BS->AH,BA x (some (.int .i64 (AA (k+1)))) none J=J y)/\Sx y (r.drop k):=λk hk=>h.cut (by simp;omega) (by simp)
  unfold Qf
  simp only[]
  generalize EP.getD c 0=f at l0 l1 c2 a7 s4 ⊢
  generalize E9.getD (f / 16*2) 0=lo at l1 ⊢
  generalize E9.getD (f / 16*2+1) 0=w at l1 ⊢
  have k3:∀K6 K10 R2,Xh E D W K6 K10 R2 x (AA c) U=AG (decide (f % 8=2))
      (AG (decide (1<=r.length)&&QA lo w (r.getD 0 0)) (BA x (some (.int .i64 (AA 2))) none λu=>R2 u U) (some (.bool false,U)))
      (AG (decide (f % 8=3)) (K6 x (AA lo) (AA w) U) (AG (decide (f % 8=4)) (K10 x (AA lo) (AA w) U) (some (.bool false,U)))):=by
    intro K6 K10 R2
    unfold Xh
    by_cases h2:f % 8=2
    · by_cases hl:1<=r.length
      · have r1:∀J,Az x (AA 1) J=J (AA (r.getD 0 0)):=z 0 (by omega)
        have d2:decide (r.length+1<2)=false:=decide_eq_false (by omega)
        unfold QA
        cases h5:decide (lo<=r.getD 0 0)<;>cases h6:decide (r.getD 0 0<=w) <;>
          (have h7:decide (r.getD 0 0<lo)=!decide (lo<=r.getD 0 0):=by
             by_cases h:lo<=r.getD 0 0
             · rw[decide_eq_true h,decide_eq_false (by omega)];rfl
             · rw[decide_eq_false h,decide_eq_true (by omega)];rfl) <;>
          (have h8:decide (w<r.getD 0 0)=!decide (r.getD 0 0<=w):=by
             by_cases h:r.getD 0 0<=w
             · rw[decide_eq_true h,decide_eq_false (by omega)];rfl
             · rw[decide_eq_false h,decide_eq_true (by omega)];rfl) <;>
          rw[h5]at h7<;>rw[h6]at h8 <;>
          simp only[↓rP,rA,AE,AF,AD,KX,c1,↓l0,s4,c2,↓l1,a7,decide_eq_true h2,sl,d2,↓r1,h7,h8,decide_eq_true hl,h5,h6,B3,CE,BX,Au,EX,BY]
      · have d2:decide (r.length+1<2)=true:=decide_eq_true (by omega)
        simp only[↓rP,rA,AE,AF,AD,KX,c1,↓l0,s4,c2,↓l1,a7,decide_eq_true h2,sl,d2,decide_eq_false hl,BY]
    · simp only[↓rP,rA,AE,AF,AD,KX,c1,↓l0,s4,c2,↓l1,a7,decide_eq_false h2]
  have ng:∀a b:Nat,decide (a<b)=!decide (b<=a):=λa b=>by
    by_cases h:b<=a
    · rw[decide_eq_true h,decide_eq_false (by omega)];rfl
    · rw[decide_eq_false h,decide_eq_true (by omega)];rfl
  have k6:fV E D W N R x (AA lo) (AA w) U=AG (decide (2<=r.length)&&(QA lo w (r.getD 0 0)&&QA 128 191 (r.getD 1 0))) (BA x (some (.int .i64 (AA 3))) none λu=>R u U) (some (.bool false,U)):=by
    show dq E D W (dh E D W (di E D W (dm E D W R))) x (AA lo) (AA w) U=_
    unfold dq dh di dm
    by_cases hl:2<=r.length
    · have r1:∀J,Az x (AA 1) J=J (AA (r.getD 0 0)):=z 0 (by omega)
      have r2:∀J,Az x (AA 2) J=J (AA (r.getD 1 0)):=z 1 (by omega)
      have d2:decide (r.length+1<3)=false:=decide_eq_false (by omega)
      unfold QA
      cases h5:decide (lo<=r.getD 0 0)<;>cases h6:decide (r.getD 0 0<=w)<;>cases h7:decide (128<=r.getD 1 0)<;>cases h8:decide (r.getD 1 0<=191) <;>
        simp only[↓rP,rA,AE,AF,AD,sl,d2,↓r1,↓r2,ng,h5,h6,h7,h8,decide_eq_true hl,B3,CE,BX,Au,EX,BY]
    · have d2:decide (r.length+1<3)=true:=decide_eq_true (by omega)
      simp only[↓rP,rA,AE,AF,AD,sl,d2,decide_eq_false hl,BY]
  have k10:WE E D W N R x (AA lo) (AA w) U=AG (decide (3<=r.length)&&(QA lo w (r.getD 0 0)&&(QA 128 191 (r.getD 1 0)&&QA 128 191 (r.getD 2 0)))) (BA x (some (.int .i64 (AA 4))) none λu=>R u U) (some (.bool false,U)):=by
    show Vk E D W (Vh E D W (Vi E D W (Vj E D W R))) x (AA lo) (AA w) U=_
    unfold Vk Vh Vi Vj
    by_cases hl:3<=r.length
    · have r1:∀J,Az x (AA 1) J=J (AA (r.getD 0 0)):=z 0 (by omega)
      have r2:∀J,Az x (AA 2) J=J (AA (r.getD 1 0)):=z 1 (by omega)
      have r3:∀J,Az x (AA 3) J=J (AA (r.getD 2 0)):=z 2 (by omega)
      have d2:decide (r.length+1<4)=false:=decide_eq_false (by omega)
      unfold QA
      cases h5:decide (lo<=r.getD 0 0)<;>cases h6:decide (r.getD 0 0<=w)<;>cases h7:decide (128<=r.getD 1 0)<;>cases h8:decide (r.getD 1 0<=191)<;>cases h9:decide (128<=r.getD 2 0)<;>cases h10:decide (r.getD 2 0<=191) <;>
        simp only[↓rP,rA,AE,AF,AD,sl,d2,↓r1,↓r2,↓r3,ng,h5,h6,h7,h8,h9,h10,decide_eq_true hl,B3,CE,BX,Au,EX,BY]
    · have d2:decide (r.length+1<4)=true:=decide_eq_true (by omega)
      simp only[↓rP,rA,AE,AF,AD,sl,d2,decide_eq_false hl,BY]
  rw[k3,k6,k10]
  have fin:∀(k:Nat) (q:Bool),(q=true->k<r.length+1)->AG q (BA x (some (.int .i64 (AA (k+1)))) none λu=>R u U) (some (.bool false,U))=some (.bool (match (if q=true then some k else none:Option Nat)with | some k=>CR (r.drop k) | none=>false),U):=by
    intro k q hq
    cases q with
    | true=>
      obtain⟨y,s,o⟩:=cutx k (hq rfl)
      rw[CC,s]
      exact hR k y o
    | false=>rfl
  by_cases h2:f % 8=2
  · rw[decide_eq_true h2,CC,if_pos h2]
    exact fin 1 _ (λh=>by rw[AI,decide_eq_true_eq]at h;omega)
  · rw[decide_eq_false h2,Bx,if_neg h2]
    by_cases h3:f % 8=3
    · rw[decide_eq_true h3,CC,if_pos h3]
      exact fin 2 _ (λh=>by rw[AI,decide_eq_true_eq]at h;omega)
    · rw[decide_eq_false h3,Bx,if_neg h3]
      by_cases h4:f % 8=4
      · rw[decide_eq_true h4,CC,if_pos h4]
        exact fin 3 _ (λh=>by rw[AI,decide_eq_true_eq]at h;omega)
      · rw[decide_eq_false h4,Bx,if_neg h4]
theorem AGr(hW:Tc (D 86))(hN:100000<N){U}(ht:KF E U):∀n (x:BS) (l:List Nat),l.length<n->Sx x l->OB E D W N n x U=some (.bool (CR l),U)
 | 0,x,l,hn,_=>by omega
 | n+1,x,[],hn,h=>by
  show HZ E D W (fX E D W N) _ _ _ x U=_;have sl:x.len=0:=h.slen;have i:∀u t m s,HZ E D W u t m s x U=u U:=by
   intro u t m s;unfold HZ;simp only[↓rP,rA,AE,AF,AD,sl,JH]
  rw[i];rfl
 | n+1,x,c::r,hn,h=>by
  have hn:r.length<n:=by simp at hn;omega
  have hfew:=h.few;simp only[AK]at hfew;have sl:x.len=(r.length+1):=h.slen;have r0:∀J,Az x (AA 0) J=J (AA c):=λJ=>h.rd (by simp) J;have ih:∀y l',l'.length<=r.length->Sx y l'->OB E D W N n y U=some (.bool (CR l'),U):=λy l' hl o=>AGr hW hN ht n y l' (by omega) o;have d0:decide (0<r.length+1)=true:=decide_eq_true (by omega);show HZ E D W (fX E D W N) (fW E D W N (OB E D W N n)) (YM E D W N (OB E D W N n)) (X6 E D W N (OB E D W N n) N) x U=_;by_cases hc:c<128
  ·have d1:decide (c<128)=true:=decide_eq_true hc
   rw[OP hc];obtain⟨y1,s1,o1⟩:=h.cut (k:=1) (by simp) (by simp);have o1:Sx y1 r:=o1;have z:=o1.slen;have i1:=ih y1 r (AL _) o1;by_cases h8:8<r.length
   ·have d8:decide (8<r.length)=true:=decide_eq_true h8
    have hne:r≠[]:=λe=>by rw[e]at h8;cases h8
    have g1:=hW (U:=U) o1 (by omega);have e1:IP .u64 (AA (w8 r)) (AA 9259542123273814144)=AA (w8 r &&& H8):=Ho (HT o1.bd) (by decide);by_cases hz:w8 r &&& H8=0
    ·obtain⟨y2,s2,o2⟩:=o1.cut (k:=8) (by omega) hne
     have v1:=DE 8 r (G3 o1.bd (by omega) hz);have sl2:=o2.slen;have i2:=ih y2 (r.drop 8) (by rw[AQ];omega) o2;have ln:(r.drop 8).length=r.length-8:=AQ;generalize r.drop 8=q at *;by_cases B:16<q.length
     ·have A:decide (16<q.length)=true:=decide_eq_true B
      have C:q≠[]:=λe=>by rw[e]at B;cases B
      obtain⟨y8,s8,o8⟩:=o2.cut (k:=8) (by omega) C;obtain⟨UZ,s16,o16⟩:=o2.cut (k:=16) (by omega) C;have g2:=hW (U:=U) o2 (by omega);have g8:=hW (U:=U) o8 (by rw[AQ];omega);have e2:Gt .u64 (AA (w8 q)) (AA (w8 (q.drop 8)))=AA (w8 q ||| w8 (q.drop 8)):=Db (HT o2.bd) (HT o8.bd);have e3:IP .u64 (AA (w8 q ||| w8 (q.drop 8))) (AA 9259542123273814144)=AA ((w8 q ||| w8 (q.drop 8)) &&& H8):=Ho (EH (HT o2.bd) (HT o8.bd)) (by decide);by_cases hz2:(w8 q ||| w8 (q.drop 8)) &&& H8=0
      ·obtain⟨z0,z8⟩:=EG hz2
       have v2:=DE 8 q (G3 o2.bd (by omega) z0);have v3:=DE 8 (q.drop 8) (G3 o8.bd (by rw[AQ];omega) z8);rw[BU]at v3;obtain⟨y,l',e',o',hv,hl⟩:=vs5 (E:=E) (W:=W) (N:=N) hW (OB E D W N n) N UZ (q.drop 16) (by rw[AQ];omega) o16;have i:∀u t m s,HZ E D W u t m s x U=s UZ U:=by
        intro u t m s;unfold HZ;simp only[↓rP,rA,AE,AF,AD,sl,d0,↓r0,d1,↓s1,z,d8,↓g1,e1,decide_eq_true hz,↓s2,sl2,A,↓g2,↓s8,↓g8,e2,e3,decide_eq_true hz2,↓s16]
       rw[i,e',ih y l' (by rw[AQ]at hl;omega) o',hv,v3,v2,v1]
      ·have i:∀u t m s,HZ E D W u t m s x U=m y2 U:=by
        intro u t m s;unfold HZ;simp only[↓rP,rA,AE,AF,AD,sl,d0,↓r0,d1,↓s1,z,d8,↓g1,e1,decide_eq_true hz,↓s2,sl2,A,↓g2,↓s8,↓g8,e2,e3,decide_eq_false hz2]
       rw[i,<-v1];exact i2
     ·have A:decide (16<q.length)=false:=decide_eq_false B
      have i:∀u t m s,HZ E D W u t m s x U=m y2 U:=by
       intro u t m s;unfold HZ;simp only[↓rP,rA,AE,AF,AD,sl,d0,↓r0,d1,↓s1,z,d8,↓g1,e1,decide_eq_true hz,↓s2,sl2,A]
      rw[i,<-v1];exact i2
    ·have i:∀u t m s,HZ E D W u t m s x U=m y1 U:=by
      intro u t m s;unfold HZ;simp only[↓rP,rA,AE,AF,AD,sl,d0,↓r0,d1,↓s1,z,d8,↓g1,e1,decide_eq_false hz]
     rw[i];exact i1
   ·have d8:decide (8<r.length)=false:=decide_eq_false h8
    have i:∀u t m s,HZ E D W u t m s x U=m y1 U:=by
     intro u t m s;unfold HZ;simp only[↓rP,rA,AE,AF,AD,sl,d0,↓r0,d1,↓s1,z,d8]
    rw[i];exact i1
  ·have d1:decide (c<128)=false:=decide_eq_false hc
   have i:∀u t m s,HZ E D W u t m s x U=t x (AA c) U:=by
    intro u t m s;unfold HZ;simp only[↓rP,rA,AE,AF,AD,sl,d0,↓r0,d1]
   rw[i];exact vs3 h ht hc (OB E D W N n) true (λk y o=>ih y (r.drop k) (by rw[AQ];omega) o)
theorem xq(d:Tc (D 86))(g:100000<N):Xw E (F74 E D W N):=by
 intro U l h e f;exact AGr d g h N (BO l) l (by omega) ⟨rfl,e,f⟩
end
def vF(k v:Nat):List Nat->Nat
 | []=>v
 | c::a=>vF (k+1) (if k<19 then 10*v+(c-48)else v) a
theorem ay:∀(b:List Nat) k v,k+b.length<=19->vF k v b=C4 v b
 | [],_,_,_=>rfl | c::b,k,v,h=>by
  simp only[AK]at h;show vF (k+1) (if k<19 then _ else _) b=C4 (10*v+(c-48)) b;rw[if_pos (by omega)];exact ay b (k+1) _ (by omega)
theorem Mv:∀{a b},a<=b->10 ^ a<=10 ^ b:=λh=>Ii (by decide) h
theorem xr:∀f k v,(∀d∈f,Ai d=true)->(k<=19->v<10 ^ k)->(19<=k->v<10 ^ 19)->vF k v f<10 ^ 19
 | [],k,v,_,i,j=>by
  show v<_;by_cases h:k<=19
  ·exact Cj (i h) (Mv h)
  ·exact j (by omega)
 | c::f,k,v,o,i,j=>by
  have p:=GW (o c (As ..));show vF (k+1) (if k<19 then _ else _) f<_;refine xr f (k+1) _ (λd h=>o d (Ar _ h)) (λh=>?_) (λh=>?_)
  ·rw[if_pos (by omega)]
   have:=i (by omega);rw[Nat.pow_succ];omega
  ·by_cases n:k<19
   ·have:k=18:=by omega
    subst this;rw[if_pos n];have:=i (by omega);show _<10 ^ 18*10;omega
   ·rw[if_neg n];exact j (by omega)
theorem WY:∀(b:List Nat) a,a*10 ^ b.length<=C4 a b
 | [],a=>by show a*1<=a;omega
 | d::b,a=>by
  have h:=WY b (10*a+(d-48));show a*10 ^ (b.length+1)<=C4 (10*a+(d-48)) b;refine AU ?_ h;rw[Nat.pow_succ,OI (10 ^ b.length),<-Nat.mul_assoc];exact Et _ (by omega)
def rnB(m:Bool)(a:List Nat)(b:Nat):Bool:=decide (a.length<1) || (decide (19<a.length) || ((decide (1<a.length)&&decide (a.headD 0=48)) || ((m&&decide (a.headD 0=48)) || (Em b || (decide (9223372036854775808<vF 0 0 a) || (!m&&decide (vF 0 0 a=9223372036854775808)))))))
theorem AAz{m}{f:List Nat} v (z:∀d∈f,Ai d=true)(w:f≠[]):rnB m f v=!EU m f v:=by
 have E:1<=f.length:=by
  cases f with
  | nil=>exact absurd rfl w | cons _ _=>simp
 unfold rnB EU;rw[decide_eq_false (show ¬f.length<1 by omega),C7];by_cases u:f.length<=19
 ·rw[decide_eq_false (show ¬19<f.length by omega),C7,ay f 0 0 (by omega)]
  have e:(decide (9223372036854775808<C4 0 f) || (!m&&decide (C4 0 f=9223372036854775808)))=!decide (C4 0 f<=Jc m):=by
   unfold Jc;cases m with
   | true=>
    rw[B3,BY,EW,if_pos rfl];by_cases h:C4 0 f<=9223372036854775808
    ·rw[decide_eq_true h,decide_eq_false (by omega)];rfl
    ·rw[decide_eq_false h,decide_eq_true (by omega)];rfl
   | false=>
    rw[CE,BX,if_neg (by decide)];by_cases h:C4 0 f<=9223372036854775807
    ·rw[decide_eq_true h,decide_eq_false (by omega),decide_eq_false (by omega)];rfl
    ·rw[decide_eq_false h]
     by_cases x:C4 0 f=9223372036854775808
     ·rw[decide_eq_true x,xU];rfl
     ·rw[decide_eq_true (show 9223372036854775808<C4 0 f by omega)];rfl
  rw[e];cases decide (1<f.length)<;>cases decide (f.headD 0=48)<;>cases m<;>cases Em v<;>cases decide (C4 0 f<=Jc _)<;>rfl
 ·rw[decide_eq_true (show 19<f.length by omega),Bool.true_or]
  obtain⟨d,l,rfl⟩:∃d l,f=d::l:=by
   cases f with
   | nil=>exact absurd rfl w | cons d l=>exact⟨d,l,rfl⟩
  have B:=GW (z d (As ..));simp only[AK]at u;by_cases r:d=48
  ·subst r
   rw[show (decide (List.headD (48::l) 0=48))=true from rfl,decide_eq_true (show 1<(48::l).length by simp only[AK];omega),Bool.true_or,BX,B3,BY,EX];rfl
  ·have x:=WY l (d-48)
   have D:C4 0 (d::l)=C4 (d-48) l:=by
    show C4 (10*0+(d-48)) l=_;rw[Nat.mul_zero,BQ]
   have G:10 ^ 19<=10 ^ l.length:=Mv (by omega);have F:1*10 ^ l.length<=(d-48)*10 ^ l.length:=Et _ (by omega);have A:¬C4 0 (d::l)<=Jc m:=by
    have:Jc m<=9223372036854775808:=by unfold Jc;split<;>omega
    omega
   rw[decide_eq_false A,BY];rfl
def QL(F:List V->H->AH):Prop:=∀U s i r,HN s i r->((∃c l,r=c::l/\Ai c=true)\/∃l,r=45::l/\Ai (l.headD 0)=true) ->
 F [.str s,.int .i64 (AA i)] U=some (.int .i64 (match (Kw r).1 with | 0=>Bh 0 | _+1=>AA (i+(Kw r).2.1.length)),U)
def V0(F:List V->H->AH):Prop:=∀U s i r,HN s i (39::r) ->
 F [.str s,.int .i64 (AA i)] U=some (.tup [.int .i64 (match (Kx (39::r)).1 with | 0=>Bh 0 | _+1=>AA (i+(Kx (39::r)).2.1.length+3)),.str (BO (Kx (39::r)).2.1)],U)
section
variable {E:EB}{D:Am}{W:AJ}{N:Nat}
theorem mH (O:Mg (D 46)) U (s:BS) m f:∀(r:List Nat) n i k v,r.length<n->HN s i r->i=f+k->(k<=19->v<10 ^ k)->(19<=k->v<10 ^ 19) ->
    Ti E D W N n s (AA i) m (AA f) (AA v) U=PT E D W N s (AA (i+Al Ai r)) m (AA f) (AA (vF k v (r.take (Al Ai r)))) U
  | [],n,i,k,v,L,h,hi,B,M=>by
    obtain⟨n,rfl⟩:∃j,n=j+1:=⟨n-1,by omega⟩;show Lq E D W (PT E D W N) _ s (AA i) m (AA f) (AA v) U=PT E D W N s (AA i) m (AA f) (AA v) U;have p:∀K R,Lq E D W K R s (AA i) m (AA f) (AA v) U=K s (AA i) m (AA f) (AA v) U:=by
      intro K R;unfold Lq;have A:decide (i<s.len)=false:=decide_eq_false (by have:=h.nil;omega);simp only[↓rP,rA,AE,AF,AD,A]
    exact p _ _
  | c::r,n,i,k,v,L,h,hi,B,M=>by
    obtain⟨n,rfl⟩:∃j,n=j+1:=⟨n-1,by omega⟩;have aa:=h.le;have e:=h.ix;have A:decide (i<s.len)=true:=decide_eq_true h.lt;have g:=O U c;rw[ED];show Lq E D W (PT E D W N) (TX E D W (Ti E D W N n)) s (AA i) m (AA f) (AA v) U=_;cases G:Ai c with
    | false=>
      rw[G]at g;show _=PT E D W N s (AA i) m (AA f) (AA v) U;have p:∀K R,Lq E D W K R s (AA i) m (AA f) (AA v) U=K s (AA i) m (AA f) (AA v) U:=by
        intro K R;unfold Lq;simp only[↓rP,rA,AE,AF,AD,A,↓e,↓g]
      exact p _ _
    | true=>
      rw[G]at g;have C:=GW G;simp only[AK]at L;have Q:BP .i64 (AA i) (AA 1)=AA (i+1):=BB (by omega);have P:Ez .i64 (AA i) (AA f)=AA k:=by rw[G5 (by omega) (by omega),show i-f=k by omega]
      have w:∀d:Nat,(k<19->d=10*v+(c-48))->(¬k<19->d=v)->Ti E D W N n s (AA (i+1)) m (AA f) (AA d) U=PT E D W N s (AA (i+1+Al Ai r)) m (AA f) (AA (vF (k+1) d (r.take (Al Ai r)))) U:=λd J S=>
        mH O U s m f r n (i+1) (k+1) d (by omega) h.tl (by omega) (λh=>by
          have:=B (by omega);rw[J (by omega),Nat.pow_succ];omega) (λh=>by
          by_cases z:k<19
          · have:k=18:=by omega
            have Y:=B (by omega);rw[J z];rw[this]at Y;show _<10 ^ 18*10;omega
          · rw[S z];exact M (by omega))
      show _=PT E D W N s (AA (i+(Al Ai r+1))) m (AA f) (AA (vF (k+1) (if k<19 then 10*v+(c-48)else v) (r.take (Al Ai r)))) U;by_cases z:k<19
      · have hv:v<10 ^ 18:=Cj (B (by omega)) (Mv (by omega))
        have a3:Ez .u8 (AA c) (AA 48)=AA (c-48):=by
          show BH .u8 (AA c-AA 48)=_;rw[show AA c-AA 48=AA (c-48)from(Int.ofNat_sub C.1).symm];exact Cq (show c-48<=255 by omega)
        have T:BH .u64 (AA (c-48))=AA (c-48):=Cq (show c-48<=18446744073709551615 by omega);have Z:Qx .u64 (AA 10) (AA v)=AA (10*v):=by
          show BH .u64 (AA (10*v))=_;exact Cq (show 10*v<=18446744073709551615 by omega)
        have X:BP .u64 (AA (10*v)) (AA (c-48))=AA (10*v+(c-48)):=by
          show BH .u64 (AA (10*v+(c-48)))=_;exact Cq (show 10*v+(c-48)<=18446744073709551615 by omega)
        have I:decide (k<19)=true:=decide_eq_true z;have p:∀K R,Lq E D W K (TX E D W R) s (AA i) m (AA f) (AA v) U=R s (AA (i+1)) m (AA f) (AA (10*v+(c-48))) U:=by
          intro K R;unfold Lq TX;simp only[↓rP,rA,AE,AF,AD,A,↓e,↓g,Q,P,I,a3,T,Z,X]
        rw[p,w _ (λ_=>rfl) (λh=>absurd z h),if_pos z,show i+1+Al Ai r=i+(Al Ai r+1)by omega]
      · have I:decide (k<19)=false:=decide_eq_false z
        have p:∀K R,Lq E D W K (TX E D W R) s (AA i) m (AA f) (AA v) U=R s (AA (i+1)) m (AA f) (AA v) U:=by
          intro K R;unfold Lq TX;simp only[↓rP,rA,AE,AF,AD,A,↓e,↓g,Q,P,I]
        rw[p,w _ (λh=>absurd h z) (λ_=>rfl),if_neg z,show i+1+Al Ai r=i+(Al Ai r+1)by omega]
theorem bm(hA:KJ (D 42))(hL:SA (D 43))(hD:Mg (D 46))(hN:10010<N):QL (F47 E D W N):=by
 intro U s i r h hk;have hle:=h.le;have tail:∀(f:Nat) (m:Bool) (q:List Nat),HN s f q->(∃c l,q=c::l/\Ai c=true) ->
   Tp E D W N s (AA f) m U=some (.int .i64 (if EU m (q.take (Al Ai q)) ((q.drop (Al Ai q)).headD 0)=true then AA (f+Al Ai q)else Bh 0),U):=by
  intro f m q hf hq;have hlef:=hf.le;have hlen:=hf.len;have hfew:=hf.few;show Ti E D W N N s (AA f) m (AA f) (AA 0) U=_;rw[mH hD U s m f q N f 0 0 (by omega) hf rfl (λ_=>by decide) (λh=>absurd h (by decide))];have hrl:=Hs Ai q;have hall:=LL Ai q;have hb:=hf.dr hrl;have ga:=hA U s (f+Al Ai q) _ hb;have gl:=hL U ((q.drop (Al Ai q)).headD 0);obtain⟨c,l,rfl,hc⟩:=hq;have e:=hf.ix;have h1:1<=Al Ai (c::l):=by rw[ED,hc];exact Ih _
  have hh:((c::l).take (Al Ai (c::l))).headD 0=c:=by
   obtain⟨j,hj⟩:∃j,Al Ai (c::l)=j+1:=⟨Al Ai (c::l)-1,by omega⟩;rw[hj];rfl
  have hln:((c::l).take (Al Ai (c::l))).length=Al Ai (c::l):=by rw[Bn];omega
  have hvl:=xr _ 0 0 hall (λ_=>by decide) (λh=>absurd h (by decide));have t:=AAz (m:=m) (((c::l).drop (Al Ai (c::l))).headD 0) hall (λe=>by rw[e]at hln;simp at hln;omega);have a2:Ez .i64 (AA (f+Al Ai (c::l))) (AA f)=AA (Al Ai (c::l)):=by rw[G5 (by omega) (by omega),show f+Al Ai (c::l)-f=Al Ai (c::l)by omega]
  unfold rnB at t;rw[hh,hln]at t;generalize Al Ai (c::l)=j at *;generalize (c::l).take j=ds at *;generalize ((c::l).drop j).headD 0=nx at *;generalize vF 0 0 ds=v at *;show pU E D W s (AA (f+j)) m (AA f) (AA v) U=_;unfold pU;have d0:decide (j<1)=false:=decide_eq_false (by omega);rw[d0,C7]at t;cases hn:EU m ds nx<;>rw[hn]at t <;>
  cases h2:decide (19<j)<;>cases h3:decide (1<j)<;>cases h4:decide (c=48)<;>cases m<;>cases h5:Em nx<;>cases h6:decide (9223372036854775808<v)<;>cases h7:decide (v=9223372036854775808)<;>rw[h2,h3,h4,h5,h6,h7]at t<;>rw[h5]at gl <;>
   first
   | (exact absurd t (by decide)) | (simp only[↓rP,rA,AE,AF,AD,a2,d0,h2,h3,↓e,h4,↓ga,↓gl,h6,h7,CE,B3,if_true,if_false,CF])
 rcases hk with ⟨c,l,rfl,hc⟩|⟨l,rfl,hc⟩
 ·have e:=h.ix
  have hd:=GW hc;have h45:¬c=45:=by omega
  have d0:decide (c=45)=false:=decide_eq_false h45;show Rm E D W (Tp E D W N) s (AA i) U=_;have key:∀K,Rm E D W K s (AA i) U=K s (AA i) false U:=by
   intro K;unfold Rm;simp only[↓rP,rA,AE,AF,AD,↓e,d0]
  rw[key,tail i false (c::l) h ⟨c,l,rfl,hc⟩];have eN:Kw (c::l)=if EU false ((c::l).take (Al Ai (c::l))) (((c::l).drop (Al Ai (c::l))).headD 0)=true then(3,De false ((c::l).take (Al Ai (c::l))),(c::l).drop (Al Ai (c::l)))else(0,[],(c::l).drop (Al Ai (c::l))):=by
   unfold Kw;rw[show (c::l).headD 0=c from rfl,d0];rfl
  rw[eN];have hrl:=Hs Ai (c::l);split
  ·show _=some (V.int .i64 (AA (i+((c::l).take (Al Ai (c::l))).length)),U)
   rw[Bn,Gi hrl]
  ·rfl
 ·have e:=h.ix
  have a1:BP .i64 (AA i) (AA 1)=AA (i+1):=BB (by omega);show Rm E D W (Tp E D W N) s (AA i) U=_;have key:∀K,Rm E D W K s (AA i) U=K s (AA (i+1)) true U:=by
   intro K;unfold Rm;simp only[↓rP,rA,AE,AF,AD,↓e,a1]
  obtain⟨c,q,rfl⟩:∃c q,l=c::q:=by
   cases l with
   | nil=>exact absurd hc (by decide) | cons c q=>exact⟨c,q,rfl⟩
  rw[key,tail (i+1) true (c::q) h.tl ⟨c,q,rfl,hc⟩];have eN:Kw (45::c::q)=if EU true ((c::q).take (Al Ai (c::q))) (((c::q).drop (Al Ai (c::q))).headD 0)=true then(3,De true ((c::q).take (Al Ai (c::q))),(c::q).drop (Al Ai (c::q)))else(0,[],(c::q).drop (Al Ai (c::q))):=rfl;rw[eN];have hrl:=Hs Ai (c::q);split
  ·show _=some (V.int .i64 (AA (i+(((c::q).take (Al Ai (c::q))).length+1))),U)
   rw[Bn,Gi hrl,show i+(Al Ai (c::q)+1)=i+1+Al Ai (c::q)by omega]
  ·rfl
end
theorem ZX{a b:BS}(h:b.canon):(a.cat b).canon:=by
 show a.low ||| b.val <<< (8*a.len)<2 ^ (8*(a.len+b.len));have e:a.low<2 ^ (8*a.len):=AFa _ (Nat.pow_pos (by decide));have g:a.low<2 ^ (8*(a.len+b.len)):=Cj e (Ii (by decide) (by omega));have f:b.val <<< (8*a.len)<2 ^ (8*(a.len+b.len)):=by
  rw[Nat.shiftLeft_eq,Nat.mul_add,Nat.add_comm,Nat.pow_add];exact Nat.mul_lt_mul_of_pos_right h (Nat.pow_pos (by decide))
 exact ANx g f
theorem mE{a b}(i:∀c∈a,c<256)(g:∀c∈b,c<256):(BO a).cat (BO b)=BO (a++b):=by
 have e:∀c∈a++b,c<256:=λc j=>by
  rcases Dw.1 j with h|h
  ·exact i c h
  ·exact g c h
 exact BS.canon_ext (ZX (ME g)) (ME e) (by rw[BS.nats_cat,Dk i,Dk g,Dk e])
theorem oH{a b:List Nat}(h:∀c∈a,c<256)(f:∀c∈b,c<256)(i:a.length+b.length<=1000000) J:XS (BO a) (BO b) J=J (BO (a++b)):=by
 unfold XS;rw[show Ac (AN (BO a).len (BO b).len) 1000000000000=true from Oi (by rw[DR,DR];show a.length+b.length<=_;omega),mE h f]
theorem AIc(r:List Nat):Pw (BS.mk 2 18471) r=(decide (r.headD 0=39)&&decide ((r.drop 1).headD 0=72)):=by
 have e:(BS.mk 2 18471).nats=[39,72]:=by decide +kernel
 unfold Pw;rw[e];match r with
 | []=>rfl | [c]=>
  show (decide (2<=1)&&_)=(decide (c=39)&&decide ((0:Nat)=72));rw[show decide (2<=1)=false from rfl,show decide (0=72)=false from rfl,EX];rfl
 | c::d::r=>
  show (decide (2<=(c::d::r).length)&&decide ((c::d::r).take 2=[39,72]))=(decide (c=39)&&decide (d=72));rw[decide_eq_true (show 2<=(c::d::r).length by simp),BX];show decide ([c,d]=[39,72])=_;by_cases j:c=39<;>by_cases i:d=72<;>simp[j,i]
theorem MD:∀b (r:List Nat) (p:List Nat × List Nat),D1 b r=some p->∃k,k<=r.length/\p.2=r.drop k
 | false,[],p,h=>by cases h
 | true,[],p,h=>by cases h;exact⟨0,AL _,rfl⟩
 | false,c::r,p,h=>by
  have h:(match decide (c=34)with | true=>D1 true r | false=>(D1 false r).map λp=>(c::p.1,p.2))=some p:=h;cases l:decide (c=34)with
  | true=>
   rw[l]at h;obtain⟨k,n,m⟩:=MD true r p h;exact⟨k+1,by simp;omega,m⟩
  | false=>
   rw[l]at h;cases i:D1 false r with
   | none=>rw[i]at h;cases h | some q=>
    rw[i]at h;cases h;obtain⟨k,n,m⟩:=MD false r q i;exact⟨k+1,by simp;omega,m⟩
 | true,c::r,p,h=>by
  have h:(match decide (c=34)with | true=>(D1 false r).map λp=>(34::p.1,p.2) | false=>some ([],c::r))=some p:=h;cases l:decide (c=34)with
  | false=>rw[l]at h;cases h;exact⟨0,BF _,rfl⟩ | true=>
   rw[l]at h;cases i:D1 false r with
   | none=>rw[i]at h;cases h | some q=>
    rw[i]at h;cases h;obtain⟨k,n,m⟩:=MD false r q i;exact⟨k+1,by simp;omega,m⟩
theorem Wx(r:List Nat):(Kw r).1≠0->∃k,k<=r.length/\(Kw r).2.2=r.drop k/\(Kw r).2.1.length=k/\(Kw r).1=3/\r.take k=(Kw r).2.1:=by
 intro h;obtain⟨q,j,E,t,i⟩:∃q j,(if decide (r.headD 0=45)=true then r.drop 1 else r)=q/\q=r.drop j/\j+q.length=r.length/\(decide (r.headD 0=45)=true->j=1)/\(¬decide (r.headD 0=45)=true->j=0):=by
  cases G:decide (r.headD 0=45)with
  | true=>
   rw[if_pos rfl];refine⟨_,1,rfl,rfl,?_,λ_=>rfl,λh=>absurd rfl h⟩;cases r with
   | nil=>exact absurd G (by decide) | cons c l=>simp;omega
  | false=>
   rw[if_neg (by decide)];exact⟨_,0,rfl,rfl,by omega,λh=>absurd h (by decide),λ_=>rfl⟩
 have e:Kw r=if EU (decide (r.headD 0=45)) (q.take (Al Ai q)) ((q.drop (Al Ai q)).headD 0)=true then(3,De (decide (r.headD 0=45)) (q.take (Al Ai q)),q.drop (Al Ai q))else(0,[],q.drop (Al Ai q)):=by
  rw[<-E];rfl
 rw[e]at h ⊢;have J:=Hs Ai q;by_cases C:EU (decide (r.headD 0=45)) (q.take (Al Ai q)) ((q.drop (Al Ai q)).headD 0)=true
 ·rw[if_pos C]
  refine⟨j+Al Ai q,by omega,?_,?_,?_,?_⟩
  ·show q.drop (Al Ai q)=_
   conv=>lhs;arg 2;rw[t]
   rw[BU]
  ·show (De _ _).length=_
   have B:(q.take (Al Ai q)).length=Al Ai q:=by rw[Bn];omega
   unfold De;split
   ·rename_i o;rw[AK,B,i.2.1 o];omega
   ·rename_i o;rw[B,i.2.2 o];omega
  ·rfl
  ·show _=De _ _
   unfold De;split
   ·rename_i o
    have v:=of_decide_eq_true o;rw[i.2.1 o]at t ⊢;cases r with
    | nil=>exact absurd v (by decide) | cons c l=>
     have:=v;subst this;rw[show 1+Al Ai q=Al Ai q+1 by omega,th,t];rfl
   ·rename_i o
    rw[i.2.2 o]at t ⊢;rw[BQ];conv=>rhs;arg 2;rw[t]
    rfl
 ·rw[if_neg C]at h;exact absurd rfl h
theorem nG(l:List Nat):(Kx (39::l)).1≠0->∃k,k<=(39::l).length/\(Kx (39::l)).2.2=(39::l).drop k/\(Kx (39::l)).2.1.length+3=k:=by
 intro h;have e:Kx (39::l)=if(decide ((l.take (Al Bk l)).length % 2=0)&&Pw (BS.mk 2 18471) (l.drop (Al Bk l)))=true then(4,l.take (Al Bk l),(l.drop (Al Bk l)).drop 2)else(0,[],l.drop (Al Bk l)):=rfl;rw[e]at h ⊢;have p:=Hs Bk l;by_cases g:(decide ((l.take (Al Bk l)).length % 2=0)&&Pw (BS.mk 2 18471) (l.drop (Al Bk l)))=true
 ·rw[if_pos g]
  have o:2<=(l.drop (Al Bk l)).length:=by
   rw[AI]at g;have:=g.2;unfold Pw at this;rw[AI,decide_eq_true_eq]at this;exact this.1
  rw[AQ]at o;refine⟨Al Bk l+3,by simp only[AK];omega,?_,?_⟩
  ·show (l.drop (Al Bk l)).drop 2=_
   rw[BU,show Al Bk l+3=(Al Bk l+2)+1 by omega,Gy]
  ·show (l.take (Al Bk l)).length+3=_
   rw[Bn];omega
 ·rw[if_neg g]at h;exact absurd rfl h
theorem ki l:(OL (34::l)).1≠0->∃k,k<=(34::l).length/\(OL (34::l)).2.2=(34::l).drop k:=by
 intro h;have e:OL (34::l)=GF [] l:=rfl;rw[e]at h ⊢;unfold GF at h ⊢;cases o:quo l with
 | none=>rw[o]at h;exact absurd rfl h | some p=>
  obtain⟨k,r,q⟩:=MD false l p o;refine⟨k+1,by simp only[AK];omega,?_⟩;rw[Gy,<-q];show (match CR ([]++p.1)with | true=>(7,[]++p.1,p.2) | false=>(0,[],p.2):Sg).2.2=_;cases CR ([]++p.1)<;>rfl
def Vz(E:EB)(F:List V->H->AH):Prop:=∀U (s:BS) i l,KF E U->HN s i (34::l) ->
 F [.str s,.int .i64 (AA i)] U=some (.tup [.int .i64 (match (OL (34::l)).1 with | 0=>Bh 0 | _+1=>AA (s.len-(OL (34::l)).2.2.length)),.str (BO (OL (34::l)).2.1)],U)
def R7(E:EB)(F:List V->H->AH):Prop:=∀U s i (r:List Nat),CI U->KF E U->HN s i r->r≠[] ->
 ∃k w e U',F [.str s,.int .i64 (AA i)] U=some (.tup [.agg [.int .i64 (AA k),.str w,.int .i64 (AA i)],.int .i64 e],U')/\Fr Af U U' /\
  match (Hc r).1 with
  | 0=>e=Bh 0
  | a+1=>k=a+1/\w=BO (Hc r).2.1/\∃j,j<=r.length/\(Hc r).2.2=r.drop j/\e=AA (i+j)
section
variable {E:EB}{D:Am}{W:AJ}{N:Nat}
theorem yG(w:Mg (D 46)) U (s:BS) f:∀(r:List Nat) n i,r.length<n->HN s i r ->
  YE E D W N n s (AA i) f U=To E D W N s (AA (i+Al Bk r)) f U
 | [],n,i,u,h=>by
  obtain⟨n,rfl⟩:∃m,n=m+1:=⟨n-1,by omega⟩;show Rl E D W (To E D W N) _ s (AA i) f U=To E D W N s (AA i) f U;have t:decide (i<s.len)=false:=decide_eq_false (by have:=h.nil;omega);have k:∀K R,Rl E D W K R s (AA i) f U=K s (AA i) f U:=by
   intro K R;unfold Rl;simp only[↓rP,rA,AE,AF,AD,t]
  exact k _ _
 | c::r,n,i,u,h=>by
  obtain⟨n,rfl⟩:∃m,n=m+1:=⟨n-1,by omega⟩;have e:=h.ix;have y:=h.le;have t:=decide_eq_true h.lt;have v:=w U c;have x:BP .i64 (AA i) (AA 1)=AA (i+1):=BB (by omega);rw[ED];show Rl E D W (To E D W N) (YE E D W N n) s (AA i) f U=_;have k:∀K R,Rl E D W K R s (AA i) f U=AG (Bk c) (R s (AA (i+1)) f U) (K s (AA i) f U):=by
   intro K R;unfold Rl Bk;cases B:Ai c<;>cases z:decide (65<=c)<;>cases A:decide (c<=70)<;>rw[B]at v <;>
    simp only[↓rP,rA,AE,AF,AD,t,↓e,↓v,z,A,x]
  rw[k];cases C:Bk c with
  | true=>
   rw[CC,yG w U s f r n (i+1) (by simp at u;omega) h.tl];show _=To E D W N s (AA (i+(Al Bk r+1))) f U;rw[show i+1+Al Bk r=i+(Al Bk r+1)by omega]
  | false=>rw[Bx];rfl
theorem lP(G:KJ (D 42))(Y:Mg (D 46))(Z:10010<N):V0 (F48 E D W N):=by
 intro U s i l h;have R:=h.le;have p:=h.tl;have B:=p.len;have F:=h.few;have X:BP .i64 (AA i) (AA 1)=AA (i+1):=BB (by omega);have z:=Hs Bk l;show ej E D W (YE E D W N N) s (AA i) U=_;have S:∀K,ej E D W K s (AA i) U=K s (AA (i+1)) (AA (i+1)) U:=by
  intro K;unfold ej;simp only[↓rP,rA,AE,AF,AD,X]
 rw[S,yG Y U s _ l N (i+1) (by omega) p];have A:=p.dr z;have u:=G U s _ _ A;have O:Kx (39::l)=if(decide (Al Bk l % 2=0)&&Pw (BS.mk 2 18471) (l.drop (Al Bk l)))=true then(4,l.take (Al Bk l),(l.drop (Al Bk l)).drop 2)else(0,[],l.drop (Al Bk l)):=by
  unfold Kx;show (if(decide ((l.take (Al Bk l)).length % 2=0)&&_)=true then _ else _)=_;rw[Bn,Gi z];rfl
 rw[O,AIc];have I:∀J,BA s (some (.int .i64 (AA (i+1)))) (some (.int .i64 (AA (i+1+Al Bk l)))) J=J (BO (l.take (Al Bk l))):=λJ=>by
  rw[G8 (by omega) (by omega),p.r.sub z]
 have T:(l.take (Al Bk l)).length=Al Bk l:=by rw[Bn];omega
 have r:Int.tmod (AA (Al Bk l)) (AA 2)=AA (Al Bk l % 2):=rfl;have o:Ez .i64 (AA (i+1+Al Bk l)) (AA (i+1))=AA (Al Bk l):=by rw[G5 (by omega) (by omega),show i+1+Al Bk l-(i+1)=Al Bk l by omega]
 have P:BP .i64 (AA (i+1+Al Bk l)) (AA 2)=AA (i+1+Al Bk l+2):=BB (by omega);have M:BP .i64 (AA (i+1+Al Bk l)) (AA 1)=AA (i+1+Al Bk l+1):=BB (by omega);show TV E D W s (AA (i+1+Al Bk l)) (AA (i+1)) U=_;have y:=GA.symm;generalize l.take (Al Bk l)=w at I T ⊢;generalize l.drop (Al Bk l)=q at u A ⊢;generalize Al Bk l=j at *;cases v:decide (j % 2=0)with
 | false=>
  unfold TV;simp only[↓rP,rA,AE,AF,AD,o,r,v,CE,if_false,CF,y]
 | true=>
  cases t:decide (q.headD 0=39)with
  | false=>
   unfold TV;simp only[↓rP,rA,AE,AF,AD,o,r,v,↓u,t,CE,B3,if_false,CF,y]
  | true=>
   obtain⟨c,q,rfl⟩:∃c l,q=c::l:=by
    cases q with
    | nil=>exact absurd t (by decide) | cons c q=>exact⟨c,q,rfl⟩
   have C:=G U s _ _ A.tl;rw[show (List.drop 1 (c::q)).headD 0=q.headD 0 from rfl];cases L:decide (q.headD 0=72)with
   | false=>
    unfold TV;simp only[↓rP,rA,AE,AF,AD,o,r,v,↓u,t,M,↓C,L,CE,B3,if_false,CF,y]
   | true=>
    unfold TV;simp only[↓rP,rA,AE,AF,AD,o,r,v,↓u,t,M,↓C,L,P,↓I,CE,B3,if_true];rw[show i+1+j+2=i+w.length+3 by omega]
theorem Y6 (hA:KJ (D 42)) (hV:Xw E (D 74)) U (hu:KF E U) (s:BS):∀n (r f:List Nat) i,r.length<n->f.length+r.length<=10000->(∀c∈f,c<256)->HN s i r ->
    YD E D W N n s (AA i) (BO f) U=some (.tup [.int .i64 (match (GF f r).1 with | 0=>Bh 0 | _+1=>AA (s.len-(GF f r).2.2.length)),.str (BO (GF f r).2.1)],U)
  | 0,r,f,i,L,_,_,_=>by omega
  | n+1,[],f,i,L,O,B,h=>by
    have A:decide (i<s.len)=false:=decide_eq_false (by have:=h.nil;omega);show KI E D W (sH E D W N) _ s (AA i) (BO f) U=_;have o:∀K R,KI E D W K R s (AA i) (BO f) U=K U:=by
      intro K R;unfold KI;simp only[↓rP,rA,AE,AF,AD,A]
    rw[o];show some (V.tup [.int .i64 (Bh 0),.str (BS.mk 0 0)],U)=some (V.tup [.int .i64 (Bh 0),.str (BO [])],U);rw[GA]
  | n+1,c::r,f,i,L,O,B,h=>by
    have hle:=h.le;have y:=h.len;simp only[AK]at L O y;have e:=h.ix;have A:=decide_eq_true h.lt;have I:BP .i64 (AA i) (AA 1)=AA (i+1):=BB (by omega);have F:=hA U s (i+1) r h.tl;have C:=h.r.bd c (As ..);show KI E D W (sH E D W N) (TU E D W (YD E D W N n)) s (AA i) (BO f) U=_;by_cases hc:c=34
    · subst hc
      by_cases M:r.headD 0=34
      · obtain⟨q,rfl⟩:∃q,r=34::q:=by
          cases r with
          | nil=>cases M | cons d q=>exact⟨q,by rw[show d=34 from M]⟩
        have P:=λJ=>oH (b:=[34]) B (λc h=>by rw[B0.1 h];decide) (by simp only[AK,Aa]at O ⊢;omega) J;rw[show BO [34]=BS.mk 1 34 by decide +kernel]at P;simp only[AK]at L O y;have a2:BP .i64 (AA (i+1)) (AA 1)=AA (i+1+1):=BB (by omega);have ih:=Y6 hA hV U hu s n q (f++[34]) (i+1+1) (by omega) (by rw[AY];simp only[AK,Aa];omega) (λx v=>by
          rcases Dw.1 v with v|v
          · exact B x v
          · rw[B0.1 v];decide) h.tl.tl
        rw[Wg,<-ih];have F:D 42 [.str s,.int .i64 (AA (i+1))] U=some (.int .u8 (AA 34),U):=F;have o:∀K R,KI E D W K (TU E D W R) s (AA i) (BO f) U=R s (AA (i+1+1)) (BO (f++[34])) U:=by
          intro K R;unfold KI TU;simp only[↓rP,rA,AE,AF,AD,A,↓e,I,↓F,↓P,a2,B3]
        exact o _ _
      · have d2:decide (r.headD 0=34)=false:=decide_eq_false M
        have gv:=hV hu B (by omega);have e0:(BS.mk 0 0)=BO []:=GA.symm;rw[Wh f M];cases z:CR f with
        | true=>
          rw[z]at gv;have o:∀K R,KI E D W K R s (AA i) (BO f) U=some (.tup [.int .i64 (AA (i+1)),.str (BO f)],U):=by
            intro K R;unfold KI;simp only[↓rP,rA,AE,AF,AD,A,↓e,I,↓F,d2,↓gv,B3,CE]
          rw[o];show _=some (V.tup [.int .i64 (AA (s.len-r.length)),.str (BO f)],U);rw[show s.len-r.length=i+1 by omega]
        | false=>
          rw[z]at gv;have o:∀K R,KI E D W K R s (AA i) (BO f) U=some (.tup [.int .i64 (Bh 0),.str (BS.mk 0 0)],U):=by
            intro K R;unfold KI;simp only[↓rP,rA,AE,AF,AD,A,↓e,I,↓F,d2,↓gv,B3,CE]
          rw[o,e0]
    · have d2:decide (c=34)=false:=decide_eq_false hc
      have sb:∀J:BS->AH,BA s (some (.int .i64 (AA i))) (some (.int .i64 (AA (i+1)))) J=J (BO [c]):=λJ=>by
        rw[G8 (by omega) (by omega),h.r.sub (by simp)];rfl
      have P:=λJ=>oH B (λx h=>by rw[B0.1 h];exact C) (by simp only[AK,Aa];omega) J;have ih:=Y6 hA hV U hu s n r (f++[c]) (i+1) (by omega) (by rw[AY];simp only[AK,Aa];omega) (λx v=>by
        rcases Dw.1 v with v|v
        · exact B x v
        · rw[B0.1 v];exact C) h.tl
      rw[Sz f c hc,<-ih];have o:∀K R,KI E D W K (TU E D W R) s (AA i) (BO f) U=R s (AA (i+1)) (BO (f++[c])) U:=by
        intro K R;unfold KI TU;simp only[↓rP,rA,AE,AF,AD,A,↓e,d2,I,↓sb,↓P,CE]
      exact o _ _
theorem lM(r:KJ (D 42))(p:Xw E (D 74))(v:10010<N):Vz E (F49 E D W N):=by
 intro U s i l q h;have o:=h.le;have e:=h.len;have n:=h.few;simp only[AK]at e;have t:BP .i64 (AA i) (AA 1)=AA (i+1):=BB (by omega);have g:=Y6 (W:=W) (N:=N) r p U q s N l [] (i+1) (by omega) (by simp only[Aa];omega) (λ_ h=>by cases h) h.tl;rw[GA]at g;show eh E D W (YD E D W N N) s (AA i) U=_;have j:∀K,eh E D W K s (AA i) U=K s (AA (i+1)) (BS.mk 0 0) U:=by
  intro K;unfold eh;simp only[↓rP,rA,AE,AF,AD,t]
 rw[j];exact g
end
section
variable {E:EB}{D:Am}{W:AJ}{N:Nat}
theorem mB(hA:KJ (D 42))(hL:SA (D 43))(hD:Mg (D 46))(hNm:QM (D 44))(hW:QJ (D 45))(hNu:QL (D 47))(hH:V0 (D 48))(hQ:Vz E (D 49))(hS:QK (D 50)):R7 E (F23 E D W N):=by
 intro U s i r ht hu h hne;obtain⟨c,f,rfl⟩:∃c l,r=c::l:=by
  cases r with
  | nil=>exact absurd rfl hne | cons c l=>exact⟨c,l,rfl⟩
 have hle:=h.le;have hlen:=h.len;have hfew:=h.few;simp only[AK]at hlen;have e:=h.ix;have g1:=hL U c;have gd:=hD U c;have a1:BP .i64 (AA i) (AA 1)=AA (i+1):=BB (by omega);have ga:=hA U s (i+1) f h.tl;have gd2:=hD U (f.headD 0);have neg:Cw (Bh 0) (AA 0)=true:=rfl;have pos:∀k:Nat,Cw (AA k) (AA 0)=false:=λk=>by rw[P7];exact decide_eq_false (by omega)
 have sp:∀k,k<=(c::f).length->∀J:BS->AH,BA s (some (.int .i64 (AA i))) (some (.int .i64 (AA (i+k)))) J=J (BO ((c::f).take k)):=λk hk J=>by
  simp only[AK]at hk;rw[G8 (by omega) (by omega),h.r.sub (by simp only[AK];omega)]
 show ∃(k:Nat) (w:BS) (e:Int) (U':H),HF E D W (sW E D W N) (Ts E D W N) s (AA i) U=_/\_;have eT:Hc (c::f)=if Em c=true then NU c f else if(Ai c || (decide (c=45)&&Ai (f.headD 0)))=true then Kw (c::f)else if c=39 then Kx (c::f)else if c=34 then OL (c::f)else Ql (c::f):=rfl;rw[eT];by_cases c1:Em c=true
 ·rw[if_pos c1]
  rw[c1]at g1;have A:=hNm U s i c f h c1;have hm:=Qv (c::f);have I:=sp _ hm;unfold NU;cases hb:Ma ((c::f).take (Fm (c::f)))with
  | true=>
   rw[hb,if_pos rfl]at A;refine⟨0,BS.mk 0 0,Bh 0,U,?_,Fr.refl ht,rfl⟩;have F:∀K1 K2,HF E D W K1 K2 s (AA i) U=some (.tup [.agg [.int .i64 (AA 0),.str (BS.mk 0 0),.int .i64 (AA i)],.int .i64 (Bh 0)],U):=by
    intro K1 K2;unfold HF;simp only[↓rP,rA,AE,AF,AD,↓e,↓g1,↓A,neg]
   exact F _ _
  | false=>
   rw[hb,if_neg (by decide)]at A;obtain⟨U3,g3,f3⟩:=hW U (BO ((c::f).take (Fm (c::f)))) ht;refine⟨if kY (BO ((c::f).take (Fm (c::f))))=true then 5 else if c<=90 then 1 else 2,BO ((c::f).take (Fm (c::f))),AA (i+Fm (c::f)),U3,?_,f3,?_⟩
   ·generalize Fm (c::f)=m at *
    generalize BO ((c::f).take m)=w at *;have k2:∀kk:Nat,Ts E D W N (AA (i+m)) (AA 0) (BS.mk 0 0) (AA 0) (AA kk) w (AA i) U=some (.tup [.agg [.int .i64 (AA (if kY w=true then 5 else kk)),.str w,.int .i64 (AA i)],.int .i64 (AA (i+m))],U3):=by
     intro kk;show qB E D W (JT E D W) _ _ _ _ _ _ _ U=_;unfold qB JT;cases hw:kY w<;>(rw[hw]at g3;simp only[↓rP,rS,↓g3])<;>rfl
    have F:∀K1 K2,HF E D W K1 K2 s (AA i) U=K2 (AA (i+m)) (AA 0) (BS.mk 0 0) (AA 0) (AA (if c<=90 then 1 else 2)) w (AA i) U:=by
     intro K1 K2;unfold HF;by_cases h9:c<=90
     ·rw[if_pos h9]
      simp only[↓rP,rA,AE,AF,AD,↓e,↓g1,↓A,pos,↓I,decide_eq_true h9]
     ·rw[if_neg h9]
      simp only[↓rP,rA,AE,AF,AD,↓e,↓g1,↓A,pos,↓I,decide_eq_false h9]
    rw[F,k2]
   ·have fin:∀K:Nat,(K=5\/K=1\/K=2)->match K with
     | 0=>AA (i+Fm (c::f))=Bh 0 | kd'+1=>K=kd'+1/\BO ((c::f).take (Fm (c::f)))=BO ((c::f).take (Fm (c::f)))/\∃j,j<=(c::f).length/\(c::f).drop (Fm (c::f))=(c::f).drop j/\AA (i+Fm (c::f))=AA (i+j):=by
     intro K hk;rcases hk with rfl|rfl|rfl<;>exact⟨rfl,rfl,_,hm,rfl,rfl⟩
    exact fin (if kY (BO ((c::f).take (Fm (c::f))))=true then 5 else if c<=90 then 1 else 2) (by split;exact .inl rfl;split;exact .inr (.inl rfl);exact .inr (.inr rfl))
 ·rw[if_neg c1]
  rw[HR]at c1;rw[c1]at g1;by_cases c2:(Ai c || (decide (c=45)&&Ai (f.headD 0)))=true
  ·rw[if_pos c2]
   have hnum:(∃c' l,c::f=c'::l/\Ai c'=true)\/∃l,c::f=45::l/\Ai (l.headD 0)=true:=by
    rw[B5,AI,decide_eq_true_eq]at c2;rcases c2 with c2|⟨rfl,c2⟩
    ·exact .inl ⟨c,f,rfl,c2⟩
    ·exact .inr ⟨f,rfl,c2⟩
   have A:=hNu U s i (c::f) h hnum;have hdr:=Wx (c::f);generalize Kw (c::f)=x at *;obtain⟨K,w,q⟩:=x;cases K with
   | zero=>
    have A:D 47 [.str s,.int .i64 (AA i)] U=some (.int .i64 (Bh 0),U):=A;refine⟨0,BS.mk 0 0,Bh 0,U,?_,Fr.refl ht,rfl⟩;have F:∀K1 K2,HF E D W K1 K2 s (AA i) U=some (.tup [.agg [.int .i64 (AA 0),.str (BS.mk 0 0),.int .i64 (AA i)],.int .i64 (Bh 0)],U):=by
     intro K1 K2;unfold HF;cases d1:Ai c<;>rw[d1]at gd
     ·cases d2:decide (c=45)<;>cases d3:Ai (f.headD 0)<;>rw[d1,d2,d3]at c2<;>rw[d3]at gd2 <;>
       first
       | (exact absurd c2 (by decide)) | simp only[↓rP,rA,AE,AF,AD,↓e,↓g1,↓gd,d2,a1,↓ga,↓gd2,↓A,neg]
     ·simp only[↓rP,rA,AE,AF,AD,↓e,↓g1,↓gd,↓A,neg]
    exact F _ _
   | succ K=>
    obtain⟨k,hk1,G,hk3,h3,htk⟩:=hdr (Df _);have h3:K+1=3:=h3;obtain rfl:K=2:=by omega
    have G:q=(c::f).drop k:=G;have hk3:w.length=k:=hk3;have htk:(c::f).take k=w:=htk;have A:D 47 [.str s,.int .i64 (AA i)] U=some (.int .i64 (AA (i+w.length)),U):=A;rw[hk3]at A;have I:=sp k hk1;rw[htk]at I;refine⟨3,BO w,AA (i+k),U,?_,Fr.refl ht,rfl,rfl,k,hk1,G,rfl⟩;show HF E D W (JT E D W) (Ts E D W N) s (AA i) U=_;have F:∀K2,HF E D W (JT E D W) K2 s (AA i) U=some (.tup [.agg [.int .i64 (AA 3),.str (BO w),.int .i64 (AA i)],.int .i64 (AA (i+k))],U):=by
     intro K2;unfold HF JT;cases d1:Ai c<;>rw[d1]at gd
     ·cases d2:decide (c=45)<;>cases d3:Ai (f.headD 0)<;>rw[d1,d2,d3]at c2<;>rw[d3]at gd2 <;>
       first
       | (exact absurd c2 (by decide)) | simp only[↓rP,rA,AE,AF,AD,↓e,↓g1,↓gd,d2,a1,↓ga,↓gd2,↓A,pos,↓I]
     ·simp only[↓rP,rA,AE,AF,AD,↓e,↓g1,↓gd,↓A,pos,↓I]
    exact F _
  ·rw[if_neg c2]
   rw[HR]at c2;have ndg:Ai c=false/\(c=45->Ai (f.headD 0)=false):=by
    rw[Ba]at c2;refine⟨c2.1,λh45=>?_⟩;have:=c2.2;rw[decide_eq_true h45,BX]at this;exact this
   rw[ndg.1]at gd;by_cases c3:c=39
   ·rw[if_pos c3]
    subst c3;have A:=hH U s i f h;have hdr:=nG f;have h4:(Kx (39::f)).1≠0->(Kx (39::f)).1=4:=λh=>by
     unfold Kx at h ⊢;simp only[]at h ⊢;split at h
     ·rename_i h1;rw[if_pos h1]
     ·exact absurd rfl h
    generalize Kx (39::f)=x at *;obtain⟨K,w,q⟩:=x;have F:∀(z:Int),D 48 [.str s,.int .i64 (AA i)] U=some (.tup [.int .i64 z,.str (BO w)],U)->∀K2,HF E D W (JT E D W) K2 s (AA i) U=some (.tup [.agg [.int .i64 (AA 4),.str (BO w),.int .i64 (AA i)],.int .i64 z],U):=by
     intro z A K2;unfold HF JT;simp only[↓rP,rA,AE,AF,AD,↓e,↓g1,↓gd,↓A]
    cases K with
    | zero=>exact⟨4,BO w,Bh 0,U,F _ A _,Fr.refl ht,rfl⟩ | succ K=>
     have h4:K+1=4:=h4 (Df _);obtain rfl:K=3:=by omega
     obtain⟨k,hk1,G,hk3⟩:=hdr (Df _);have hk3:w.length+3=k:=hk3;have A:D 48 [.str s,.int .i64 (AA i)] U=some (.tup [.int .i64 (AA (i+w.length+3)),.str (BO w)],U):=A;exact⟨4,BO w,AA (i+w.length+3),U,F _ A _,Fr.refl ht,rfl,rfl,k,hk1,G,by rw[show i+w.length+3=i+k by omega]⟩
   ·rw[if_neg c3]
    by_cases c4:c=34
    ·rw[if_pos c4]
     subst c4;have A:=hQ U s i f hu h;have hdr:=ki f;have h7:(OL (34::f)).1≠0->(OL (34::f)).1=7:=λh=>by
      have e:OL (34::f)=GF [] f:=rfl;rw[e]at h ⊢;unfold GF at h ⊢;cases hq:quo f with
      | none=>rw[hq]at h;exact absurd rfl h | some p=>
       rw[hq]at h;simp only[]at h ⊢;cases hv:CR ([]++p.1)with
       | true=>rfl | false=>rw[hv]at h;exact absurd rfl h
     generalize OL (34::f)=x at *;obtain⟨K,w,q⟩:=x;have F:∀(z:Int),D 49 [.str s,.int .i64 (AA i)] U=some (.tup [.int .i64 z,.str (BO w)],U)->∀K2,HF E D W (JT E D W) K2 s (AA i) U=some (.tup [.agg [.int .i64 (AA 7),.str (BO w),.int .i64 (AA i)],.int .i64 z],U):=by
      intro z A K2;unfold HF JT;simp only[↓rP,rA,AE,AF,AD,↓e,↓g1,↓gd,↓A]
     cases K with
     | zero=>exact⟨7,BO w,Bh 0,U,F _ A _,Fr.refl ht,rfl⟩ | succ K=>
      have h7:K+1=7:=h7 (Df _);obtain rfl:K=6:=by omega
      obtain⟨k,hk1,G⟩:=hdr (Df _);have G:q=(34::f).drop k:=G;have A:D 49 [.str s,.int .i64 (AA i)] U=some (.tup [.int .i64 (AA (s.len-q.length)),.str (BO w)],U):=A;simp only[AK]at hk1;have ez:s.len-q.length=i+k:=by rw[G,AQ,AK];omega
      rw[ez]at A;exact⟨7,BO w,AA (i+k),U,F _ A _,Fr.refl ht,rfl,rfl,k,by simp only[AK];omega,G,rfl⟩
    ·rw[if_neg c4]
     obtain⟨U2,A,f2⟩:=hS U s i (c::f) ht h;have hsl:=Uw Cp (c::f);have I:=sp _ hsl;unfold Ql;cases hs:IY Cp (c::f)with
     | zero=>
      rw[hs]at A;refine⟨0,BS.mk 0 0,Bh 0,U2,?_,f2,rfl⟩;show HF E D W (JT E D W) (Ts E D W N) s (AA i) U=_;unfold HF JT;by_cases h45:c=45
      ·rw[ndg.2 h45]at gd2
       simp only[↓rP,rA,AE,AF,AD,↓e,↓g1,↓gd,decide_eq_true h45,a1,↓ga,↓gd2,decide_eq_false c3,decide_eq_false c4,↓A,JH]
      ·simp only[↓rP,rA,AE,AF,AD,↓e,↓g1,↓gd,decide_eq_false h45,decide_eq_false c3,decide_eq_false c4,↓A,JH]
     | succ m=>
      rw[hs]at A hsl I;simp only[AK]at hsl;have a2:BP .i64 (AA i) (AA (m+1))=AA (i+(m+1)):=BB (by omega);have h0:decide (0<m+1)=true:=decide_eq_true (Ih _);refine⟨6,BO ((c::f).take (m+1)),AA (i+(m+1)),U2,?_,f2,rfl,rfl,m+1,by simp only[AK];omega,rfl,rfl⟩;show HF E D W (JT E D W) (Ts E D W N) s (AA i) U=_;generalize (c::f).take (m+1)=w at *;unfold HF JT;by_cases h45:c=45
      ·rw[ndg.2 h45]at gd2
       simp only[↓rP,rA,AE,AF,AD,↓e,↓g1,↓gd,decide_eq_true h45,a1,↓ga,↓gd2,decide_eq_false c3,decide_eq_false c4,↓A,h0,a2,↓I]
      ·simp only[↓rP,rA,AE,AF,AD,↓e,↓g1,↓gd,decide_eq_false h45,decide_eq_false c3,decide_eq_false c4,↓A,h0,a2,↓I]
theorem AA0(hK:Xv N (D 22))(hT:R7 E (D 23)){s:BS}(hs:s.len<=8000){O:H}:∀k r,(HS N r).length<k->∀n i (e:List Ad) v (U:H),(HS N r).length<n->e.length+(HS N r).length<=8500->HN s i r->KF E U->Fr Af O U->ES U 3 e.length v (Dq e)->(∀c,AS v c->O.next<=c)->100<=O.next ->
  match HA N s.len k (HS N r)with
  | .ok ts=>∃u U',qu E D W N n s v (AA i) U=some (.tup [u,.int .i64 (AA 0),.int .i64 (AA 0)],U')/\ES U' 3 (e++ts).length u (Dq (e++ts))/\(∀c,AS u c->O.next<=c)/\Fr Af O U' | .error p=>∃U',qu E D W N n s v (AA i) U=some (.tup [.nils,.int .i64 (AA p),.int .i64 (AA 6)],U')/\Fr Af O U':=by
 have grow:∀k,k<=9001->CX k 32=true:=λk hk=>by unfold CX;simp only[AI,Ag];omega
 have T:∀(t:Ad) (e:List Ad) v (U:H),e.length+1<=9001->Fr Af O U->KF E U->100<=O.next->ES U 3 e.length v (Dq e)->(∀c,AS v c->O.next<=c) ->
   ∃u M P,B9 U (.cells [.int .i64 (AA t.1),.str (BO t.2.1),.int .i64 (AA t.2.2)])=M/\(∀J,Gv E 3 32 v (.sl U.next 0 1 (.ex 1)) M J=J u P)/\ES P 3 (e++[t]).length u (Dq (e++[t]))/\(∀c,AS u c->O.next<=c)/\Fr Af O P/\KF E P:=by
  intro t e v U ha f hu G hv Y;obtain⟨M,e1,f1,a1,n1⟩:=Ia f.tidy [.int .i64 (AA t.1),.str (BO t.2.1),.int .i64 (AA t.2.2)];have xs:D0 M 3 1 (V.sl U.next 0 1 (.ex 1)) [.int .i64 (AA t.1),.str (BO t.2.1),.int .i64 (AA t.2.2)] := .inr ⟨_,_,_,_,rfl,a1,AL _,rfl⟩;obtain⟨u,P,g,d,nm,f2⟩:=Fa (hv.fr f1 f.tidy (λ_ _ h=>h)) f1.tidy xs rfl (grow _ ha);have l1:=f1.le;have l0:=f.le;refine⟨u,M,P,e1,g,?_,λc hc=>(nm c hc).elim (Y c) (λh=>by omega),(f.trans f1 (λ_ _ h=>h)).trans f2 λc hc h=>by have:=Y c h;omega,(hu.fr f1 (λ_ h=>h.elim)).fr f2 (λc h=>by have:=Y c h;omega)⟩;rw[O4,AY];exact d
 intro k;induction k with
 | zero=>intro r h;omega | succ k ih=>
  intro r hk n i e v U Y ha h hu f hv hnm G;obtain⟨n,rfl⟩:∃j,n=j+1:=⟨n-1,by omega⟩;obtain⟨j,h1,h2,h3⟩:=hK U s i r h;have hb:=h.dr h1;rw[<-h2]at hb;have Q:=hb.len;cases hr:HS N r with
  | nil=>
   rw[hr]at hb hk Y ha Q;have hik:=hb.nil;rw[hik]at h3;obtain⟨u,M,P,e1,g,d,nm,f2,hu2⟩:=T (0,[],s.len) e v U (by omega) f hu G hv hnm;show ∃u U',_;refine⟨u,P,?_,d,nm,f2⟩;have e1':B9 U (.cells [.int .i64 (AA 0),.str (BS.mk 0 0),.int .i64 (AA s.len)])=M:=by rw[<-GA];exact e1
   have d1:decide (s.len<=s.len)=true:=decide_eq_true (AL _);show Vc E D W _ s v (AA i) U=_;have L:∀R,Vc E D W R s v (AA i) U=some (.tup [u,.int .i64 (AA 0),.int .i64 (AA 0)],P):=by
    intro R;unfold Vc;simp only[↓rP,rA,AE,AF,AD,↓h3,d1,↓e1',↓g,↓Ec d.one]
   exact L _
  | cons c q=>
   rw[hr]at hb hk Y ha Q;simp only[AK]at hk Y ha Q;have d1:decide (s.len<=i+j)=false:=decide_eq_false (by omega);obtain⟨kk,ww,ee,M,g1,f1,A⟩:=hT U s (i+j) (c::q) f.tidy hu hb (by simp);have F1:=f.trans f1 (λ_ _ h=>h);have hu1:=hu.fr f1 (λ_ h=>h.elim);have eat:s.len-(q.length+1)=i+j:=by omega
   have K:=@Up c q;unfold HA;rw[eat];cases Z:(Hc (c::q)).1 with
   | zero=>
    rw[Z]at A;have A:ee=Bh 0:=A;subst A;show ∃U',_;refine⟨M,?_,F1⟩;have neg:Cw (Bh 0) (AA 0)=true:=rfl;show Vc E D W _ s v (AA i) U=_;have L:∀R,Vc E D W R s v (AA i) U=some (.tup [.nils,.int .i64 (AA (i+j)),.int .i64 (AA 6)],M):=by
     intro R;unfold Vc;simp only[↓rP,rA,AE,AF,AD,↓h3,d1,↓g1,neg]
    exact L _
   | succ kd=>
    rw[Z]at A;obtain⟨rfl,rfl,m,hm1,hm2,rfl⟩:=A;have K:=K (by rw[Z];exact Df _);have X:=hb.dr hm1;rw[<-hm2]at X;simp only[AK]at K;generalize hq:(Hc (c::q)).2.2=z at X K;generalize hw:(Hc (c::q)).2.1=w at g1;have hwl:=G1 N z;obtain⟨u,P,U3,e2,g,d,nm,f3,hu3⟩:=T (kd+1,w,i+j) e v M (by omega) F1 hu1 G (hv.fr f1 f.tidy (λ_ _ h=>h)) hnm;have IH:=ih z (by omega) n (i+j+m) (e++[(kd+1,w,i+j)]) u U3 (by omega) (by rw[AY,AK,Aa];omega) X hu3 f3 d nm G;have L:∀R,Vc E D W R s v (AA i) U=R s u (AA (i+j+m)) U3:=by
     intro R;have e2':B9 M (.cells [.int .i64 (AA (kd+1)),.str (BO w),.int .i64 (AA (i+j))])=P:=e2;have pos:Cw (AA (i+j+m)) (AA 0)=false:=by rw[P7];exact decide_eq_false (by omega)
     unfold Vc;simp only[↓rP,rA,AE,AF,AD,↓h3,d1,↓g1,pos,↓e2',↓g,↓Ec d.one]
    simp only[];cases hl:HA N s.len k (HS N z)with
    | error p=>
     rw[hl]at IH;obtain⟨U',e',f'⟩:=IH;exact⟨U',(L _).trans e',f'⟩
    | ok ts=>
     rw[hl]at IH;obtain⟨u',U',e',d',nm',f'⟩:=IH;rw[CK]at d';exact⟨u',U',(L _).trans e',d',nm',f'⟩
theorem lN(z:Xv N (D 22))(y:R7 E (D 23))(G:10000<N):N8 E N (F9 E D W N):=by
 intro U s v t;unfold IK;cases n:decide (8000<s.len)with
 | true=>
  show ∃U',_;refine⟨U,?_,Fr.refl v⟩;show jk E D W (qu E D W N N) s U=_;have g:∀K,jk E D W K s U=some (.tup [.nils,.int .i64 (AA 0),.int .i64 (AA 5)],U):=by
   intro K;unfold jk;simp only[↓rP,rA,AE,AF,AD,n]
  exact g _
 | false=>
  have B:s.len<=8000:=by have:=of_decide_eq_false n;omega
  have C:=G1 N s.nats;rw[BS.length_nats]at C;have k:=AA0 (W:=W) z y B (s.len+1) s.nats (by omega) N 0 [] .nils U (by omega) (by simp only[Aa];omega) ⟨OM.start s,by omega⟩ t (Fr.refl v) (ES.nil U 3) (λ_ h=>h.elim) t.n;have g:∀K,jk E D W K s U=K s .nils (AA 0) U:=by
   intro K;unfold jk;simp only[↓rP,rA,AE,AF,AD,n]
  simp only[];cases w:HA N s.len (s.len+1) (HS N s.nats)with
  | error p=>
   rw[w]at k;obtain⟨U',r,q⟩:=k;exact⟨U',(g _).trans r,q⟩
  | ok ts=>
   rw[w]at k;obtain⟨x,U',r,A,o,q⟩:=k;exact⟨x,U',(g _).trans r,A,o,q⟩
end
def FU(er:Er)(e a:Nat):Er:=match decide (er.1=0)with
 | true=>(e,a)
 | false=>er
def Ew(s:BS)(l:List Ad)(er:Er):Bool × List Ad:=match decide (er.1=0)with
 | true=>CP s l
 | false=>(false,l)
def CG(s:BS)(l:List Ad)(er:Er):List Ad × Er:=match decide (er.1=0)with
 | false=>(l,er)
 | true=>match FE s l with
  | true=>(Fh l,er)
  | false=>(l,FU er 7 (BJ l).2.2)
def Dz(k:Nat)(l:List Ad)(er:Er):List Nat × List Ad × Er:=match decide (er.1=0)&&decide ((BJ l).1=k)with
 | true=>((BJ l).2.1,Fh l,er)
 | false=>([],l,FU er 7 (BJ l).2.2)
def J1(l:List Ad)(er:Er):Int × List Ad × Er:=match Dz 3 l er with
 | (w,a,er1)=>(Pt w,a,er1)
def Fc(F:List V->H->AH):Prop:=∀{U a b ts l}{R:Rp} e (t:Ad),Ps U a b ts l R->∃U',F [.ptr a 0,.int .i64 (AA e),.agg (Bu t)] U=some (.tup [],U')/\Ps U' a b ts l (R.e (FU R.er e t.2.2))/\Fr (λk=>k=a) U U'
def Ft(F:List V->H->AH):Prop:=∀{U a b ts l}{R:Rp} s,Ps U a b ts l R->∃U',F [.ptr a 0,.str s] U=some (.bool (Ew s l R.er).1,U')/\Ps U' a b ts (Ew s l R.er).2 R/\Fr (λk=>k=a) U U'
def Di(F:List V->H->AH):Prop:=∀{U a b ts l}{R:Rp} s,Ps U a b ts l R->∃U',F [.ptr a 0,.str s] U=some (.tup [],U')/\Ps U' a b ts (CG s l R.er).1 (R.e (CG s l R.er).2)/\Fr (λk=>k=a) U U'
def GY(F:List V->H->AH):Prop:=∀{U a b ts l}{R:Rp} k,Ps U a b ts l R->∃U',F [.ptr a 0,.int .i64 (AA k)] U=some (.str (BO (Dz k l R.er).1),U')/\Ps U' a b ts (Dz k l R.er).2.1 (R.e (Dz k l R.er).2.2)/\Fr (λk=>k=a) U U'
def Tb(F:List V->H->AH):Prop:=∀U m a,(∀d∈a,Ai d=true)->a≠[]->(De m a).length<=10000->C4 0 a<=Jc m->F [.str (BO (De m a))] U=some (.int .i64 (Pt (De m a)),U)
def JA(F:List V->H->AH):Prop:=∀{U a b ts l}{R:Rp},Ps U a b ts l R->∃U',F [.ptr a 0] U=some (.int .i64 (J1 l R.er).1,U')/\Ps U' a b ts (J1 l R.er).2.1 (R.e (J1 l R.er).2.2)/\Fr (λk=>k=a) U U'
theorem vY{w}(b:∀c∈w,c<256):(BO w).beq (BS.mk 0 0)=decide (w=[]):=by
 rw[<-GA,BS.beq_nats,Dk b,Dk (λ_ h=>by cases h)]
theorem Z7{z}(f : -9223372036854775808<=z)(g:z<=9223372036854775807):BH .i64 z=z:=by
 unfold BH;have:inK .i64 z=true:=by
  cases z with
  | ofNat m=>
   show Ac m 9223372036854775807=true;rw[Ag];have g:(m:Int)<=9223372036854775807:=g;omega
  | negSucc m=>
   show Cr m 9223372036854775808=true;rw[Cs];have f :=f;omega
 rw[this]
theorem mO{v}(h:v<=9223372036854775808):Ez .i64 (mP .i64 (BH .i64 (Ez .u64 (AA v) (AA 1)))) (AA 1) = -AA v:=by
 by_cases f:v=0
 ·subst f;rfl
 have g:Ez .u64 (AA v) (AA 1)=AA (v-1):=by
  show BH .u64 (AA v-AA 1)=_;rw[show AA v-AA 1=AA (v-1)from(Int.ofNat_sub (by omega)).symm];exact Cq (show v-1<=18446744073709551615 by omega)
 have j:BH .i64 (AA (v-1))=AA (v-1):=Cq (show v-1<=9223372036854775807 by omega);rw[g,j];have k:mP .i64 (AA (v-1)) = -AA (v-1):=by
  show BH .i64 (Int.sub 0 (AA (v-1)))=_;rw[show Int.sub 0 (AA (v-1)) = -AA (v-1)from Int.zero_sub _];exact Z7 (z:=-((v-1:Nat):Int)) (by omega) (by omega)
 rw[k];show BH .i64 (-AA (v-1)-AA 1)=_;have i : -AA (v-1)-AA 1 = -v:=by
  show -((v-1:Nat):Int)-1=_;omega
 rw[i];exact Z7 (by omega) (by omega)
section
variable {E:EB}{D:Am}{W:AJ}{N:Nat}
theorem mM:C0 (F15 E D W N):=by
 intro U j k ts l R h;obtain⟨t,l,rfl⟩:=h.hd;obtain⟨a,g,i⟩:=h.ex;have rd:=λJ=>Uo (E:=E) h.src i J;unfold Bu at rd;unfold II at g;show qM E D W j 0 U=some (.agg (Bu t),U);unfold qM Bu;simp only[↓rP,rA,AE,AF,AD,↓AT g,↓rd]
theorem cZ:FL (F31 E D W N):=by
 intro U z A ts l R h;obtain⟨t,l,rfl⟩:=h.hd;obtain⟨a,o,v⟩:=h.ex;have rd:=λJ=>Uo (E:=E) h.src v J;have n:a+(l.length+1)=ts.length:=by
  have:=congrArg Du v;simp only[AQ,AK]at this;omega
 have B:=h.ok.few;have y:BP .i64 (AA a) (AA 1)=AA (a+1):=BB (by omega);have x:∀J,BV A J=J ts.length:=λJ=>h.src.slen;show ∃U',fC E D W (fB E D W) z 0 U=some (.agg (Bu t),U')/\_;by_cases r:t.1=0
 ·have:=h.end_iff.1 r
  subst this;simp only[Aa]at n;have w:decide (a+1<ts.length)=false:=decide_eq_false (by omega);refine⟨U,?_,h,Fr.refl h.ht⟩;unfold Bu at rd ⊢;unfold II at o;unfold fC fB;simp only[↓rP,rA,AE,AF,AD,↓AT o,↓rd,y,↓x,w]
 ·obtain⟨U',g,p,f⟩:=h.adv o v r
  have s:=λe=>r (h.end_iff.2 e);have w:decide (a+1<ts.length)=true:=decide_eq_true (by have:=tn.2 s;omega);refine⟨U',?_,p,f⟩;unfold Bu at rd ⊢;unfold II at o;unfold fC fB;simp only[↓rP,rA,AE,AF,AD,↓AT o,↓rd,y,↓x,w,↓g]
theorem dD:Fc (F16 E D (AZ E D) N):=by
 intro U f lv ts l R e t h;have aa:=h.lt;obtain⟨o,v,f1,a1,n1⟩:=Ia h.ht (Bu t);have i:=h.fr0 f1;obtain⟨a,p,X⟩:=i.ex;unfold Bu at v;show ∃U',fG E D (AZ E D) f 0 (AA e) (AA t.1) (BO t.2.1) (AA t.2.2) U=_/\_;unfold FU;by_cases u:R.er.1=0
 ·rw[decide_eq_true u]
  have G:=(Cn (E:=E) (n:=11) (S:=Af) i.ht).fr;have I:=G.at_ p i.ht (λh=>h);unfold II at I;obtain⟨U2,P,L,O⟩:=Fj (n:=1) (x := .tmp 17) (y := .tmp 13) (e:=[(17,.ptr f 7),(13,.int .i64 (AA e))]) G.tidy I rfl rfl rfl;obtain⟨U3,Z,f3,T⟩:=Fj (n:=1) (x := .tmp 19) (y := .tmp 15) (e:=[(19,.ptr f 8),(15,.int .i64 (AA t.2.2))]) L.tidy O rfl rfl rfl;have go:ID E D o 11 0 (λk=>k=f) YS fe ⟨[(0,.ptr f 0),(1,.int .i64 (AA e)),(5,.ptr U.next 0)],o.next+11,[o.bl],[],0,[]⟩ _ U3:=
   EI (.ptr f 0) rfl rfl <|
   EI (.ptr f 0) rfl rfl <|
   EI (.int .i64 (AA e)) rfl rfl <|
   EI (.ptr U.next 2) rfl rfl <|
   RA (.int .i64 (AA t.2.2)) (Cn i.ht) rfl (FG rfl a1 rfl i.ht (by omega) (Bz _ rfl)) λ_ Y=>
   EI (.ptr f 0) rfl rfl <|
   EI (.ptr f 7) rfl rfl <|
   OZ .dead Y rfl (by decide) L (λ_ _ h=>h) (λb h i _=>by omega) P λ_ _ _ M=>
   EI (.ptr f 0) rfl rfl <|
   EI (.ptr f 8) rfl rfl <|
   OZ .dead M rfl (by decide) f3 (λ_ _ h=>h) (λb h i _=>by omega) Z λ_ _ _ r3=>
   Li r3
  obtain⟨Q,A⟩:=JP (ops:=YS) go;have w:∀J,∃F,DZ (AZ E D YS fe [(0,.ptr f 0),(1,.int .i64 (AA e)),(5,.ptr U.next 0)] o) J=J F U3:=λJ=>⟨_,by rw[Q];rfl⟩;obtain⟨F,w⟩:=w (λ_ s=>some (.tup [],s));have C:=(f1.mono (λ_ _ h=>h.elim):Fr (λk=>k=f) U o).trans A (λ_ _ h=>h);refine⟨U3,?_,⟨⟨a,T,X⟩,i.src.fr A i.ht λb W e=>h.nx b W e,h.ne,h.nx,h.ok,A.tidy⟩,C⟩;unfold II at p;unfold fG OU;simp only[↓rP,rA,AE,AF,AD,↓v,↓AT p,decide_eq_true u];exact w
 ·rw[decide_eq_false u]
  refine⟨o,?_,i,f1.mono (λ_ _ h=>h.elim)⟩;unfold II at p;unfold fG OU;simp only[↓rP,rA,AE,AF,AD,↓v,↓AT p,decide_eq_false u]
theorem yU(z:C0 (D 15))(x:FL (D 31)):Ft (F14 E D W N):=by
 intro U y G ts l R s h;have g:=z h;obtain⟨U',v,C,A⟩:=x h;obtain⟨a,r,F⟩:=h.ex;unfold II at r;unfold Bu at g v;show ∃U',Xr E D W y 0 s U=_/\_;unfold Ew CP FE;generalize BJ l=t at g v ⊢;cases w:decide (R.er.1=0)with
 | false=>
  refine⟨U,?_,h,Fr.refl h.ht⟩;unfold Xr;simp only[↓rP,rA,AE,AF,AD,↓g,↓AT r,w]
 | true=>
  cases q:((decide (t.1=5) || decide (t.1=6))&&(BO t.2.1).beq s)with
  | true=>
   refine⟨U',?_,C,A⟩;unfold Xr;cases n:decide (t.1=5)<;>cases o:decide (t.1=6)<;>cases p:(BO t.2.1).beq s<;>rw[n,o,p]at q <;>
    first
    | (exact absurd q (by decide)) | simp only[↓rP,rA,AE,AF,AD,↓g,↓AT r,w,n,o,p,↓v]
  | false=>
   refine⟨U,?_,h,Fr.refl h.ht⟩;unfold Xr;cases n:decide (t.1=5)<;>cases o:decide (t.1=6)<;>cases p:(BO t.2.1).beq s<;>rw[n,o,p]at q <;>
    first
    | (exact absurd q (by decide)) | simp only[↓rP,rA,AE,AF,AD,↓g,↓AT r,w,n,o,p]
theorem cd(w:Ft (D 14))(z:C0 (D 15))(u:Fc (D 16)):Di (F13 E D W N):=by
 intro U t B ts l R s h;obtain⟨a,m,A⟩:=h.ex;unfold II at m;obtain⟨y,j,e,f1⟩:=w s h;show ∃U',Xs E D W t 0 s U=_/\_;unfold Ew CP at j e;unfold CG;cases k:decide (R.er.1=0)with
 | false=>
  refine⟨U,?_,h,Fr.refl h.ht⟩;unfold Xs;simp only[↓rP,rA,AE,AF,AD,↓AT m,k]
 | true=>
  rw[k]at j e;cases r:FE s l with
  | true=>
   rw[r]at j e;refine⟨y,?_,e,f1⟩;unfold Xs;simp only[↓rP,rA,AE,AF,AD,↓AT m,k,↓j]
  | false=>
   rw[r]at j e;have e:=e;have q:=z e;obtain⟨U3,o,x,v⟩:=u 7 (BJ l) e;unfold Bu at q o;refine⟨U3,?_,x,f1.trans v (λ_ _ h=>h)⟩;unfold Xs;simp only[↓rP,rA,AE,AF,AD,↓AT m,k,↓j,↓q,↓o]
theorem cr(B:C0 (D 15))(w:FL (D 31))(C:Fc (D 16)):GY (F12 E D W N):=by
 intro U z F ts l R k h;obtain⟨a,j,G⟩:=h.ex;unfold II at j;have m:=B h;obtain⟨y,r,x,A⟩:=w h;obtain⟨U3,q,u,v⟩:=C 7 (BJ l) h;unfold Bu at m r q;show ∃U',Xt E D W z 0 (AA k) U=_/\_;unfold Dz;generalize BJ l=t at *;cases o:decide (R.er.1=0)with
 | false=>
  rw[BY];refine⟨U3,?_,u,v⟩;rw[GA];unfold Xt;simp only[↓rP,rA,AE,AF,AD,↓AT j,o,↓m,↓q]
 | true=>
  rw[BX];cases s:decide (t.1=k)with
  | true=>
   refine⟨y,?_,x,A⟩;unfold Xt;simp only[↓rP,rA,AE,AF,AD,↓AT j,o,↓m,s,↓r]
  | false=>
   refine⟨U3,?_,u,v⟩;rw[GA];unfold Xt;simp only[↓rP,rA,AE,AF,AD,↓AT j,o,↓m,s,↓q]
theorem xk U m (s:BS):∀(f:List Nat) n i v,(∀d∈f,Ai d=true)->f.length<n->HN s i f->C4 v f<=9223372036854775808 ->
  fQ E D W N n s m (AA v) (AA i) U=SO E D W N m (AA (C4 v f)) U
 | [],n,i,v,t,y,h,x=>by
  obtain⟨n,rfl⟩:∃j,n=j+1:=⟨n-1,by omega⟩;have u:decide (i<s.len)=false:=decide_eq_false (by have:=h.nil;omega);show Rh E D W (SO E D W N) _ s m (AA v) (AA i) U=_;have p:∀K R,Rh E D W K R s m (AA v) (AA i) U=K m (AA v) U:=by
   intro K R;unfold Rh;simp only[↓rP,rA,AE,AF,AD,u]
  exact p _ _
 | c::f,n,i,v,t,y,h,x=>by
  obtain⟨n,rfl⟩:∃j,n=j+1:=⟨n-1,by omega⟩;have w:=GW (t c (As ..));have J:=h.le;have e:=h.ix;have u:=decide_eq_true h.lt;have r:C4 (10*v+(c-48)) f<=9223372036854775808:=x;have L:=av f (10*v+(c-48));have z:BP .i64 (AA i) (AA 1)=AA (i+1):=BB (by omega);have B:Ez .u8 (AA c) (AA 48)=AA (c-48):=by
   show BH .u8 (AA c-AA 48)=_;rw[show AA c-AA 48=AA (c-48)from(Int.ofNat_sub w.1).symm];exact Cq (show c-48<=255 by omega)
  have C:BH .u64 (AA (c-48))=AA (c-48):=Cq (show c-48<=18446744073709551615 by omega);have A:Qx .u64 (AA 10) (AA v)=AA (10*v):=by
   show BH .u64 (AA (10*v))=_;exact Cq (show 10*v<=18446744073709551615 by omega)
  have G:BP .u64 (AA (10*v)) (AA (c-48))=AA (10*v+(c-48)):=by
   show BH .u64 (AA (10*v+(c-48)))=_;exact Cq (show 10*v+(c-48)<=18446744073709551615 by omega)
  have F:=xk U m s f n (i+1) (10*v+(c-48)) (λd h=>t d (Ar _ h)) (by simp at y;omega) h.tl r;show Rh E D W (SO E D W N) (fQ E D W N n) s m (AA v) (AA i) U=SO E D W N m (AA (C4 (10*v+(c-48)) f)) U;have p:∀K R,Rh E D W K R s m (AA v) (AA i) U=R s m (AA (10*v+(c-48))) (AA (i+1)) U:=by
   intro K R;unfold Rh;simp only[↓rP,rA,AE,AF,AD,u,↓e,z,B,C,A,G]
  rw[p,F]
theorem xl(Y:10010<N):Tb (F64 E D W N):=by
 intro U m z u F k T;have G:∀c∈z,c<256:=λc o=>by have:=GW (u c o);omega
 have X:Jc m<=9223372036854775808:=by unfold Jc;split<;>omega
 obtain⟨d,l,rfl⟩:∃d l,z=d::l:=by
  cases z with
  | nil=>exact absurd rfl F | cons d l=>exact⟨d,l,rfl⟩
 have L:=GW (u d (As ..));have s:∀w,(∀c∈w,c<256)->w.length<=10000->HN (BO w) 0 w:=λw Q O=>⟨by have:=OM.start (BO w);rwa [Dk Q]at this,by rw[DR];exact O⟩;have B:(d::l).length<=10000:=by
  cases m with
  | false=>exact k | true=>
   have:(45::d::l).length<=10000:=k;simp only[AK]at this ⊢;omega
 have A:=s (d::l) G B;have C:Tn E D W N (BO (d::l)) m U=SO E D W N m (AA (C4 0 (d::l))) U:=xk U m (BO (d::l)) (d::l) N 0 0 u (by omega) A (by omega);have p:SO E D W N m (AA (C4 0 (d::l))) U=some (.int .i64 (Pt (De m (d::l))),U):=by
  rw[cW u F];show eC E D W m (AA (C4 0 (d::l))) U=_;cases m with
  | true=>
   have e:=mO (v:=C4 0 (d::l)) (by omega);unfold eC;simp only[↓rP,rS,e,if_true];rfl
  | false=>
   have e:BH .i64 (AA (C4 0 (d::l)))=AA (C4 0 (d::l)):=Cq (show C4 0 (d::l)<=9223372036854775807 from T);unfold eC;simp only[↓rP,rS,e,if_false,CF];rfl
 cases m with
 | false=>
  have M:decide (d=45)=false:=decide_eq_false (by omega);have e:=A.ix;show Ri E D W (Tn E D W N) (BO (d::l)) U=_;have n:∀K,Ri E D W K (BO (d::l)) U=K (BO (d::l)) false U:=by
   intro K;have e:=e;unfold Ri;simp only[↓rP,rA,AE,AF,AD,↓e,M]
  rw[n,C,p]
 | true=>
  have r:∀c∈45::d::l,c<256:=λc o=>by
   rcases BK.1 o with rfl|o
   ·decide
   ·exact G c o
  have S:=s (45::d::l) r k;have e:=S.ix;have R:∀J,BA (BO (45::d::l)) (some (.int .i64 (AA 1))) none J=J (BO (d::l)):=λJ=>by
   rw[G7 (by rw[DR];simp),Wo r (by simp)];rfl
  show Ri E D W (Tn E D W N) (BO (45::d::l)) U=_;have n:∀K,Ri E D W K (BO (45::d::l)) U=K (BO (d::l)) true U:=by
   intro K;have e:=e;unfold Ri;simp only[↓rP,rA,AE,AF,AD,↓e,↓R]
  rw[n,C,p]
theorem mJ(C:GY (D 12))(I:Tb (D 64)):JA (F33 E D W N):=by
 intro U B J ts l R h;obtain⟨o,d,i,f1⟩:=C 3 h;have x:=Nh h;show ∃U',ey E D W (.ptr B 0) U=_/\_;unfold J1;unfold Dz at d i ⊢;cases r:decide (R.er.1=0)&&decide ((BJ l).1=3)with
 | false=>
  rw[r]at d i;have d:=d;have v:(BO []).beq (BS.mk 0 0)=true:=by rw[GA];decide +kernel
  refine⟨o,?_,i,f1⟩;unfold ey;simp only[↓rP,rA,AE,AF,AD,↓d,v];rfl
 | true=>
  rw[r]at d i;have A:(BJ l).1=3:=by rw[AI,decide_eq_true_eq,decide_eq_true_eq]at r;exact r.2
  obtain⟨m,y,s,z,k,G⟩:=h.ok.nums _ x A;have f:=h.ok.oct _ x;have d:=d;have n:(BJ l).2.1≠[]:=by
   rw[s];unfold De;split
   ·exact List.cons_ne_nil _ _
   ·exact k
  have v:(BO (BJ l).2.1).beq (BS.mk 0 0)=false:=by rw[vY f.2,decide_eq_false n]
  have F:D 64 [.str (BO (BJ l).2.1)] o=some (.int .i64 (Pt (BJ l).2.1),o):=by
   rw[s];exact I o m y z k (by rw[<-s];exact f.1) G
  refine⟨o,?_,i,f1⟩;unfold ey;simp only[↓rP,rA,AE,AF,AD,↓d,v,↓F]
end
def FB.v(c:FB):List V:=[.bool c.has,.bool c.hasLow,.bool c.hasHigh,.bool c.more,.int .i64 c.low,.int .i64 c.high]
def LY(l:List Ad)(er:Er):FB × List Ad × Er:=match Ew (BS.mk 3 5130573) l er with
 | (true,b)=>(⟨true,false,false,false,0,0⟩,b,er)
 | (false,b)=>match J1 b er with
  | (n,c,a)=>(⟨true,true,false,false,n,0⟩,c,a)
def HW(c:FB)(l:List Ad)(er:Er):FB × List Ad × Er:=match Ew (BS.mk 2 11822) l er with
 | (true,a)=>match Ew (BS.mk 3 5783885) a er with
  | (true,b)=>(c,b,er)
  | (false,b)=>match J1 b er with
   | (n,e,d)=>(⟨c.has,c.hasLow,true,c.more,c.low,n⟩,e,d)
 | (false,a)=>match c.hasLow with
  | true=>(⟨c.has,true,true,c.more,c.low,c.low⟩,a,er)
  | false=>(c,a,er)
def Kp(c:FB)(l:List Ad)(er:Er):FB × List Ad × Er:=match Ew (BS.mk 1 44) l er with
 | (true,b)=>match CG (BS.mk 3 3026478) b er with
  | (d,a)=>(⟨c.has,c.hasLow,c.hasHigh,true,c.low,c.high⟩,d,a)
 | (false,b)=>(c,b,er)
def Jb(l:List Ad)(er:Er):FB × List Ad × Er:=match LY l er with
 | (b,c,er1)=>match HW b c er1 with
  | (d,e,a)=>Kp d e a
def Ix(l:List Ad)(er:Er):FB × List Ad × Er:=match Ew (BS.mk 1 40) l er with
 | (false,f)=>(Of,f,er)
 | (true,f)=>match CG (BS.mk 4 1163544915) f er with
  | (j,a)=>match CG (BS.mk 1 40) j a with
   | (i,b)=>match Jb i b with
    | (c,l4,er4)=>match CG (BS.mk 1 41) l4 er4 with
     | (g,d)=>match CG (BS.mk 1 41) g d with
      | (h,e)=>(c,h,e)
def Si:List BS:=[BS.mk 1 91,BS.mk 7 22026814072246082,BS.mk 4 1280070990,BS.mk 10 488440487847103610377301,BS.mk 7 23157120498421321,BS.mk 5 361940403023,BS.mk 10 322399817400452109389381,BS.mk 3 5522771,BS.mk 6 76155295057987,BS.mk 8 4990918871747741011]
def oQ(t:Ad):Bool:=(Si.any λx=>x.beq (BO t.2.1)&&(decide (t.1=5) || decide (t.1=6))) || decide (t.1=1)
def V3(F:List V->H->AH):Prop:=∀U t,CI U->∃U',F [.agg (Bu t)] U=some (.bool (oQ t),U')/\Fr Af U U'
def SB(F:List V->H->AH):Prop:=∀{U a b ts l}{R:Rp},Ps U a b ts l R->∃U',F [.ptr a 0] U=some (.agg (Jb l R.er).1.v,U')/\Ps U' a b ts (Jb l R.er).2.1 (R.e (Jb l R.er).2.2)/\Fr (λk=>k=a) U U'
def Vx(F:List V->H->AH):Prop:=∀{U a b ts l}{R:Rp},Ps U a b ts l R->∃U',F [.ptr a 0] U=some (.agg (Ix l R.er).1.v,U')/\Ps U' a b ts (Ix l R.er).2.1 (R.e (Ix l R.er).2.2)/\Fr (λk=>k=a) U U'
section
variable {E:EB}{D:Am}{W:AJ}{N:Nat}
theorem oP(hN:100<N):V3 (F32 E D W N):=by
 intro U t S;obtain⟨s,I,f1,a1,n1⟩:=Ia S (Bu t);obtain⟨i,B,G,O,n2⟩:=Ia f1.tidy (Si.map .str);have z:=G.at_ a1 f1.tidy (λh=>h);refine⟨i,?_,f1.trans G (λ_ _ h=>h)⟩;have C:∀m j n,j+m=10->m<n->YG E D W N n U.next 0 (.sl s.next 0 10 (.ex 10)) (AA j) i=some (.bool (((Si.drop j).any λx=>x.beq (BO t.2.1)&&(decide (t.1=5) || decide (t.1=6))) || decide (t.1=1)),i):=by
  intro m;induction m with
  | zero=>
   intro j n hj Q;obtain⟨n,rfl⟩:∃k,n=k+1:=⟨n-1,by omega⟩;obtain rfl:j=10:=by omega
   show Ro E D W (Xo E D W) _ U.next 0 (.sl s.next 0 10 (.ex 10)) (AA 10) i=_;unfold Bu at z;have l:∀R,Ro E D W (Xo E D W) R U.next 0 (.sl s.next 0 10 (.ex 10)) (AA 10) i=some (.bool (decide (t.1=1)),i):=by
    intro R;unfold Ro Xo;simp only[↓rP,rA,AE,AF,AD,JH,↓AT z]
   rw[l];rfl
  | succ m P=>
   intro j n hj Q;obtain⟨n,rfl⟩:∃k,n=k+1:=⟨n-1,by omega⟩;have L:j<Si.length:=by show j<10;omega
   rw[EE L,P0];have T:decide (j<10)=true:=decide_eq_true (by omega);have rd:∀J,Bl 1 (.sl s.next 0 10 (.ex 10)) (AA j) (λb o=>Ee E i b o J)=J (.str Si[j]):=λJ=>by
    rw[DG (show j<10 by omega)];refine MI O ?_;show (Si.map V.str)[0+j*1]? = _;rw[BQ,DO,BR,AV L];rfl
   have A:=P (j+1) n (by omega) (by omega);show Ro E D W (Xo E D W) (YG E D W N n) U.next 0 (.sl s.next 0 10 (.ex 10)) (AA j) i=_;generalize Si[j]=u at rd ⊢;unfold Bu at z;have l:∀K R,Ro E D W K R U.next 0 (.sl s.next 0 10 (.ex 10)) (AA j) i=AG (u.beq (BO t.2.1)&&(decide (t.1=5) || decide (t.1=6))) (some (.bool true,i)) (R U.next 0 (.sl s.next 0 10 (.ex 10)) (AA (j+1)) i):=by
    intro K R;unfold Ro;cases Y:u.beq (BO t.2.1)<;>cases X:decide (t.1=5)<;>cases Z:decide (t.1=6)<;>simp only[↓rP,rA,AE,AF,AD,T,↓rd,↓AT z,Y,X,Z,BB (show j+1<=9223372036854775807 by omega)]<;>rfl
   rw[l,A];cases u.beq (BO t.2.1)&&(decide (t.1=5) || decide (t.1=6))<;>rfl
 have g:=C 10 0 N rfl (by omega);unfold Si at B;simp only[Cf,Km]at B;unfold Bu at I ⊢;show fA E D W (YG E D W N N) (AA t.1) (BO t.2.1) (AA t.2.2) U=_;have l:∀K,fA E D W K (AA t.1) (BO t.2.1) (AA t.2.2) U=K U.next 0 (.sl s.next 0 10 (.ex 10)) (AA 0) i:=by
  intro K;unfold fA;simp only[↓rP,rS,↓I,↓B]
 rw[l,g];rfl
theorem AHm(u:Ft (D 14))(s:JA (D 33)){U i q ts l}{R:Rp}(h:Ps U i q ts l R):
  ∃U',(∀K,Xl E D W K (.ptr i 0) U=K (.ptr i 0) false false false false (AA 0) (AA 0) (LY l R.er).1.has (LY l R.er).1.hasLow (LY l R.er).1.hasHigh (LY l R.er).1.more (LY l R.er).1.low (LY l R.er).1.high U')/\Ps U' i q ts (LY l R.er).2.1 (R.e (LY l R.er).2.2)/\Fr (λk=>k=i) U U':=by
 obtain⟨z,m,j,f1⟩:=u (BS.mk 3 5130573) h;unfold LY;generalize Ew (BS.mk 3 5130573) l R.er=y at m j ⊢;obtain⟨b,A⟩:=y;simp only[]at m j;cases b with
 | true=>
  refine⟨z,λK=>?_,j,f1⟩;unfold Xl;simp only[↓rP,rS,↓m];rfl
 | false=>
  obtain⟨t,r,p,w⟩:=s j;simp only[]at ⊢;generalize J1 A R.er=v at r p ⊢;obtain⟨n,B,x⟩:=v;refine⟨t,λK=>?_,p,f1.trans w (λ_ _ h=>h)⟩;unfold Xl;simp only[↓rP,rS,↓m,↓r];rfl
theorem ABN(y:Ft (D 14))(G:JA (D 33)){U o z ts l}{R:Rp}(h:Ps U o z ts l R)(c:FB) v x t A F s:
  ∃U',(∀K,Rf E D W K (.ptr o 0) v x t A F s c.has c.hasLow c.hasHigh c.more c.low c.high U=K (.ptr o 0) v x t A F s (HW c l R.er).1.has (HW c l R.er).1.hasLow (HW c l R.er).1.hasHigh (HW c l R.er).1.more (HW c l R.er).1.low (HW c l R.er).1.high U')/\Ps U' o z ts (HW c l R.er).2.1 (R.e (HW c l R.er).2.2)/\Fr (λk=>k=o) U U':=by
 obtain⟨w,m,p,f1⟩:=y (BS.mk 2 11822) h;unfold HW;generalize Ew (BS.mk 2 11822) l R.er=s at m p ⊢;obtain⟨b,O⟩:=s;simp only[]at m p;obtain⟨c0,P,Z,Y,c4,T⟩:=c;cases b with
 | true=>
  obtain⟨M,r,u,N⟩:=y (BS.mk 3 5783885) p;simp only[]at ⊢;generalize Ew (BS.mk 3 5783885) O R.er=I at r u ⊢;obtain⟨t,S⟩:=I;simp only[]at r u;have q:=f1.trans N (λ_ _ h=>h);cases t with
  | true=>
   refine⟨M,λK=>?_,u,q⟩;unfold Rf;simp only[↓rP,rS,↓m,↓r]
  | false=>
   obtain⟨U3,C,B,Q⟩:=G u;simp only[]at ⊢;generalize J1 S R.er=J at C B ⊢;obtain⟨n,X,L⟩:=J;refine⟨U3,λK=>?_,B,q.trans Q (λ_ _ h=>h)⟩;unfold Rf;simp only[↓rP,rS,↓m,↓r,↓C]
 | false=>
  cases P with
  | true=>
   refine⟨w,λK=>?_,p,f1⟩;unfold Rf;simp only[↓rP,rS,↓m]
  | false=>
   refine⟨w,λK=>?_,p,f1⟩;unfold Rf;simp only[↓rP,rS,↓m,Bx]
theorem ABX(z:Ft (D 14))(t:Di (D 13)){U j r ts l}{R:Rp}(h:Ps U j r ts l R)(c:FB) v F A C y o:
  ∃U',Xk E D W (Xj E D W) (.ptr j 0) v F A C y o c.has c.hasLow c.hasHigh c.more c.low c.high U=some (.agg (Kp c l R.er).1.v,U')/\Ps U' j r ts (Kp c l R.er).2.1 (R.e (Kp c l R.er).2.2)/\Fr (λk=>k=j) U U':=by
 obtain⟨u,n,m,f1⟩:=z (BS.mk 1 44) h;unfold Kp;generalize Ew (BS.mk 1 44) l R.er=o at n m ⊢;obtain⟨b,I⟩:=o;simp only[]at n m;cases b with
 | true=>
  obtain⟨G,s,q,B⟩:=t (BS.mk 3 3026478) m;simp only[]at ⊢;generalize CG (BS.mk 3 3026478) I R.er=w at s q ⊢;obtain⟨J,x⟩:=w;refine⟨G,?_,q,f1.trans B (λ_ _ h=>h)⟩;unfold Xk Xj;simp only[↓rP,rS,↓n,↓s];rfl
 | false=>
  refine⟨u,?_,m,f1⟩;unfold Xk Xj;simp only[↓rP,rS,↓n];rfl
theorem oL(j:Ft (D 14))(m:JA (D 33))(q:Di (D 13)):SB (F66 E D W N):=by
 intro U t I ts l R h;obtain⟨F,v,k,f1⟩:=AHm j m h;show ∃U',Xl E D W (Rf E D W (Xk E D W (Xj E D W))) (.ptr t 0) U=_/\_;rw[v];unfold Jb;generalize LY l R.er=u at k ⊢;obtain⟨n,A,er1⟩:=u;simp only[]at k ⊢;obtain⟨G,r,f,y⟩:=ABN j m k n false false false false (AA 0) (AA 0);rw[r];have s:(R.e er1).er=er1:=rfl;rw[s]at f ⊢;generalize HW n A er1=x at f ⊢;obtain⟨C,J,p⟩:=x;simp only[]at f ⊢;obtain⟨U3,w,z,B⟩:=ABX j q f C false false false false (AA 0) (AA 0);exact⟨U3,w,z,(f1.trans y (λ_ _ h=>h)).trans B (λ_ _ h=>h)⟩
theorem ky(T:Ft (D 14))(o:Di (D 13))(G:SB (D 66)):Vx (F65 E D W N):=by
 intro U B lv ts l R h;obtain⟨X,s,t,f1⟩:=T (BS.mk 1 40) h;show ∃U',eB E D W (.ptr B 0) U=_/\_;unfold Ix;generalize Ew (BS.mk 1 40) l R.er=M at s t ⊢;obtain⟨b,l1⟩:=M;simp only[]at s t;cases b with
 | false=>
  refine⟨X,?_,t,f1⟩;unfold eB;simp only[↓rP,rS,↓s];rfl
 | true=>
  obtain⟨U2,J,u,Z⟩:=o (BS.mk 4 1163544915) t;simp only[]at ⊢;generalize CG (BS.mk 4 1163544915) l1 R.er=i2 at u ⊢;obtain⟨z,i⟩:=i2;simp only[]at u ⊢;obtain⟨U3,O,r,A⟩:=o (BS.mk 1 40) u;have e2:(R.e i).er=i:=rfl;rw[e2]at r;generalize CG (BS.mk 1 40) z i=F at r ⊢;obtain⟨P,j⟩:=F;simp only[]at r ⊢;obtain⟨U4,n,q,Y⟩:=G r;have K:((R.e i).e j).er=j:=rfl;rw[K]at n q;generalize Jb P j=S at n q ⊢;obtain⟨c,l4,er4⟩:=S;simp only[]at n q ⊢;obtain⟨U5,Q,p,f5⟩:=o (BS.mk 1 41) q;have C:(((R.e i).e j).e er4).er=er4:=rfl;rw[C]at p;generalize CG (BS.mk 1 41) l4 er4=L at p ⊢;obtain⟨l5,m⟩:=L;simp only[]at p ⊢;obtain⟨U6,g6,y,f6⟩:=o (BS.mk 1 41) p;have I:((((R.e i).e j).e er4).e m).er=m:=rfl;rw[I]at y;refine⟨U6,?_,y,((((f1.trans Z (λ_ _ h=>h)).trans A (λ_ _ h=>h)).trans Y (λ_ _ h=>h)).trans f5 (λ_ _ h=>h)).trans f6 (λ_ _ h=>h)⟩;unfold FB.v at n ⊢;unfold eB;simp only[↓rP,rS,↓s,↓J,↓O,↓n,↓Q,↓g6]
end
end
end Go.Proofs.YtnpcmeaplmfdlaaGreatDoor
