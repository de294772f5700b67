/- What the last text leans on, part 6 of 8: merged out of smaller texts. No condition. -/
import Derived.Test.YtpbligmafbkeaaaGreatDoorQ4
open Int renaming ofNat -> AA,negSucc -> A1
open Nat renaming reduceLeDiff -> AB,reduceEqDiff -> AD,reduceLT -> AG,le_refl -> AL,add -> AM,ble -> Am,lt_or_ge -> A2,le_trans -> BE,zero_add -> BV,ble_eq -> Bn,blt -> B9,zero_le -> CA,mul_one -> CB,blt_eq -> Co,not_lt_zero -> DH,lt_irrefl -> Dp,add_assoc -> D4,le_succ -> El,le_add_right -> FT,mul_le_mul_right -> Fm,beq_refl -> Gb,min_eq_left -> Ha,sub_zero -> NH,add_zero -> ABw,eq_zero_or_pos -> AJB
open List renaming getElem?_eq_getElem -> AI,getElem?_eq_some_iff -> AN,length_append -> AP,mem_cons_self -> AZ,length_cons -> Ag,getElem?_map -> As,getElem?_append_right -> Aw,mem_cons_of_mem -> Az,mem_cons -> A0,getElem?_eq_none -> A4,length_set -> BA,append_assoc -> BC,getD_eq_getElem?_getD -> BK,replicate -> Bf,length_map -> Bp,mem_singleton -> B5,getElem?_drop -> B6,getElem?_append_left -> CH,getElem?_take_of_lt -> CQ,range -> CW,drop_drop -> Cd,length_nil -> Cm,getElem?_set_self -> C3,length_take -> DM,drop_eq_getElem_cons -> Db,all_eq_true -> EA,drop_zero -> E7,not_mem_nil -> FU,getElem_mem -> Gg,getElem?_take -> G0,nil_append -> Hb,length_range -> Ho,take_length -> Iz,drop_eq_nil_of_le -> Jt,getElem?_set_ne -> MW,length -> Rw,drop_take -> Wb,length_drop -> ey,mem_of_mem_drop -> nQ,drop_left -> AJD
open Bool renaming and_eq_true -> AQ,and_true -> Bz,or_eq_false_iff -> CX,true_and -> EX,false_or -> Fc
open Option renaming bind_eq_some_iff -> AU,map_eq_some_iff -> Aa
set_option linter.all false
set_option maxRecDepth 100000
namespace Go.Proofs.YtpbligmafbkeaaaGreatDoor
open Go Go.Og
noncomputable section
section
variable {E:EB}{D:Ac}{W:AF}{N:Nat}{U U':H}{p nT:Nat}{ty:Nat->Ty}{nm:BS}{nv rv tv:V}{rest:List V}
theorem gq{v:Vc}{n}{g:Nat->Vc}(L:n<N)(Z:n<=10000)(G:Ai U)(A:MY U 6 n v.l λk=>(g k).c)
  (T:∀U1 k,k<n->Fr AH U U1->∃l,D 38 [.agg (g k).c] U1=some (.int .i64 (AA 1),l)/\Fr AH U1 l) :
  ∃U',F38 E D W N [.agg v.c] U=some (.int .i64 (AA (1+n)),U')/\Fr AH U U':=by
 have u:∀m j i U1,i+m=n->m<j->Fr AH U U1->∃l,uk E D W N j (AA (1+i)) v.l (AA n) (AA i) U1=some (.int .i64 (AA (1+n)),l)/\Fr AH U l:=by
  intro m;induction m with
  | zero=>
   intro j i U1 Q y p;obtain⟨j,rfl⟩:∃k,j=k+1:=⟨j-1,by omega⟩;refine⟨U1,?_,p⟩;show YJ E D W _ _ (AA (1+i)) v.l (AA n) (AA i) U1=_;unfold YJ;rw[GQ,decide_eq_false (by omega),DU];obtain rfl:i=n:=by omega
   rfl
  | succ m P=>
   intro j i U1 Q y p;obtain⟨j,rfl⟩:∃k,j=k+1:=⟨j-1,by omega⟩;have q:i<n:=by omega
   have rd:∀J,AS 6 v.l (AA i) (λb o=>Bv E U1 b o 6 J)=J (g i).c:=λJ=>(A.fr0 p G).all q J;have ⟨l,F,X⟩:=T U1 i q p;have ⟨O,R,M⟩:=P j (i+1) l (by omega) (by omega) (p.trans X (λ_ _ h=>h));refine⟨O,?_,M⟩;unfold Vc.c at rd F;have S:decide (i<n)=true:=decide_eq_true q;have key:∀K1 K2,YJ E D W K1 K2 (AA (1+i)) v.l (AA n) (AA i) U1=K2 (AA (1+(i+1))) v.l (AA n) (AA (i+1)) l:=by
    intro K1 K2;unfold YJ;simp only[↓rP,rA,S,↓rd,(g i).oneB,(g i).oneL,(g i).oneM,↓F,Al (show 1+i+1<=9223372036854775807 by omega),Al (show i+1<=9223372036854775807 by omega),D4]
   exact(key _ _).trans R
 have ⟨U1,C,p,B,n1⟩:=DC G v.c;have ⟨l,h1,Y⟩:=u n N 0 U1 (by omega) L p;refine⟨l,?_,Y⟩;unfold Vc.c at C B;have x:=A.len.2;have key:∀K,sm E D W K v.k v.n v.b v.l v.r v.m U=K (AA 1) v.l (AA n) (AA 0) U1:=by
  intro K;unfold sm;simp only[↓rP,rA,AD,AG,AB,v.oneB,v.oneL,v.oneM,↓C,↓x,↓AT B]
 exact(key _).trans h1
theorem fW{u}(I:AGK (D 41) u){v:Vc}{n}{g:Nat->Vc}{d}(B:n<=10000)(t:(B8 v.r (AA 0) || B8 v.r d)=true)(x:Ai U)(A:MY U 6 n v.l λk=>(g k).c)
  (F:∀(U1:H) q k,k<n->Fr AH U U1->Bx U1 q [.int .i64 d]->∃m,u 42 ([]++[.agg (g k).c]++[.o q 0]) U1=some (.bool false,m)/\Fr AH U1 m) :
  ∃U',F23 E D W N [.agg v.c,.int .i64 d] U=some (.bool true,U')/\Fr AH U U':=by
 have ⟨U1,o,s,L,O⟩:=DC x v.c;have ⟨m,y,z,l,P⟩:=DC s.y [.int .i64 d];have a:=s.trans z (λ_ _ h=>h);have c:=z.X L s.y (λh=>h);have ⟨K,j,C⟩:=I a.y (A.fr0 a x) (λM k J w=>F M U1.j k J (a.trans w (λ_ _ h=>h)) (w.X l a.y (λh=>h))) B;rw[rX (λ_ _ _=>rfl)]at j;refine⟨K,?_,a.trans C (λ_ _ h=>h)⟩;unfold Vc.c at o c;show tD E D W v.k v.n v.b v.l v.r v.m d U=_;unfold tD;cases p:B8 v.r (AA 0)with
 | true=>simp only[↓rP,rS,GQ,Jb,v.oneB,v.oneL,v.oneM,↓o,↓y,↓AT c,↓AT l,p,↓j] | false=>
  rw[p,Fc]at t;simp only[↓rP,rS,GQ,Jb,v.oneB,v.oneL,v.oneM,↓o,↓y,↓AT c,↓AT l,p,t,↓j]
theorem wL{i n}{v:Vc}(hn:n<=5000)(F:Ai U)(G:MY U 13 nT tv λi=>(ty i).c)(h1:nv.S=true)(R:rv.S=true)(M:tv.S=true)
  (hF:∀U1 p,Ai U1->Fr AH U U1->Ck U1 p nT ty nm nv rv tv [.bool false]->∃d,D 37 [.o p 0,.int .i64 (AA i),.agg v.c,.int .i64 (AA 1)] U1=some (.bool true,d)/\Fr AH U1 d)
  (hC:∀U1,Ai U1->Fr AH U U1->∃d,D 38 [.agg v.c] U1=some (.int .i64 (AA n),d)/\Fr AH U1 d) :
  ∃U',F21 E D W N [.agg [.N nm,nv,rv,tv],.int .i64 (AA i),.agg v.c] U=some (.bool true,U')/\Fr AH U U':=by
 have ⟨U1,e1,x,Y,n1⟩:=DC F [.N nm,nv,rv,tv];have ⟨d,P,u,I,n2⟩:=DC x.y v.c;have ⟨O,e3,t,a3,n3⟩:=DC u.y [.N nm,nv,rv,tv,.bool false];have q:=x.trans u (λ_ _ h=>h);have g:=q.trans t (λ_ _ h=>h);have X:=G.fr0 g F;have c3:Ck O d.j nT ty nm nv rv tv [.bool false]:=⟨a3,h1,R,M,X,λb B e=>by
  subst e;have lo:=q.le;rcases G.is with ⟨_,rfl⟩|⟨b,c,L,rfl,ha,_⟩
  ·exact B
  ·have:=ha.lt F
   have B:d.j=b:=B;omega⟩
 have ⟨U4,Q,A⟩:=hF O d.j t.y g c3;have o:=g.trans A (λ_ _ h=>h);have ⟨Z,K,f5⟩:=hC U4 A.y o;have C:=u.X Y x.y (λh=>h);have f:=t.X I u.y (λh=>h);have m:=A.X f t.y (λh=>h);have d1:=decide_eq_true hn;refine⟨Z,?_,o.trans f5 (λ_ _ h=>h)⟩;unfold Vc.c at P I f m Q K;show tF E D W nm nv rv tv (AA i) v.k v.n v.b v.l v.r v.m U=_;unfold tF;simp only[↓rP,rA,h1,R,M,v.oneB,v.oneL,v.oneM,↓e1,↓P,↓e3,↓BU C,↓BU f,↓BU m,↓Q,↓K,d1]
end
section
variable {E:EB}{D:Ac}{W:AF}{N:Nat}{nT:Nat}{ty:Nat->Ty}{nm:BS}{nv rv tv:V}
end
theorem Fh{U:H}(b:Ai U) z:∃U1,Cb U (.cells z)=U1/\Fr AH U U1/\Bx U1 U.j z/\U1.j=U.j+1:=by grind [Cb,Fr.new,Kt]
theorem Y2{U b l}(c:Ai U)(h:Bx U b l) z:∃U1,Gl U b (.cells z)=U1/\Fr (λk=>k=b) U U1/\Bx U1 b z:=by grind [Ai,Bx,Fr.set,Y0]
def KL(c:Nat):Bool:=(decide (97<=c)&&decide (c<=122)) || (decide (65<=c)&&decide (c<=90))
def Gv(c:Nat):Bool:=decide (48<=c)&&decide (c<=57)
def SC(c:Nat):Bool:=((decide (c=32) || decide (c=9)) || decide (c=10)) || decide (c=13)
def MA(c:Nat)(r:List Nat):Bool:=decide (c=45)&&decide (r.headD 0=45)
def fY:List Nat->List Nat
 | []=>[]
 | c::r=>match decide (c=10)with
  | true=>c::r
  | false=>match MA c r with
   | true=>r.drop 1
   | false=>fY r
def Wi:Nat->List Nat->List Nat
 | 0,r=>r
 | _+1,[]=>[]
 | n+1,c::r=>match SC c with
  | true=>Wi n r
  | false=>match MA c r with
   | true=>Wi n (fY (r.drop 1))
   | false=>c::r
theorem pQ:∀r,(fY r).length<=r.length:=by intro x;induction x with grind [fY]
theorem Y9:∀n (r:List Nat),(Wi n r).length<=r.length
 | 0,_=>AL _ | _+1,[]=>AL _ | n+1,c::r=>by
  unfold Wi;split
  ·exact Nat.le_succ_of_le (Y9 n r)
  ·split
   ·have h1:=Y9 n (fY (r.drop 1))
    have g:=pQ (r.drop 1);simp at *;omega
   ·exact AL _
structure IP(s:BS)(i:Nat)(r:List Nat):Prop where
 r:Ot s i r
 few:s.len<=10000
section
variable {s:BS}{i c:Nat}{r:List Nat}
theorem IP.len(h:IP s i r):i+r.length=s.len:=h.r.len
theorem IP.le(h:IP s i r):i<=10000:=by have:=h.len;have:=h.few;omega
theorem IP.tl(h:IP s i (c::r)):IP s (i+1) r:=⟨h.r.tail,h.few⟩
theorem IP.dr(h:IP s i r){k}(a:k<=r.length):IP s (i+k) (r.drop k):=⟨h.r.drop a,h.few⟩
theorem IP.lt(h:IP s i (c::r)):i<s.len:=by have:=h.len;simp at this;omega
theorem IP.ix(h:IP s i (c::r)) J:C8 s (AA i) J=J (AA c):=by
 rw[XY h.lt];have:=h.r.getD_lt (k:=0) h.lt;rw[ABw]at this;rw[<-this];rfl
theorem IP.nil(h:IP s i []):i=s.len:=by have:=h.len;simpa using this
theorem IP.hd(h:IP s i r) J (f:i<s.len):C8 s (AA i) J=J (AA (r.headD 0)):=by
 cases r with
 | nil=>have:=h.nil;omega | cons c r=>exact h.ix J
end
def M9(F:List V->H->AE):Prop:=∀U s i (r:List Nat),IP s i r->F [.N s,.int .i64 (AA i)] U=some (.int .u8 (AA (r.headD 0)),U)
def TE(F:List V->H->AE):Prop:=∀U c,F [.int .u8 (AA c)] U=some (.bool (KL c),U)
def RR(F:List V->H->AE):Prop:=∀U c,F [.int .u8 (AA c)] U=some (.bool (Gv c),U)
def iz(N:Nat)(F:List V->H->AE):Prop:=∀U s i (r:List Nat),IP s i r->∃k,k<=r.length/\Wi N r=r.drop k/\F [.N s,.int .i64 (AA i)] U=some (.int .i64 (AA (i+k)),U)
section
variable {E:EB}{D:Ac}{W:AF}{N:Nat}
theorem AK6:M9 (w8 E D W N):=by
 intro U s i r h;show cZ E D W s (AA i) U=_;unfold cZ;cases r with
 | nil=>
  have k:decide (s.len<=i)=true:=decide_eq_true (by have:=h.nil;omega);simp only[rA,k];rfl
 | cons c r=>
  have k:decide (s.len<=i)=false:=decide_eq_false (by have:=h.lt;omega);have e:=h.ix;simp only[rA,k,↓e];rfl
theorem AEi:TE (wz E D W N):=by
 intro U c;show cY E D W (AA c) U=_;unfold cY KL;simp only[UF,Mq,rC,rQ,]
theorem AEj:RR (wx E D W N):=by
 intro U c;show cV E D W (AA c) U=_;unfold cV Gv;simp only[Mq,rC,rQ,]
theorem ACE(G:M9 (D 106)) K U (s:BS):∀(r:List Nat) n i,r.length<n->IP s i r->∃k,k<=r.length/\fY r=r.drop k/\TK E D W N K n s (AA i) U=K s (AA (i+k)) U
 | [],n,i,F,h=>by
  obtain⟨n,rfl⟩:∃m,n=m+1:=⟨n-1,by omega⟩;refine⟨0,AL _,rfl,?_⟩;show KY E D W K _ s (AA i) U=_;have x:decide (i<s.len)=false:=decide_eq_false (by have:=h.nil;omega);have key:∀R,KY E D W K R s (AA i) U=K s (AA i) U:=by
   intro R;unfold KY;simp only[↓rP,rA,x]
  exact key _
 | c::r,n,i,F,h=>by
  obtain⟨n,rfl⟩:∃m,n=m+1:=⟨n-1,by omega⟩;have e:=h.ix;have M:=h.lt;have I:=h.le;have x:=decide_eq_true M;have g:=G U s (i+1) r h.tl;have A:BQ .i64 (AA i) (AA 1)=AA (i+1):=Al (by omega);have J:BQ .i64 (AA i) (AA 2)=AA (i+2):=Al (by omega);show ∃k,k<=_/\fY (c::r)=_/\KY E D W K (TK E D W N K n) s (AA i) U=_;by_cases w:c=10
  ·refine⟨0,CA _,by unfold fY;rw[decide_eq_true w];rfl,?_⟩
   have v:=decide_eq_true w;have key:∀R,KY E D W K R s (AA i) U=K s (AA i) U:=by
    intro R;unfold KY;simp only[↓rP,rA,AD,AG,AB,x,↓e,v]
   exact key _
  ·have v:=decide_eq_false w
   cases q:MA c r with
   | true=>
    have ⟨k,S,B⟩:∃k,k<=(c::r).length/\fY (c::r)=(c::r).drop 2:=by
     refine⟨0,CA _,?_⟩;unfold fY;rw[v,q];rfl
    have Q:r≠[]:=λe=>by subst e;simp[MA]at q
    refine⟨2,by cases r with | nil=>exact absurd rfl Q | cons _ _=>simp,B,?_⟩;unfold MA at q;rw[AQ]at q;have key:∀R,KY E D W K R s (AA i) U=K s (AA (i+2)) U:=by
     intro R;unfold KY;simp only[↓rP,rA,AD,AG,AB,x,↓e,v,q.1,A,J,↓g,q.2]
    exact key _
   | false=>
    have ⟨k,h1,P,L⟩:=ACE G K U s r n (i+1) (by simp at F;omega) h.tl;refine⟨k+1,by simp;omega,by unfold fY;rw[v,q];exact P,?_⟩;unfold MA at q;have key:∀R,KY E D W K R s (AA i) U=R s (AA (i+1)) U:=by
     intro R;unfold KY;cases u:decide (c=45)with
     | true=>
      rw[u,EX]at q;simp only[↓rP,rA,AD,AG,AB,x,↓e,v,u,A,↓g,q]
     | false=>simp only[↓rP,rA,AD,AG,AB,x,↓e,v,u,A]
    rw[key,L,show i+1+k=i+(k+1)by omega]
theorem oL(w:M9 (D 106))(J:10000<N) U (s:BS):∀n (r:List Nat) i,r.length<n->IP s i r->∃k,k<=r.length/\Wi n r=r.drop k/\Ou E D W N n s (AA i) U=some (.int .i64 (AA (i+k)),U)
 | 0,r,i,C,h=>by omega
 | n+1,[],i,C,h=>by
  refine⟨0,AL _,rfl,?_⟩;show Qq E D W (vZ E D W N) (TK E D W N (Ou E D W N n) N) (Ou E D W N n) s (AA i) U=_;have F:decide (i<s.len)=false:=decide_eq_false (by have:=h.nil;omega);have key:∀t R,Qq E D W (sV E D W) t R s (AA i) U=some (.int .i64 (AA i),U):=by
   intro t R;unfold Qq sV;simp only[↓rP,rA,AD,AG,AB,F]
  exact key _ _
 | n+1,c::r,i,C,h=>by
  have e:=h.ix;have hl:=h.lt;have hle:=h.le;have F:=decide_eq_true hl;have g:=w U s (i+1) r h.tl;have a1:BQ .i64 (AA i) (AA 1)=AA (i+1):=Al (by omega);have M:BQ .i64 (AA i) (AA 2)=AA (i+2):=Al (by omega);show ∃k,k<=_/\Wi (n+1) (c::r)=_/\Qq E D W (vZ E D W N) (TK E D W N (Ou E D W N n) N) (Ou E D W N n) s (AA i) U=_;have key:∀K1 t R,Qq E D W K1 t R s (AA i) U=AK (SC c) (R s (AA (i+1)) U) (AK (MA c r) (t s (AA (i+2)) U) (some (.int .i64 (AA i),U))):=by
   intro K1 t R;unfold Qq SC MA;simp only[Dr,mI,mH,Bg,CE,G3,G7,FZ,Me,AEp,yu,Bz,AME,Sb,Sc,AEY,AEX,AEW,AEV,yV,pA,JA,ON,SN,SO,SQ,SM,OM,SP,Pv,W7,W6,Pt,W3,Of,Eg,DU,UF,Mq,gX,Nat.add_eq,BV,Bool.not_true,Bool.not_false,rC,rQ,decide_false,decide_true,AD,AG,AB,F,e,a1,M,g]
  rw[key];cases B:SC c with
  | true=>
   have ⟨k,h1,v,A⟩:=oL w J U s n r (i+1) (by simp at C;omega) h.tl;refine⟨k+1,by simp;omega,by unfold Wi;rw[B];exact v,?_⟩;rw[Eg,A,show i+1+k=i+(k+1)by omega]
  | false=>
   rw[DU];cases y:MA c r with
   | true=>
    have L:r≠[]:=λe=>by subst e;simp[MA]at y
    have z:1<=r.length:=by cases r with | nil=>exact absurd rfl L | cons _ _=>simp
    have u:IP s (i+2) (r.drop 1):=h.tl.dr z;have ⟨k,h1,v,A⟩:=ACE (E:=E) (W:=W) (N:=N) w (Ou E D W N n) U s (r.drop 1) N (i+2) (by have:=h.len;have:=h.few;simp at *;omega) u;have I:=u.dr h1;rw[<-v]at I;have G:=pQ (r.drop 1);have ⟨j,h5,K,h7⟩:=oL w J U s n (fY (r.drop 1)) (i+2+k) (by simp at *;omega) I;have hkl:(fY (r.drop 1)).length=r.length-1-k:=by rw[v];simp only[ey]
    simp at h1;refine⟨2+k+j,by simp;omega,?_,?_⟩
    ·unfold Wi
     rw[B,y];show Wi n (fY (r.drop 1))=_;rw[K,v,Cd,Cd,show 2+k+j=(1+(k+j))+1 by omega,List.drop_succ_cons]
    ·rw[Eg,A,h7,show i+2+k+j=i+(2+k+j)by omega]
   | false=>exact⟨0,CA _,by unfold Wi;rw[B,y];rfl,by rw[DU];rfl⟩
theorem AKe(g:M9 (D 106))(d:10000<N):iz N (F59 E D W N):=by
 intro U s i r h;have ⟨k,h1,f,e⟩:=oL (E:=E) (W:=W) g d U s N r i (by have:=h.len;have:=h.few;omega) h;exact⟨k,h1,f,e⟩
end
def NL:List BS:=[BS.mk 11 100710650190388740279911748,BS.mk 8 6073459554577832005,BS.mk 8 6073459554577829193,BS.mk 9 1241215773001651606849,BS.mk 4 1397178708,BS.mk 5 336236856642,BS.mk 3 4476485,BS.mk 7 22026814072246082,BS.mk 7 23157120498421321,BS.mk 10 322399817400452109389381,BS.mk 4 1280070990,BS.mk 5 361940403023,BS.mk 6 78401563153491,BS.mk 10 488440487847103610377301,BS.mk 8 4990918871747741011,BS.mk 3 5522771,BS.mk 6 76155295057987,BS.mk 2 17999,BS.mk 8 5494759122808361039,BS.mk 7 23727827094750532,BS.mk 4 1163544915,BS.mk 3 5130573,BS.mk 3 5783885,BS.mk 4 1163219540,BS.mk 5 297750249798]
def C6:List BS:=[BS.mk 3 4012602,BS.mk 3 3026478,BS.mk 2 11822,BS.mk 2 23387,BS.mk 2 23901,BS.mk 1 123,BS.mk 1 125,BS.mk 1 91,BS.mk 1 93,BS.mk 1 40,BS.mk 1 41,BS.mk 1 44,BS.mk 1 58]
def wdB(t:BS):Bool:=NL.any λw=>w.beq t
def kv(c:Nat)(r:List Nat):Bool:=(KL c || Gv c) || (decide (c=45) && !decide (r.headD 0=45))
def OT:List Nat->Nat
 | []=>0
 | c::r=>match kv c r with
  | true=>OT r+1
  | false=>0
def Se(w:List Nat):Bool:=decide (w.getD (w.length-1) 0=45) || decide (60<w.length)
def G6:List BS->List Nat->Nat
 | [],_=>0
 | t::l,r=>match decide (t.len<=r.length)&&decide (r.take t.len=t.mt)with
  | true=>t.len
  | false=>G6 l r
def FC:Nat->List Nat->Nat
 | a,[]=>a
 | a,d::l=>FC (10*a+(d-48)) l
structure Ij(m:Bool)(ds r:List Nat):Prop where
 dig:∀d∈ds,Gv d=true
 n1:1<=ds.length
 n19:ds.length<=19
 lead:ds.length=1\/ds.headD 0≠48
 mi:m=true->ds.headD 0≠48
 nd:Gv (r.headD 0)=false
 nl:KL (r.headD 0)=false
 v:FC 0 ds<=9223372036854775808
 vp:m=false->FC 0 ds<9223372036854775808
def Gc(m:Bool)(a:List Nat):List Nat:=if m=true then 45::a else a
theorem KH c r:OT (c::r)=match kv c r with
 | true=>OT r+1 | false=>0:=rfl
theorem Kx(t:BS) l (r:List Nat):G6 (t::l) r=match decide (t.len<=r.length)&&decide (r.take t.len=t.mt)with
 | true=>t.len | false=>G6 l r:=rfl
theorem ZR:∀r,OT r<=r.length:=by intro x;induction x with grind [OT]
def YQ(F:List V->H->AE):Prop:=∀U v (l:List BS) b,Cv U 1 l.length v (l.map .N)->l.length<=9000->F [v,.N b] U=some (.bool (l.any λx=>x.beq b),U)
def VF(F:List V->H->AE):Prop:=∀U b,Ai U->∃U',F [.N b] U=some (.bool (wdB b),U')/\Fr AH U U'
def VH(F:List V->H->AE):Prop:=∀U s i c r,IP s i (c::r)->KL c=true ->
 F [.N s,.int .i64 (AA i)] U=some (.int .i64 (if Se ((c::r).take (OT (c::r)))=true then A1 0 else AA (i+OT (c::r))),U)
def VG(F:List V->H->AE):Prop:=∀U s i r,Ai U->IP s i r->∃U',F [.N s,.int .i64 (AA i)] U=some (.int .i64 (AA (G6 C6 r)),U')/\Fr AH U U'
def cn(F:List V->H->AE):Prop:=∀U s i m a r,IP s i (Gc m a++r)->Ij m a r ->
 F [.N s,.int .i64 (AA i)] U=some (.int .i64 (AA (i+(Gc m a).length)),U)
section
variable {E:EB}{D:Ac}{W:AF}{N:Nat}
theorem AL1(P:10000<N):YQ (F65 E D W N):=by
 intro U v l b w S;have key:∀m i n,i+m=l.length->m<n->jS E D W N n v b (AA i) U=some (.bool ((l.drop i).any λx=>x.beq b),U):=by
  intro m;induction m with
  | zero=>
   intro i n M G;obtain⟨n,rfl⟩:∃k,n=k+1:=⟨n-1,by omega⟩;rw[Jt (by omega)];show Qo E D W (YF E D W) _ v b (AA i) U=_;have z:decide (i<l.length)=false:=decide_eq_false (by omega);have u:∀J,Ao v J=J l.length:=λJ=>w.ip;have k:∀R,Qo E D W (YF E D W) R v b (AA i) U=some (.bool false,U):=by
    intro R;unfold Qo YF;simp only[↓rP,rA,AG,AB,↓u,z]
   exact k _
  | succ m I=>
   intro i n M G;obtain⟨n,rfl⟩:∃k,n=k+1:=⟨n-1,by omega⟩;have h:i<l.length:=by omega
   rw[Db h,List.any_cons];show Qo E D W (YF E D W) (jS E D W N n) v b (AA i) U=_;have z:=decide_eq_true h;have u:∀J,Ao v J=J l.length:=λJ=>w.ip;have rd:∀J,AS 1 v (AA i) (λb o=>DF E U b o J)=J (.N l[i]):=λJ=>by
    rcases w with ⟨Q,_,_⟩|⟨T,o,c,L,rfl,O,C,F⟩
    ·omega
    ·rw[CC h]
     refine GS O ?_;have:(l.map V.N)[i]? = some (.N l[i]):=by rw[As,AI h];rfl
     rw[F,G0,if_pos (by omega),B6]at this;show L[o+i*1]? = _;rw[CB];exact this
   have k:∀K R,Qo E D W K R v b (AA i) U=AK (l[i].beq b) (some (.bool true,U)) (R v b (AA (i+1)) U):=by
    intro K R;unfold Qo;simp only[↓rP,rA,AD,AG,AB,↓u,z,↓rd,Al (show i+1<=9223372036854775807 by omega)]
   rw[k,I (i+1) n (by omega) (by omega)];cases l[i].beq b<;>rfl
 exact key l.length 0 N (by omega) (by omega)
theorem ya(j:YQ (D 65))(k:∀U,D 156 [] U=some (.D U.j 0 25 (.ex 25),Cb U (.cells (NL.map .N)))):VF (wy E D W N):=by
 intro U b h;have ⟨U1,i,l,m,o⟩:=Fh h (NL.map .N);have e:=k U;rw[i]at e;have n:=j U1 (.D U.j 0 25 (.ex 25)) NL b (.inr ⟨U.j,0,_,_,rfl,m,by decide,rfl⟩) (by decide);refine⟨U1,?_,l⟩;show cW E D W b U=_;unfold cW;simp only[↓rP,↓e,↓n];rfl
theorem pK:∀U,wW E D W N [] U=some (.D U.j 0 25 (.ex 25),Cb U (.cells (NL.map .N))):=λ_=>rfl
theorem ALk(w:M9 (D 106))(y:TE (D 107))(u:RR (D 110)) U (s:BS) f:∀(r:List Nat) n i,r.length<n->IP s i r->Rf E D W N n s (AA i) f U=Nv E D W N s (AA (i+OT r)) f U
 | [],n,i,x,h=>by
  obtain⟨n,rfl⟩:∃m,n=m+1:=⟨n-1,by omega⟩;show MM E D W (Nv E D W N) _ s (AA i) f U=_;have q:decide (i<s.len)=false:=decide_eq_false (by have:=h.nil;omega);have key:∀K R,MM E D W K R s (AA i) f U=K s (AA i) f U:=by
   intro K R;unfold MM;simp only[↓rP,rA,AD,AG,AB,q]
  exact key _ _
 | c::r,n,i,x,h=>by
  obtain⟨n,rfl⟩:∃m,n=m+1:=⟨n-1,by omega⟩;have e:=h.ix;have G:=h.le;have q:=decide_eq_true h.lt;have g:=w U s (i+1) r h.tl;have F:=y U c;have A:=u U c;have z:BQ .i64 (AA i) (AA 1)=AA (i+1):=Al (by omega);show MM E D W (Nv E D W N) (Rf E D W N n) s (AA i) f U=_;have key:∀K R,MM E D W K R s (AA i) f U=AK (kv c r) (R s (AA (i+1)) f U) (K s (AA i) f U):=by
   intro K R;unfold MM kv;cases h1:KL c<;>cases C:Gv c<;>cases B:decide (c=45)<;>simp only[↓rP,rA,AD,AG,AB,q,↓e,↓F,↓A,h1,C,B,z,↓g]<;>rfl
  rw[key];cases v:kv c r with
  | true=>
   rw[Eg,ALk w y u U s f r n (i+1) (by simp at x;omega) h.tl];rw[KH,v];show Nv E D W N s (AA (i+1+OT r)) f U=Nv E D W N s (AA (i+(OT r+1))) f U;rw[show i+1+OT r=i+(OT r+1)by omega]
  | false=>rw[DU,KH,v];rfl
theorem yf(G:M9 (D 106))(I:TE (D 107))(x:RR (D 110))(K:10000<N):VH (nL E D W N):=by
 intro U s i c r h C;have y:=h.le;have p:=h.len;have l:=h.few;have w:=ZR (c::r);have h1:kv c r=true:=by unfold kv;rw[C];rfl
 have u:1<=OT (c::r):=by unfold OT;rw[h1];exact Nat.succ_pos _
 have ⟨m,g⟩:∃m,OT (c::r)=m:=⟨_,rfl⟩;rw[g]at w u ⊢;have z:((c::r).take m).length=m:=by rw[DM];omega
 have q:IP s (i+(m-1)) ((c::r).drop (m-1)):=h.dr (by omega);have A:((c::r).drop (m-1)).headD 0=((c::r).take m).getD (m-1) 0:=by
  rw[BK,G0,if_pos (by omega),List.headD_eq_head?_getD,List.head?_drop]
 have e:=λJ=>q.hd J (by omega);rw[A]at e;have F:Dj .i64 (AA (i+m)) (AA 1)=AA (i+(m-1)):=by rw[E8 (by omega) (by omega),show i+m-1=i+(m-1)by omega]
 have B:Dj .i64 (AA (i+m)) (AA i)=AA m:=by rw[E8 (by omega) (by omega),show i+m-i=m by omega]
 show Rf E D W N N s (AA i) (AA i) U=_;rw[ALk G I x U s _ (c::r) N i (by omega) h,g];show cX E D W s (AA (i+m)) (AA i) U=_;unfold cX Se;rw[z];cases v:decide (((c::r).take m).getD (m-1) 0=45)<;>cases t:decide (60<m)<;>simp only[rA,AB,F,B,↓e,v,t]<;>rfl
theorem AK3(A:100<N) U (r:List Nat)(z:∀c∈r,c<256) b (x:Bx U b (C6.map .N)):∀m j n,j+m=13->m<n->Rd E D W N n (BB r) (.D b 0 13 (.ex 13)) (AA j) U=some (.int .i64 (AA (G6 (C6.drop j) r)),U)
 | 0,j,n,C,F=>by
  obtain⟨n,rfl⟩:∃k,n=k+1:=⟨n-1,by omega⟩;obtain rfl:j=13:=by omega
  show MJ E D W (RM E D W) _ (BB r) (.D b 0 13 (.ex 13)) (AA 13) U=_;have key:∀R,MJ E D W (RM E D W) R (BB r) (.D b 0 13 (.ex 13)) (AA 13) U=some (.int .i64 (AA 0),U):=by
   intro R;unfold MJ RM;simp only[↓rP,rA,AB,Dp]
  exact key _
 | m+1,j,n,C,F=>by
  obtain⟨n,rfl⟩:∃k,n=k+1:=⟨n-1,by omega⟩;have y:j<C6.length:=by show j<13;omega
  rw[Db y];have w:decide (j<13)=true:=decide_eq_true (by omega);have rd:∀J,AS 1 (.D b 0 13 (.ex 13)) (AA j) (λb o=>DF E U b o J)=J (.N C6[j]):=λJ=>by
   rw[CC (show j<13 by omega)];refine GS x ?_;show (C6.map V.N)[0+j*1]? = _;rw[BV,CB,As,AI y];rfl
  show MJ E D W (RM E D W) (Rd E D W N n) (BB r) (.D b 0 13 (.ex 13)) (AA j) U=_;have B:=AK3 A U r z b x m (j+1) n (by omega) (by omega);generalize C6[j]=t at rd ⊢;have key:∀K R,MJ E D W K R (BB r) (.D b 0 13 (.ex 13)) (AA j) U=AK (decide (t.len<=r.length)&&decide (r.take t.len=t.mt)) (some (.int .i64 (AA t.len),U)) (R (BB r) (.D b 0 13 (.ex 13)) (AA (j+1)) U):=by
   intro K R;have g:=IW r;unfold MJ;by_cases h1:t.len<=r.length
   ·have G:∀J,DQ (BB r) none (some (.int .i64 (AA t.len))) J=J ((BB r).sub 0 t.len):=λJ=>Tp (by rw[g];exact h1)
    have eb:((BB r).sub 0 t.len).beq t=decide (r.take t.len=t.mt):=by
     rw[BS.beq_nats,BS.nats_sub (by rw[g];exact h1),JC z,E7,NH]
    simp only[↓rP,rA,AD,AG,AB,w,↓rd,g,decide_eq_true h1,↓G,eb,Al (show j+1<=9223372036854775807 by omega)]
   ·simp only[↓rP,rA,AD,AG,AB,w,↓rd,g,decide_eq_false h1,Al (show j+1<=9223372036854775807 by omega)]
  rw[key,B,Kx];cases decide (t.len<=r.length)&&decide (r.take t.len=t.mt)<;>rfl
theorem ye(p:100<N):VG (nJ E D W N):=by
 intro U s i r m h;have ⟨U1,f,l,q,t⟩:=Fh m (C6.map .N);refine⟨U1,?_,l⟩;have n:∀J,DQ s (some (.int .i64 (AA i))) none J=J (BB r):=λJ=>by
  rw[J9 (by have:=h.len;omega),h.r.subAll]
 have g:=AK3 (E:=E) (D:=D) (W:=W) p U1 r h.r.bd U.j q 13 0 N rfl (by omega);unfold C6 at f;simp at f;show VA E D W (Rd E D W N N) s (AA i) U=_;have key:∀K,VA E D W K s (AA i) U=K (BB r) (.D U.j 0 13 (.ex 13)) (AA 0) U1:=by
  intro K;unfold VA;simp only[↓rP,↓n,↓f]
 rw[key];exact g
end
theorem Tl l:∀a,a<=FC a l:=by
 induction l with
 | nil=>intro a;exact AL a | cons d l g=>
  intro a;have:=g (10*a+(d-48));show a<=FC (10*a+(d-48)) l;omega
theorem Ji{c}(h:Gv c=true):48<=c/\c<=57:=by grind [Gv]
inductive Tk:List Nat->Nat->List Nat->List Nat->Prop
 | name {c:Nat}{r:List Nat}{k:Nat}:KL c=true->Se ((c::r).take (OT (c::r)))=false->k=(if wdB (BB ((c::r).take (OT (c::r))))=true then 5 else if c<=90 then 1 else 2) ->
   Tk (c::r) k ((c::r).take (OT (c::r))) ((c::r).drop (OT (c::r)))
 | num {m:Bool}{ds r:List Nat}:Ij m ds r->Tk (Gc m ds++r) 3 (Gc m ds) r
 | sign {c:Nat}{r:List Nat}:KL c=false->Gv c=false->(c=45->Gv (r.headD 0)=false)->c≠39->c≠34->0<G6 C6 (c::r) ->
   Tk (c::r) 6 ((c::r).take (G6 C6 (c::r))) ((c::r).drop (G6 C6 (c::r)))
theorem fV:∀l (r:List Nat),G6 l r<=r.length:=by intro x;induction x with grind [G6]
theorem Tk.app{r w q:List Nat}{k}(h:Tk r k w q):r=w++q/\0<w.length:=by
 cases h with
 | @name c r1 _ t=>
  refine⟨(List.take_append_drop _ _).symm,?_⟩;have h1:kv c r1=true:=by unfold kv;rw[t];rfl
  have:=ZR (c::r1);rw[DM,KH,h1]at *;simp only[Ag]at *;omega
 | num s=>
  rename_i m u;have:=s.n1;exact⟨rfl,by unfold Gc;split<;>(try simp)<;>omega⟩
 | @sign c r1 _ _ _ _ _ v=>
  refine⟨(List.take_append_drop _ _).symm,?_⟩;have:=fV C6 (c::r1);rw[DM];omega
abbrev Bm:=Nat × List Nat × Nat
inductive GN(N len:Nat):List Nat->List Bm->Prop
 | fin {r:List Nat}:Wi N r=[]->GN N len r [(0,[],len)]
 | S {r r1 w r2:List Nat}{k:Nat}{ts:List Bm}:Wi N r=r1->Tk r1 k w r2->GN N len r2 ts->GN N len r ((k,w,len-r1.length)::ts)
def E1(a:List Bm):List V:=a.flatMap λt=>[.int .i64 (AA t.1),.N (BB t.2.1),.int .i64 (AA t.2.2)]
theorem W1 a b:E1 (a++b)=E1 a++E1 b:=by grind [E1]
theorem GN.len{N len}{r:List Nat}{d:List Bm}(h:GN N len r d):d.length<=r.length+1:=by
 induction h with
 | fin _=>exact Nat.succ_le_succ (CA _) | S h1 l _ n=>
  rename_i r r1 w q k d p;have i:=Y9 N r;have ⟨g,m⟩:=l.app;rw[h1,g,AP]at i;simp;omega
def jH(F:List V->H->AE):Prop:=∀U s i k (r w a:List Nat),Ai U->IP s i r->Tk r k w a ->
 ∃U',F [.N s,.int .i64 (AA i)] U=some (.B [.agg [.int .i64 (AA k),.N (BB w),.int .i64 (AA i)],.int .i64 (AA (i+w.length))],U')/\Fr AH U U'
def jC(N:Nat)(F:List V->H->AE):Prop:=∀(U:H) (s:BS) (a:List Bm),Ai U->s.len<=8000->GN N s.len s.mt a ->
 ∃v U',F [.N s] U=some (.B [v,.int .i64 (AA 0),.int .i64 (AA 0)],U')/\DW U' 3 a.length v (E1 a)/\(∀b,AJ v b->U.j<=b)/\Fr AH U U'
section
variable {E:EB}{D:Ac}{W:AF}{N:Nat}
theorem ACV(I:RR (D 110)) U (s:BS) m f (r:List Nat)(x:Gv (r.headD 0)=false):∀(b:List Nat) n i k v,(∀d∈b,Gv d=true)->b.length<n->IP s i (b++r)->i=f+k->k+b.length<=19->FC v b<=9223372036854775808 ->
  Re E D W N n s (AA i) m (AA f) (AA v) U=Nt E D W N s (AA (i+b.length)) m (AA f) (AA (FC v b)) U
 | [],n,i,k,v,C,J,h,hi,M,L=>by
  obtain⟨n,rfl⟩:∃j,n=j+1:=⟨n-1,by omega⟩;show MK E D W (Nt E D W N) _ s (AA i) m (AA f) (AA v) U=Nt E D W N s (AA i) m (AA f) (AA v) U;have key:∀K R,MK E D W K R s (AA i) m (AA f) (AA v) U=K s (AA i) m (AA f) (AA v) U:=by
   intro K R;unfold MK;cases r with
   | nil=>
    have w:decide (i<s.len)=false:=decide_eq_false (by have:=h.nil;omega);simp only[↓rP,rA,AD,AG,AB,w]
   | cons c r=>
    have w:decide (i<s.len)=true:=decide_eq_true h.lt;have e:=h.ix;have g:=I U c;have x:Gv c=false:=x;rw[x]at g;simp only[↓rP,rA,AD,AG,AB,w,↓e,↓g]
  exact key _ _
 | c::b,n,i,k,v,C,J,h,hi,M,L=>by
  obtain⟨n,rfl⟩:∃j,n=j+1:=⟨n-1,by omega⟩;have O:=C c (AZ ..);have G:=Ji O;have P:=h.le;have e:=IP.ix (show IP s i (c::(b++r))from h);have F:=IP.lt (show IP s i (c::(b++r))from h);have z:=IP.tl (show IP s i (c::(b++r))from h);have w:decide (i<s.len)=true:=decide_eq_true F;have g:=I U c;rw[O]at g;have A:FC (10*v+(c-48)) b<=9223372036854775808:=L;have X:=Tl b (10*v+(c-48));simp at M J;have T:BQ .i64 (AA i) (AA 1)=AA (i+1):=Al (by omega);have a2:Dj .i64 (AA i) (AA f)=AA k:=by rw[E8 (by omega) (by omega),show i-f=k by omega]
  have Q:Dj .u8 (AA c) (AA 48)=AA (c-48):=by
   show An .u8 (AA c-AA 48)=_;rw[show AA c-AA 48=AA (c-48)from(Int.ofNat_sub G.1).symm];exact BJ (show c-48<=255 by omega)
  have S:An .u64 (AA (c-48))=AA (c-48):=BJ (show c-48<=18446744073709551615 by omega);have a5:O3 .u64 (AA 10) (AA v)=AA (10*v):=by
   show An .u64 (AA (10*v))=_;exact BJ (show 10*v<=18446744073709551615 by omega)
  have a6:BQ .u64 (AA (10*v)) (AA (c-48))=AA (10*v+(c-48)):=by
   show An .u64 (AA (10*v+(c-48)))=_;exact BJ (show 10*v+(c-48)<=18446744073709551615 by omega)
  have d2:decide (k<19)=true:=decide_eq_true (by omega);have ih:=ACV I U s m f r x b n (i+1) (k+1) (10*v+(c-48)) (λd h=>C d (Az _ h)) (by omega) z (by omega) (by omega) A;show MK E D W (Nt E D W N) (VB E D W (Re E D W N n)) s (AA i) m (AA f) (AA v) U=Nt E D W N s (AA (i+(b.length+1))) m (AA f) (AA (FC (10*v+(c-48)) b)) U;have key:∀K R,MK E D W K (VB E D W R) s (AA i) m (AA f) (AA v) U=R s (AA (i+1)) m (AA f) (AA (10*v+(c-48))) U:=by
   intro K R;unfold MK VB;simp only[↓rP,rA,AD,AG,AB,w,↓e,↓g,T,a2,d2,Q,S,a5,a6]
  rw[key,ih,show i+1+b.length=i+(b.length+1)by omega]
theorem AEg (hA:M9 (D 106)) (Y:TE (D 107)) (Q:RR (D 110)) (hN:100<N):cn (nK E D W N):=by
  intro U s i m c r h q;have P:=h.le;have v:∀f,IP s f (c++r)->f<=10001->Nu E D W N s (AA f) m U=some (.int .i64 (AA (f+c.length)),U):=by
    intro f F aa;show Re E D W N N s (AA f) m (AA f) (AA 0) U=_;have R:=q.n19;have h1:=q.n1;rw[ACV Q U s m f r q.nd c N f 0 0 q.dig (by omega) F rfl (by omega) q.v];have M:=F.dr (k:=c.length) (by simp);rw[AJD]at M;have X:=hA U s (f+c.length) r M;have L:=Y U (r.headD 0);rw[q.nl]at L;have a2:Dj .i64 (AA (f+c.length)) (AA f)=AA c.length:=by rw[E8 (by omega) (by omega),show f+c.length-f=c.length by omega]
    have e:∀J,C8 s (AA f) J=J (AA (c.headD 0)):=by
      obtain⟨d,l,rfl⟩:∃d l,c=d::l:=by
        cases c with
        | nil=>simp at h1 | cons d l=>exact⟨d,l,rfl⟩
      exact IP.ix (show IP s f (d::(l++r))from F)
    have S:decide (c.length<1)=false:=decide_eq_false (by omega);have d2:decide (19<c.length)=false:=decide_eq_false (by omega);have d6:decide (9223372036854775808<FC 0 c)=false:=decide_eq_false (by have:=q.v;omega);have G:(decide (1<c.length)&&decide (c.headD 0=48))=false:=by
      rcases q.lead with h|h
      · rw[decide_eq_false (by omega)];rfl
      · rw[decide_eq_false h,Bool.and_false]
    have I:(m&&decide (c.headD 0=48))=false:=by
      cases w:m with
      | false=>rfl | true=>rw[decide_eq_false (q.mi w)];rfl
    have z:(!m&&decide (FC 0 c=9223372036854775808))=false:=by
      cases w:m with
      | true=>rfl | false=>rw[decide_eq_false (by have:=q.vp w;omega)];rfl
    show cU E D W s (AA (f+c.length)) m (AA f) (AA (FC 0 c)) U=_;unfold cU;cases O:decide (1<c.length)<;>cases A:decide (c.headD 0=48)<;>cases w:m<;>(rw[O,A]at G;rw[A,w]at I;rw[w]at z) <;>
      first
      | (exact absurd G (by decide)) | (exact absurd I (by decide))
      | (simp at z
         simp only[↓rP,rA,AD,AG,AB,a2,S,d2,O,↓e,A,↓X,↓L,z,d6])
  cases m with
  | false=>
    have x:IP s i (c++r):=h;obtain⟨d,l,rfl⟩:∃d l,c=d::l:=by
      have:=q.n1;cases c with
      | nil=>simp at this | cons d l=>exact⟨d,l,rfl⟩
    have e:=IP.ix (show IP s i (d::(l++r))from x);have hd:=Ji (q.dig d (AZ ..));have T:decide (d=45)=false:=decide_eq_false (by omega);show ML E D W (Nu E D W N) s (AA i) U=_;have key:∀K,ML E D W K s (AA i) U=K s (AA i) false U:=by
      intro K;unfold ML;simp only[↓rP,rA,AD,AG,AB,↓e,T]
    rw[key];exact v i x (by omega)
  | true=>
    have x:IP s i (45::(c++r)):=h;have e:=x.ix;have Z:BQ .i64 (AA i) (AA 1)=AA (i+1):=Al (by omega);show ML E D W (Nu E D W N) s (AA i) U=_;have key:∀K,ML E D W K s (AA i) U=K s (AA (i+1)) true U:=by
      intro K;unfold ML;simp only[↓rP,rA,AD,AG,AB,↓e,Z]
    rw[key,v (i+1) x.tl (by omega)];show some (V.int .i64 (AA (i+1+c.length)),U)=some (V.int .i64 (AA (i+(c.length+1))),U);rw[show i+1+c.length=i+(c.length+1)by omega]
end
section
variable {E:EB}{D:Ac}{W:AF}{N:Nat}
theorem yv m {g r}(h:Ij m g r):∃c l,Gc m g++r=c::l/\((m=false/\Gv c=true)\/(m=true/\c=45/\Gv (l.headD 0)=true)):=by
 obtain⟨d,e,rfl⟩:∃d l,g=d::l:=by
  have:=h.n1;cases g with
  | nil=>simp at this | cons d l=>exact⟨d,l,rfl⟩
 have j:=h.dig d (AZ ..);cases m with
 | false=>exact⟨d,e++r,rfl,.inl ⟨rfl,j⟩⟩ | true=>exact⟨45,d::(e++r),rfl,.inr ⟨rfl,rfl,j⟩⟩
theorem zj{c}(h:Gv c=true):KL c=false:=by grind [Gv,KL]
theorem ALd(hA:M9 (D 106))(hL:TE (D 107))(hD:RR (D 110))(hNm:VH (D 108))(hW:VF (D 109))(hNu:cn (D 111))(hS:VG (D 114)):jH (F60 E D W N):=by
 intro U s i k r w r' ht h hk;have hle:=h.le;have B:=h.len;have hfew:=h.few;have bd:=h.r.bd;cases hk with
 | @name c r1 k q hb I=>
  have e:=h.ix;have o:=hL U c;rw[q]at o;have u:=hNm U s i c r1 h q;rw[hb,if_neg (by decide)]at u;have hm:=ZR (c::r1);have ⟨m,z⟩:∃m,OT (c::r1)=m:=⟨_,rfl⟩;rw[z]at u hm I ⊢;have sp:∀J,DQ s (some (.int .i64 (AA i))) (some (.int .i64 (AA (i+m)))) J=J (BB ((c::r1).take m)):=λJ=>by
   rw[H2 (by omega) (by omega),h.r.sub hm]
  have ⟨U3,g3,f3⟩:=hW U (BB ((c::r1).take m)) ht;have lt:((c::r1).take m).length=m:=by rw[DM];omega
  refine⟨U3,?_,f3⟩;rw[lt];show M6 E D W (vY E D W N) (Yh E D W N) s (AA i) U=_;have d0:C5 (AA (i+m)) (AA 0)=false:=by rw[GQ];exact decide_eq_false (by omega)
  have k2:∀kk:Nat,Yh E D W N (AA (i+m)) (AA 0) (BS.mk 0 0) (AA 0) (AA kk) (BB ((c::r1).take m)) (AA i) U=some (.B [.agg [.int .i64 (AA (if wdB (BB ((c::r1).take m))=true then 5 else kk)),.N (BB ((c::r1).take m)),.int .i64 (AA i)],.int .i64 (AA (i+m))],U3):=by
   intro kk;show sU E D W (Ok E D W) _ _ _ _ _ _ _ U=_;unfold sU Ok;cases hw:wdB (BB ((c::r1).take m))<;>(rw[hw]at g3;simp only[↓rP,rS,↓g3])<;>rfl
  have key:∀K1 K2,M6 E D W K1 K2 s (AA i) U=K2 (AA (i+m)) (AA 0) (BS.mk 0 0) (AA 0) (AA (if c<=90 then 1 else 2)) (BB ((c::r1).take m)) (AA i) U:=by
   intro K1 K2;unfold M6;by_cases h9:c<=90
   ·rw[if_pos h9]
    simp only[↓rP,rA,AD,AG,AB,↓e,↓o,↓u,d0,DH,↓sp,decide_eq_true h9]
   ·rw[if_neg h9]
    simp only[↓rP,rA,AD,AG,AB,↓e,↓o,↓u,d0,DH,↓sp,decide_eq_false h9]
  rw[key,k2,I]
 | @num m ds _ hn=>
  have ⟨c,l,hcl,q⟩:=yv m hn;have u:=hNu U s i m ds r' h hn;have x:∀J,DQ s (some (.int .i64 (AA i))) (some (.int .i64 (AA (i+(Gc m ds).length)))) J=J (BB (Gc m ds)):=λJ=>by
   rw[H2 (by omega) (by rw[AP]at B;omega),h.r.sub (by rw[AP];omega),List.take_left]
  have h':IP s i (c::l):=hcl ▸ h;have e:=h'.ix;have o:=hL U c;have v:=hD U c;have a1:BQ .i64 (AA i) (AA 1)=AA (i+1):=Al (by omega);have ga:=hA U s (i+1) l h'.tl;have p:=hD U (l.headD 0);refine⟨U,?_,Fr.refl ht⟩;show M6 E D W (Ok E D W) (Yh E D W N) s (AA i) U=_;rcases q with ⟨_,q⟩|⟨_,rfl,q⟩
  ·rw[zj q]at o
   rw[q]at v;unfold M6 Ok;simp only[↓rP,rA,AD,AG,AB,↓e,↓o,↓v,↓u,DH,↓x]
  ·rw[show KL 45=false from rfl]at o
   rw[show Gv 45=false from rfl]at v;rw[q]at p;unfold M6 Ok;simp only[↓rP,rA,AD,AG,AB,↓e,↓o,↓v,a1,↓ga,↓p,↓u,DH,↓x]
 | @sign c r1 q hd hm F C h0=>
  have e:=h.ix;have o:=hL U c;rw[q]at o;have v:=hD U c;rw[hd]at v;have a1:BQ .i64 (AA i) (AA 1)=AA (i+1):=Al (by omega);have ga:=hA U s (i+1) r1 h.tl;have p:=hD U (r1.headD 0);have ⟨U2,u,f2⟩:=hS U s i (c::r1) ht h;have G:=fV C6 (c::r1);have ⟨m,z⟩:∃m,G6 C6 (c::r1)=m:=⟨_,rfl⟩;rw[z]at u h0 G ⊢;have lt:((c::r1).take m).length=m:=by rw[DM];omega
  have lm:m<=10000:=by omega
  have a2:BQ .i64 (AA i) (AA m)=AA (i+m):=Al (by omega);have sp:∀J,DQ s (some (.int .i64 (AA i))) (some (.int .i64 (AA (i+m)))) J=J (BB ((c::r1).take m)):=λJ=>by
   rw[H2 (by omega) (by omega),h.r.sub G]
  refine⟨U2,?_,f2⟩;rw[lt];show M6 E D W (Ok E D W) (Yh E D W N) s (AA i) U=_;unfold M6 Ok;by_cases A:c=45
  ·rw[hm A]at p
   simp only[↓rP,rA,AD,AG,AB,↓e,↓o,↓v,decide_eq_true A,a1,↓ga,↓p,decide_eq_false F,decide_eq_false C,↓u,decide_eq_true h0,a2,↓sp]
  ·simp only[↓rP,rA,AD,AG,AB,↓e,↓o,↓v,decide_eq_false A,decide_eq_false F,decide_eq_false C,↓u,decide_eq_true h0,a2,↓sp]
theorem AKq(hW:iz N (D 59))(hO:jH (D 60))(s:BS)(hs:s.len<=8000)(A:H):∀r (C:List Bm),GN N s.len r C->∀n i (c:List Bm) v (U:H),C.length<n->c.length+C.length<=9000->IP s i r->Fr AH A U->DW U 3 c.length v (E1 c)->(∀b,AJ v b->A.j<=b) ->
  ∃u U',Yc E D W N n s v (AA i) U=some (.B [u,.int .i64 (AA 0),.int .i64 (AA 0)],U')/\DW U' 3 (c++C).length u (E1 (c++C))/\(∀b,AJ u b->A.j<=b)/\Fr AH A U':=by
 intro r C hts;have L:∀k,k<=9001->Bu k 32=true:=λk hk=>by unfold Bu;simp;omega
 have z:∀(t:Bm) (c:List Bm) v (U:H),c.length+1<=9001->Fr AH A U->DW U 3 c.length v (E1 c)->(∀b,AJ v b->A.j<=b) ->
   ∃u U1 y,Cb U (.cells [.int .i64 (AA t.1),.N (BB t.2.1),.int .i64 (AA t.2.2)])=U1/\(∀J:V->H->AE,Dx E 3 32 v (.D U.j 0 1 (.ex 1)) U1 J=J u y)/\DW y 3 (c++[t]).length u (E1 (c++[t]))/\(∀b,AJ u b->A.j<=b)/\Fr AH A y:=by
  intro t c v U O f P M;have ⟨U1,e1,G,a1,n1⟩:=Fh f.y [.int .i64 (AA t.1),.N (BB t.2.1),.int .i64 (AA t.2.2)];have xs:Cv U1 3 1 (V.D U.j 0 1 (.ex 1)) [.int .i64 (AA t.1),.N (BB t.2.1),.int .i64 (AA t.2.2)] := .inr ⟨_,_,_,_,rfl,a1,AL _,rfl⟩;have ⟨u,y,g,d,nm,f2⟩:=Dd (E:=E) (P.Z G f.y (λ_ _ h=>h)) G.y xs rfl (L _ O);have l1:=G.le;have l0:=f.le;refine⟨u,U1,y,e1,g,?_,λb B=>(nm b B).elim (M b) (λh=>by omega),(f.trans G (λ_ _ h=>h)).trans f2 λb B h=>by have:=M b h;omega⟩;rw[W1,AP];exact d
 induction hts with
 | @fin r hw=>
  intro n i c v U M O h f P F;obtain⟨n,rfl⟩:∃j,n=j+1:=⟨n-1,by omega⟩;have ⟨k,h1,h2,Z⟩:=hW U s i r h;have hik:i+k=s.len:=by
   rw[hw]at h2;have:=congrArg Rw h2;rw[ey,Cm]at this;have:=h.len;omega
  rw[hik]at Z;simp at O;have ⟨u,U1,y,e1,g,d,nm,f2⟩:=z (0,[],s.len) c v U (by omega) f P F;refine⟨u,y,?_,d,nm,f2⟩;have e1':Cb U (.cells [.int .i64 (AA 0),.N (BS.mk 0 0),.int .i64 (AA s.len)])=U1:=e1;have d1:decide (s.len<=s.len)=true:=decide_eq_true (AL _);show Qw E D W _ s v (AA i) U=_;have key:∀R,Qw E D W R s v (AA i) U=some (.B [u,.int .i64 (AA 0),.int .i64 (AA 0)],y):=by
   intro R;unfold Qw;simp only[↓rP,rA,AD,AG,AB,↓Z,d1,↓e1',↓g,↓Bt d.S]
  exact key _
 | @S r r1 w r2 Y C hw Q hrest ih=>
  intro n i c v U M O h f P F;obtain⟨n,rfl⟩:∃j,n=j+1:=⟨n-1,by omega⟩;obtain⟨k,h1,h2,Z⟩:=hW U s i r h;have B:=h.dr h1;rw[<-h2,hw]at B;obtain⟨x,hw0⟩:=Q.app;have hlen:=B.len;have hr1:0<r1.length:=by rw[x,AP];omega
  have eat:s.len-r1.length=i+k:=by omega
  obtain⟨U1,g1,G⟩:=hO U s (i+k) Y r1 w r2 f.y B Q;have aa:=f.trans G (λ_ _ h=>h);simp at O M;obtain⟨u,y,U3,e2,g,d,nm,f3⟩:=z (Y,w,s.len-r1.length) c v U1 (by omega) aa (P.Z G f.y (λ_ _ h=>h)) F;have X:=B.dr (k:=w.length) (by rw[x,AP];omega);rw[x,AJD]at X;obtain⟨u',U',g',d',nm',f'⟩:=ih n (i+k+w.length) (c++[(Y,w,s.len-r1.length)]) u U3 (by omega) (by rw[AP,Ag,Cm];omega) X f3 d nm;rw[BC]at d';refine⟨u',U',?_,d',nm',f'⟩;rw[eat]at e2;have ab:Cb U1 (.cells [.int .i64 (AA Y),.N (BB w),.int .i64 (AA (i+k))])=y:=e2;have d1:decide (s.len<=i+k)=false:=decide_eq_false (by omega);show Qw E D W (Yc E D W N n) s v (AA i) U=_;have key:∀R,Qw E D W R s v (AA i) U=R s u (AA (i+k+w.length)) U3:=by
   intro R;unfold Qw;simp only[↓rP,rA,AD,AG,AB,↓Z,d1,↓g1,DH,↓ab,↓g,↓Bt d.S]
  rw[key,g']
theorem kf(r:iz N (D 59))(v:jH (D 60))(w:10000<N):jC N (F27 E D W N):=by
 intro U s m o p c;have t:=c.len;rw[BS.length_nats]at t;have ⟨u,U',g,d,nm,f⟩:=AKq (E:=E) (W:=W) r v s p U s.mt m c N 0 [] .h U (by omega) (by simp;omega) ⟨Ot.start s,by omega⟩ (Fr.refl o) (DW.nil U 3) (λ_ h=>h.elim);refine⟨u,U',?_,d,nm,f⟩;have q:decide (8000<s.len)=false:=decide_eq_false (by omega);show iZ E D W (Yc E D W N N) s U=_;have key:∀K,iZ E D W K s U=K s .h (AA 0) U:=by
  intro K;unfold iZ;simp only[↓rP,rA,q]
 rw[key];exact g
end
def IQ(t:Bm):List V:=[.int .i64 (AA t.1),.N (BB t.2.1),.int .i64 (AA t.2.2)]
theorem ov:∀a i t,a[i]? = some t->((E1 a).drop (i*3)).take 3=IQ t
 | [],i,t,h=>by simp at h
 | u::a,0,t,h=>by simp at h;subst h;rfl
 | u::a,i+1,t,h=>by
  have:a[i]? = some t:=by simpa using h
  show ((IQ u++E1 a).drop ((i+1)*3)).take 3=_;rw[show (i+1)*3=3+i*3 by omega,<-Cd,show (IQ u++E1 a).drop 3=E1 a from rfl];exact ov a i t this
structure Rs where
 nm:BS
 tg:Int
 nv:V
 tv:V
 dv:V
def pc(b:V)(a:Nat)(R:Rs):List V:=[b,.int .i64 (AA a),.N R.nm,.int .i64 R.tg,R.nv,R.tv,R.dv,.int .i64 (AA 0),.int .i64 (AA 0)]
structure AMm(ts:List Bm):Prop where
 few:ts.length<=9000
 fin:∃p e,ts=p++[e]/\e.1=0
 nums:∀t∈ts,t.1=3->∃m ds r,t.2.1=Gc m ds/\Ij m ds r
structure Pz(U:H)(xb:Nat)(lv:V)(ts l:List Bm)(R:Rs):Prop where
 ex:∃a,Bx U xb (pc lv a R)/\ts.drop a=l
 src:Cv U 3 ts.length lv (E1 ts)
 ne:l≠[]
 nx:∀b,AJ lv b->b≠xb
 ok:AMm ts
 ht:Ai U
section
variable {E:EB}{U U':H}{xb:Nat}{lv:V}{ts l:List Bm}{R:Rs}{t t2:Bm}
theorem Pz.Z{S}(h:Pz U xb lv ts l R)(f:Fr S U U')(h1:¬S xb)(i:∀b,AJ lv b->¬S b):Pz U' xb lv ts l R:=by
 have ⟨a,g,j⟩:=h.ex;exact⟨⟨a,f.X g h.ht h1,j⟩,h.src.Z f h.ht i,h.ne,h.nx,h.ok,f.y⟩
theorem AB8{a}(h:Cv U 3 ts.length lv (E1 ts))(m:ts.drop a=t::l) J:AS 3 lv (AA a) (λb o=>Bv E U b o 3 J)=J (IQ t):=by
 have j:a<ts.length:=by
  have:=congrArg Rw m;simp at this;omega
 have n:ts[a]? = some t:=by
  have:=congrArg (λx=>x[0]?) m;simpa using this
 rcases h with ⟨u,_,_⟩|⟨b,o,c,L,rfl,q,p,r⟩
 ·omega
 ·rw[CC j]
  show Bv E U b (o+a*3) 3 J=_;rw[BU q,E2 (by omega)];have:=ov ts a t n;rw[r,Wb,List.take_take,Ha (by omega),Cd]at this;rw[this]
theorem Pz.lt(h:Pz U xb lv ts l R):xb<U.j:=by
 have ⟨a,c,_⟩:=h.ex;exact c.lt h.ht
theorem Pz.adv(h:Pz U xb lv ts (t::t2::l) R){a}(n:Bx U xb (pc lv a R))(q:ts.drop a=t::t2::l):
  ∃U',(∀J,DO 1 xb 1 (.int .i64 (AA (a+1))) U J=J U')/\Pz U' xb lv ts (t2::l) R/\Fr (λk=>k=xb) U U':=by
 have ⟨U',e,f,p⟩:=Y2 h.ht n (pc lv (a+1) R);refine⟨U',λJ=>?_,⟨⟨a+1,p,?_⟩,h.src.Z f h.ht λb o e=>h.nx b o e,by simp,h.nx,h.ok,f.y⟩,f⟩
 ·rw[Ed n rfl]
  show J (Gl U xb (.cells (pc lv (a+1) R)))=_;rw[e]
 ·rw[<-Cd,q];rfl
end
def EG(s:BS):List Bm->Bool × List Bm
 | t::a::l=>match (decide (t.1=5) || decide (t.1=6))&&(BB t.2.1).beq s with
  | true=>(true,a::l)
  | false=>(false,t::a::l)
 | l=>(false,l)
theorem qJ s (t a:Bm) l:EG s (t::a::l)=match (decide (t.1=5) || decide (t.1=6))&&(BB t.2.1).beq s with
 | true=>(true,a::l) | false=>(false,t::a::l):=rfl
def Dt(s:BS)(l:List Bm):Option (List Bm):=match EG s l with
 | (true,l')=>some l'
 | (false,_)=>none
def IZ(k:Nat):List Bm->Option (List Nat × List Bm)
 | t::a::l=>match decide (t.1=k)with
  | true=>some (t.2.1,a::l)
  | false=>none
 | _=>none
def Mf(w:List Nat):Int:=match w with
 | []=>0
 | c::a=>match decide (c=45)with
  | true=>-AA (FC 0 a)
  | false=>AA (FC 0 (c::a))
def ZQ(l:List Bm):Option (Int × List Bm):=(IZ 3 l).map λp=>(Mf p.1,p.2)
def Lc(F:List V->H->AE):Prop:=∀{U xb b a l R t},Pz U xb b a (t::l) R->F [.o xb 0] U=some (.agg (IQ t),U)
def VK(F:List V->H->AE):Prop:=∀{U xb c a l R t b},Pz U xb c a (t::b::l) R->∃U',F [.o xb 0] U=some (.agg (IQ t),U')/\Pz U' xb c a (b::l) R/\Fr (λk=>k=xb) U U'
def MP(F:List V->H->AE):Prop:=∀{U xb b a l R} s,Pz U xb b a l R->∃U',F [.o xb 0,.N s] U=some (.bool (EG s l).1,U')/\Pz U' xb b a (EG s l).2 R/\Fr (λk=>k=xb) U U'
def HS(F:List V->H->AE):Prop:=∀{U xb b a l l' R s},Pz U xb b a l R->Dt s l=some l'->∃U',F [.o xb 0,.N s] U=some (.B [],U')/\Pz U' xb b a l' R/\Fr (λk=>k=xb) U U'
def It(F:List V->H->AE):Prop:=∀{U xb a b l l' R k w},Pz U xb a b l R->IZ k l=some (w,l')->∃U',F [.o xb 0,.int .i64 (AA k)] U=some (.N (BB w),U')/\Pz U' xb a b l' R/\Fr (λk=>k=xb) U U'
def VC(F:List V->H->AE):Prop:=∀U m a r,Ij m a r->F [.N (BB (Gc m a))] U=some (.int .i64 (Mf (Gc m a)),U)
def Nn(F:List V->H->AE):Prop:=∀{U xb b a l l' R v},Pz U xb b a l R->ZQ l=some (v,l')->∃U',F [.o xb 0] U=some (.int .i64 v,U')/\Pz U' xb b a l' R/\Fr (λk=>k=xb) U U'
section
variable {E:EB}{D:Ac}{W:AF}{N:Nat}
theorem ALj:Lc (F31 E D W N):=by
 intro U xb i j l R t h;have ⟨a,f,g⟩:=h.ex;have rd:=λJ=>AB8 (E:=E) h.src g J;unfold IQ at rd ⊢;unfold pc at f;show sz E D W xb 0 U=_;unfold sz;simp only[↓rP,↓AT f,↓rd]
theorem AEu:VK (F61 E D W N):=by
 intro U xb s i l R t v h;have ⟨a,j,m⟩:=h.ex;have ⟨U',g,p,f⟩:=h.adv j m;refine⟨U',?_,p,f⟩;have rd:=λJ=>AB8 (E:=E) h.src m J;have n:a+2<=i.length:=by
  have:=congrArg Rw m;simp at this;omega
 have w:=h.ok.few;have q:decide (a+1<i.length)=true:=decide_eq_true (by omega);have u:BQ .i64 (AA a) (AA 1)=AA (a+1):=Al (by omega);have r:∀J,Ao s J=J i.length:=λJ=>h.src.ip;unfold IQ at rd ⊢;unfold pc at j;show sT E D W (sS E D W) xb 0 U=_;unfold sT sS;simp only[↓rP,rA,↓AT j,↓rd,u,↓r,q,↓g]
theorem AUJ (G:Lc (D 31)) (K:VK (D 61)):MP (F30 E D W N):=by
  intro U xb M O l R s h;have ⟨a,v,A⟩:=h.ex;obtain⟨t,o,rfl⟩:∃t o,l=t::o:=by
    cases l with
    | nil=>exact absurd rfl h.ne | cons t o=>exact⟨t,o,rfl⟩
  have u:=G h;unfold IQ at u;unfold pc at v;show ∃U',iW E D W xb 0 s U=_/\_;cases o with
  | nil=>
    have J:t.1=0:=by
      obtain⟨p,e,rfl,L⟩:=h.ok.fin;have r:=congrArg Rw A;simp at r;have:a=p.length:=by omega
      rw[this,AJD]at A;cases A;exact L
    refine⟨U,?_,h,Fr.refl h.ht⟩;unfold iW;simp only[↓rP,rA,AD,AG,AB,↓u,↓AT v,J,AD];rfl
  | cons P Q=>
    have ⟨U',g,p,f⟩:=K h;unfold IQ at g;rw[qJ];unfold iW;cases C:decide (t.1=5)<;>cases F:decide (t.1=6)<;>cases B:(BB t.2.1).beq s;all_goals first
      | (refine⟨U,?_,h,Fr.refl h.ht⟩
         simp only[↓rP,rA,AD,AG,AB,↓u,↓AT v,C,F,B];done)
      | (refine⟨U',?_,p,f⟩
         simp only[↓rP,rA,AD,AG,AB,↓u,↓AT v,C,F,B,↓g];done)
theorem AEw(o:MP (D 30)):HS (F29 E D W N):=by
 intro U xb x u l l' R s h e;have ⟨a,n,v⟩:=h.ex;have ⟨U',g,p,f⟩:=o s h;unfold Dt at e;cases q:EG s l with
 | mk c r=>
  rw[q]at e g p;cases c with
  | false=>cases e | true=>
   cases e;refine⟨U',?_,p,f⟩;unfold pc at n;show tB E D W xb 0 s U=_;unfold tB;simp only[↓rP,rA,↓AT n,↓g]
theorem AFA(A:Lc (D 31))(z:VK (D 61)):It (F28 E D W N):=by
 intro U xb F B l l' R k w h d;have ⟨a,q,C⟩:=h.ex;cases l with
 | nil=>exact absurd rfl h.ne | cons t x=>
  cases x with
  | nil=>cases d | cons u y=>
   have r:=A h;have ⟨U',g,p,f⟩:=z h;unfold IQ at r g;have d:(match decide (t.1=k)with | true=>some (t.2.1,u::y) | false=>none:Option (List Nat × List Bm))=some (w,l'):=d;cases n:decide (t.1=k)with
   | false=>rw[n]at d;cases d | true=>
    rw[n]at d;cases d;refine⟨U',?_,p,f⟩;unfold pc at q;show tC E D W xb 0 (AA k) U=_;unfold tC;simp only[↓rP,rA,↓r,↓AT q,n,↓g]
theorem gH{m g r}(h:Ij m g r):∀c∈Gc m g,c<256:=by
 intro c a;unfold Gc at a;have k:∀c∈g,c<256:=λc a=>by have:=Ji (h.dig c a);omega
 split at a
 ·rcases A0.1 a with rfl|a
  ·decide
  ·exact k c a
 ·exact k c a
theorem AKf U m (s:BS)(z:s.len<=100):∀(f:List Nat) n i v,(∀d∈f,Gv d=true)->f.length<n->IP s i f->FC v f<=9223372036854775808 ->
  Vm E D W N n s m (AA v) (AA i) U=Nr E D W N m (AA (FC v f)) U
 | [],n,i,v,r,w,h,x=>by
  obtain⟨n,rfl⟩:∃j,n=j+1:=⟨n-1,by omega⟩;have t:decide (i<s.len)=false:=decide_eq_false (by have:=h.nil;omega);show MH E D W (Nr E D W N) _ s m (AA v) (AA i) U=_;have key:∀K R,MH E D W K R s m (AA v) (AA i) U=K m (AA v) U:=by
   intro K R;unfold MH;simp only[↓rP,rA,AB,t]
  exact key _ _
 | c::f,n,i,v,r,w,h,x=>by
  obtain⟨n,rfl⟩:∃j,n=j+1:=⟨n-1,by omega⟩;have q:=Ji (r c (AZ ..));have A:=h.le;have e:=h.ix;have t:=decide_eq_true h.lt;have u:FC (10*v+(c-48)) f<=9223372036854775808:=x;have J:=Tl f (10*v+(c-48));have y:BQ .i64 (AA i) (AA 1)=AA (i+1):=Al (by omega);have C:Dj .u8 (AA c) (AA 48)=AA (c-48):=by
   show An .u8 (AA c-AA 48)=_;rw[show AA c-AA 48=AA (c-48)from(Int.ofNat_sub q.1).symm];exact BJ (show c-48<=255 by omega)
  have G:An .u64 (AA (c-48))=AA (c-48):=BJ (show c-48<=18446744073709551615 by omega);have B:O3 .u64 (AA 10) (AA v)=AA (10*v):=by
   show An .u64 (AA (10*v))=_;exact BJ (show 10*v<=18446744073709551615 by omega)
  have L:BQ .u64 (AA (10*v)) (AA (c-48))=AA (10*v+(c-48)):=by
   show An .u64 (AA (10*v+(c-48)))=_;exact BJ (show 10*v+(c-48)<=18446744073709551615 by omega)
  have F:=AKf U m s z f n (i+1) (10*v+(c-48)) (λd h=>r d (Az _ h)) (by simp at w;omega) h.tl u;show MH E D W (Nr E D W N) (Vm E D W N n) s m (AA v) (AA i) U=Nr E D W N m (AA (FC (10*v+(c-48)) f)) U;have key:∀K R,MH E D W K R s m (AA v) (AA i) U=R s m (AA (10*v+(c-48))) (AA (i+1)) U:=by
   intro K R;unfold MH;simp only[↓rP,rA,AD,AG,AB,t,↓e,y,C,G,B,L]
  rw[key,F]
theorem oI{z}(h1 : -9223372036854775808<=z)(g:z<=9223372036854775807):An .i64 z=z:=by
 unfold An;have:inK .i64 z=true:=by
  cases z with
  | ofNat m=>
   show Am m 9223372036854775807=true;rw[Bn];have g:(m:Int)<=9223372036854775807:=g;omega
  | negSucc m=>
   show B9 m 9223372036854775808=true;rw[Co];have h1 :=h1;omega
 rw[this]
theorem yy{v}(h1:1<=v)(h:v<=9223372036854775808):Dj .i64 (pt .i64 (An .i64 (Dj .u64 (AA v) (AA 1)))) (AA 1) = -AA v:=by
 have f:Dj .u64 (AA v) (AA 1)=AA (v-1):=by
  show An .u64 (AA v-AA 1)=_;rw[show AA v-AA 1=AA (v-1)from(Int.ofNat_sub h1).symm];exact BJ (show v-1<=18446744073709551615 by omega)
 have g:An .i64 (AA (v-1))=AA (v-1):=BJ (show v-1<=9223372036854775807 by omega);rw[f,g];have d:pt .i64 (AA (v-1)) = -AA (v-1):=by
  show An .i64 (Int.sub 0 (AA (v-1)))=_;rw[show Int.sub 0 (AA (v-1)) = -AA (v-1)from Int.zero_sub _];exact oI (z:=-((v-1:Nat):Int)) (by omega) (by omega)
 rw[d];show An .i64 (-AA (v-1)-AA 1)=_;have e : -AA (v-1)-AA 1 = -v:=by
  show -((v-1:Nat):Int)-1=_;omega
 rw[e];exact oI (by omega) (by omega)
end
structure ABq where
 has:Bool
 no:Bool
 i9:Bool
 I:Bool
 low:Int
 high:Int
def AUR:ABq:=⟨false,false,false,false,0,0⟩
def OI:List BS:=[BS.mk 1 91,BS.mk 7 22026814072246082,BS.mk 4 1280070990,BS.mk 10 488440487847103610377301,BS.mk 7 23157120498421321,BS.mk 5 361940403023,BS.mk 10 322399817400452109389381,BS.mk 3 5522771,BS.mk 6 76155295057987,BS.mk 8 4990918871747741011]
def mM(t:Bm):Bool:=(OI.any λx=>x.beq (BB t.2.1)&&(decide (t.1=5) || decide (t.1=6))) || decide (t.1=1)
def td(F:List V->H->AE):Prop:=∀U t,Ai U->∃U',F [.agg (IQ t)] U=some (.bool (mM t),U')/\Fr AH U U'
section
variable {E:EB}{D:Ac}{W:AF}{N:Nat}
theorem yJ(M:200<N):VC (nH E D W N):=by
 intro U m d r h;have u:=gH h;have z:∀c∈d,c<256:=λc v=>by have:=Ji (h.dig c v);omega
 have h1:=h.n1;have C:=h.n19;have n:∀w,(∀c∈w,c<256)->w.length<=100->IP (BB w) 0 w:=λw s L=>⟨by have:=Ot.start (BB w);rwa [JC s]at this,by rw[IW];omega⟩;have q:Ns E D W N (BB d) m U=Nr E D W N m (AA (FC 0 d)) U:=AKf U m (BB d) (by rw[IW];omega) d N 0 0 h.dig (by omega) (n d z (by omega)) h.v;cases m with
 | false=>
  obtain⟨c,l,rfl⟩:∃c l,d=c::l:=by
   cases d with
   | nil=>simp at h1 | cons c l=>exact⟨c,l,rfl⟩
  have v:=Ji (h.dig c (AZ ..));have y:decide (c=45)=false:=decide_eq_false (by omega);have e:=(n (c::l) z (by omega)).ix;have F:Mf (Gc false (c::l))=AA (FC 0 (c::l)):=by
   show (match decide (c=45)with | true=>_ | false=>_:Int)=_;rw[y]
  rw[F];show MI E D W (Ns E D W N) (BB (c::l)) U=_;have key:∀K,MI E D W K (BB (c::l)) U=K (BB (c::l)) false U:=by
   intro K;unfold MI;simp only[↓rP,rA,↓e,y]
  rw[key,q];show RK E D W false (AA (FC 0 (c::l))) U=_;have A:An .i64 (AA (FC 0 (c::l)))=AA (FC 0 (c::l)):=BJ (show FC 0 (c::l)<=9223372036854775807 by have:=h.vp rfl;omega);unfold RK;simp only[↓rP,rS,A]
 | true=>
  have s:=u;have e:=(n (45::d) s (by simp;omega)).ix;have G:∀J,DQ (BB (45::d)) (some (.int .i64 (AA 1))) none J=J (BB d):=λJ=>by
   rw[J9 (by rw[IW,Ag];omega),((n (45::d) s (by simp;omega)).tl).r.subAll]
  show MI E D W (Ns E D W N) (BB (45::d)) U=some (.int .i64 (-AA (FC 0 d)),U);have key:∀K,MI E D W K (BB (45::d)) U=K (BB d) true U:=by
   intro K;unfold MI;simp only[↓rP,rA,AD,AG,AB,↓e,↓G]
  rw[key,q];have t:1<=FC 0 d:=by
   obtain⟨c,l,rfl⟩:∃c l,d=c::l:=by
    cases d with
    | nil=>simp at h1 | cons c l=>exact⟨c,l,rfl⟩
   have v:=Ji (h.dig c (AZ ..));have B:c≠48:=h.mi rfl;have:=Tl l (10*0+(c-48));show 1<=FC (10*0+(c-48)) l;omega
  have ev:=yy t h.v;show RK E D W true (AA (FC 0 d)) U=_;unfold RK;simp only[↓rP,rS,ev]
theorem AEs(S:It (D 28))(Q:VC (D 115)):Nn (F63 E D W N):=by
 intro U xb Y X l l' R v h n;have ⟨a,T,K⟩:=h.ex;unfold ZQ at n;cases d:IZ 3 l with
 | none=>rw[d]at n;cases n | some p=>
  have ⟨w,O⟩:=p;rw[d]at n;cases n;have ⟨U',g,p,f⟩:=S h d;have ⟨m,j,r,I,z⟩:∃m j r,w=Gc m j/\Ij m j r:=by
   cases l with
   | nil=>cases d | cons t G=>
    cases G with
    | nil=>cases d | cons J M=>
     have d:(match decide (t.1=3)with | true=>some (t.2.1,J::M) | false=>none:Option (List Nat × List Bm))=some (w,O):=d;cases x:decide (t.1=3)with
     | false=>rw[x]at d;cases d | true=>
      rw[x]at d;cases d;exact h.ok.nums t (nQ (K ▸ AZ ..)) (of_decide_eq_true x)
  subst I;have P:=Q U' m j r z;have A:(BB (Gc m j)).beq (BS.mk 0 0)=false:=by
   rw[BS.beq_nats,JC (gH z)];refine decide_eq_false λe=>?_;have:=congrArg Rw e;have h1:=z.n1;have L:(BS.mk 0 0).mt.length=0:=rfl;rw[L]at this;unfold Gc at this;split at this<;>(try simp only[Ag]at this)<;>omega
  refine⟨U',?_,p,f⟩;show sR E D W (.o xb 0) U=_;unfold sR;simp only[↓rP,↓g,A,↓P]
theorem AMO(hN:100<N):td (F62 E D W N):=by
 intro U t ht;have ⟨U1,L,y,a1,n1⟩:=Fh ht (IQ t);have ⟨i,A,I,a2,n2⟩:=Fh y.y (OI.map .N);have w:=I.X a1 y.y (λh=>h);refine⟨i,?_,y.trans I (λ_ _ h=>h)⟩;have B:∀m j n,j+m=10->m<n->Ya E D W N n U.j 0 (.D U1.j 0 10 (.ex 10)) (AA j) i=some (.bool (((OI.drop j).any λx=>x.beq (BB t.2.1)&&(decide (t.1=5) || decide (t.1=6))) || decide (t.1=1)),i):=by
  intro m;induction m with
  | zero=>
   intro j n hj hn;obtain⟨n,rfl⟩:∃k,n=k+1:=⟨n-1,by omega⟩;obtain rfl:j=10:=by omega
   show Qp E D W (YG E D W) _ U.j 0 (.D U1.j 0 10 (.ex 10)) (AA 10) i=_;unfold IQ at w;have key:∀R,Qp E D W (YG E D W) R U.j 0 (.D U1.j 0 10 (.ex 10)) (AA 10) i=some (.bool (decide (t.1=1)),i):=by
    intro R;unfold Qp YG;simp only[↓rP,rA,AD,AG,AB,Dp,↓AT w]
   rw[key];rfl
  | succ m ih=>
   intro j n hj hn;obtain⟨n,rfl⟩:∃k,n=k+1:=⟨n-1,by omega⟩;have C:j<OI.length:=by show j<10;omega
   rw[Db C,List.any_cons];have d1:decide (j<10)=true:=decide_eq_true (by omega);have rd:∀J,AS 1 (.D U1.j 0 10 (.ex 10)) (AA j) (λb o=>DF E i b o J)=J (.N OI[j]):=λJ=>by
    rw[CC (show j<10 by omega)];refine GS a2 ?_;show (OI.map V.N)[0+j*1]? = _;rw[BV,CB,As,AI C];rfl
   have z:=ih (j+1) n (by omega) (by omega);show Qp E D W (YG E D W) (Ya E D W N n) U.j 0 (.D U1.j 0 10 (.ex 10)) (AA j) i=_;generalize OI[j]=u at rd ⊢;unfold IQ at w;have key:∀K R,Qp E D W K R U.j 0 (.D U1.j 0 10 (.ex 10)) (AA j) i=AK (u.beq (BB t.2.1)&&(decide (t.1=5) || decide (t.1=6))) (some (.bool true,i)) (R U.j 0 (.D U1.j 0 10 (.ex 10)) (AA (j+1)) i):=by
    intro K R;unfold Qp;cases h1:u.beq (BB t.2.1)<;>cases h5:decide (t.1=5)<;>cases M:decide (t.1=6)<;>simp only[↓rP,rA,AD,AG,AB,d1,↓rd,↓AT w,h1,h5,M,Al (show j+1<=9223372036854775807 by omega)]<;>rfl
   rw[key,z];cases u.beq (BB t.2.1)&&(decide (t.1=5) || decide (t.1=6))<;>rfl
 have g:=B 10 0 N rfl (by omega);unfold OI at A;simp at A;unfold IQ at L ⊢;show iK E D W (Ya E D W N N) (AA t.1) (BB t.2.1) (AA t.2.2) U=_;have key:∀K,iK E D W K (AA t.1) (BB t.2.1) (AA t.2.2) U=K U.j 0 (.D U1.j 0 10 (.ex 10)) (AA 0) i:=by
  intro K;unfold iK;simp only[↓rP,rS,↓L,↓A]
 rw[key,g];rfl
end
section
variable {E:EB}{D:Ac}{N:Nat}
theorem qG {U:H} {g B} {l:List V} {v k m s n c p0} (p:Ai U) (M:Bx U g l) (L:l[11]? = some v) (hi:Bx U B [.N s,.int .i64 n,.bool c]) (hd:DW U 3 k v m) (hk:k<=9000) (hne:g≠B) (K:¬AJ v g) (ni:¬AJ v B) :
    ∃e' u U',AV E D Nz Ke [(0,p0),(1,.o g 0),(4,.o B 0)] U=some (e',U')/\Go.Og.look e' 0=some p0/\Go.Og.look e' 1=some (.o g 0)/\Bx U' g (FW l 11 [u])/\DW U' 3 (k+1) u (m++[.N s,.int .i64 n,.bool c])/\(∀b,AJ u b->AJ v b\/U.j<=b)/\¬AJ u g/\Fr (λb=>b=g\/AJ v b) U U':=by
  have fw:Fr AH U ⟨U.j+11,U.F⟩:=(B7 (E:=E) p).Z;have lb:=M.lt p;have li:=hi.lt p;have ⟨A,r⟩:∃A,A=(⟨U.j+11,(U.j+6,.cells [.N s,.int .i64 n,.bool c])::U.F⟩:H):=⟨_,rfl⟩;have F:Fr AH U A:=by
    rw[r];refine⟨λb q=>?_,FT _ _,λb q hn=>?_⟩
    · have q:U.j+11<=b:=q
      show BX ((U.j+6,_)::U.F) b=none;rw[Aj,if_neg (by simp;omega)];exact p b (by omega)
    · show BX ((U.j+6,_)::U.F) b=_
      rw[Aj,if_neg (by simp;omega)]
  have aa:Bx A (U.j+6) [.N s,.int .i64 n,.bool c]:=by
    rw[r];show BX ((U.j+6,_)::U.F) _=_;rw[Aj,if_pos rfl]
  have xs:Cv A 3 1 (V.D (U.j+6) 0 1 (.ex 1)) [.N s,.int .i64 n,.bool c] := .inr ⟨_,_,_,_,rfl,aa,AL _,rfl⟩;have ho:BH [.N s,.int .i64 n,.bool c]=true:=by simp only[Bg,CE,FZ,G3,G7,Me,Bz]
  have ⟨u,J,g2,d2,m2,C⟩:=Dd (E:=E) (bytes:=32) (hd.Z F p (λ_ _ h=>h)) F.y xs ho (by unfold Bu;simp only[AQ,Bn];omega);have na:A.j=U.j+11:=by rw[r]
  have vl:∀b,AJ v b->b<U.j:=λb q=>hd.lt p q;have a2:Bx J g l:=C.X (F.X M p (λh=>h)) F.y K;have ⟨o1,o2⟩:=Et d2.S;have st:∃w,ES E D (.store 1 (.tmp 58) (.tmp 56)) [(58,.o g 11),(56,u)] J=some (.i5,w)/\Fr (λk=>k=g) J w/\Bx w g (FW l 11 [u]):=by
    have ⟨w,q1,q2,q3⟩:=HM (E:=E) (D:=D) (n:=1) (x := .tmp 58) (y := .tmp 56) (e:=[(58,.o g 11),(56,u)]) C.y a2 rfl (show (Ca [(58,.o g 11),(56,u)] (.tmp 56)).cells=[u] from o2) (by
      have:11<l.length:=by
        rcases A2 11 l.length with h|h
        · exact h
        · rw[A4 h]at L;cases L
      simp only[Bg,CE,d2.S,Bz,Ag,Cm,BV,Gb,EX,Bn];omega)
    exact⟨w,q1,q2,q3⟩
  have ⟨w,g3,I,c3⟩:=st;have un:¬AJ u g:=λh=>(m2 g h).elim K λh=>by omega
  have vb:V.beq v v=true:=by
    rcases hd with h|⟨b,rfl,_⟩
    · rcases h with ⟨_,rfl,_⟩ | ⟨_,rfl,_⟩<;>exact Be _ rfl
    · exact Be _ rfl
  have go:FB (Jx E U 11 Ke _ w) E D U 11 0 Nz Ke ⟨[(0,p0),(1,.o g 0),(4,.o B 0)],U.j+11,[U.F],[],0,[]⟩:=
    DR (.o g 0) rfl rfl <|
    DR (.o g 0) rfl rfl <|
    DR (.o g 0) rfl rfl <|
    DR (.o g 11) rfl rfl <|
    HF v (B7 (S:=AJ v) p) rfl (Cj (b:=g) (off:=11) rfl M L p K vb) λr1=>
    HF (.agg [.N s,.int .i64 n,.bool c]) r1 rfl (Fu (b:=B) (off:=0) rfl hi rfl rfl p ni (Be _ rfl)) λr2=>
    Sk (.D (U.j+6) 0 1 (.ex 1)) (.cells [.N s,.int .i64 n,.bool c]) 64 r2 rfl (by decide) rfl rfl λ_ r3=>
    Mt u (by rw[<-r]at r3;exact r3) rfl (by decide) (S':=AJ v) C (λ_ _ h=>h) (λb h h1 _=>by have:=vl b h;omega) (Jq rfl rfl g2) λ_ _ r4=>
    DR (.o g 0) rfl rfl <|
    DR (.o g 11) rfl rfl <|
    LD .i5 r4 rfl (by decide) I (λb h h1 _=>by omega) g3 (λx hx=>by
      simp only[A0,FU,or_false]at hx;rcases hx with rfl|rfl
      · show FG Ke 5 [10,7] []=false
        decide
      · show FG Ke 4 [10,7] []=false
        decide)
  have d:=HG (ops:=Nz) go;refine⟨_,u,w,d,rfl,rfl,c3,d2.Z I C.y (λb q e=>un (e ▸ q)),λb q=>(m2 b q).elim .inl (λh => .inr (by omega)),un,?_⟩;exact((F.mono (λ_ _ h=>h.elim):Fr (λb=>b=g\/AJ v b) U A).trans C (λ_ _ h => .inr h)).trans I (λ_ _ h => .inl h)
theorem lU {U:H} {g ib} {l:List V} {v k m s n c w}  (p:Ai U) (ha:Bx U g l) (hv:l[12]? = some v) (hi:Bx U ib [.N s,.int .i64 n,.bool c,.bool false,.int .i64 (AA 0),.int .i64 (AA 0),.h,.h,.int .i64 (AA 0),.h,.int .i64 w]) (hd:DW U 11 k v m) (hk:k<=9000) (hne:g≠ib) (nv:¬AJ v g) (ni:¬AJ v ib) :
    ∃e' u U',AV E D Nx Kd [(1,.o g 0),(8,.o ib 0)] U=some (e',U')/\Go.Og.look e' 1=some (.o g 0)/\Bx U' g (FW l 12 [u])/\DW U' 11 (k+1) u (m++[.N s,.int .i64 n,.bool c,.bool false,.int .i64 (AA 0),.int .i64 (AA 0),.h,.h,.int .i64 (AA 0),.h,.int .i64 w])/\(∀b,AJ u b->AJ v b\/U.j<=b)/\¬AJ u g/\Fr (λb=>b=g\/AJ v b) U U':=by
  have fw:Fr AH U ⟨U.j+11,U.F⟩:=(B7 (E:=E) (S:=AH) p).Z;have lb:=ha.lt p;have li:=hi.lt p;have ⟨B,r⟩:∃B,B=(⟨U.j+11,(U.j+6,.cells [.N s,.int .i64 n,.bool c,.bool false,.int .i64 (AA 0),.int .i64 (AA 0),.h,.h,.int .i64 (AA 0),.h,.int .i64 w])::U.F⟩:H):=⟨_,rfl⟩;have fa:Fr AH U B:=by
    rw[r];refine⟨λb q=>?_,FT _ _,λb q hn=>?_⟩
    · have q:U.j+11<=b:=q
      show BX ((U.j+6,_)::U.F) b=none;rw[Aj,if_neg (by simp;omega)];exact p b (by omega)
    · show BX ((U.j+6,_)::U.F) b=_
      rw[Aj,if_neg (by simp only[];omega)]
  have aa:Bx B (U.j+6) [.N s,.int .i64 n,.bool c,.bool false,.int .i64 (AA 0),.int .i64 (AA 0),.h,.h,.int .i64 (AA 0),.h,.int .i64 w]:=by
    rw[r];show BX ((U.j+6,_)::U.F) _=_;rw[Aj,if_pos rfl]
  have xs:Cv B 11 1 (V.D (U.j+6) 0 1 (.ex 1)) [.N s,.int .i64 n,.bool c,.bool false,.int .i64 (AA 0),.int .i64 (AA 0),.h,.h,.int .i64 (AA 0),.h,.int .i64 w] := .inr ⟨_,_,_,_,rfl,aa,AL _,rfl⟩;have ho:BH [.N s,.int .i64 n,.bool c,.bool false,.int .i64 (AA 0),.int .i64 (AA 0),.h,.h,.int .i64 (AA 0),.h,.int .i64 w]=true:=by simp only[Bg,CE,FZ,G3,G7,Me,Bz]
  have ⟨u,U2,g2,d2,m2,f2⟩:=Dd (E:=E) (bytes:=136) (hd.Z fa p (λ_ _ h=>h)) fa.y xs ho (by unfold Bu;simp only[AQ,Bn];omega);have na:B.j=U.j+11:=by rw[r]
  have vl:∀b,AJ v b->b<U.j:=λb q=>hd.lt p q;have a2:Bx U2 g l:=f2.X (fa.X ha p (λh=>h)) fa.y nv;have ⟨o1,o2⟩:=Et d2.S;have st:∃z,ES E D (.store 1 (.tmp 44) (.tmp 42)) [(44,.o g 12),(42,u)] U2=some (.i5,z)/\Fr (λk=>k=g) U2 z/\Bx z g (FW l 12 [u]):=by
    have ⟨z,q1,q2,q3⟩:=HM (E:=E) (D:=D) (n:=1) (x := .tmp 44) (y := .tmp 42) (e:=[(44,.o g 12),(42,u)]) f2.y a2 rfl (show (Ca [(44,.o g 12),(42,u)] (.tmp 42)).cells=[u] from o2) (by
      have:12<l.length:=by
        rcases A2 12 l.length with h|h
        · exact h
        · rw[A4 h]at hv;cases hv
      simp only[Bg,CE,d2.S,Bz,Ag,Cm,BV,Gb,EX,Bn];omega)
    exact⟨z,q1,q2,q3⟩
  have ⟨z,g3,f3,c3⟩:=st;have un:¬AJ u g:=λh=>(m2 g h).elim nv λh=>by omega
  have vb:V.beq v v=true:=by
    rcases hd with h|⟨b,rfl,_⟩
    · rcases h with ⟨_,rfl,_⟩ | ⟨_,rfl,_⟩<;>exact Be _ rfl
    · exact Be _ rfl
  have go:FB (Jx E U 11 Kd _ z) E D U 11 0 Nx Kd ⟨[(1,.o g 0),(8,.o ib 0)],U.j+11,[U.F],[],0,[]⟩:=
    DR (.o g 0) rfl rfl <|
    DR (.o g 0) rfl rfl <|
    DR (.o g 0) rfl rfl <|
    DR (.o g 12) rfl rfl <|
    HF v (B7 (S:=AJ v) p) rfl (Cj (b:=g) (off:=12) rfl ha hv p nv vb) λr1=>
    HF (.agg [.N s,.int .i64 n,.bool c,.bool false,.int .i64 (AA 0),.int .i64 (AA 0),.h,.h,.int .i64 (AA 0),.h,.int .i64 w]) r1 rfl (Fu (b:=ib) (off:=0) rfl hi rfl rfl p ni (Be _ rfl)) λr2=>
    Sk (.D (U.j+6) 0 1 (.ex 1)) (.cells [.N s,.int .i64 n,.bool c,.bool false,.int .i64 (AA 0),.int .i64 (AA 0),.h,.h,.int .i64 (AA 0),.h,.int .i64 w]) 64 r2 rfl (by decide) (by decide) rfl λ_ r3=>
    Mt u (by rw[<-r]at r3;exact r3) rfl (by decide) (S':=AJ v) f2 (λ_ _ h=>h) (λb h h1 _=>by have:=vl b h;omega) (Jq rfl rfl g2) λ_ _ r4=>
    DR (.o g 0) rfl rfl <|
    DR (.o g 12) rfl rfl <|
    LD .i5 r4 rfl (by decide) f3 (λb h h1 _=>by omega) g3 (λx hx=>by
      simp only[A0,FU,or_false]at hx;rcases hx with rfl|rfl
      · show FG Kd 5 [10,7] []=false
        decide
      · show FG Kd 4 [10,7] []=false
        decide)
  have d:=HG (ops:=Nx) go;refine⟨_,u,z,d,rfl,c3,d2.Z f3 f2.y (λb q e=>un (e ▸ q)),λb q=>(m2 b q).elim .inl (λh => .inr (by omega)),un,?_⟩;exact((fa.mono (λ_ _ h=>h.elim):Fr (λb=>b=g\/AJ v b) U B).trans f2 (λ_ _ h => .inr h)).trans f3 (λ_ _ h => .inl h)
end
structure CS where
 name:List Nat
 num:Int
 has:Bool
def CS.c(x:CS):List V:=[.N (BB x.name),.int .i64 x.num,.bool x.has]
structure BW where
 name:List Nat
 type:Nat
 opt:Bool
 group:Nat
def BW.c(x:BW):List V:=[.N (BB x.name),.int .i64 (AA x.type),.bool x.opt,.bool false,.int .i64 (AA 0),.int .i64 (AA 0),.h,.h,.int .i64 (AA 0),.h,.int .i64 (AA x.group)]
structure Ae where
 A:Nat
 name:List Nat
 mHas:Bool
 mNum:Int
 mMode:Nat
 T:ABq
 R:List CS
 K:List BW
 W:Nat
 I:Bool
 of_:Nat
def JE(l:List CS):List V:=l.flatMap CS.c
def Ie(l:List BW):List V:=l.flatMap BW.c
def Ae.c(x:Ae)(iv fv:V):List V:=[.int .i64 (AA x.A),.N (BB x.name),.bool x.mHas,.int .i64 x.mNum,.int .i64 (AA x.mMode),.bool x.T.has,.bool x.T.no,.bool x.T.i9,.bool x.T.I,.int .i64 x.T.low,.int .i64 x.T.high,iv,fv,.int .i64 (AA x.W),.bool x.I,.int .i64 (AA x.of_)]
structure Nq(U:H)(nb:Nat)(nd:Ae)(iv fv:V):Prop where
 a:Bx U nb (nd.c iv fv)
 i:DW U 3 nd.R.length iv (JE nd.R)
 f:DW U 11 nd.K.length fv (Ie nd.K)
 ni:¬AJ iv nb
 nf:¬AJ fv nb
 d:∀b,AJ iv b->¬AJ fv b
structure Ap(xb:Nat)(lv:V)(nb:Nat)(iv fv:V):Prop where
 x:nb≠xb
 l:¬AJ lv nb
 i:∀b,AJ iv b->b≠xb/\¬AJ lv b
 f:∀b,AJ fv b->b≠xb/\¬AJ lv b
theorem zU l m:JE (l++m)=JE l++JE m:=by grind [JE]
theorem zZ l m:Ie (l++m)=Ie l++Ie m:=by grind [Ie]
theorem ZC{U b off}{y:V}{l:List V}(n:Ai U)(a:Bx U b l)(j:y.S=true)(p:off<l.length):∃U',(∀J,DO 1 b off y U J=J U')/\Fr (λk=>k=b) U U'/\Bx U' b (FW l off [y]):=by
 have ⟨U',e,f,o⟩:=Y2 n a (FW l off [y]);have ⟨_,h⟩:=Et j;refine⟨U',λJ=>?_,f,o⟩;rw[Ed a (by rw[h];simp only[Ag,Cm,Bg,CE,j,Bz,Gb,EX,Bn,Nat.add_eq];omega),h,e]
section
variable {U U':H}{nb:Nat}{nd:Ae}{iv fv:V}{xb:Nat}{lv:V}
theorem Nq.Z{S}(h:Nq U nb nd iv fv)(f:Fr S U U')(a:Ai U)(h1:¬S nb)(e:∀b,AJ iv b->¬S b)(d:∀b,AJ fv b->¬S b):Nq U' nb nd iv fv:=
 ⟨f.X h.a a h1,h.i.Z f a e,h.f.Z f a d,h.ni,h.nf,h.d⟩
theorem Nq.frx(h:Nq U nb nd iv fv)(f:Fr (λk=>k=xb) U U')(e:Ai U)(c:Ap xb lv nb iv fv):Nq U' nb nd iv fv:=
 h.Z f e c.x (λb a=>(c.i b a).1) (λb a=>(c.f b a).1)
theorem Nq.set(h:Nq U nb nd iv fv)(i:Ai U){off}{y:V}(d:Ae)(n:y.S=true)(q:off<16)(o:FW (nd.c iv fv) off [y]=d.c iv fv)(h1:d.R=nd.R)(p:d.K=nd.K):
  ∃U',(∀J,DO 1 nb off y U J=J U')/\Fr (λk=>k=nb) U U'/\Nq U' nb d iv fv:=by
 have ⟨U',g,f,a⟩:=ZC i h.a n q;rw[o]at a;exact⟨U',g,f,a,by rw[h1];exact h.i.Z f i (λb l e=>h.ni (e ▸ l)),by rw[p];exact h.f.Z f i (λb l e=>h.nf (e ▸ l)),h.ni,h.nf,h.d⟩
end
def OL(its:List CS)(more:Bool)(root:Nat)(l:List Bm):Option (List CS × Bool × Nat × List Bm):=
 match (if(decide (0<its.length) && !more)=true then EG (BS.mk 3 3026478) l else(false,l))with
 | (true,b)=>some (its,true,its.length,b)
 | (false,b)=>(IZ 2 b).bind λa=>match EG (BS.mk 1 40) a.2 with
  | (true,c)=>(ZQ c).bind λv=>(Dt (BS.mk 1 41) v.2).map λe=>(its++[⟨a.1,v.1,true⟩],more,root,e)
  | (false,c)=>some (its++[⟨a.1,0,false⟩],more,root,c)
def Jc:Nat->List CS->Bool->Nat->List Bm->Option (List CS × Bool × Nat × List Bm)
 | 0,_,_,_,_=>none
 | n+1,its,more,root,l=>(OL its more root l).bind λs=>match EG (BS.mk 1 44) s.2.2.2 with
  | (false,a)=>some (s.1,s.2.1,(if s.2.1=true then s.2.2.1 else s.1.length),a)
  | (true,a)=>Jc n s.1 s.2.1 s.2.2.1 a
def VR(F:List V->H->AE):Prop:=∀{U:H}{xb d f l l' R c}{nd:Ae}{iv fv its e g},Pz U xb d f l R->Nq U c nd iv fv->Ap xb d c iv fv ->
 nd.R=[]->Jc 2000 nd.R nd.I nd.W l=some (its,e,g,l') ->
 ∃a U',F [.o xb 0,.o c 0] U=some (.B [],U')/\Pz U' xb d f l' R/\Nq U' c { nd with R:=its,I:=e,W:=g } a fv/\(∀b,AJ a b->AJ iv b\/U.j<=b)/\Fr (λb=>b=xb\/b=c\/AJ iv b) U U'
section
variable {E:EB}{D:Ac}{N:Nat}
theorem lJ(hI:MP (D 30))(hM:HS (D 29))(hN:Nn (D 63))(hK:It (D 28)){U:H}{xb}{lv:V}{ts l l':List Bm}{R:Rs}{r:Nat}{nd:Ae}{iv fv:V}{its:List CS}{mo:Bool}{ro:Nat}
  (h:Pz U xb lv ts l R) (q:Nq U r nd iv fv) (K:Ap xb lv r iv fv) (hl:nd.R.length<=8000) (C:OL nd.R nd.I nd.W l=some (its,mo,ro,l')) :
  ∃B U',(∀K1 F,RJ E D (AV E D) K1 F (RI E D (AV E D) F) xb 0 r 0 U=F xb 0 r 0 U')/\Pz U' xb lv ts l' R/\Nq U' r { nd with R:=its,I:=mo,W:=ro } B fv/\(∀b,AJ B b->AJ iv b\/U.j<=b)/\Fr (λb=>b=xb\/b=r\/AJ iv b) U U'/\its.length<=nd.R.length+1:=by
 have ⟨a,ha,_⟩:=h.ex;unfold pc at ha;have qa:=q.a;unfold Ae.c at qa;have sl:∀J:Nat->AE,Ao iv J=J nd.R.length:=λJ=>q.i.ip;obtain⟨c,l1,U1,hc,k1,p1,f1⟩:∃c l1 U1,(if(decide (0<nd.R.length) && !nd.I)=true then EG (BS.mk 3 3026478) l else(false,l))=(c,l1) /\
   (∀(k10:Bool->H->AE),AK (decide (0<nd.R.length) && !nd.I) (CD (D 30 [.o xb 0,.N (BS.mk 3 3026478)] U) λu31 s32=>DB u31 λx33=>k10 x33 s32) (k10 false U)=k10 c U1)/\Pz U1 xb lv ts l1 R/\Fr (λk=>k=xb) U U1:=by
  cases hq:decide (0<nd.R.length) && !nd.I with
  | false=>exact⟨false,l,U,by rw[if_neg (by decide)],λk=>rfl,h,Fr.refl h.ht⟩ | true=>
   have ⟨U1,g1,p1,f1⟩:=hI (BS.mk 3 3026478) h;refine⟨(EG (BS.mk 3 3026478) l).1,(EG (BS.mk 3 3026478) l).2,U1,by rw[if_pos rfl],λk=>?_,p1,f1⟩;rw[Eg,g1];rfl
 unfold OL at C;rw[hc]at C;have q1:=q.frx f1 h.ht K;have q1a:=q1.a;unfold Ae.c at q1a
 have key:∀K1 F K4,RJ E D (AV E D) K1 F K4 xb 0 r 0 U=AK c
   (DF E U1 r 11 λu11=>Ao u11 λn12=>DO 1 r 14 (.bool true) U1 λs13=>DO 1 r 13 (.int .i64 (AA n12)) s13 λs14=>F xb 0 r 0 s14)
   (CD (D 28 [.o xb 0,.int .i64 (AA 2)] U1) λu15 t=>HY u15 λx17=>
    DO 3 t.j 0 (.agg [.N x17,.int .i64 (AA 0),.bool false]) (Cb t (.cells [.N ⟨0,0⟩,.int .i64 (AA 0),.bool false])) λs19=>
    CD (D 30 [.o xb 0,.N (BS.mk 1 40)] s19) λu20 s21=>DB u20 λx22=>
    AK x22 (CD (D 63 [.o xb 0] s21) λu23 s24=>DZ .i64 u23 λx25=>DO 1 t.j 2 (.bool true) s24 λs26=>DO 1 t.j 1 (.int .i64 x25) s26 λs27=>
     CD (D 29 [.o xb 0,.N (BS.mk 1 41)] s27) λu28 s29=>H3 u28 λl30=>Ay l30 (K4 xb 0 r 0 t.j 0 s29)) (K4 xb 0 r 0 t.j 0 s21)):=by
  intro K1 F K4
  rw[<-k1 λc U1=>AK c
   (DF E U1 r 11 λu11=>Ao u11 λn12=>DO 1 r 14 (.bool true) U1 λs13=>DO 1 r 13 (.int .i64 (AA n12)) s13 λs14=>F xb 0 r 0 s14)
   (CD (D 28 [.o xb 0,.int .i64 (AA 2)] U1) λu15 t=>HY u15 λx17=>
    DO 3 t.j 0 (.agg [.N x17,.int .i64 (AA 0),.bool false]) (Cb t (.cells [.N ⟨0,0⟩,.int .i64 (AA 0),.bool false])) λs19=>
    CD (D 30 [.o xb 0,.N (BS.mk 1 40)] s19) λu20 s21=>DB u20 λx22=>
    AK x22 (CD (D 63 [.o xb 0] s21) λu23 s24=>DZ .i64 u23 λx25=>DO 1 t.j 2 (.bool true) s24 λs26=>DO 1 t.j 1 (.int .i64 x25) s26 λs27=>
     CD (D 29 [.o xb 0,.N (BS.mk 1 41)] s27) λu28 s29=>H3 u28 λl30=>Ay l30 (K4 xb 0 r 0 t.j 0 s29)) (K4 xb 0 r 0 t.j 0 s21))]
  unfold RJ
  cases h0:decide (0<nd.R.length)<;>cases hm:nd.I<;>(rw[hm]at qa;simp only[↓AT ha,↓AT qa,↓rP,rA,AD,AG,AB,↓sl,h0,hm])<;>rfl
 cases c with
 | true=>
  have C:some (nd.R,true,nd.R.length,l1)=some (its,mo,ro,l'):=C
  cases C
  have ⟨A,g2,f2,q2⟩:=q1.set (off:=14) p1.ht { nd with I:=true } rfl (by decide) rfl rfl rfl
  have ⟨U3,g3,f3,q3⟩:=q2.set (off:=13) (y := .int .i64 (AA nd.R.length)) f2.y { nd with I:=true,W:=nd.R.length } rfl (by decide) rfl rfl rfl
  have sl1:∀J:Nat->AE,Ao iv J=J nd.R.length:=λJ=>q1.i.ip
  have p3:=(p1.Z f2 (λe=>K.x e.symm) (λb j e=>K.l (e ▸ j))).Z f3 (λe=>K.x e.symm) (λb j e=>K.l (e ▸ j))
  refine⟨iv,U3,λK1 F=>?_,p3,q3,λb j => .inl j,((f1.mono (λ_ _ h => .inl h):Fr (λb=>b=xb\/b=r\/AJ iv b) U U1).trans f2 (λ_ _ h => .inr (.inl h))).trans f3 (λ_ _ h => .inr (.inl h)),El _⟩
  rw[key,Eg]
  simp only[↓rP,rS,↓AT q1a,↓sl1,↓g2,↓g3]
 | false=>
  have ⟨⟨w,l2⟩,hk,C⟩:=AU.1 C
  have ⟨A,g2,p2,f2⟩:=hK p1 hk
  have ⟨U3,e3,f3,a3,n3⟩:=Fh p2.ht [.N ⟨0,0⟩,.int .i64 (AA 0),.bool false]
  have ⟨U4,e4,f4,a4⟩:=Y2 f3.y a3 [.N (BB w),.int .i64 (AA 0),.bool false]
  have s4:∀J:H->AE,DO 3 A.j 0 (.agg [.N (BB w),.int .i64 (AA 0),.bool false]) U3 J=J U4:=λJ=>by
   rw[Ed a3 rfl]
   show J (Gl U3 A.j (.cells _))=_
   rw[show FW [V.N ⟨0,0⟩,.int .i64 (AA 0),.bool false] 0 (V.agg [.N (BB w),.int .i64 (AA 0),.bool false]).cells=[.N (BB w),.int .i64 (AA 0),.bool false] from rfl,e4]
  have f24:Fr AH A U4:=f3.trans f4 (λb j e=>by omega)
  have p4:=p2.Z f24 (λh=>h) (λ_ _ h=>h)
  have q2:=q1.frx f2 p1.ht K
  have q4:=q2.Z f24 p2.ht (λh=>h) (λ_ _ h=>h) (λ_ _ h=>h)
  have lb:=q2.a.lt p2.ht
  have li:∀b,AJ iv b->b<A.j:=λb j=>q2.i.lt p2.ht j
  have lx:=p2.lt
  have ll:∀b,AJ lv b->b<A.j:=λb j=>p2.src.lt p2.ht j
  have ⟨U5,g5,p5,f5⟩:=hI (BS.mk 1 40) p4
  have b5:=f5.X a4 f4.y (by omega)
  have q5:=q4.frx f5 p4.ht K
  have le4:=f24.le
  have fin:∀(v:Int) (j:Bool) (U6:H) (l6:List Bm),Pz U6 xb lv ts l6 R->Nq U6 r nd iv fv->Bx U6 A.j [.N (BB w),.int .i64 v,.bool j]->Fr (λb=>b=xb\/A.j<=b) A U6 ->
    ∃B U',(∀F,RI E D (AV E D) F xb 0 r 0 A.j 0 U6=F xb 0 r 0 U')/\Pz U' xb lv ts l6 R/\Nq U' r { nd with R:=nd.R++[⟨w,v,j⟩] } B fv/\(∀b,AJ B b->AJ iv b\/U.j<=b)/\Fr (λb=>b=xb\/b=r\/AJ iv b) U U':=by
   intro v j U6 l6 p6 q6 b6 f26
   have q6a:=q6.a
   unfold Ae.c at q6a
   have ⟨e',u,U7,g7,t0,t1,a7,d7,m7,n7,f7⟩:=qG (E:=E) (D:=D) (p0 := .o xb 0) (v:=iv) p6.ht q6a rfl b6 q6.i (by omega) (by omega) q6.ni (λh=>by have:=li _ h;omega)
   have le6:=f26.le
   have le2:U.j<=A.j:=BE f1.le f2.le
   have q7:Nq U7 r { nd with R:=nd.R++[⟨w,v,j⟩] } u fv:=⟨a7,by
     have e1:(nd.R++[(⟨w,v,j⟩:CS)]).length=nd.R.length+1:=by simp
     show DW U7 3 (nd.R++[(⟨w,v,j⟩:CS)]).length u (JE (nd.R++[⟨w,v,j⟩]))
     rw[e1,zU];exact d7,
    q6.f.Z f7 p6.ht (λb j e=>by
     rcases e with e|e
     ·exact q6.nf (e ▸ j)
     ·exact q6.d b e j),n7,q6.nf,λb hb' hf=>by
     rcases m7 b hb' with h|h
     ·exact q6.d b h hf
     ·have:=q6.f.lt p6.ht hf;omega⟩
   refine⟨u,U7,λF=>?_,p6.Z f7 (λe=>by
     rcases e with e|e
     ·exact K.x e.symm
     ·exact(K.i _ e).1 rfl) (λb j e=>by
     rcases e with e|e
     ·exact K.l (e ▸ j)
     ·exact(K.i _ e).2 j),q7,λb j=>(m7 b j).elim .inl (λh => .inr (by omega)),?_⟩
   ·have gd:∀J:CF->H->AE,CM (AV E D Nz Ke [(0,.o xb 0),(1,.o r 0),(4,.o A.j 0)] U6) J=J e' U7:=λJ=>by rw[g7];rfl
    have m0:∀J:V->AE,Bj e' 0 J=J (.o xb 0):=λJ=>Bc t0 rfl
    have m1:∀J:V->AE,Bj e' 1 J=J (.o r 0):=λJ=>Bc t1 rfl
    unfold RI
    simp only[↓rP,rS,↓gd,↓m0,↓m1]
   ·refine(((f1.mono (λ_ _ h => .inl h):Fr (λb=>b=xb\/b=r\/AJ iv b) U U1).trans f2 (λ_ _ h => .inl h)).trans f26 (λb j e=>?_)).trans f7 (λb _ e => .inr e)
    rcases e with e|e
    ·exact .inl e
    ·omega
  cases hp:EG (BS.mk 1 40) l2 with
  | mk b l3=>
   have C:(match EG (BS.mk 1 40) l2 with | (true,l3)=>(ZQ l3).bind λv=>(Dt (BS.mk 1 41) v.2).map λl5=>(nd.R++[⟨w,v.1,true⟩],nd.I,nd.W,l5) | (false,l3)=>some (nd.R++[⟨w,0,false⟩],nd.I,nd.W,l3):Option (List CS × Bool × Nat × List Bm))=some (its,mo,ro,l'):=C
   rw[hp]at C g5 p5
   have f25:Fr (λb=>b=xb\/A.j<=b) A U5:=(f24.mono (λ_ _ h=>h.elim):Fr (λb=>b=xb\/A.j<=b) A U4).trans f5 (λ_ _ h => .inl h)
   cases b with
   | false=>
    have C:some (nd.R++[(⟨w,0,false⟩:CS)],nd.I,nd.W,l3)=some (its,mo,ro,l'):=C
    cases C
    have ⟨B,U',g,p,q',m,f⟩:=fin 0 false U5 _ p5 q5 b5 f25
    refine⟨B,U',λK1 F=>?_,p,q',m,f,by simp⟩
    rw[key,DU]
    simp only[↓rP,rS,↓g2,↓e3,↓s4,↓g5]
    exact g F
   | true=>
    have ⟨⟨v,l4⟩,hn,C⟩:=AU.1 C
    have ⟨l5,hm,C⟩:=Aa.1 C
    cases C
    have ⟨U6,g6,p6,f6⟩:=hN p5 hn
    have b6:=f6.X b5 p5.ht (by omega)
    have ⟨U7,g7,f7,a7⟩:=ZC (off:=2) (y := .bool true) p6.ht b6 rfl (show 2<3 by decide)
    have ⟨U8,g8,f8,a8⟩:=ZC (off:=1) (y := .int .i64 v) f7.y a7 rfl (show 1<3 by decide)
    have a8:Bx U8 A.j [.N (BB w),.int .i64 v,.bool true]:=a8
    have f68:Fr (λk=>k=A.j) U6 U8:=f7.trans f8 (λ_ _ h=>h)
    have p8:=p6.Z f68 (by omega) (λb j e=>by have:=ll b j;omega)
    have ⟨U9,g9,p9,f9⟩:=hM p8 hm
    have q6:=q5.frx f6 p5.ht K
    have lf:∀b,AJ fv b->b<A.j:=λb j=>q2.f.lt p2.ht j
    have q8:=q6.Z f68 p6.ht (by omega) (λb j e=>by have:=li b j;omega) (λb j e=>by have:=lf b j;omega)
    have q9:=q8.frx f9 p8.ht K
    have b9:=f9.X a8 p8.ht (by omega)
    have ⟨B,U',g,p,q',m,f⟩:=fin v true U9 l' p9 q9 b9 (((f25.trans f6 (λ_ _ h => .inl h)).trans f68 (λb j e => .inr (by omega))).trans f9 (λ_ _ h => .inl h))
    refine⟨B,U',λK1 F=>?_,p,q',m,f,by simp⟩
    rw[key,DU]
    simp only[↓rP,rS,↓g2,↓e3,↓s4,↓g5,↓g6,↓g7,↓g8,↓g9]
    exact g F
theorem zR(hI:MP (D 30))(hM:HS (D 29))(hN:Nn (D 63))(hK:It (D 28)){xb L ts R A fv}:∀n k {U:H}{l l'}{nd:Ae}{iv}{its:List CS}{C G},
  Pz U xb L ts l R->Nq U A nd iv fv->Ap xb L A iv fv->nd.R.length+n<=2001->n<k->Jc n nd.R nd.I nd.W l=some (its,C,G,l') ->
  ∃o U',Rc E D (AV E D) N k xb 0 A 0 U=some (.B [],U')/\Pz U' xb L ts l' R/\Nq U' A { nd with R:=its,I:=C,W:=G } o fv/\(∀b,AJ o b->AJ iv b\/U.j<=b)/\Fr (λb=>b=xb\/b=A\/AJ iv b) U U':=by
 intro n;induction n with
 | zero=>intro k U l l' nd iv its C G h q w hl hk p;cases p | succ n ih=>
  intro k U l l' nd iv its C G h q w hl hk p;obtain⟨k,rfl⟩:∃j,k=j+1:=⟨k-1,by omega⟩;have ⟨⟨i,m,z,l1⟩,h1,p⟩:=AU.1 p;have ⟨t,U1,X,p1,q1,O,f1,hl1⟩:=lJ (E:=E) hI hM hN hK h q w (by omega) h1;have li:∀b,AJ iv b->b<U.j:=λb r=>q.i.lt h.ht r;have lx:=h.lt;have ll:∀b,AJ L b->b<U.j:=λb r=>h.src.lt h.ht r;have M:Ap xb L A t fv:=⟨w.x,w.l,λb r=>(O b r).elim (w.i b) (λh=>⟨by omega,λhn=>by have:=ll b hn;omega⟩),w.f⟩;have ⟨U2,Q,p2,Y⟩:=hI (BS.mk 1 44) p1;have P:=q1.frx Y p1.ht M;have B:=f1.trans Y (λb r e => .inl e);have le1:=f1.le;show ∃o U',RJ E D (AV E D) (Nl E D (AV E D)) (Nk E D (AV E D) (Nl E D (AV E D)) (Rc E D (AV E D) N k)) (RI E D (AV E D) (Nk E D (AV E D) (Nl E D (AV E D)) (Rc E D (AV E D) N k))) xb 0 A 0 U=_/\_;have p:(match EG (BS.mk 1 44) l1 with | (false,K)=>some (i,m,(if m=true then z else i.length),K) | (true,K)=>Jc n i m z K:Option (List CS × Bool × Nat × List Bm))=some (its,C,G,l'):=p;cases hp:EG (BS.mk 1 44) l1 with
  | mk b K=>
   rw[hp]at p Q p2;cases b with
   | true=>
    have ⟨o,U',g',p',q',m',f'⟩:=ih k p2 P M (by show i.length+n<=2001;omega) (by omega) p;refine⟨o,U',?_,p',q',λb r=>(m' b r).elim (O b) (λh => .inr (by have:=Y.le;omega)),B.trans f' (λb r e=>?_)⟩
    ·rw[X]
     unfold Nk;simp only[↓rP,rS,↓Q];exact g'
    ·rcases e with e|e|e
     ·exact .inl e
     ·exact .inr (.inl e)
     ·exact(O b e).elim (λh => .inr (.inr h)) (λh=>by omega)
   | false=>
    have p:some (i,m,(if m=true then z else i.length),K)=some (its,C,G,l'):=p;cases p;have y:=P.a;unfold Ae.c at y;have sl:∀J:Nat->AE,Ao t J=J its.length:=λJ=>P.i.ip;cases hm:C with
    | true=>
     subst hm;refine⟨t,U2,?_,p2,P,O,B⟩;rw[X];unfold Nk Nl;simp only[↓rP,rS,↓Q,↓AT y]
    | false=>
     subst hm;have ⟨U3,g3,f3,q3⟩:=P.set (off:=13) p2.ht { nd with R:=its,I:=false,W:=its.length } rfl (by decide) rfl rfl rfl;refine⟨t,U3,?_,p2.Z f3 (λe=>w.x e.symm) (λb r e=>w.l (e ▸ r)),q3,O,B.trans f3 (λ_ _ e => .inr (.inl e))⟩;rw[X];unfold Nk Nl;simp only[↓rP,rS,↓Q,↓AT y,↓sl,↓g3]
theorem zS(e:MP (D 30))(i:HS (D 29))(m:Nn (D 63))(k:It (D 28))(p:3000<N):VR (nG E D (AV E D) N):=by
 intro U xb r t l l' R u nd iv fv its n s h q f j g;exact zR e i m k 2000 N h q f (by rw[j];simp) (by omega) g
end
def IX:Ae:=⟨0,[],false,0,0,AUR,[],[],0,false,0⟩
def H5:List Ae->List (V × V)->List V
 | nd::ns,u::a=>nd.c u.1 u.2++H5 ns a
 | _,_=>[]
theorem PF(nd:Ae) iv fv:(nd.c iv fv).length=16:=rfl
theorem XO:∀(ns:List Ae) (b:List (V × V)) (nd:Ae) (u:V × V),b.length=ns.length->H5 (ns++[nd]) (b++[u])=H5 ns b++nd.c u.1 u.2
 | [],[],nd,u,_=>by simp[H5]
 | x::ns,y::b,nd,u,h=>by
  have d:=XO ns b nd u (by simpa using h);show x.c y.1 y.2++H5 (ns++[nd]) (b++[u])=(x.c y.1 y.2++H5 ns b)++_;rw[d,BC]
 | [],_::_,_,_,h=>by simp at h
 | _::_,[],_,_,h=>by simp at h
theorem Mj:∀(ns:List Ae) (a:List (V × V)),a.length=ns.length->(H5 ns a).length=ns.length*16
 | [],[],_=>rfl | x::ns,y::a,h=>by
  have e:=Mj ns a (by simpa using h);show (x.c y.1 y.2++H5 ns a).length=_;rw[AP,e,PF,Ag];omega
 | [],_::_,h=>by simp at h
 | _::_,[],h=>by simp at h
theorem I5:∀(a b:List V) n d,FW (a++b) (a.length+n) d=a++FW b n d
 | [],b,n,d=>by simp
 | x::a,b,n,d=>by
  rw[Ag,show a.length+1+n=(a.length+n)+1 by omega];show FW (x::(a++b)) (a.length+n+1) d=x::(a++FW b n d);rw[<-I5 a b n d];cases d with
  | nil=>simp[FW] | cons c d=>rfl
theorem W2:∀(a b d:List V),d.length=a.length->FW (a++b) 0 d=d++b
 | [],b,[],_=>by cases b<;>rfl
 | x::a,b,c::d,h=>by
  show c::FW (a++b) 0 d=_;rw[W2 a b d (by simpa using h)];rfl
 | [],_,_::_,h=>by simp at h
 | _::_,_,[],h=>by simp at h
theorem XN:∀(ns:List Ae) (a:List (V × V)) i (nd:Ae) (u:V × V),a.length=ns.length->i<ns.length->FW (H5 ns a) (i*16) (nd.c u.1 u.2)=H5 (ns.set i nd) (a.set i u)
 | x::ns,y::a,0,nd,u,_,_=>by
  show FW (x.c y.1 y.2++H5 ns a) 0 _=nd.c u.1 u.2++H5 ns a;exact W2 _ _ _ rfl
 | x::ns,y::a,i+1,nd,u,h,j=>by
  have f:=XN ns a i nd u (by simpa using h) (by simpa using j);show FW (x.c y.1 y.2++H5 ns a) ((i+1)*16) _=x.c y.1 y.2++H5 (ns.set i nd) (a.set i u);rw[<-f,show (i+1)*16=(x.c y.1 y.2).length+i*16 by rw[PF];omega,I5]
 | [],_,_,_,_,_,h=>by simp at h
 | _::_,[],_,_,_,h,_=>by simp at h
def PB(xb:Nat)(a:V):Nat->Prop:=λb=>b=xb\/AJ a b
def NdL(U:H)(xb:Nat)(a:V)(Q:Nat->Prop)(nd:Ae)(u:V × V):Prop:=Cv U 3 nd.R.length u.1 (JE nd.R)/\Cv U 11 nd.K.length u.2 (Ie nd.K)/\∀b,AJ u.1 b\/AJ u.2 b->b≠xb/\¬AJ a b/\¬Q b
structure Pn(U:H)(xb:Nat)(lv:V)(ts l:List Bm)(R:Rs)(ns:List Ae)(Q:Nat->Prop):Prop where
 p:Pz U xb lv ts l R
 w:∃ws:List (V × V),DW U 16 ns.length R.dv (H5 ns ws)/\ws.length=ns.length/\∀(k:Nat) (nd:Ae) (u:V × V),ns[k]? = some nd->ws[k]? = some u->NdL U xb R.dv Q nd u
 dx:∀b,AJ R.dv b->b≠xb/\¬AJ lv b
structure Aq(xb:Nat)(lv dv:V)(nb:Nat)(iv fv:V):Prop where
 a:Ap xb lv nb iv fv
 d:¬AJ dv nb
 i:∀b,AJ iv b->¬AJ dv b
 f:∀b,AJ fv b->¬AJ dv b
section
variable {U U':H}{nb:Nat}{nd:Ae}{iv fv:V}{xb:Nat}{lv dv dv':V}{ts l l':List Bm}{R:Rs}{ns:List Ae}{Q Q':Nat->Prop}
theorem NdL.lt{u:V × V}(h:NdL U xb dv Q nd u)(a:Ai U){b}(c:AJ u.1 b\/AJ u.2 b):b<U.j:=c.elim (h.1.lt a) (h.2.1.lt a)
theorem Pn.go(h:Pn U xb lv ts l R ns Q)(p:Pz U' xb lv ts l' R)(f:Fr (λk=>k=xb) U U'):Pn U' xb lv ts l' R ns Q:=by
 have ⟨n,h1,s,o⟩:=h.w;refine⟨p,⟨n,h1.Z f h.p.ht λb d e=>(h.dx b d).1 e,s,λk nd u r q=>?_⟩,h.dx⟩;have ⟨a,b,c⟩:=o k nd u r q;exact⟨a.Z f h.p.ht λb d e=>(c b (.inl d)).1 e,b.Z f h.p.ht λb d e=>(c b (.inr d)).1 e,c⟩
theorem Pn.Z{S}(h:Pn U xb lv ts l R ns Q)(f:Fr S U U')(h1:¬S xb)(w:∀b,AJ lv b->¬S b)(r:∀b,AJ R.dv b->¬S b)(j:∀b,b<U.j->S b->Q b):Pn U' xb lv ts l R ns Q:=by
 have ⟨t,v,q,o⟩:=h.w;refine⟨h.p.Z f h1 w,⟨t,v.Z f h.p.ht r,q,λk nd u y s=>?_⟩,h.dx⟩;have n:=o k nd u y s;have ⟨a,b,c⟩:=n;exact⟨a.Z f h.p.ht λx d e=>(c x (.inl d)).2.2 (j x (a.lt h.p.ht d) e),b.Z f h.p.ht λx d e=>(c x (.inr d)).2.2 (j x (b.lt h.p.ht d) e),c⟩
theorem Pn.mv{S}(h:Pn U xb lv ts l R ns Q)(p:Pz U' xb lv ts l' R)(f:Fr S U U')(s:∀b,AJ R.dv b->¬S b)(j:∀b,b<U.j->S b->b=xb\/Q b):Pn U' xb lv ts l' R ns Q:=by
 have ⟨r,w,q,y⟩:=h.w;refine⟨p,⟨r,w.Z f h.p.ht s,q,λk nd u v t=>?_⟩,h.dx⟩;have o:=y k nd u v t;have ⟨a,b,c⟩:=o;exact⟨a.Z f h.p.ht λx d e=>(j x (a.lt h.p.ht d) e).elim (c x (.inl d)).1 (c x (.inl d)).2.2,b.Z f h.p.ht λx d e=>(j x (b.lt h.p.ht d) e).elim (c x (.inr d)).1 (c x (.inr d)).2.2,c⟩
theorem Pn.dlt(h:Pn U xb lv ts l R ns Q){b}(d:AJ R.dv b):b<U.j:=by
 have ⟨f,c,_⟩:=h.w;exact c.lt h.p.ht d
theorem Pn.llt(h:Pn U xb lv ts l R ns Q){b}(a:AJ lv b):b<U.j:=h.p.src.lt h.p.ht a
theorem Pn.ext(h:Pn U xb lv ts l R ns Q)(p:∀b,Q' b->Q b\/U.j<=b):Pn U xb lv ts l R ns Q':=by
 have ⟨n,r,m,j⟩:=h.w;refine⟨h.p,⟨n,r,m,λk nd u s o=>?_⟩,h.dx⟩;have a:=j k nd u s o;exact⟨a.1,a.2.1,λb d=>⟨(a.2.2 b d).1,(a.2.2 b d).2.1,λq=>(p b q).elim (a.2.2 b d).2.2 λt=>by have:=a.lt h.p.ht d;omega⟩⟩
theorem Nq.frq(h:Nq U nb nd iv fv)(f:Fr (PB xb dv) U U')(i:Ai U)(a:Aq xb lv dv nb iv fv):Nq U' nb nd iv fv:=
 h.Z f i (λe=>e.elim a.a.x a.d) (λb c e=>e.elim (a.a.i b c).1 (a.i b c)) (λb c e=>e.elim (a.a.f b c).1 (a.f b c))
theorem Nq.lt_i(h:Nq U nb nd iv fv)(c:Ai U){b}(a:AJ iv b):b<U.j:=h.i.lt c a
theorem Nq.lt_f(h:Nq U nb nd iv fv)(c:Ai U){b}(a:AJ fv b):b<U.j:=h.f.lt c a
theorem Aq.ndv(d:Aq xb lv dv nb iv fv)(q:Nq U nb nd iv fv)(f:Ai U)(h:∀b,AJ dv' b->AJ dv b\/U.j<=b):Aq xb lv dv' nb iv fv:=
 ⟨d.a,λe=>(h nb e).elim d.d λh=>by have:=q.a.lt f;omega,λb c e=>(h b e).elim (d.i b c) λh=>by have:=q.lt_i f c;omega,λb c e=>(h b e).elim (d.f b c) λh=>by have:=q.lt_f f c;omega⟩
end
abbrev Ex:=Nat->List Bm->List Ae->Option (Nat × List Bm × List Ae)
abbrev Wd:=Option (Ae × List Bm × List Ae)
def LB(a:Nat)(iv fv:V):Nat->Prop:=λb=>b=a\/AJ iv b\/AJ fv b
def Rs.wd(R:Rs)(a:V):Rs:=⟨R.nm,R.tg,R.nv,R.tv,a⟩
def Je(T:Ex)(d:Nat)(nd:Ae)(l:List Bm)(ns:List Ae):Wd:=
 (IZ 2 l).bind λa=>(T (d+1) a.2 ns).bind λt=>
  match decide (nd.A=9)with
  | true=>some ({ nd with K:=nd.K++[⟨a.1,t.1,false,0⟩] },t.2.1,t.2.2)
  | false=>match EG (BS.mk 8 5494759122808361039) t.2.1 with
   | (true,b)=>some ({ nd with K:=nd.K++[⟨a.1,t.1,true,0⟩] },b,t.2.2)
   | (false,b)=>match EG (BS.mk 7 23727827094750532) b with
    | (true,_)=>none
    | (false,c)=>some ({ nd with K:=nd.K++[⟨a.1,t.1,false,0⟩] },c,t.2.2)
def MO(T:Ex)(F:List V->H->AE):Prop:=∀{U:H}{xb f e l l'}{R:Rs}{ns a Q d i},Pn U xb f e l R ns Q->(∀b,Q b->b<U.j)->d<=1000->T d l ns=some (i,l',a) ->
 ∃c U',F [.o xb 0,.int .i64 (AA d)] U=some (.int .i64 (AA i),U')/\Pn U' xb f e l' (R.wd c) a Q/\Fr (PB xb R.dv) U U'/\(∀b,AJ c b->AJ R.dv b\/U.j<=b)
def JP(T:Ex)(F:List V->H->AE):Prop:=∀{U:H}{xb h i l l'}{R:Rs}{ns g}{Q:Nat->Prop}{e}{nd a:Ae}{iv fv d},
 Pn U xb h i l R ns (λb=>Q b\/LB e iv fv b)->(∀b,Q b->b<U.j)->Nq U e nd iv fv->Aq xb h R.dv e iv fv->nd.K.length<=5000->d<=900->Je T d nd l ns=some (a,l',g) ->
 ∃f c U',F [.o xb 0,.o e 0,.int .i64 (AA d),.int .i64 (AA 0)] U=some (.B [],U')/\Pn U' xb h i l' (R.wd f) g (λb=>Q b\/LB e iv c b)/\Nq U' e a iv c/\Aq xb h f e iv c /\
  (∀b,AJ c b->AJ fv b\/U.j<=b)/\(∀b,AJ f b->AJ R.dv b\/U.j<=b)/\Fr (λb=>PB xb R.dv b\/b=e\/AJ fv b) U U'/\a.K.length=nd.K.length+1/\a.A=nd.A/\a.I=nd.I/\a.W=nd.W
section
variable {E:EB}{D:Ac}{N:Nat}
theorem gZ{T}(hI:MP (D 30))(hK:It (D 28))(hT:MO T (D 33)):JP T (wV E D (AV E D) N):=by
 intro U xb lv ts l l' R ns ns' Q nb nd nd' iv fv d h hQ q ap hfl hd z;have ⟨⟨w,l1⟩,hk,z⟩:=AU.1 z;have ⟨⟨i,l2,ns2⟩,ht,z⟩:=AU.1 z;have ⟨U1,g1,p1,f1⟩:=hK h.p hk;have h1:=h.go p1 f1;have q1:=q.frx f1 h.p.ht ap.a;have ⟨U2,e2,f2,a2,n2⟩:=Fh p1.ht [.N ⟨0,0⟩,.int .i64 (AA 0),.bool false,.bool false,.int .i64 (AA 0),.int .i64 (AA 0),.h,.h,.int .i64 (AA 0),.h,.int .i64 (AA 0)];have ⟨U3,e3,f3,a3⟩:=Y2 f2.y a2 (BW.c ⟨w,0,false,0⟩);have s3:∀J,DO 11 U1.j 0 (.agg [.N (BB w),.int .i64 (AA 0),.bool false,.bool false,.int .i64 (AA 0),.int .i64 (AA 0),.h,.h,.int .i64 (AA 0),.h,.int .i64 (AA 0)]) U2 J=J U3:=λJ=>by
  rw[Ed a2 rfl];show J (Gl U2 U1.j (.cells (BW.c ⟨w,0,false,0⟩)))=_;rw[e3]
 have f13:Fr AH U1 U3:=f2.trans f3 (λb j e=>by omega);have le1:=f1.le;have le3:=f13.le;have lfb:U1.j<U3.j:=a3.lt f3.y;have h3:Pn U3 xb lv ts l1 R ns (λb=>(Q b\/LB nb iv fv b)\/b=U1.j):=(h1.ext λb j=>j.elim .inl λe => .inr (by omega)).Z f13 (λh=>h) (λ_ _ h=>h) (λ_ _ h=>h) (λ_ _ h=>h.elim);have q3:=q1.Z f13 p1.ht (λh=>h) (λ_ _ h=>h) (λ_ _ h=>h);have lnb:=q1.a.lt p1.ht;have ⟨s,U4,g4,h4,f4,m4⟩:=hT h3 (λb j=>by
  rcases j with (j|j|j|j)|j
  ·have:=hQ b j;omega
  ·omega
  ·have:=q1.lt_i p1.ht j;omega
  ·have:=q1.lt_f p1.ht j;omega
  ·omega) (by omega) ht
 have xlt:=p1.lt;have dlt:∀b,AJ R.dv b->b<U1.j:=λb j=>by
  have ⟨ws,k1,_⟩:=h1.w;exact k1.lt p1.ht j
 have b4:=f4.X a3 f3.y (λe=>by
  rcases e with e|e
  ·omega
  ·have:=dlt _ e;omega)
 have q4:=q3.frq f4 f3.y ap;have ap4:Aq xb lv s nb iv fv:=ap.ndv q3 f3.y m4;have ⟨U5,g5,f5,a5⟩:=ZC (y := .int .i64 (AA i)) h4.p.ht b4 rfl (show 1<11 by decide);have a5:Bx U5 U1.j (BW.c ⟨w,i,false,0⟩):=a5;have le4:=f4.le;have dlt4:∀b,AJ s b->b≠U1.j:=λb j e=>by
  rcases m4 b j with h|h
  ·have:=dlt b h;omega
  ·omega
 have llt:∀b,AJ lv b->b<U1.j:=λb j=>p1.src.lt p1.ht j;have h5:=h4.Z f5 (by omega) (λb j e=>by have:=llt b j;omega) dlt4 (λb _ e => .inr e);have q5:=q4.Z f5 h4.p.ht (by omega) (λb j e=>by have:=q1.lt_i p1.ht j;omega) (λb j e=>by have:=q1.lt_f p1.ht j;omega);have q5a:=q5.a;unfold Ae.c at q5a;have ad:BQ .i64 (AA d) (AA 1)=AA (d+1):=Al (by omega);have fin:∀(op:Bool) (U6:H) (l6:List Bm),Pn U6 xb lv ts l6 (R.wd s) ns2 (λb=>(Q b\/LB nb iv fv b)\/b=U1.j)->Nq U6 nb nd iv fv->Bx U6 U1.j (BW.c ⟨w,i,op,0⟩)->Fr (λb=>PB xb R.dv b\/b=nb\/AJ fv b) U U6->U1.j<=U6.j ->
   ∃t U',Uh E D (AV E D) nb 0 U1.j 0 U6=some (.B [],U')/\Pn U' xb lv ts l6 (R.wd s) ns2 (λb=>Q b\/LB nb iv t b)/\Nq U' nb { nd with K:=nd.K++[⟨w,i,op,0⟩] } iv t/\Aq xb lv s nb iv t /\
    (∀b,AJ t b->AJ fv b\/U.j<=b)/\Fr (λb=>PB xb R.dv b\/b=nb\/AJ fv b) U U':=by
  intro op U6 l6 p6 q6 b6 f06 le16;have q6a:=q6.a;unfold Ae.c at q6a;unfold BW.c at b6;have ⟨e',u,U7,g7,t1,a7,d7,m7,n7,f7⟩:=lU (E:=E) (D:=D) (v:=fv) p6.p.ht q6a rfl b6 q6.f (by omega) (by omega) q6.nf (λh=>by have:=q1.lt_f p1.ht h;omega);have le6:=f06.le;have q7:Nq U7 nb { nd with K:=nd.K++[⟨w,i,op,0⟩] } iv u:=⟨a7,q6.i.Z f7 p6.p.ht (λb j e=>by
    rcases e with e|e
    ·exact q6.ni (e ▸ j)
    ·exact q6.d b j e),by
    have e1:(nd.K++[(⟨w,i,op,0⟩:BW)]).length=nd.K.length+1:=by simp
    show DW U7 11 (nd.K++[(⟨w,i,op,0⟩:BW)]).length u (Ie (nd.K++[⟨w,i,op,0⟩]));rw[e1,zZ];exact d7,q6.ni,n7,λb j hu=>by
    rcases m7 b hu with h|h
    ·exact q6.d b j h
    ·have:=q6.lt_i p6.p.ht j;omega⟩
  have dl6:∀b,AJ s b->b<U6.j:=λb j=>by
   have ⟨ws,k1,_⟩:=p6.w;exact k1.lt p6.p.ht j
  have h7:=(p6.ext (Q':=λb=>((Q b\/LB nb iv fv b)\/b=U1.j)\/U6.j<=b) λb j=>j).Z f7 (λe=>by
    rcases e with e|e
    ·exact ap.a.x e.symm
    ·exact(ap.a.f _ e).1 rfl) (λb j e=>by
    rcases e with e|e
    ·exact ap.a.l (e ▸ j)
    ·exact(ap.a.f _ e).2 j) (λb j e=>by
    rcases e with e|e
    ·exact ap4.d (e ▸ j)
    ·exact ap4.f _ e j) (λb _ e => .inl (.inl (.inr (e.elim .inl λe => .inr (.inr e)))))
  refine⟨u,U7,?_,h7.ext λb j=>?_,q7,⟨⟨ap.a.x,ap.a.l,ap.a.i,λb j=>?_⟩,ap4.d,ap4.i,λb j=>?_⟩,λb j=>(m7 b j).elim .inl (λh => .inr (by omega)),f06.trans f7 (λb _ e => .inr e)⟩
  ·have gd:∀J:CF->H->AE,CM (AV E D Nx Kd [(1,.o nb 0),(8,.o U1.j 0)] U6) J=J e' U7:=λJ=>by rw[g7];rfl
   unfold Uh;simp only[↓rP,rS,↓gd]
  ·rcases j with j|j|j|j
   ·exact .inl (.inl (.inl (.inl j)))
   ·exact .inl (.inl (.inl (.inr (.inl j))))
   ·exact .inl (.inl (.inl (.inr (.inr (.inl j)))))
   ·rcases m7 b j with h|h
    ·exact .inl (.inl (.inl (.inr (.inr (.inr h)))))
    ·exact .inl (.inr h)
  ·rcases m7 b j with h|h
   ·exact ap.a.f b h
   ·exact⟨by omega,λhn=>by have:=llt b hn;omega⟩
  ·rcases m7 b j with h|h
   ·exact ap4.f b h
   ·exact λhn=>by have:=dl6 b hn;omega
 have f05:Fr (λb=>PB xb R.dv b\/b=nb\/AJ fv b) U U5:=(((f1.mono (λ_ _ h => .inl (.inl h)):Fr (λb=>PB xb R.dv b\/b=nb\/AJ fv b) U U1).trans f13 (λ_ _ h=>h.elim)).trans f4 (λ_ _ h => .inl h)).trans f5 (λb j e=>by omega);have le5:=f5.le;have mdv:∀b,AJ s b->AJ R.dv b\/U.j<=b:=λb j=>(m4 b j).imp id λh=>by omega
 show ∃s t U',Q8 E D (AV E D) (Uh E D (AV E D)) (.o xb 0) nb 0 (AA d) (AA 0) U=_/\_;have z:(match decide (nd.A=9)with
  | true=>some ({ nd with K:=nd.K++[⟨w,i,false,0⟩] },l2,ns2) | false=>match EG (BS.mk 8 5494759122808361039) l2 with
   | (true,l3)=>some ({ nd with K:=nd.K++[⟨w,i,true,0⟩] },l3,ns2) | (false,l3)=>match EG (BS.mk 7 23727827094750532) l3 with
    | (true,_)=>none | (false,l4)=>some ({ nd with K:=nd.K++[⟨w,i,false,0⟩] },l4,ns2):Wd)=some (nd',l',ns'):=z
 cases hk9:decide (nd.A=9)with
 | true=>
  rw[hk9]at z;cases z;have ⟨t,U',g,p,q',ap',m,f⟩:=fin false U5 _ h5 q5 a5 f05 (by omega);refine⟨s,t,U',?_,p,q',ap',m,mdv,f,by simp,rfl,rfl,rfl⟩;rw[<-g];unfold Q8;simp only[↓rP,rA,AD,AG,AB,↓g1,↓e2,↓s3,ad,↓g4,↓g5,↓AT q5a,hk9]
 | false=>
  rw[hk9]at z;have ⟨U6,g6,p6,f6⟩:=hI (BS.mk 8 5494759122808361039) h5.p;have h6:=h5.go p6 f6;have q6:=q5.frx f6 h5.p.ht ap.a;have b6:=f6.X a5 h5.p.ht (by omega);have f06:=f05.trans f6 (λ_ _ h => .inl (.inl h));have le6:=f6.le;have z:(match EG (BS.mk 8 5494759122808361039) l2 with
   | (true,l3)=>some ({ nd with K:=nd.K++[⟨w,i,true,0⟩] },l3,ns2) | (false,l3)=>match EG (BS.mk 7 23727827094750532) l3 with
    | (true,_)=>none | (false,l4)=>some ({ nd with K:=nd.K++[⟨w,i,false,0⟩] },l4,ns2):Wd)=some (nd',l',ns'):=z
  cases hi6:EG (BS.mk 8 5494759122808361039) l2 with
  | mk b6' l3=>
   rw[hi6]at z g6 p6 h6;cases b6' with
   | true=>
    cases z;have ⟨U7,g7,f7,a7⟩:=ZC (off:=2) (y := .bool true) p6.ht b6 rfl (show 2<11 by decide);have a7:Bx U7 U1.j (BW.c ⟨w,i,true,0⟩):=a7;have h7:=h6.Z f7 (by omega) (λb j e=>by have:=llt b j;omega) dlt4 (λb _ e => .inr e);have q7:=q6.Z f7 p6.ht (by omega) (λb j e=>by have:=q1.lt_i p1.ht j;omega) (λb j e=>by have:=q1.lt_f p1.ht j;omega);have ⟨t,U',g,p,q',ap',m,f⟩:=fin true U7 _ h7 q7 a7 (f06.trans f7 (λb j e=>by omega)) (by have:=f7.le;omega);refine⟨s,t,U',?_,p,q',ap',m,mdv,f,by simp,rfl,rfl,rfl⟩;rw[<-g];unfold Q8;simp only[↓rP,rA,AD,AG,AB,↓g1,↓e2,↓s3,ad,↓g4,↓g5,↓AT q5a,hk9,↓g6,↓g7]
   | false=>
    have ⟨U7,g7,p7,f7⟩:=hI (BS.mk 7 23727827094750532) p6;have h7:=h6.go p7 f7;have q7:=q6.frx f7 p6.ht ap.a;have b7:=f7.X b6 p6.ht (by omega);have z:(match EG (BS.mk 7 23727827094750532) l3 with
     | (true,_)=>none | (false,l4)=>some ({ nd with K:=nd.K++[⟨w,i,false,0⟩] },l4,ns2):Wd)=some (nd',l',ns'):=z
    cases hi7:EG (BS.mk 7 23727827094750532) l3 with
    | mk b7' l4=>
     rw[hi7]at z g7 p7 h7;cases b7' with
     | true=>cases z | false=>
      cases z;have ⟨t,U',g,p,q',ap',m,f⟩:=fin false U7 _ h7 q7 b7 (f06.trans f7 (λ_ _ h => .inl (.inl h))) (by have:=f7.le;omega);refine⟨s,t,U',?_,p,q',ap',m,mdv,f,by simp,rfl,rfl,rfl⟩;rw[<-g];unfold Q8;simp only[↓rP,rA,AD,AG,AB,↓g1,↓e2,↓s3,ad,↓g4,↓g5,↓AT q5a,hk9,↓g6,↓g7]
end
def LV(T:Ex)(d:Nat)(nd:Ae)(l:List Bm)(ns:List Ae):Wd:=
 match (if nd.I=true then(false,l)else EG (BS.mk 3 3026478) l)with
 | (true,a)=>some ({ nd with I:=true,W:=nd.K.length },a,ns)
 | (false,a)=>match (if nd.I=true then EG (BS.mk 2 23387) a else(false,a))with
  | (true,_)=>none
  | (false,b)=>Je T d nd b ns
def OY(T:Ex)(d:Nat):Nat->Ae->List Bm->List Ae->Wd
 | 0,_,_,_=>none
 | n+1,nd,l,ns=>(LV T d nd l ns).bind λs=>match EG (BS.mk 1 44) s.2.1 with
  | (true,a)=>OY T d n s.1 a s.2.2
  | (false,a)=>(Dt (BS.mk 1 125) a).map λb=>(if s.1.I=true then s.1 else { s.1 with W:=s.1.K.length },b,s.2.2)
def Hi(T:Ex)(d:Nat)(nd:Ae)(l:List Bm)(ns:List Ae):Wd:=match EG (BS.mk 1 125) l with
 | (true,a)=>some (nd,a,ns)
 | (false,a)=>OY T d 1000 nd a ns
structure DE(U U':H)(xb:Nat)(lv:V)(ts l':List Bm)(R:Rs)(ns':List Ae)(Q:Nat->Prop)(nb:Nat)(nd':Ae)(iv fv fv' dv':V):Prop where
 p:Pn U' xb lv ts l' (R.wd dv') ns' (λb=>Q b\/LB nb iv fv' b)
 q:Nq U' nb nd' iv fv'
 ap:Aq xb lv dv' nb iv fv'
 mf:∀b,AJ fv' b->AJ fv b\/U.j<=b
 md:∀b,AJ dv' b->AJ R.dv b\/U.j<=b
 f:Fr (λb=>PB xb R.dv b\/b=nb\/AJ fv b) U U'
def LK(T:Ex)(F:List V->H->AE):Prop:=∀{U:H}{xb h i l l'}{R:Rs}{ns e Q a}{nd c:Ae}{iv fv d},
 Pn U xb h i l R ns (λb=>Q b\/LB a iv fv b)->(∀b,Q b->b<U.j)->Nq U a nd iv fv->Aq xb h R.dv a iv fv->nd.K=[]->d<=900->Hi T d nd l ns=some (c,l',e) ->
 ∃g f U',F [.o xb 0,.o a 0,.int .i64 (AA d)] U=some (.B [],U')/\DE U U' xb h i l' R e Q a c iv fv f g
section
variable {U U1 U2:H}{xb:Nat}{lv:V}{ts l l1 l2:List Bm}{R:Rs}{ns ns1 ns2:List Ae}{Q:Nat->Prop}{nb:Nat}{nd nd1 nd2:Ae}{iv fv fv1 fv2 dv1 dv2:V}
theorem DE.trans(h:DE U U1 xb lv ts l1 R ns1 Q nb nd1 iv fv fv1 dv1)(k:DE U1 U2 xb lv ts l2 (R.wd dv1) ns2 Q nb nd2 iv fv1 fv2 dv2):DE U U2 xb lv ts l2 R ns2 Q nb nd2 iv fv fv2 dv2:=by
 have x:=h.f.le;refine⟨k.p,k.q,k.ap,λb f=>(k.mf b f).elim (h.mf b) (λe => .inr (by omega)),λb f=>(k.md b f).elim (h.md b) (λe => .inr (by omega)),h.f.trans k.f λb f e=>?_⟩;rcases e with (e|e)|e|e
 ·exact .inl (.inl e)
 ·exact(h.md b e).elim (λh => .inl (.inr h)) (λh=>by omega)
 ·exact .inr (.inl e)
 ·exact(h.mf b e).elim (λh => .inr (.inr h)) (λh=>by omega)
theorem DE.go(h:Pn U xb lv ts l R ns (λb=>Q b\/LB nb iv fv b))(q:Nq U nb nd iv fv)(g:Aq xb lv R.dv nb iv fv)(p:Pz U1 xb lv ts l1 R)(f:Fr (λk=>k=xb) U U1):DE U U1 xb lv ts l1 R ns Q nb nd iv fv fv R.dv:=
 ⟨h.go p f,q.frx f h.p.ht g.a,g,λ_ h => .inl h,λ_ h => .inl h,f.mono λ_ _ e => .inl (.inl e)⟩
theorem DE.own(h:Pn U xb lv ts l R ns (λb=>Q b\/LB nb iv fv b))(c:Aq xb lv R.dv nb iv fv)(q:Nq U1 nb nd1 iv fv)(f:Fr (λk=>k=nb) U U1):DE U U1 xb lv ts l R ns Q nb nd1 iv fv fv R.dv:=
 ⟨h.Z f (λe=>c.a.x e.symm) (λb d e=>c.a.l (e ▸ d)) (λb d e=>c.d (e ▸ d)) (λb _ e => .inr (.inl e)),q,c,λ_ h => .inl h,λ_ h => .inl h,f.mono λ_ _ e => .inr (.inl e)⟩
end
section
variable {E:EB}{D:Ac}{N:Nat}
theorem lR{T}(hI:MP (D 30))(hF:JP T (D 158)){U:H}{xb P X l l'}{R:Rs}{ns r Q A}{nd j:Ae}{iv fv d}
  (h:Pn U xb P X l R ns (λb=>Q b\/LB A iv fv b)) (hQ:∀b,Q b->b<U.j) (q:Nq U A nd iv fv) (ap:Aq xb P R.dv A iv fv) (hl:nd.K.length<=5000) (hd:d<=900) (o:LV T d nd l ns=some (j,l',r)) :
  ∃n m U',(∀K1 O K5,Nj E D (AV E D) K1 O K5 xb 0 A 0 (AA d) (AA 0) U=O xb 0 A 0 (AA d) (AA 0) U')/\DE U U' xb P X l' R r Q A j iv fv m n/\j.K.length<=nd.K.length+1:=by
 have ⟨a,S,_⟩:=h.p.ex;unfold pc at S;have M:=q.a;unfold Ae.c at M;have v:∀{U1}{F:List Bm},Pz U1 xb P X F R->Fr (λk=>k=xb) U U1->Je T d nd F ns=some (j,l',r)->∃n m U',D 158 [.o xb 0,.o A 0,.int .i64 (AA d),.int .i64 (AA 0)] U1=some (.B [],U')/\DE U U' xb P X l' R r Q A j iv fv m n/\j.K.length<=nd.K.length+1:=by
  intro U1 F x G hf;have u:=DE.go h q ap x G;have ab:=G.le;have ⟨n,m,U',g,p,q',Z,mf,md,f,y,_⟩:=hF u.p (λb hb=>by have:=hQ b hb;omega) u.q u.ap hl hd hf;exact⟨n,m,U',g,u.trans ⟨p,q',Z,mf,md,f⟩,by omega⟩
 unfold LV at o;cases N:nd.I with
 | false=>
  rw[N]at M;rw[N,if_neg (by decide)]at o;have ⟨U1,K,x,G⟩:=hI (BS.mk 3 3026478) h.p;have u:=DE.go h q ap x G;have w:=u.q.a;unfold Ae.c at w;rw[N]at w;cases hp:EG (BS.mk 3 3026478) l with
  | mk c F=>
   rw[hp]at o K x u;cases c with
   | true=>
    have o:some ({ nd with I:=true,W:=nd.K.length },F,ns)=some (j,l',r):=o;cases o;have ⟨U2,g2,f2,q2⟩:=u.q.set (off:=14) x.ht { nd with I:=true } rfl (by decide) rfl rfl rfl;have ⟨U3,g3,f3,q3⟩:=q2.set (off:=13) f2.y { nd with I:=true,W:=nd.K.length } rfl (by decide) rfl rfl rfl;have s3:=u.trans (DE.own u.p u.ap q3 (f2.trans f3 (λ_ _ h=>h)));have sl:∀J:Nat->AE,Ao fv J=J nd.K.length:=λJ=>u.q.f.ip;refine⟨R.dv,fv,U3,λK1 O K5=>?_,s3,El _⟩;unfold Nj;simp only[↓rP,rA,AD,AG,AB,↓AT S,↓AT M,↓K,↓AT w,↓sl,↓g2,↓g3]
   | false=>
    have o:Je T d nd F ns=some (j,l',r):=o;have ⟨n,m,U',g,s,y⟩:=v x G o;refine⟨n,m,U',λK1 O K5=>?_,s,y⟩;unfold Nj;simp only[↓rP,rA,AD,AG,AB,↓AT S,↓AT M,↓K,↓AT w,↓g]
 | true=>
  rw[N]at M;rw[N,if_pos rfl]at o;have o:(match EG (BS.mk 2 23387) l with | (true,_)=>none | (false,l2)=>Je T d nd l2 ns:Wd)=some (j,l',r):=o;have ⟨U1,K,x,G⟩:=hI (BS.mk 2 23387) h.p;cases hp:EG (BS.mk 2 23387) l with
  | mk c F=>
   rw[hp]at o K x;cases c with
   | true=>cases o | false=>
    have ⟨n,m,U',g,s,y⟩:=v x G o;refine⟨n,m,U',λK1 O K5=>?_,s,y⟩;unfold Nj;simp only[↓rP,rA,AD,AG,AB,↓AT S,↓AT M,↓K,↓g]
theorem AFI{T}(hI:MP (D 30))(hM:HS (D 29))(hF:JP T (D 158)){xb X ts A iv d Q}(hd:d<=900):∀n k {U:H}{l l'}{R:Rs}{ns i}{nd o:Ae}{fv:V},
  Pn U xb X ts l R ns (λb=>Q b\/LB A iv fv b)->(∀b,Q b->b<U.j)->Nq U A nd iv fv->Aq xb X R.dv A iv fv->nd.K.length+n<=1001->n<k->OY T d n nd l ns=some (o,l',i) ->
  ∃t r U',Rb E D (AV E D) N k xb 0 A 0 (AA d) (AA 0) U=some (.B [],U')/\DE U U' xb X ts l' R i Q A o iv fv r t:=by
 intro n;induction n with
 | zero=>intro k U l l' R ns i nd o fv h O q ap hl hk s;cases s | succ n ih=>
  intro k U l l' R ns i nd o fv h O q ap hl hk s;obtain⟨k,rfl⟩:∃j,k=j+1:=⟨k-1,by omega⟩;have ⟨⟨c,l1,F⟩,h1,s⟩:=AU.1 s;have ⟨dv1,y,U1,S,C,hl1⟩:=lR (E:=E) hI hF h O q ap (by omega) hd h1;have ⟨U2,L,p2,f2⟩:=hI (BS.mk 1 44) C.p.p;have p:=C.trans (DE.go C.p C.q C.ap p2 f2);have le2:=p.f.le;show ∃t r U',Nj E D (AV E D) (RG E D (AV E D)) (RF E D (AV E D) (RG E D (AV E D)) (Rb E D (AV E D) N k)) _ xb 0 A 0 (AA d) (AA 0) U=_/\_;have s:(match EG (BS.mk 1 44) l1 with | (true,K)=>OY T d n c K F | (false,K)=>(Dt (BS.mk 1 125) K).map λl3=>(if c.I=true then c else { c with W:=c.K.length },l3,F):Wd)=some (o,l',i):=s;cases hp:EG (BS.mk 1 44) l1 with
  | mk b K=>
   rw[hp]at s L p2 p;cases b with
   | true=>
    have ⟨t,r,U',g',s'⟩:=ih k p.p (λb hb=>by have:=O b hb;omega) p.q p.ap (by have:=hl1;omega) (by omega) s;refine⟨t,r,U',?_,p.trans s'⟩;rw[S];unfold RF;simp only[↓rP,↓L];exact g'
   | false=>
    have ⟨l3,h3,M⟩:=Aa.1 s;have ⟨U3,g3,p3,f3⟩:=hM p2 h3;have x:=p.trans (DE.go p.p p.q p.ap p3 f3);have G:=x.q.a;unfold Ae.c at G;have sl:∀J:Nat->AE,Ao y J=J c.K.length:=λJ=>x.q.f.ip;cases B:c.I with
    | true=>
     rw[B,if_pos rfl]at M;cases M;rw[B]at G;refine⟨_,y,U3,?_,x⟩;rw[S];unfold RF RG;simp only[↓rP,rS,↓L,↓g3,↓AT G]
    | false=>
     rw[B,if_neg (by decide)]at M;cases M;rw[B]at G;have ⟨U4,g4,f4,Y⟩:=x.q.set (off:=13) x.p.p.ht { c with W:=c.K.length } rfl (by decide) rfl rfl rfl;rw[B]at Y;refine⟨_,y,U4,?_,x.trans (DE.own x.p x.ap Y f4)⟩;rw[S];unfold RF RG;simp only[↓rP,rS,↓L,↓g3,↓AT G,↓sl,↓g4]
theorem Xc{T}(t:MP (D 30))(J:HS (D 29))(z:JP T (D 158))(X:2000<N):LK T (nF E D (AV E D) N):=by
 intro U xb O W l l' R ns I Q r nd x iv fv d h L q w B C o;have ⟨U1,p,u,v⟩:=t (BS.mk 1 125) h.p;have j:=DE.go h q w u v;unfold Hi at o;show ∃m k U',RH E D (AV E D) (Rb E D (AV E D) N N) xb 0 r 0 (AA d) U=_/\_;cases M:EG (BS.mk 1 125) l with
 | mk b P=>
  rw[M]at o p u j;cases b with
  | true=>
   cases o;refine⟨_,fv,U1,?_,j⟩;unfold RH;simp only[↓rP,↓p]
  | false=>
   have F:=v.le;have ⟨m,k,U',A,G⟩:=AFI (E:=E) (N:=N) t J z C 1000 N j.p (λb y=>by have:=L b y;omega) j.q j.ap (by rw[B];simp) (by omega) o;refine⟨m,k,U',?_,j.trans G⟩;have key:∀K,RH E D (AV E D) K xb 0 r 0 (AA d) U=K xb 0 r 0 (AA d) (AA 0) U1:=by
    intro K;unfold RH;simp only[↓rP,↓p]
   rw[key,A]
end
def Ju(T:Ex)(d:Nat)(nd:Ae)(l:List Bm)(ns:List Ae):Wd:=match EG (BS.mk 7 22026814072246082) l with
 | (true,_)=>none
 | (false,g)=>match EG (BS.mk 4 1280070990) g with
 | (true,b)=>some ({ nd with A:=4 },b,ns)
 | (false,b)=>match EG (BS.mk 10 488440487847103610377301) b with
 | (true,_)=>none
 | (false,f)=>match EG (BS.mk 7 23157120498421321) f with
 | (true,_)=>none
 | (false,h)=>match EG (BS.mk 5 361940403023) h with
 | (true,_)=>none
 | (false,j)=>match EG (BS.mk 10 322399817400452109389381) j with
 | (true,a)=>(Dt (BS.mk 1 123) a).bind λc=>(Jc 2000 nd.R nd.I nd.W c).bind λs=>(Dt (BS.mk 1 125) s.2.2.2).map λe=>({ nd with A:=3,R:=s.1,I:=s.2.1,W:=s.2.2.1 },e,ns)
 | (false,a)=>match EG (BS.mk 3 5522771) a with
 | (true,_)=>none
 | (false,c)=>match EG (BS.mk 6 76155295057987) c with
 | (true,e)=>(Dt (BS.mk 1 123) e).bind λi=>Hi T d { nd with A:=9 } i ns
 | (false,_)=>none
structure WV(U U':H)(xb:Nat)(lv:V)(ts l':List Bm)(R:Rs)(ns':List Ae)(Q:Nat->Prop)(nb:Nat)(nd':Ae)(iv fv iv' fv' dv':V):Prop where
 p:Pn U' xb lv ts l' (R.wd dv') ns' (λb=>Q b\/LB nb iv' fv' b)
 q:Nq U' nb nd' iv' fv'
 ap:Aq xb lv dv' nb iv' fv'
 mi:∀b,AJ iv' b->AJ iv b\/U.j<=b
 mf:∀b,AJ fv' b->AJ fv b\/U.j<=b
 md:∀b,AJ dv' b->AJ R.dv b\/U.j<=b
 f:Fr (λb=>PB xb R.dv b\/LB nb iv fv b) U U'
def PV(T:Ex)(F:List V->H->AE):Prop:=∀{U:H}{xb h j l l'}{R:Rs}{ns e Q a}{nd c:Ae}{iv fv d},
 Pn U xb h j l R ns (λb=>Q b\/LB a iv fv b)->(∀b,Q b->b<U.j)->Nq U a nd iv fv->Aq xb h R.dv a iv fv->nd.R=[]->nd.K=[]->d<=900->Ju T d nd l ns=some (c,l',e) ->
 ∃g i f U',F [.o xb 0,.o a 0,.int .i64 (AA d)] U=some (.B [],U')/\WV U U' xb h j l' R e Q a c iv fv i f g
section
variable {U U1 U2:H}{xb:Nat}{lv:V}{ts l l1 l2:List Bm}{R:Rs}{ns ns1 ns2:List Ae}{Q:Nat->Prop}{nb:Nat}{nd nd1 nd2:Ae}{iv fv fv1 fv2 dv1 dv2:V}
theorem DE.base(h:DE U U1 xb lv ts l1 R ns1 Q nb nd1 iv fv fv1 dv1):WV U U1 xb lv ts l1 R ns1 Q nb nd1 iv fv iv fv1 dv1:=
 ⟨h.p,h.q,h.ap,λ_ h => .inl h,h.mf,h.md,h.f.mono λ_ _ e=>e.imp id λe=>e.imp id .inr⟩
end
section
variable {E:EB}{D:Ac}{N:Nat}
theorem rM{T}(hNow:Lc (D 31))(hI:MP (D 30))(hM:HS (D 29))(hIt:VR (D 118))(hF:LK T (D 119)):PV T (F64 E D (AV E D) N):=by
 intro U xb lv ts l l' R ns ns' Q nb nd nd' iv fv d h hQ q ap hi0 hf0 hd v;obtain⟨t,l0,rfl⟩:∃t l0,l=t::l0:=by
  cases l with
  | nil=>exact absurd rfl h.p.ne | cons t l0=>exact⟨t,l0,rfl⟩
 have gn:=hNow h.p;have ⟨U1,e1,f1,a1,n1⟩:=Fh h.p.ht [.int .i64 (AA 0),.N ⟨0,0⟩,.int .i64 (AA 0)];have ⟨U2,e2,f2,a2⟩:=Y2 f1.y a1 (IQ t);unfold IQ at gn e2 a2;have s2:∀J:H->AE,DO 3 U.j 0 (.agg [.int .i64 (AA t.1),.N (BB t.2.1),.int .i64 (AA t.2.2)]) U1 J=J U2:=λJ=>by
  rw[Ed a1 rfl];show J (Gl U1 U.j (.cells [.int .i64 (AA t.1),.N (BB t.2.1),.int .i64 (AA t.2.2)]))=_;rw[e2]
 have f02:Fr AH U U2:=f1.trans f2 (λb w e=>by omega);have le2:=f02.le;have h2:=h.Z f02 (λh=>h) (λ_ _ h=>h) (λ_ _ h=>h) (λ_ _ h=>h.elim);have q2:=q.Z f02 h.p.ht (λh=>h) (λ_ _ h=>h) (λ_ _ h=>h);have ⟨a,ha,_⟩:=h2.p.ex;unfold pc at ha;suffices key:∃dv' iv' fv' U',F64 E D (AV E D) N [.o xb 0,.o nb 0,.int .i64 (AA d)] U=some (.B [],U')/\WV U2 U' xb lv ts l' R ns' Q nb nd' iv fv iv' fv' dv' by
  have ⟨dv',iv',fv',U',g,s⟩:=key;exact⟨dv',iv',fv',U',g,s.p,s.q,s.ap,λb w=>(s.mi b w).imp id (λe=>by omega),λb w=>(s.mf b w).imp id (λe=>by omega),λb w=>(s.md b w).imp id (λe=>by omega),(f02.mono (λ_ _ h=>h.elim):Fr (λb=>PB xb R.dv b\/LB nb iv fv b) U U2).trans s.f (λ_ _ e=>e)⟩
 have hQ2:∀b,Q b->b<U2.j:=λb w=>by have:=hQ b w;omega
 show ∃dv' iv' fv' U',sQ E D (AV E D) xb 0 nb 0 (AA d) U=some (.B [],U')/\_;have x:∀{U':H}{l1:List Bm} (s:BS),DE U2 U' xb lv ts l1 R ns Q nb nd iv fv fv R.dv->∃u,D 30 [.o xb 0,.N s] U'=some (.bool (EG s l1).1,u)/\DE U2 u xb lv ts (EG s l1).2 R ns Q nb nd iv fv fv R.dv:=by
  intro U' l1 s y;have ⟨u,g,p,f⟩:=hI s y.p.p;exact⟨u,g,y.trans (DE.go y.p y.q y.ap p f)⟩
 have kind:∀{U':H}{l1:List Bm} (k:Nat),DE U2 U' xb lv ts l1 R ns Q nb nd iv fv fv R.dv->∃u,(∀J:H->AE,DO 1 nb 0 (.int .i64 (AA k)) U' J=J u)/\DE U2 u xb lv ts l1 R ns Q nb { nd with A:=k } iv fv fv R.dv:=by
  intro U' l1 k y;have ⟨u,g,f,q'⟩:=y.q.set (off:=0) y.p.p.ht { nd with A:=k } rfl (by decide) rfl rfl rfl;exact⟨u,g,y.trans (DE.own y.p y.ap q' f)⟩
 have must:∀{U':H}{l1 l2:List Bm}{nd1:Ae}{s:BS},DE U2 U' xb lv ts l1 R ns Q nb nd1 iv fv fv R.dv->Dt s l1=some l2->∃u,D 29 [.o xb 0,.N s] U'=some (.B [],u)/\DE U2 u xb lv ts l2 R ns Q nb nd1 iv fv fv R.dv:=by
  intro U' l1 l2 nd1 s y hm;obtain⟨u,g,p,f⟩:=hM y.p.p hm;exact⟨u,g,y.trans (DE.go y.p y.q y.ap p f)⟩
 have flds:∀{U':H}{l1:List Bm}{nd1:Ae},DE U2 U' xb lv ts l1 R ns Q nb nd1 iv fv fv R.dv->nd1.K=[]->Hi T d nd1 l1 ns=some (nd',l',ns')->∃dv' fv' u,D 119 [.o xb 0,.o nb 0,.int .i64 (AA d)] U'=some (.B [],u)/\DE U2 u xb lv ts l' R ns' Q nb nd' iv fv fv' dv':=by
  intro U' l1 nd1 y h0 hm;have le:=y.f.le;obtain⟨dv',fv',u,g,s⟩:=hF y.p (λb w=>by have:=hQ2 b w;omega) y.q y.ap h0 hd hm;exact⟨dv',fv',u,g,y.trans s⟩
 have t0:DE U2 U2 xb lv ts (t::l0) R ns Q nb nd iv fv fv R.dv:=⟨h2,q2,ap,λ_ h => .inl h,λ_ h => .inl h,Fr.refl h2.p.ht⟩;unfold Ju at v;unfold sQ;simp only[↓rP,rA,AD,AG,AB,↓gn,↓e1,↓s2,↓AT ha];obtain⟨U3,g3,t3⟩:=x (BS.mk 7 22026814072246082) t0;cases c3:EG (BS.mk 7 22026814072246082) (t::l0)with
 | mk b l1=>
 rw[c3]at v g3 t3;rcases b with _|_
 rotate_left
 ·cases v
 replace v:(match EG (BS.mk 4 1280070990) l1 with | (true,_)=>_ | (false,_)=>_:Wd)=_:=v;obtain⟨U4,g4,t4⟩:=x (BS.mk 4 1280070990) t3;cases c4:EG (BS.mk 4 1280070990) l1 with
 | mk b l2=>
 rw[c4]at v g4 t4;rcases b with _|_
 rotate_left
 ·cases v
  obtain⟨_,ga,ta⟩:=kind 4 t4;exact⟨_,_,_,_,by simp only[↓rP,rS,↓g3,↓g4,↓ga],ta.base⟩
 replace v:(match EG (BS.mk 10 488440487847103610377301) l2 with | (true,_)=>_ | (false,_)=>_:Wd)=_:=v;obtain⟨U5,g5,t5⟩:=x (BS.mk 10 488440487847103610377301) t4;cases c5:EG (BS.mk 10 488440487847103610377301) l2 with
 | mk b l3=>
 rw[c5]at v g5 t5;rcases b with _|_
 rotate_left
 ·cases v
 replace v:(match EG (BS.mk 7 23157120498421321) l3 with | (true,_)=>_ | (false,_)=>_:Wd)=_:=v;obtain⟨U6,g6,t6⟩:=x (BS.mk 7 23157120498421321) t5;cases c6:EG (BS.mk 7 23157120498421321) l3 with
 | mk b l4=>
 rw[c6]at v g6 t6;rcases b with _|_
 rotate_left
 ·cases v
 replace v:(match EG (BS.mk 5 361940403023) l4 with | (true,_)=>_ | (false,_)=>_:Wd)=_:=v;obtain⟨U7,g7,t7⟩:=x (BS.mk 5 361940403023) t6;cases c7:EG (BS.mk 5 361940403023) l4 with
 | mk b l5=>
 rw[c7]at v g7 t7;rcases b with _|_
 rotate_left
 ·cases v
 replace v:(match EG (BS.mk 10 322399817400452109389381) l5 with | (true,_)=>_ | (false,_)=>_:Wd)=_:=v;obtain⟨U8,g8,t8⟩:=x (BS.mk 10 322399817400452109389381) t7;cases c8:EG (BS.mk 10 322399817400452109389381) l5 with
 | mk b l6=>
 rw[c8]at v g8 t8;rcases b with _|_
 rotate_left
 ·obtain⟨lm,hm,v⟩:=AU.1 v
  obtain⟨⟨its,mo,ro,li⟩,hi,v⟩:=AU.1 v;obtain⟨le,hme,he⟩:=Aa.1 v;cases he;obtain⟨_,gk,tk⟩:=kind 3 t8;obtain⟨Um,gm,z⟩:=must tk hm;obtain⟨iv',Ui,gi,pi,qi,mi,fi⟩:=hIt z.p.p z.q z.ap.a hi0 hi;have lei:=z.f.le;have lxm:=z.p.p.lt;have hpi:Pn Ui xb lv ts li (R.wd R.dv) ns (λb=>(Q b\/LB nb iv fv b)\/Um.j<=b):=(z.p.ext λ_ h=>h).mv pi fi (λb w e=>by
   rcases e with e|e|e
   ·exact(z.p.dx b w).1 e
   ·exact z.ap.d (e ▸ w)
   ·exact z.ap.i b e w) (λb _ e=>e.imp id λe => .inl (.inr (e.imp id .inl)))
  have api:Aq xb lv R.dv nb iv' fv:=⟨⟨z.ap.a.x,z.ap.a.l,λb w=>(mi b w).elim (z.ap.a.i b) (λe=>⟨by omega,λhn=>by have:=z.p.llt hn;omega⟩),z.ap.a.f⟩,z.ap.d,λb w=>(mi b w).elim (z.ap.i b) (λe hn=>by have:=z.p.dlt hn;omega),z.ap.f⟩;have bi:WV U2 Ui xb lv ts li R ns Q nb { nd with A:=3,R:=its,I:=mo,W:=ro } iv fv iv' fv R.dv:=
   ⟨hpi.ext λb w => .inl (by
     rcases w with w|w|w|w
     ·exact .inl (.inl w)
     ·exact .inl (.inr (.inl w))
     ·exact(mi b w).elim (λe => .inl (.inr (.inr (.inl e)))) .inr
     ·exact .inl (.inr (.inr (.inr w)))),qi,api,λb w=>(mi b w).imp id (λe=>by omega),λ_ h => .inl h,λ_ h => .inl h,
    (z.f.mono λ_ _ e=>e.imp id (λe=>e.imp id .inr)).trans fi λb _ e=>by
     rcases e with e|e|e
     ·exact .inl (.inl e)
     ·exact .inr (.inl e)
     ·exact .inr (.inr (.inl e))⟩
  obtain⟨Uj,gj,pj,fj⟩:=hM bi.p.p hme;refine⟨_,_,_,Uj,by simp only[↓rP,rS,↓g3,↓g4,↓g5,↓g6,↓g7,↓g8,↓gk,↓gm,↓gi,↓gj],⟨bi.p.go pj fj,bi.q.frx fj bi.p.p.ht bi.ap.a,bi.ap,bi.mi,bi.mf,bi.md,bi.f.trans fj λb _ e => .inl (.inl e)⟩⟩
 replace v:(match EG (BS.mk 3 5522771) l6 with | (true,_)=>_ | (false,_)=>_:Wd)=_:=v;obtain⟨U9,g9,t9⟩:=x (BS.mk 3 5522771) t8;cases c9:EG (BS.mk 3 5522771) l6 with
 | mk b l7=>
 rw[c9]at v g9 t9;rcases b with _|_
 rotate_left
 ·cases v
 replace v:(match EG (BS.mk 6 76155295057987) l7 with | (true,_)=>_ | (false,_)=>_:Wd)=_:=v;obtain⟨U10,g10,t10⟩:=x (BS.mk 6 76155295057987) t9;cases c10:EG (BS.mk 6 76155295057987) l7 with
 | mk b l8=>
 rw[c10]at v g10 t10;rcases b with _|_
 rotate_left
 ·obtain⟨lm,hm,v⟩:=AU.1 v
  obtain⟨_,gk,tk⟩:=kind 9 t10;obtain⟨Um,gm,z⟩:=must tk hm;obtain⟨_,_,_,gf,tf⟩:=flds z hf0 v;exact⟨_,_,_,_,by simp only[↓rP,rS,↓g3,↓g4,↓g5,↓g6,↓g7,↓g8,↓g9,↓g10,↓gk,↓gm,↓gf],tf.base⟩
 cases v
end
def OU(l:List Bm):Option ((Bool × Int × Nat) × List Bm):=match EG (BS.mk 1 91) l with
 | (false,a)=>some ((false,0,0),a)
 | (true,a)=>(ZQ a).bind λv=>match C5 v.1 (AA 0) || C5 (AA 268435456) v.1 with
  | true=>none
  | false=>(Dt (BS.mk 1 93) v.2).bind λd=>match EG (BS.mk 8 6073459554577832005) d with
   | (true,b)=>some ((true,v.1,1),b)
   | (false,b)=>match EG (BS.mk 8 6073459554577829193) b with
    | (true,c)=>some ((true,v.1,2),c)
    | (false,c)=>some ((true,v.1,0),c)
def IY(m:Bool × Int × Nat):Ae:={ IX with mHas:=m.1,mNum:=m.2.1,mMode:=m.2.2 }
def Lr(T:Ex):Ex:=λd l ns=>match l with
 | []=>none
 | t::a=>match mM t&&(decide (d<=16)&&decide (ns.length<300))with
  | true=>(OU (t::a)).bind λm=>(Ju T d (IY m.1) m.2 (ns++[IX])).map λs=>(ns.length,s.2.1,s.2.2.set ns.length s.1)
  | false=>none
def Hd:Nat->Ex
 | 0=>λ_ _ _=>none
 | q+1=>Lr (Hd q)
def SE(T:Ex):Prop:=∀{d l}{ns:List Ae}{i l'}{a:List Ae},T d l ns=some (i,l',a)->ns.length<=a.length
section
variable {T:Ex}{d:Nat}{nd nd':Ae}{l l':List Bm}{ns ns':List Ae}
theorem Zf(k:SE T)(b:Je T d nd l ns=some (nd',l',ns')):ns.length<=ns'.length:=by
 have ⟨⟨w,o⟩,p,b⟩:=AU.1 b;have ⟨⟨i,q,j⟩,m,b⟩:=AU.1 b;have:=k m;dsimp only at b;split at b
 ·cases b;exact this
 ·split at b
  ·cases b;exact this
  ·split at b
   ·cases b
   ·cases b;exact this
theorem ka(i:SE T)(e:LV T d nd l ns=some (nd',l',ns')):ns.length<=ns'.length:=by
 unfold LV at e;split at e
 ·cases e;exact AL _
 ·split at e
  ·cases e
  ·exact Zf i e
theorem lT(t:SE T):∀n {nd l}{ns:List Ae},OY T d n nd l ns=some (nd',l',ns')->ns.length<=ns'.length:=by
 intro n;induction n with
 | zero=>intro nd l ns b;cases b | succ n r=>
  intro nd l ns b;have ⟨⟨q,w,s⟩,h1,b⟩:=AU.1 b;have m:=ka t h1;dsimp only at b;split at b
  ·exact BE m (r b)
  ·have ⟨v,_,u⟩:=Aa.1 b
   cases u;exact m
theorem Xd(i:SE T)(b:Hi T d nd l ns=some (nd',l',ns')):ns.length<=ns'.length:=by
 unfold Hi at b;split at b
 ·cases b;exact AL _
 ·exact lT i _ b
theorem Sx(i:SE T)(c:Ju T d nd l ns=some (nd',l',ns')):ns.length<=ns'.length:=by
 unfold Ju at c;split at c
 ·cases c
 split at c
 ·cases c;exact AL _
 split at c
 ·cases c
 split at c
 ·cases c
 split at c
 ·cases c
 split at c
 ·have ⟨_,_,c⟩:=AU.1 c
  have ⟨_,_,c⟩:=AU.1 c;have ⟨_,_,j⟩:=Aa.1 c;cases j;exact AL _
 split at c
 ·cases c
 split at c
 ·have ⟨_,_,c⟩:=AU.1 c
  exact Xd i c
 cases c
theorem oZ(o:SE T):SE (Lr T):=by
 intro d l ns i l' q b;cases l with
 | nil=>cases b | cons t u=>
  unfold Lr at b;dsimp only at b;split at b
  ·have ⟨_,_,b⟩:=AU.1 b
   have ⟨⟨nd,s,g⟩,r,p⟩:=Aa.1 b;cases p;have:=Sx o r;rw[AP,Ag,Cm]at this;show ns.length<=(g.set ns.length nd).length;rw[BA];omega
  ·cases b
theorem Wt:∀q,SE (Hd q):=by intro x;induction x with grind [SE,Hd,oZ]
end
def zC:List V:=[.int .i64 (AA 0),.N (BS.mk 0 0),.bool false,.int .i64 (AA 0),.int .i64 (AA 0),.bool false,.bool false,.bool false,.bool false,.int .i64 (AA 0),.int .i64 (AA 0),.h,.h,.int .i64 (AA 0),.bool false,.int .i64 (AA 0)]
section
variable {E:EB}{U U':H}{nb:Nat}{nd:Ae}{iv fv:V}{xb:Nat}{lv dv dv':V}{ts l l':List Bm}{R:Rs}{ns:List Ae}{Q Q':Nat->Prop}
theorem Pn.push(h:Pn U xb lv ts l R ns Q)(hQ:∀b,Q b->b<U.j)(hl:ns.length<300):∃u U1 x p,Cb U (.cells zC)=U1/\(∀J,Dx E 16 144 R.dv (.D U.j 0 1 (.ex 1)) U1 J=J u x)/\u.S=true/\(∀J,DO 1 xb 6 u x J=J p) /\
  Pn p xb lv ts l (R.wd u) (ns++[IX]) Q/\Fr (PB xb R.dv) U p/\(∀b,AJ u b->AJ R.dv b\/U.j<=b):=by
 have ⟨ws,k1,C,k3⟩:=h.w;have ⟨a,ha,hl'⟩:=h.p.ex;have ⟨U1,e1,q,a1,n1⟩:=Fh h.p.ht zC;have xs:Cv U1 16 1 (V.D U.j 0 1 (.ex 1)) zC := .inr ⟨_,_,_,_,rfl,a1,AL _,rfl⟩;have ⟨u,x,g2,d2,m2,s⟩:=Dd (E:=E) (bytes:=144) (k1.Z q h.p.ht (λ_ _ h=>h)) q.y xs rfl (by unfold Bu;simp;omega);have le1:=q.le;have le2:=s.le;have hx:=h.p.lt;have F:=s.X (q.X ha h.p.ht (λh=>h)) q.y (λe=>(h.dx xb e).1 rfl);have ⟨p,g3,f3,B⟩:=ZC s.y F d2.S (show 6<9 by decide);have B:=B;have v:∀b,AJ u b->AJ R.dv b\/U.j<=b:=λb d=>(m2 b d).imp id λh=>by omega
 have ux:∀b,AJ u b->b≠xb:=λb d=>(v b d).elim (λe=>(h.dx b e).1) (λe=>by omega);have f:Fr (PB xb R.dv) U p:=((q.mono (λ_ _ h=>h.elim):Fr (PB xb R.dv) U U1).trans s (λ_ _ e => .inr e)).trans f3 (λ_ _ e => .inl e);refine⟨u,U1,x,p,e1,g2,d2.S,g3,⟨⟨⟨a,B,hl'⟩,h.p.src.Z f h.p.ht (λb d e=>e.elim (h.p.nx b d) (λe=>(h.dx b e).2 d)),h.p.ne,h.p.nx,h.p.ok,f.y⟩,⟨ws++[(.h,.h)],?_,by simp[C],λk nd w n r=>?_⟩,λb d=>⟨ux b d,λn=>(v b d).elim (λe=>(h.dx b e).2 n) (λe=>by have:=h.llt n;omega)⟩⟩,f,v⟩
 ·rw[AP,Ag,Cm,XO _ _ _ _ C]
  exact d2.Z f3 s.y (λb d e=>ux b d e)
 ·rcases A2 k ns.length with D|D
  ·rw[CH D]at n
   rw[CH (by omega)]at r;have m:=k3 k nd w n r;exact⟨m.1.Z f h.p.ht λb d e=>e.elim (m.2.2 b (.inl d)).1 (m.2.2 b (.inl d)).2.1,m.2.1.Z f h.p.ht λb d e=>e.elim (m.2.2 b (.inr d)).1 (m.2.2 b (.inr d)).2.1,λb d=>⟨(m.2.2 b d).1,λhu=>(v b hu).elim (m.2.2 b d).2.1 (λe=>by have:=m.lt h.p.ht d;omega),(m.2.2 b d).2.2⟩⟩
  ·rw[Aw D]at n
   rw[Aw (by omega),C]at r;have ⟨j,hj⟩:∃j,k-ns.length=j:=⟨_,rfl⟩;rw[hj]at n r;cases j with
   | succ j=>simp at n | zero=>
    cases n;cases r;exact⟨.inl ⟨rfl,rfl,rfl⟩,.inl ⟨rfl,rfl,rfl⟩,λb d=>d.elim (λh=>h.elim) (λh=>h.elim)⟩
theorem Pn.put(h:Pn U xb lv ts l R ns (λb=>Q b\/LB nb iv fv b))(q:Nq U nb nd iv fv)(v:Aq xb lv R.dv nb iv fv)(hq:∀b,AJ iv b\/AJ fv b->¬Q b){i}(P:i<ns.length):
    ∃b U',(∀J,AS 16 R.dv (AA i) J=J b (i*16))/\(∀J,DO 16 b (i*16) (.agg (nd.c iv fv)) U J=J U')/\Pn U' xb lv ts l R (ns.set i nd) Q/\Fr (AJ R.dv) U U':=by
  have ⟨z,X,E,k3⟩:=h.w;have C:=Mj ns z E;have ⟨b,W,p,u⟩:∃b W,R.dv = .D b 0 ns.length W/\Bx U b (H5 ns z):=by
    rcases X with (⟨O,_⟩|⟨b,n,D,_⟩)|⟨b,n,D,_⟩
    · omega
    · exact⟨b,_,n,D⟩
    · exact⟨b,_,n,D⟩
  have ⟨U',e,f,a⟩:=Y2 h.p.ht u (H5 (ns.set i nd) (z.set i (iv,fv)));have M:∀x,AJ R.dv x↔x=b:=λx=>by rw[p];exact Iff.rfl
  have t:=f.mono λx _ e=>(M x).2 e;have ho:BH (nd.c iv fv)=true:=by
    unfold Ae.c;simp only[Bg,CE,G3,FZ,G7,q.i.S,q.f.S,Bz]
  have A:i*16+16<=(H5 ns z).length:=by rw[C];omega
  refine⟨b,U',λJ=>?_,λJ=>?_,⟨h.p.Z t (λe=>(h.dx xb e).1 rfl) (λx m e=>(h.dx x e).2 m),⟨z.set i (iv,fv),?_,by rw[BA,BA,E],λk N w K I=>?_⟩,h.dx⟩,t⟩
  · rw[p,CC P]
    show J b (0+i*16)=_;rw[BV]
  · rw[Ed u (by
      rw[Dr,ho,PF];simp;exact A),Dr,XN ns z i nd (iv,fv) E P,e]
  · rw[BA]
    rcases X with (⟨O,_⟩|⟨F,n,D,O,hl⟩)|⟨F,n,D,hl⟩
    · omega
    · have:F=b:=by rw[p]at n;cases n;rfl
      subst this;exact .inl (.inr ⟨F,n,a,O,by rw[Mj _ _ (by rw[BA,BA,E]),BA]⟩)
    · have:F=b:=by rw[p]at n;cases n;rfl
      subst this;exact .inr ⟨F,n,a,by rw[Mj _ _ (by rw[BA,BA,E]),BA]⟩
  · by_cases T:i=k
    · subst T
      rw[C3 P]at K;rw[C3 (by omega)]at I;cases K;cases I;exact⟨q.i.src.Z t h.p.ht (λx m e=>v.i x m e),q.f.src.Z t h.p.ht (λx m e=>v.f x m e),λx m=>⟨m.elim (λe=>(v.a.i x e).1) (λe=>(v.a.f x e).1),m.elim (v.i x) (v.f x),hq x m⟩⟩
    · rw[MW T]at K I
      have s:=k3 k N w K I;exact⟨s.1.Z t h.p.ht λx u e=>(s.2.2 x (.inl u)).2.1 e,s.2.1.Z t h.p.ht λx u e=>(s.2.2 x (.inr u)).2.1 e,λx m=>⟨(s.2.2 x m).1,(s.2.2 x m).2.1,λe=>(s.2.2 x m).2.2 (.inl e)⟩⟩
theorem Nq.setm(h:Nq U nb nd iv fv)(l:Ai U) v:∃U',(∀J,DO 3 nb 2 (.agg [.bool true,.int .i64 v,.int .i64 (AA 0)]) U J=J U')/\Fr (λk=>k=nb) U U'/\Nq U' nb { nd with mHas:=true,mNum:=v,mMode:=0 } iv fv:=by
 have ⟨U',e,f,a⟩:=Y2 l h.a (({ nd with mHas:=true,mNum:=v,mMode:=0 }:Ae).c iv fv);refine⟨U',λJ=>?_,f,a,h.i.Z f l (λb m e=>h.ni (e ▸ m)),h.f.Z f l (λb m e=>h.nf (e ▸ m)),h.ni,h.nf,h.d⟩;rw[Ed h.a rfl];show J (Gl U nb (.cells (({ nd with mHas:=true,mNum:=v,mMode:=0 }:Ae).c iv fv)))=_;rw[e]
end
section
variable {E:EB}{D:Ac}{W:AF}{N:Nat}
theorem yU{a b c d e f g h i j k l m n o p J}:FD [a,b,c,d,e,f,g,h,i,j,k,l,m,n,o,p] 0 16 J=J [a,b,c,d,e,f,g,h,i,j,k,l,m,n,o,p]:=rfl
theorem AB3 {T} (hMon:SE T) (hNow:Lc (D 31)) (hBe:td (D 62)) (hI:MP (D 30)) (hM:HS (D 29)) (hN:Nn (D 63)) (hB:PV T (D 64)):MO (Lr T) (F33 E D W N):=by
 intro U xb lv ts l l' R ns ns' Q d i h hQ hd hs;cases l with
 | nil=>cases hs | cons t l0=>
 replace hs:(match mM t&&(decide (d<=16)&&decide (ns.length<300))with
  | true=>(OU (t::l0)).bind λm=>(Ju T d (IY m.1) m.2 (ns++[IX])).map λs=>(ns.length,s.2.1,s.2.2.set ns.length s.1) | false=>none:Option (Nat × List Bm × List Ae))=some (i,l',ns'):=hs
 cases n:mM t&&(decide (d<=16)&&decide (ns.length<300))with
 | false=>rw[n]at hs;cases hs | true=>
 rw[n]at hs;simp at n;have ⟨n,hd16,hl⟩:=n;have ⟨⟨m,lm⟩,B,hs⟩:=AU.1 hs;have ⟨⟨nd,lb,nsb⟩,hbase,he⟩:=Aa.1 hs;cases he;have gn:=hNow h.p;have ⟨U1,g1,f1⟩:=hBe U t h.p.ht;rw[n]at g1;have le1:=f1.le;have h1:=h.Z f1 (λh=>h) (λ_ _ h=>h) (λ_ _ h=>h) (λ_ _ h=>h.elim);have ⟨a,ha,_⟩:=h.p.ex;have ⟨a1,ha1,_⟩:=h1.p.ex;unfold pc at ha ha1;have hQ1:∀b,Q b->b<U1.j:=λb n=>by have:=hQ b n;omega
 have ⟨u,U2,U3,A,e2,g3,uo,g4,h4,f14,mu⟩:=h1.push (E:=E) hQ1 hl;have ⟨U5,e5,f5,a5,n5⟩:=Fh h4.p.ht zC;have ⟨U6,e6,f6,a6⟩:=Y2 f5.y a5 zC;have s6:∀J:H->AE,DO 16 A.j 0 (.agg zC) U5 J=J U6:=λJ=>by
  rw[Ed a5 rfl];show J (Gl U5 A.j (.cells zC))=_;rw[e6]
 have f46:Fr AH A U6:=f5.trans f6 (λb n e=>by omega);have le14:=f14.le;have le46:=f46.le;have q6:Nq U6 A.j IX .h .h:=⟨a6,DW.nil _ _,DW.nil _ _,λh=>h,λh=>h,λ_ h=>h.elim⟩;have lx4:=h4.p.lt;have ap6:Aq xb lv u A.j .h .h:=⟨⟨by omega,λhn=>by have:=h4.llt hn;omega,λ_ h=>h.elim,λ_ h=>h.elim⟩,λhn=>by have:=h4.dlt hn;omega,λ_ h=>h.elim,λ_ h=>h.elim⟩;have h6:Pn U6 xb lv ts (t::l0) (R.wd u) (ns++[IX]) (λb=>Q b\/LB A.j .h .h b):=(h4.ext λb n=>by
  rcases n with n|n|n|n
  ·exact .inl n
  ·exact .inr (by omega)
  ·exact n.elim
  ·exact n.elim).Z f46 (λh=>h) (λ_ _ h=>h) (λ_ _ h=>h) (λ_ _ h=>h.elim)
 have s0:DE U6 U6 xb lv ts (t::l0) (R.wd u) (ns++[IX]) Q A.j IX .h .h .h u:=⟨h6,q6,ap6,λ_ h => .inl h,λ_ h => .inl h,Fr.refl h6.p.ht⟩;obtain⟨U7,F,k7⟩:∃U7,DE U6 U7 xb lv ts lm (R.wd u) (ns++[IX]) Q A.j (IY m) .h .h .h u /\
   ∀K1:Nat->Nat->Int->Int->Nat->Nat->H->AE,S9 E D W K1 (Oq E D W K1) xb 0 (AA d) U=K1 xb 0 (AA d) (AA ns.length) A.j 0 U7:=by
  have ⟨U7,g7,p7,f7⟩:=hI (BS.mk 1 91) s0.p.p;have F:=s0.trans (DE.go s0.p s0.q s0.ap p7 f7);have ⟨ws,k1,k2,k3⟩:=h1.w;have sd:∀J:Nat->AE,Ao R.dv J=J ns.length:=λJ=>k1.ip;have d16:decide (16<d)=false:=decide_eq_false (by omega);have d300:decide (300<=ns.length)=false:=decide_eq_false (by omega);unfold IQ at gn g1;unfold zC at e2 e5 s6;have pre:∀K1 K2,S9 E D W K1 K2 xb 0 (AA d) U=AK (EG (BS.mk 1 91) (t::l0)).1
    (CD (D 31 [.o xb 0] U7) λu63 s64=>Cp u63 λl65=>D3 .i64 l65 λx68 l67=>Ti l67 λx71 l70=>D3 .i64 l70 λx74 l73=>Ay l73 (
     CD (D 63 [.o xb 0] s64) λu75 s76=>DZ .i64 u75 λx77=>DF E s76 xb 7 λu78=>DZ .i64 u78 λx79=>
     Ax (λc80 s81=>AK c80 (CD (D 32 [.o xb 0,.int .i64 (AA 12),.agg [.int .i64 x68,.N x71,.int .i64 x74]] s81) λu83 s84=>H3 u83 λl85=>Ay l85 (K2 xb 0 (AA d) (AA ns.length) A.j 0 x77 s84)) (K2 xb 0 (AA d) (AA ns.length) A.j 0 x77 s81)) λk82=>
     AK (B8 x79 (AA 0)) (Ax (λc86 s87=>k82 c86 s87) λk88=>AK (C5 x77 (AA 0)) (k88 true s76) (k88 (C5 (AA 268435456) x77) s76)) (k82 false s76)))
    (K1 xb 0 (AA d) (AA ns.length) A.j 0 U7):=by
   intro K1 K2;unfold S9;simp only[↓rP,rA,AD,AG,AB,↓AT ha,↓gn,↓g1,d16,↓AT ha1,↓sd,d300,↓e2,↓g3,↓Bt uo,↓g4,↓e5,↓s6,↓g7]
  unfold OU at B;cases hq:EG (BS.mk 1 91) (t::l0)with
  | mk b l1=>
   rw[hq]at B g7 F pre p7;cases b with
   | false=>
    cases B;refine⟨U7,F,λK1=>?_⟩;rw[pre];rfl
   | true=>
    have ⟨⟨v,l2⟩,hv,B⟩:=AU.1 B;cases K:C5 v (AA 0) || C5 (AA 268435456) v with
    | true=>
     have B:(match C5 v (AA 0) || C5 (AA 268435456) v with | true=>none | false=>_:Option ((Bool × Int × Nat) × List Bm))=some (m,lm):=B;rw[K]at B;cases B
    | false=>
     have B:(match C5 v (AA 0) || C5 (AA 268435456) v with
      | true=>none | false=>(Dt (BS.mk 1 93) l2).bind λl2=>match EG (BS.mk 8 6073459554577832005) l2 with
       | (true,l3)=>some ((true,v,1),l3) | (false,l3)=>match EG (BS.mk 8 6073459554577829193) l3 with
        | (true,l4)=>some ((true,v,2),l4) | (false,l4)=>some ((true,v,0),l4):Option ((Bool × Int × Nat) × List Bm))=some (m,lm):=B
     rw[K]at B;rw[CX]at K;obtain⟨l3,h3,z⟩:=AU.1 B;obtain⟨t1,l1',rfl⟩:∃t1 l1',l1=t1::l1':=by
      cases l1 with
      | nil=>exact absurd rfl p7.ne | cons t1 l1'=>exact⟨t1,l1',rfl⟩
     have gn7:=hNow p7;obtain⟨U8,g8,p8,f8⟩:=hN p7 hv;have s8:=F.trans (DE.go F.p F.q F.ap p8 f8);obtain⟨a8,G,_⟩:=p8.ex;unfold pc at G;obtain⟨U9,g9,p9,f9⟩:=hM p8 h3;have s9:=s8.trans (DE.go s8.p s8.q s8.ap p9 f9);obtain⟨U10,g10,f10,q10⟩:=s9.q.setm p9.ht v;have s10:=s9.trans (DE.own s9.p s9.ap q10 f10);obtain⟨U11,g11,p11,f11⟩:=hI (BS.mk 8 6073459554577832005) s10.p.p;have p:=s10.trans (DE.go s10.p s10.q s10.ap p11 f11);unfold IQ at gn7;have mid:∀K1:Nat->Nat->Int->Int->Nat->Nat->H->AE,S9 E D W K1 (Oq E D W K1) xb 0 (AA d) U=Oq E D W K1 xb 0 (AA d) (AA ns.length) A.j 0 v U8:=by
      intro K1;rw[pre];simp only[↓rP,rA,AD,AG,AB,↓gn7,↓g8,↓AT G,K.1,K.2]
     cases hq11:EG (BS.mk 8 6073459554577832005) l3 with
     | mk b l4=>
      rw[hq11]at z g11 p11 p;cases b with
      | true=>
       cases z;obtain⟨U12,L,f12,q12⟩:=p.q.set (off:=4) (y := .int .i64 (AA 1)) p11.ht (IY (true,v,1)) rfl (by decide) rfl rfl rfl;refine⟨U12,p.trans (DE.own p.p p.ap q12 f12),λK1=>?_⟩;rw[mid];unfold Oq;simp only[↓rP,rS,↓g9,↓g10,↓g11,↓L]
      | false=>
       have z:(match EG (BS.mk 8 6073459554577829193) l4 with
        | (true,l4)=>some ((true,v,2),l4) | (false,l4)=>some ((true,v,0),l4):Option ((Bool × Int × Nat) × List Bm))=some (m,lm):=z
       obtain⟨U12,L,p12,f12⟩:=hI (BS.mk 8 6073459554577829193) p.p.p;have C:=p.trans (DE.go p.p p.q p.ap p12 f12);cases hq12:EG (BS.mk 8 6073459554577829193) l4 with
       | mk b l5=>
        rw[hq12]at z L p12 C;cases b with
        | true=>
         cases z;obtain⟨U13,g13,f13,q13⟩:=C.q.set (off:=4) (y := .int .i64 (AA 2)) p12.ht (IY (true,v,2)) rfl (by decide) rfl rfl rfl;refine⟨U13,C.trans (DE.own C.p C.ap q13 f13),λK1=>?_⟩;rw[mid];unfold Oq;simp only[↓rP,rS,↓g9,↓g10,↓g11,↓L,↓g13]
        | false=>
         cases z;refine⟨U12,C,λK1=>?_⟩;rw[mid];unfold Oq;simp only[↓rP,rS,↓g9,↓g10,↓g11,↓L]
 have le7:=F.f.le;obtain⟨dv',iv',fv',U8,g8,b8⟩:=hB F.p (λb n=>by have:=hQ1 b n;omega) F.q F.ap rfl rfl (by omega) hbase;have hlen:ns.length<nsb.length:=by
  have:=Sx hMon hbase;rw[AP,Ag,Cm]at this;omega
 have fr7:∀b,b<U.j->(PB xb u b\/LB A.j .h .h b)->PB xb R.dv b:=λb n e=>by
  rcases e with (e|e)|e|e|e
  ·exact .inl e
  ·exact(mu b e).elim .inr (λh=>by omega)
  ·omega
  ·exact e.elim
  ·exact e.elim
 have mdv:∀b,AJ dv' b->AJ R.dv b\/U.j<=b:=λb n=>by
  rcases b8.md b n with h|h
  ·exact(mu b h).imp id (λh=>by omega)
  ·exact .inr (by omega)
 obtain⟨bb,U9,ia,s9,p9,f9⟩:=b8.p.put b8.q b8.ap (λb n hq=>by
  have:=hQ b hq;rcases n with n|n
  ·exact(b8.mi b n).elim (λh=>h.elim) (λh=>by omega)
  ·exact(b8.mf b n).elim (λh=>h.elim) (λh=>by omega)) hlen
 refine⟨dv',U9,?_,p9,(((((f1.mono (λ_ _ h=>h.elim):Fr (PB xb R.dv) U U1).trans f14 (λ_ _ e=>e)).trans f46 (λ_ _ e=>e.elim)).trans F.f (λb n e=>fr7 b n (e.imp id (λe=>e.elim .inl λe=>e.elim)))).trans b8.f (λb n e=>fr7 b n e)).trans f9 (λb n e=>(mdv b e).elim .inr (λh=>by omega)),mdv⟩;obtain⟨a8,G,_⟩:=b8.p.p.ex;unfold pc at G;have qa:=b8.q.a;unfold Ae.c at qa s9;have g8':D 64 [.o xb 0,.o A.j 0,.int .i64 (AA d)] U7=some (.B [],U8):=g8;show S9 E D W (iV E D W) (Oq E D W (iV E D W)) xb 0 (AA d) U=_;rw[k7];have ia':∀J:Nat->Nat->AE,AS 16 (((R.wd u).wd u).wd dv').dv (AA ns.length) J=J bb (ns.length*16):=ia;unfold iV;simp only[↓rP,rA,AD,AG,AB,↓g8',↓AT G,↓BU qa,yU,↓ia',↓s9]
end
structure Cs where
 nm:List Nat
 tg:Nat
 az:List (List Nat)
 ks:List Nat
 ns:List Ae
def fQ(a:List (List Nat)):List V:=a.map λw => .N (BB w)
def FJ(a:List Nat):List V:=a.map λk => .int .i64 (AA k)
def AKs(l:List Bm):Option (Nat × List Bm):=match EG (BS.mk 8 6073459554577832005) l with
 | (true,c)=>(Dt (BS.mk 4 1397178708) c).map λb=>(0,b)
 | (false,c)=>match EG (BS.mk 8 6073459554577829193) c with
  | (true,b)=>(Dt (BS.mk 4 1397178708) b).map λa=>(1,a)
  | (false,b)=>match EG (BS.mk 9 1241215773001651606849) b with
   | (true,a)=>(Dt (BS.mk 4 1397178708) a).map λd=>(2,d)
   | (false,a)=>some (0,a)
def O7(T:Ex):Nat->List (List Nat)->List Nat->List Ae->List Bm->Option (List (List Nat) × List Nat × List Ae × List Bm)
 | 0,_,_,_,_=>none
 | n+1,c,d,ns,l=>match EG (BS.mk 3 4476485) l with
  | (true,b)=>some (c,d,ns,b)
  | (false,b)=>(IZ 1 b).bind λa=>match decide (40<=c.length)with
   | true=>none
   | false=>(Dt (BS.mk 3 4012602) a.2).bind λe=>(T 0 e ns).bind λt=>O7 T n (c++[a.1]) (d++[t.1]) t.2.2 t.2.1
def pv(T:Ex)(c:List Bm):Option Cs:=
 (IZ 1 c).bind λa=>(Dt (BS.mk 11 100710650190388740279911748) a.2).bind λf=>(AKs f).bind λt=>
  (Dt (BS.mk 3 4012602) t.2).bind λb=>(Dt (BS.mk 5 336236856642) b).bind λd=>(O7 T 50 [] [] [] d).bind λr=>
   match r.2.2.2 with
   | []=>none
   | e::_=>match decide (e.1=0)with
    | true=>some ⟨a.1,t.1,r.1,r.2.1,r.2.2.1⟩
    | false=>none
structure PX(U:H)(m:Cs)(nv tv dv:V):Prop where
 n:DW U 1 m.az.length nv (fQ m.az)
 t:Cv U 1 m.ks.length tv (FJ m.ks)
 d:∃ws:List (V × V),Cv U 16 m.ns.length dv (H5 m.ns ws)/\ws.length=m.ns.length/\∀(k:Nat) (nd:Ae) (u:V × V),m.ns[k]? = some nd->ws[k]? = some u->Cv U 3 nd.R.length u.1 (JE nd.R)/\Cv U 11 nd.K.length u.2 (Ie nd.K)
def I2(m:Cs)(a b c:V):List V:=[.N (BB m.nm),.int .i64 (AA m.tg),a,b,c]
def VI(N:Nat)(T:Ex)(F:List V->H->AE):Prop:=∀U (s:BS) b m,Ai U->s.len<=8000->GN N s.len s.mt b->pv T b=some m ->
 ∃a c d U',F [.N s] U=some (.B [.agg (I2 m a c d),.int .i64 (AA 0),.int .i64 (AA 0)],U')/\PX U' m a c d/\Fr AH U U'
theorem GN.fin_{N len r d}(h:GN N len r d):∃p e,d=p++[e]/\e.1=0:=by
 induction h with
 | fin _=>exact⟨[],_,rfl,rfl⟩ | S _ _ _ f=>
  obtain⟨p,e,rfl,h⟩:=f;exact⟨_::p,e,rfl,h⟩
theorem Tk.num_{r w n k}(h:Tk r k w n)(l:k=3):∃m i r,w=Gc m i/\Ij m i r:=by
 cases h with
 | name _ _ f=>
  exfalso;split at f
  ·omega
  ·split at f<;>omega
 | num h=>exact⟨_,_,_,rfl,h⟩ | sign=>cases l
theorem GN.num_{N len r l}(h:GN N len r l):∀t∈l,t.1=3->∃m k r,t.2.1=Gc m k/\Ij m k r:=by
 induction h with
 | fin _=>
  intro t d e;rw[B5]at d;subst d;cases e
 | S _ i _ o=>
  intro t d e;rcases A0.1 d with rfl|d
  ·exact i.num_ e
  ·exact o t d e
theorem GN.ok{N}{s:BS}{c}(h:GN N s.len s.mt c)(d:s.len<=8000):AMm c:=by
 have:=h.len;rw[BS.length_nats]at this;exact⟨by omega,h.fin_,h.num_⟩
section
variable {U U':H}{xb:Nat}{lv:V}{ts l l':List Bm}{R:Rs}{ns:List Ae}{Q:Nat->Prop}
theorem Pz.set(h:Pz U xb lv ts l R){off}{y:V} i (q:y.S=true)(o:off<9)(r:∀a,FW (pc lv a R) off [y]=pc lv a i):
  ∃U',(∀J,DO 1 xb off y U J=J U')/\Pz U' xb lv ts l i/\Fr (λk=>k=xb) U U':=by
 have ⟨a,s,n⟩:=h.ex;have ⟨U',g,f,j⟩:=ZC h.ht s q o;rw[r]at j;exact⟨U',g,⟨⟨a,j,n⟩,h.src.Z f h.ht (λb m e=>h.nx b m e),h.ne,h.nx,h.ok,f.y⟩,f⟩
theorem Pn.set(h:Pn U xb lv ts l R ns Q){off}{y:V}(m:Rs)(n:m.dv=R.dv)(C:y.S=true)(w:off<9)(B:∀a,FW (pc lv a R) off [y]=pc lv a m):
  ∃U',(∀J,DO 1 xb off y U J=J U')/\Pn U' xb lv ts l m ns Q/\Fr (λk=>k=xb) U U':=by
 have ⟨U',g,p,f⟩:=h.p.set m C w B;have ⟨z,s,v,t⟩:=h.w;refine⟨U',g,⟨p,⟨z,by rw[n];exact s.Z f h.p.ht λb i e=>(h.dx b i).1 e,v,λk nd u A r=>?_⟩,by rw[n];exact h.dx⟩,f⟩;rw[n];have ⟨a,b,c⟩:=t k nd u A r;exact⟨a.Z f h.p.ht λb i e=>(c b (.inl i)).1 e,b.Z f h.p.ht λb i e=>(c b (.inr i)).1 e,c⟩
end
def rzC:List V:=[.N (BS.mk 0 0),.int .i64 (AA 0),.h,.h,.h]
structure Pm(U:H)(xb rb:Nat)(lv:V)(ts l:List Bm)(R:Rs)(ns:List Ae)(az:List (List Nat))(ks:List Nat):Prop where
 p:Pn U xb lv ts l R ns (λb=>AJ R.nv b\/AJ R.tv b\/b=rb)
 r:Bx U rb rzC
 n:DW U 1 az.length R.nv (fQ az)
 t:DW U 1 ks.length R.tv (FJ ks)
 nx:∀b,AJ R.nv b->b≠xb/\¬AJ lv b/\¬AJ R.dv b/\¬AJ R.tv b/\b≠rb
 tx:∀b,AJ R.tv b->b≠xb/\¬AJ lv b/\¬AJ R.dv b/\b≠rb
 rx:rb≠xb/\¬AJ lv rb/\¬AJ R.dv rb
section
variable {E:EB}{D:Ac}{W:AF}{N:Nat}{U U':H}{xb rb:Nat}{lv:V}{ts l l':List Bm}{R:Rs}{ns ns':List Ae}{az:List (List Nat)}{ks:List Nat}
theorem Pm.go(h:Pm U xb rb lv ts l R ns az ks)(p:Pz U' xb lv ts l' R)(f:Fr (λk=>k=xb) U U'):Pm U' xb rb lv ts l' R ns az ks:=
 ⟨h.p.go p f,f.X h.r h.p.p.ht h.rx.1,h.n.Z f h.p.p.ht (λb a e=>(h.nx b a).1 e),h.t.Z f h.p.p.ht (λb a e=>(h.tx b a).1 e),h.nx,h.tx,h.rx⟩
theorem Pm.q(h:Pm U xb rb lv ts l R ns az ks):∀b,(AJ R.nv b\/AJ R.tv b\/b=rb)->b<U.j:=λb c=>by
 rcases c with c|c|rfl
 ·exact h.n.lt h.p.p.ht c
 ·exact h.t.lt h.p.p.ht c
 ·exact h.r.lt h.p.p.ht
theorem Pm.typ(h:Pm U xb rb lv ts l R ns az ks){g}(p:Pn U' xb lv ts l' (R.wd g) ns' (λb=>AJ R.nv b\/AJ R.tv b\/b=rb))(f:Fr (PB xb R.dv) U U')(m:∀b,AJ g b->AJ R.dv b\/U.j<=b):Pm U' xb rb lv ts l' (R.wd g) ns' az ks:=by
 have k:=h.p.p.ht;have q:=h.q;refine⟨p,f.X h.r k (λe=>e.elim h.rx.1 h.rx.2.2),h.n.Z f k (λb d e=>e.elim (h.nx b d).1 (h.nx b d).2.2.1),h.t.Z f k (λb d e=>e.elim (h.tx b d).1 (h.tx b d).2.2.1),λb d=>?_,λb d=>?_,?_⟩
 ·have ⟨h1,n,j,r,u⟩:=h.nx b d
  exact⟨h1,n,λe=>(m b e).elim j (λe=>by have:=q b (.inl d);omega),r,u⟩
 ·have ⟨h1,n,j,r⟩:=h.tx b d
  exact⟨h1,n,λe=>(m b e).elim j (λe=>by have:=q b (.inr (.inl d));omega),r⟩
 ·exact⟨h.rx.1,h.rx.2.1,λe=>(m _ e).elim h.rx.2.2 (λe=>by have:=q rb (.inr (.inr rfl));omega)⟩
theorem Pm.name(h:Pm U xb rb lv ts l R ns az ks) w (hl:az.length<=4000):∃u U1 n k,Cb U (.cells [.N (BB w)])=U1/\(∀J,Dx E 1 16 R.nv (.D U.j 0 1 (.ex 1)) U1 J=J u n)/\u.S=true/\(∀J,DO 1 xb 4 u n J=J k) /\
  Pm k xb rb lv ts l { R with nv:=u } ns (az++[w]) ks/\Fr (λb=>b=xb\/AJ R.nv b) U k/\(∀b,AJ u b->AJ R.nv b\/U.j<=b):=by
 have t:=h.p.p.ht;have z:=h.q;have ⟨U1,I,q,A,n1⟩:=Fh t [.N (BB w)];have xs:Cv U1 1 1 (V.D U.j 0 1 (.ex 1)) [.N (BB w)] := .inr ⟨_,_,_,_,rfl,A,AL _,rfl⟩;have ⟨u,n,C,v,m2,x⟩:=Dd (E:=E) (bytes:=16) (h.n.Z q t (λ_ _ h=>h)) q.y xs rfl (by unfold Bu;simp;omega);have le1:=q.le;have s:∀b,AJ u b->AJ R.nv b\/U.j<=b:=λb d=>(m2 b d).imp id λh=>by omega
 have o:=(q.mono (λ_ _ h=>h.elim):Fr (AJ R.nv) U U1).trans x (λ_ _ e=>e);have p2:=(h.p.ext λ_ h=>h).Z o (λe=>(h.nx _ e).1 rfl) (λb d e=>(h.nx b e).2.1 d) (λb d e=>(h.nx b e).2.2.1 d) (λb _ e => .inl (.inl e));have ⟨k,g3,p3,y⟩:=p2.set (off:=4) { R with nv:=u } rfl v.S (by decide) (λ_=>rfl);have lx:=h.p.p.lt;have i:=(o.mono (λ_ _ e => .inr e):Fr (λb=>b=xb\/AJ R.nv b) U n).trans y (λ_ _ e => .inl e);refine⟨u,U1,n,k,I,C,v.S,g3,⟨p3.ext (λb d=>?_),i.X h.r t (λe=>e.elim h.rx.1 λe=>(h.nx _ e).2.2.2.2 rfl),?_,h.t.Z i t (λb d e=>e.elim (h.tx b d).1 λe=>(h.nx b e).2.2.2.1 d),λb d=>?_,h.tx,h.rx⟩,i,s⟩
 ·rcases d with d|d
  ·exact(s b d).elim (λe => .inl (.inl (.inl e))) (λe => .inl (.inr e))
  ·exact .inl (.inl (.inr d))
 ·have d3:=v.Z y x.y (λb d e=>(s b d).elim (λD=>(h.nx b D).1 e) (λh=>by omega))
  rw[AP];show DW k 1 (az.length+1) u (fQ (az++[w]));rw[show fQ (az++[w])=fQ az++[.N (BB w)] by unfold fQ;simp];exact d3
 ·rcases s b d with e|e
  ·exact h.nx b e
  ·exact⟨by omega,λj=>by have:=h.p.llt j;omega,λj=>by have:=h.p.dlt j;omega,λj=>by have:=z b (.inr (.inl j));omega,λj=>by have:=z b (.inr (.inr j));omega⟩
theorem Pm.I(h:Pm U xb rb lv ts l R ns az ks) k (hl:ks.length<=4000):∃u U1 q j,Cb U (.cells [.int .i64 (AA k)])=U1/\(∀J,Dx E 1 8 R.tv (.D U.j 0 1 (.ex 1)) U1 J=J u q)/\u.S=true/\(∀J,DO 1 xb 5 u q J=J j) /\
  Pm j xb rb lv ts l { R with tv:=u } ns az (ks++[k])/\Fr (λb=>b=xb\/AJ R.tv b) U j/\(∀b,AJ u b->AJ R.tv b\/U.j<=b):=by
 have s:=h.p.p.ht;have y:=h.q;have ⟨U1,A,v,B,n1⟩:=Fh s [.int .i64 (AA k)];have xs:Cv U1 1 1 (V.D U.j 0 1 (.ex 1)) [.int .i64 (AA k)] := .inr ⟨_,_,_,_,rfl,B,AL _,rfl⟩;have ⟨u,q,F,w,m2,z⟩:=Dd (E:=E) (bytes:=8) (h.t.Z v s (λ_ _ h=>h)) v.y xs rfl (by unfold Bu;simp;omega);have le1:=v.le;have r:∀b,AJ u b->AJ R.tv b\/U.j<=b:=λb d=>(m2 b d).imp id λh=>by omega
 have p:=(v.mono (λ_ _ h=>h.elim):Fr (AJ R.tv) U U1).trans z (λ_ _ e=>e);have p2:=(h.p.ext λ_ h=>h).Z p (λe=>(h.tx _ e).1 rfl) (λb d e=>(h.tx b e).2.1 d) (λb d e=>(h.tx b e).2.2.1 d) (λb _ e => .inl (.inr (.inl e)));have ⟨j,K,p3,x⟩:=p2.set (off:=5) { R with tv:=u } rfl w.S (by decide) (λ_=>rfl);have lx:=h.p.p.lt;have i:=(p.mono (λ_ _ e => .inr e):Fr (λb=>b=xb\/AJ R.tv b) U q).trans x (λ_ _ e => .inl e);refine⟨u,U1,q,j,A,F,w.S,K,⟨p3.ext (λb d=>?_),i.X h.r s (λe=>e.elim h.rx.1 λe=>(h.tx _ e).2.2.2 rfl),h.n.Z i s (λb d e=>e.elim (h.nx b d).1 (h.nx b d).2.2.2.1),?_,λb d=>?_,λb d=>?_,h.rx⟩,i,r⟩
 ·rcases d with d|d|d
  ·exact .inl (.inl (.inl d))
  ·exact(r b d).elim (λe => .inl (.inl (.inr (.inl e)))) (λe => .inl (.inr e))
  ·exact .inl (.inl (.inr (.inr d)))
 ·have d3:=w.Z x z.y (λb d e=>(r b d).elim (λG=>(h.tx b G).1 e) (λh=>by omega))
  rw[AP];show DW j 1 (ks.length+1) u (FJ (ks++[k]));rw[show FJ (ks++[k])=FJ ks++[.int .i64 (AA k)] by unfold FJ;simp];exact d3
 ·have ⟨h1,h2,h3,C,L⟩:=h.nx b d
  exact⟨h1,h2,h3,λe=>(r b e).elim C (λe=>by have:=y b (.inl d);omega),L⟩
 ·rcases r b d with e|e
  ·exact h.tx b e
  ·exact⟨by omega,λo=>by have:=h.p.llt o;omega,λo=>by have:=h.p.dlt o;omega,λo=>by have:=y b (.inr (.inr o));omega⟩
end
section
variable {E:EB}{D:Ac}{N:Nat}
theorem yq{U xb rb B O l nm i d f g ns n o}{e:Bm}(S:Lc (D 31))(h:Pm U xb rb B O (e::l) ⟨BB nm,AA i,d,f,g⟩ ns n o)(X:decide (e.1=0)=true):
    ∃U',TD E D (AV E D) (TB E D (AV E D)) rb 0 xb 0 U=some (.B [.agg (I2 ⟨nm,i,n,o,ns⟩ d f g),.int .i64 (AA 0),.int .i64 (AA 0)],U')/\PX U' ⟨nm,i,n,o,ns⟩ d f g/\Fr (λk=>k=rb) U U':=by
  have q:=h.p.p.ht;have ⟨a,y,_⟩:=h.p.p.ex;unfold pc at y;have ⟨N,z,L,M⟩:=h.p.w;have C:=S h.p.p;unfold IQ at C;have K:BH (I2 ⟨nm,i,n,o,ns⟩ d f g)=true:=by
    unfold I2;simp only[Bg,CE,G3,FZ,h.n.S,h.t.S,z.S,Bz]
  have ⟨U',T,p,F⟩:=Y2 q h.r (I2 ⟨nm,i,n,o,ns⟩ d f g);have R:=h.r;have Q:∀J,DO 5 rb 0 (.agg [.N (BB nm),.int .i64 (AA i),d,f,g]) U J=J U':=λJ=>by
    rw[Ed R (show _=true by
      rw[Dr];show (true&&true&&BH (I2 ⟨nm,i,n,o,ns⟩ d f g))=true;rw[K];rfl)]
    show J (Gl U rb (.cells (I2 ⟨nm,i,n,o,ns⟩ d f g)))=_;rw[T]
  refine⟨U',?_,⟨h.n.Z p q (λb m e=>(h.nx b m).2.2.2.2 e),(h.t.Z p q (λb m e=>(h.tx b m).2.2.2 e)).src,N,(z.Z p q (λb m e=>h.rx.2.2 (e ▸ m))).src,L,λk nd u P I=>?_⟩,p⟩
  · have w:∀J,FD [B,.int .i64 (AA a),.N (BB nm),.int .i64 (AA i),d,f,g,.int .i64 (AA 0),.int .i64 (AA 0)] 2 5 J=J [.N (BB nm),.int .i64 (AA i),d,f,g]:=λJ=>by
      rw[E2 (by simp)];rfl
    have r:∀J,FD [.N (BB nm),.int .i64 (AA i),d,f,g] 0 5 J=J [.N (BB nm),.int .i64 (AA i),d,f,g]:=λJ=>by
      rw[E2 (by simp)];rfl
    unfold I2 at F;unfold TD TB;simp only[↓rP,rA,AD,AG,AB,↓AT y,↓BU y,↓C,X,↓w,↓Q,↓BU F,↓r];rfl
  · have ⟨W,G,A⟩:=M k nd u P I
    exact⟨W.Z p q (λb m e=>(A b (.inl m)).2.2 (.inr (.inr e))),G.Z p q (λb m e=>(A b (.inr m)).2.2 (.inr (.inr e)))⟩
theorem AMl{T}(hN:Lc (D 31))(hI:MP (D 30))(hM:HS (D 29))(hK:It (D 28))(hT:MO T (D 33)){xb rb lv ts nm tg}:∀n k {U l}{F A I:V}{ns:List Ae}{s:List (List Nat)}{v:List Nat}{r:List (List Nat) × List Nat × List Ae × List Bm}{e:Bm}{l':List Bm},
  Pm U xb rb lv ts l ⟨BB nm,AA tg,F,A,I⟩ ns s v->n<k->v.length=s.length->O7 T n s v ns l=some r->r.2.2.2=e::l'->decide (e.1=0)=true ->
  ∃z x y U',Yf E D (AV E D) N k rb 0 xb 0 U=some (.B [.agg (I2 ⟨nm,tg,r.1,r.2.1,r.2.2.1⟩ z x y),.int .i64 (AA 0),.int .i64 (AA 0)],U')/\PX U' ⟨nm,tg,r.1,r.2.1,r.2.2.1⟩ z x y/\Fr (λb=>b=rb\/b=xb\/AJ F b\/AJ A b\/AJ I b) U U':=by
 intro n;induction n with
 | zero=>intro k U l F A I ns s v r e l' h hk hs0 p;cases p | succ n ih=>
  intro k U l F A I ns s v r e l' h hk hs0 p hr he;obtain⟨k,rfl⟩:∃j,k=j+1:=⟨k-1,by omega⟩;have ⟨a,ha,_⟩:=h.p.p.ex;unfold pc at ha;have ⟨U1,g1,p1,f1⟩:=hI (BS.mk 3 4476485) h.p.p;show ∃z x y U',TC E D (AV E D) (TD E D (AV E D) (TB E D (AV E D))) (iq E D (AV E D) (Yf E D (AV E D) N k)) rb 0 xb 0 U=_/\_;have p:(match EG (BS.mk 3 4476485) l with
   | (true,B)=>some (s,v,ns,B) | (false,B)=>(IZ 1 B).bind λa=>match decide (40<=s.length)with
    | true=>none | false=>(Dt (BS.mk 3 4012602) a.2).bind λl2=>(T 0 l2 ns).bind λt=>O7 T n (s++[a.1]) (v++[t.1]) t.2.2 t.2.1:Option (List (List Nat) × List Nat × List Ae × List Bm))=some r:=p
  cases hp:EG (BS.mk 3 4476485) l with
  | mk c B=>
   rw[hp]at p g1 p1;have h1:=h.go p1 f1;cases c with
   | true=>
    cases p;have hr:B=e::l':=hr;subst hr;have ⟨U2,g2,m2,f2⟩:=yq (E:=E) hN h1 he;refine⟨F,A,I,U2,?_,m2,(f1.mono (λ_ _ e => .inr (.inl e)):Fr (λb=>b=rb\/b=xb\/AJ F b\/AJ A b\/AJ I b) U U1).trans f2 (λ_ _ e => .inl e)⟩;have key:∀K4,TC E D (AV E D) (TD E D (AV E D) (TB E D (AV E D))) K4 rb 0 xb 0 U=TD E D (AV E D) (TB E D (AV E D)) rb 0 xb 0 U1:=by
     intro K4;unfold TC;simp only[↓rP,rA,AD,AG,AB,↓AT ha,↓g1]
    rw[key];exact g2
   | false=>
    have p:((IZ 1 B).bind λa=>match decide (40<=s.length)with
     | true=>none | false=>(Dt (BS.mk 3 4012602) a.2).bind λl2=>(T 0 l2 ns).bind λt=>O7 T n (s++[a.1]) (v++[t.1]) t.2.2 t.2.1:Option (List (List Nat) × List Nat × List Ae × List Bm))=some r:=p
    have ⟨⟨w,l2⟩,hw,p⟩:=AU.1 p;have p:(match decide (40<=s.length)with
     | true=>none | false=>(Dt (BS.mk 3 4012602) l2).bind λl2=>(T 0 l2 ns).bind λt=>O7 T n (s++[w]) (v++[t.1]) t.2.2 t.2.1:Option (List (List Nat) × List Nat × List Ae × List Bm))=some r:=p
    cases hd:decide (40<=s.length)with
    | true=>rw[hd]at p;cases p | false=>
     rw[hd]at p;have ⟨l3,hm,p⟩:=AU.1 p;obtain⟨⟨i,l4,G⟩,ht,p⟩:=AU.1 p;have hs9:O7 T n (s++[w]) (v++[i]) G l4=some r:=p;have hlen:s.length<40:=by have:=of_decide_eq_false hd;omega
     obtain⟨t1,l1',rfl⟩:∃t1 l1',B=t1::l1':=by
      cases B with
      | nil=>cases hw | cons t B=>exact⟨t,B,rfl⟩
     have gn:=hN p1;unfold IQ at gn;obtain⟨U2,g2,p2,f2⟩:=hK p1 hw;have h2:=h1.go p2 f2;obtain⟨a2,ha2,_⟩:=p2.ex;unfold pc at ha2;obtain⟨U3,g3,p3,f3⟩:=hM p2 hm;have h3:=h2.go p3 f3;obtain⟨C,U4,g4,p4,f4,m4⟩:=hT h3.p h3.q (by omega) ht;have h4:Pm U4 xb rb lv ts l4 ⟨BB nm,AA tg,F,A,C⟩ G s v:=h3.typ p4 f4 m4;obtain⟨a4,ha4,_⟩:=h4.p.p.ex;unfold pc at ha4;obtain⟨u5,U5,U6,U7,e5,g5,o5,s5,h7,f7,m7⟩:=h4.name (E:=E) w (by omega);have h7:Pm U7 xb rb lv ts l4 ⟨BB nm,AA tg,u5,A,C⟩ G (s++[w]) v:=h7;obtain⟨a7,ha7,_⟩:=h7.p.p.ex;unfold pc at ha7;obtain⟨u8,U8,U9,U10,e8,g8,o8,s8,K,f10,m10⟩:=h7.I (E:=E) i (by omega);have K:Pm U10 xb rb lv ts l4 ⟨BB nm,AA tg,u5,u8,C⟩ G (s++[w]) (v++[i]):=K;obtain⟨z,x,y,U',g',m',f'⟩:=ih k K (by omega) (by simp[hs0]) hs9 hr he;refine⟨z,x,y,U',?_,m',?_⟩
     ·have key:∀K2 R3,TC E D (AV E D) K2 (iq E D (AV E D) R3) rb 0 xb 0 U=R3 rb 0 xb 0 U10:=by
       intro K2 R3;unfold TC iq;simp only[↓rP,rA,AD,AG,AB,↓AT ha,↓g1,↓gn,↓g2,↓AT ha2,h2.n.ip,hd,↓g3,↓g4,↓AT ha4,↓e5,↓g5,↓Bt o5,↓s5,↓AT ha7,↓e8,↓g8,↓Bt o8,↓s8]
      rw[key];exact g'
     ·have le1:=f1.le
      have le2:=f2.le;have le3:=f3.le;have le4:=f4.le;have le7:=f7.le;have m7:∀b,AJ u5 b->AJ F b\/U4.j<=b:=m7;have m10:∀b,AJ u8 b->AJ A b\/U7.j<=b:=m10;have m4:∀b,AJ C b->AJ I b\/U3.j<=b:=m4;refine((((((f1.mono (λ_ _ e => .inr (.inl e)):Fr (λb=>b=rb\/b=xb\/AJ F b\/AJ A b\/AJ I b) U U1).trans f2 (λ_ _ e => .inr (.inl e))).trans f3 (λ_ _ e => .inr (.inl e))).trans f4 (λb _ e=>e.elim (λe => .inr (.inl e)) λe => .inr (.inr (.inr (.inr e))))).trans f7 (λb _ e=>e.elim (λe => .inr (.inl e)) λe => .inr (.inr (.inl e)))).trans f10 (λb _ e=>e.elim (λe => .inr (.inl e)) λe => .inr (.inr (.inr (.inl e))))).trans f' (λb hb e=>?_);rcases e with e|e|e|e|e
      ·exact .inl e
      ·exact .inr (.inl e)
      ·exact(m7 b e).elim (λe => .inr (.inr (.inl e))) (λe=>by omega)
      ·exact(m10 b e).elim (λe => .inr (.inr (.inr (.inl e)))) (λe=>by omega)
      ·exact(m4 b e).elim (λe => .inr (.inr (.inr (.inr e)))) (λe=>by omega)
theorem QU{u a b c d e f g i:V}(h:u.S=true) J:H9 [(0,1,u)] [.h,a,b,c,d,e,f,g,i] J=J [u,a,b,c,d,e,f,g,i]:=by
 have ⟨h1,k⟩:=Et h;unfold H9 GK;rw[h1,k];rfl
theorem pZ (hN:Lc (D 31)) (hI:MP (D 30)) (hM:HS (D 29)) (hK:It (D 28)) (hR:jC N (D 27)) {U:H} {s:BS} {ts l l1 w} {t:Nat × List Bm} (ht:Ai U) (hs:s.len<=8000) (hts:GN N s.len s.mt ts) (h1:IZ 1 ts=some (w,l)) (h2:Dt (BS.mk 11 100710650190388740279911748) l=some l1) (m:AKs l1=some t) :
  ∃xb o U',(∀K1,iu E D (AV E D) K1 s U=K1 U.j 0 xb 0 U')/\Pm U' xb U.j o ts t.2 ⟨BB w,AA t.1,.h,.h,.h⟩ [] [] []/\U.j<=xb/\Fr AH U U':=by
 have ⟨U1,e1,f1,a1,n1⟩:=Fh ht rzC;have ⟨o,U2,g2,v,m2,f2⟩:=hR U1 s ts f1.y hs hts;have le1:=f1.le;have le2:=f2.le;have a2:=f2.X a1 f1.y (λh=>h);have ⟨U3,e3,f3,a3,n3⟩:=Fh f2.y (pc o 0 ⟨BS.mk 0 0,AA 0,.h,.h,.h⟩);have ll:∀b,AJ o b->b<U2.j:=λb r=>v.lt f2.y r;have p3:Pz U3 U2.j o ts ts ⟨BS.mk 0 0,AA 0,.h,.h,.h⟩:=⟨⟨0,a3,rfl⟩,(v.Z f3 f2.y (λ_ _ h=>h)).src,(λe=>by subst e;cases h1),λb r=>by have:=ll b r;omega,hts.ok hs,f3.y⟩;have ⟨U4,g4,p4,f4⟩:=hK p3 h1;have ⟨U5,g5,p5,f5⟩:=p4.set (off:=2) ⟨BB w,AA 0,.h,.h,.h⟩ rfl (by decide) (λ_=>rfl);have ⟨U6,g6,p6,f6⟩:=hM p5 h2;have f36:=(f4.trans f5 (λ_ _ e=>e)).trans f6 (λ_ _ e=>e);have ⟨U7,g7,p7,f7⟩:=hI (BS.mk 8 6073459554577832005) p6;have f37:=f36.trans f7 (λ_ _ e=>e);have B:∀{U':H}{t:Nat × List Bm},Pz U' U2.j o ts t.2 ⟨BB w,AA t.1,.h,.h,.h⟩->Fr (λk=>k=U2.j) U3 U'->Pm U' U2.j U.j o ts t.2 ⟨BB w,AA t.1,.h,.h,.h⟩ [] [] []/\U.j<=U2.j/\Fr AH U U':=by
  intro U' t p f;refine⟨⟨⟨p,⟨[],DW.nil _ _,rfl,λk nd u h=>by simp at h⟩,λb r=>r.elim⟩,f.X (f3.X a2 f2.y (λh=>h)) f3.y (λe=>by omega),DW.nil _ _,DW.nil _ _,λb r=>r.elim,λb r=>r.elim,by omega,λhn=>?_,λh=>h⟩,by omega,((f1.trans f2 (λ_ _ h=>h)).trans f3 (λ_ _ h=>h)).trans f (λb r e=>by omega)⟩;have:=m2 _ hn;omega
 unfold pc at e3;have A:Cb U2 (.cells [o,.int .i64 (AA 0),.N ⟨0,0⟩,.int .i64 (AA 0),.h,.h,.h,.int .i64 (AA 0),.int .i64 (AA 0)])=U3:=e3;have C:Cb U (.cells [.N ⟨0,0⟩,.int .i64 (AA 0),.h,.h,.h])=U1:=e1;unfold iu;cases hp:EG (BS.mk 8 6073459554577832005) l1 with
 | mk c n=>
  rw[hp]at g7 p7;have m:(match EG (BS.mk 8 6073459554577832005) l1 with
   | (true,l1)=>(Dt (BS.mk 4 1397178708) l1).map λn=>(0,n) | (false,l1)=>match EG (BS.mk 8 6073459554577829193) l1 with
    | (true,n)=>(Dt (BS.mk 4 1397178708) n).map λi=>(1,i) | (false,n)=>match EG (BS.mk 9 1241215773001651606849) n with
     | (true,i)=>(Dt (BS.mk 4 1397178708) i).map λz=>(2,z) | (false,i)=>some (0,i):Option (Nat × List Bm))=some t:=m
  rw[hp]at m;cases c with
  | true=>
   have ⟨i,hm,he⟩:=Aa.1 m;cases he;have ⟨U8,g8,p8,f8⟩:=hM p7 hm;have ⟨q1,q2,q3⟩:=B (t:=(0,i)) p8 (f37.trans f8 (λ_ _ e=>e));refine⟨_,o,U8,λK1=>?_,q1,q2,q3⟩;simp only[↓rP,rA,AD,AG,AB,↓C,↓g2,↓QU v.S,v.S,↓A,↓g4,↓g5,↓g6,↓g7,↓g8]
  | false=>
   have ⟨U8,g8,p8,f8⟩:=hI (BS.mk 8 6073459554577829193) p7;have f38:=f37.trans f8 (λ_ _ e=>e);cases hp8:EG (BS.mk 8 6073459554577829193) n with
   | mk c i=>
    rw[hp8]at g8 p8;have m:(match EG (BS.mk 8 6073459554577829193) n with
     | (true,n)=>(Dt (BS.mk 4 1397178708) n).map λi=>(1,i) | (false,n)=>match EG (BS.mk 9 1241215773001651606849) n with
      | (true,i)=>(Dt (BS.mk 4 1397178708) i).map λz=>(2,z) | (false,i)=>some (0,i):Option (Nat × List Bm))=some t:=m
    rw[hp8]at m;cases c with
    | true=>
     have ⟨z,hm,he⟩:=Aa.1 m;cases he;have ⟨U9,g9,p9,f9⟩:=p8.set (off:=3) (y := .int .i64 (AA 1)) ⟨BB w,AA 1,.h,.h,.h⟩ rfl (by decide) (λ_=>rfl);have ⟨U10,g10,p10,f10⟩:=hM p9 hm;have ⟨q1,q2,q3⟩:=B (t:=(1,z)) p10 ((f38.trans f9 (λ_ _ e=>e)).trans f10 (λ_ _ e=>e));refine⟨_,o,U10,λK1=>?_,q1,q2,q3⟩;simp only[↓rP,rA,AD,AG,AB,↓C,↓g2,↓QU v.S,v.S,↓A,↓g4,↓g5,↓g6,↓g7,↓g8,↓g9,↓g10]
    | false=>
     have ⟨U9,g9,p9,f9⟩:=hI (BS.mk 9 1241215773001651606849) p8;have f39:=f38.trans f9 (λ_ _ e=>e);cases hp9:EG (BS.mk 9 1241215773001651606849) i with
     | mk c z=>
      rw[hp9]at g9 p9;have m:(match EG (BS.mk 9 1241215773001651606849) i with
       | (true,i)=>(Dt (BS.mk 4 1397178708) i).map λz=>(2,z) | (false,i)=>some (0,i):Option (Nat × List Bm))=some t:=m
      rw[hp9]at m;cases c with
      | true=>
       have ⟨l5,hm,he⟩:=Aa.1 m;cases he;have ⟨U10,g10,p10,f10⟩:=p9.set (off:=3) (y := .int .i64 (AA 2)) ⟨BB w,AA 2,.h,.h,.h⟩ rfl (by decide) (λ_=>rfl);have ⟨U11,g11,p11,f11⟩:=hM p10 hm;have ⟨q1,q2,q3⟩:=B (t:=(2,l5)) p11 ((f39.trans f10 (λ_ _ e=>e)).trans f11 (λ_ _ e=>e));refine⟨_,o,U11,λK1=>?_,q1,q2,q3⟩;simp only[↓rP,rA,AD,AG,AB,↓C,↓g2,↓QU v.S,v.S,↓A,↓g4,↓g5,↓g6,↓g7,↓g8,↓g9,↓g10,↓g11]
      | false=>
       cases m;have ⟨q1,q2,q3⟩:=B (t:=(0,z)) p9 f39;refine⟨_,o,U9,λK1=>?_,q1,q2,q3⟩;simp only[↓rP,rA,AD,AG,AB,↓C,↓g2,↓QU v.S,v.S,↓A,↓g4,↓g5,↓g6,↓g7,↓g8,↓g9]
theorem yp{T}(A:Lc (D 31))(B:MP (D 30))(n:HS (D 29))(u:It (D 28))(W:jC N (D 27))(K:MO T (D 33))(hF:1000<N):VI N T (F14 E D (AV E D) N):=by
 intro U s ts m ht hs q a;have ⟨⟨w,l⟩,h1,a⟩:=AU.1 a;have ⟨l1,P,a⟩:=AU.1 a;have ⟨⟨tg,l2⟩,L,a⟩:=AU.1 a;have ⟨l3,h4,a⟩:=AU.1 a;have ⟨l4,O,a⟩:=AU.1 a;have ⟨r,Y,a⟩:=AU.1 a;have ⟨xb,lv,U1,S,v,lx,Z⟩:=pZ (E:=E) A B n u W ht hs q h1 P L;have ⟨U2,g2,p2,C⟩:=n v.p.p h4;have ⟨J,g3,G,y⟩:=n p2 O;have M:=(v.go p2 C).go G y;cases t:r.2.2.2 with
 | nil=>rw[t]at a;cases a | cons e l'=>
  rw[t]at a;have a:(match decide (e.1=0)with
   | true=>some (⟨w,tg,r.1,r.2.1,r.2.2.1⟩:Cs) | false=>none)=some m:=a
  cases p:decide (e.1=0)with
  | false=>rw[p]at a;cases a | true=>
   rw[p]at a;cases a;have ⟨I,R,dv,U4,g4,X,Q⟩:=AMl (E:=E) (N:=N) A B n u K 50 N M (by omega) rfl Y t p;refine⟨I,R,dv,U4,?_,X,((Z.trans C (λb x e=>by omega)).trans y (λb x e=>by omega)).trans Q (λb x e=>?_)⟩
   ·show iu E D (AV E D) (ir E D (AV E D) (Yf E D (AV E D) N N)) s U=_
    rw[S];have key:∀o,ir E D (AV E D) o U.j 0 xb 0 U1=o U.j 0 xb 0 J:=by
     intro o;unfold ir;simp only[↓rP,↓g2,↓g3]
    rw[key];exact g4
   ·rcases e with e|e|e|e|e
    ·omega
    ·omega
    ·exact e.elim
    ·exact e.elim
    ·exact e.elim
end
section
variable {E:EB}{D:Ac}{N:Nat}
theorem oX {U:H} {g G} {l:List V} {v k m r A w t dd ii eb tgv y1 y2 y3 y4 z}  (C:tgv = .h\/∃tb,tgv = .D tb 0 1 (.ex 1)) (j:Ai U) (M:Bx U g l) (hv:l[5]? = some v) (hi:Bx U G [.int .i64 r,tgv,.bool y1,.bool y2,.bool y3,.bool y4,.int .i64 A,.int .i64 w,.h,.h,.int .i64 t,.bool z,.int .i64 (AA 0)]) (hd:DW U 13 k v m) (hk:k<=9000) (hne:g≠G) (N:¬AJ v g) (ni:¬AJ v G) :
    ∃e' u U',AV E D Kf JQ [(0,.o g 0),(2,.int .i64 dd),(4,.o eb 0),(7,.int .i64 ii),(8,.o G 0)] U=some (e',U')/\Go.Og.look e' 0=some (.o g 0)/\Go.Og.look e' 2=some (.int .i64 dd)/\Go.Og.look e' 4=some (.o eb 0)/\Go.Og.look e' 7=some (.int .i64 ii)/\Bx U' g (FW l 5 [u])/\DW U' 13 (k+1) u (m++[.int .i64 r,tgv,.bool y1,.bool y2,.bool y3,.bool y4,.int .i64 A,.int .i64 w,.h,.h,.int .i64 t,.bool z,.int .i64 (AA 0)])/\(∀b,AJ u b->AJ v b\/U.j<=b)/\¬AJ u g/\Fr (λb=>b=g\/AJ v b) U U':=by
  have fw:Fr AH U ⟨U.j+11,U.F⟩:=(B7 (E:=E) j).Z;have lb:=M.lt j;have li:=hi.lt j;have ⟨B,q⟩:∃B,B=(⟨U.j+11,(U.j+6,.cells [.int .i64 r,tgv,.bool y1,.bool y2,.bool y3,.bool y4,.int .i64 A,.int .i64 w,.h,.h,.int .i64 t,.bool z,.int .i64 (AA 0)])::U.F⟩:H):=⟨_,rfl⟩;have K:Fr AH U B:=by
    rw[q];refine⟨λb p=>?_,FT _ _,λb p hn=>?_⟩
    · have p:U.j+11<=b:=p
      show BX ((U.j+6,_)::U.F) b=none;rw[Aj,if_neg (by simp;omega)];exact j b (by omega)
    · show BX ((U.j+6,_)::U.F) b=_
      rw[Aj,if_neg (by simp;omega)]
  have aa:Bx B (U.j+6) [.int .i64 r,tgv,.bool y1,.bool y2,.bool y3,.bool y4,.int .i64 A,.int .i64 w,.h,.h,.int .i64 t,.bool z,.int .i64 (AA 0)]:=by
    rw[q];show BX ((U.j+6,_)::U.F) _=_;rw[Aj,if_pos rfl]
  have xs:Cv B 13 1 (V.D (U.j+6) 0 1 (.ex 1)) [.int .i64 r,tgv,.bool y1,.bool y2,.bool y3,.bool y4,.int .i64 A,.int .i64 w,.h,.h,.int .i64 t,.bool z,.int .i64 (AA 0)] := .inr ⟨_,_,_,_,rfl,aa,AL _,rfl⟩;have ho:BH [.int .i64 r,tgv,.bool y1,.bool y2,.bool y3,.bool y4,.int .i64 A,.int .i64 w,.h,.h,.int .i64 t,.bool z,.int .i64 (AA 0)]=true:=by rcases C with rfl | ⟨tb,rfl⟩<;>rfl
  have ⟨u,O,g2,d2,m2,J⟩:=Dd (E:=E) (bytes:=128) (hd.Z K j (λ_ _ h=>h)) K.y xs ho (by unfold Bu;simp;omega);have na:B.j=U.j+11:=by rw[q]
  have vl:∀b,AJ v b->b<U.j:=λb p=>hd.lt j p;have a2:Bx O g l:=J.X (K.X M j (λh=>h)) K.y N;have ⟨o1,o2⟩:=Et d2.S;have st:∃s,ES E D (.store 1 (.tmp 54) (.tmp 52)) [(54,.o g 5),(52,u)] O=some (.i5,s)/\Fr (λk=>k=g) O s/\Bx s g (FW l 5 [u]):=by
    have ⟨s,q1,q2,q3⟩:=HM (E:=E) (D:=D) (n:=1) (x := .tmp 54) (y := .tmp 52) (e:=[(54,.o g 5),(52,u)]) J.y a2 rfl (show (Ca [(54,.o g 5),(52,u)] (.tmp 52)).cells=[u] from o2) (by
      have:5<l.length:=by
        rcases A2 5 l.length with h|h
        · exact h
        · rw[A4 h]at hv;cases hv
      simp only[Bg,CE,d2.S,Bz,Ag,Cm,BV,Gb,EX,Bn];omega)
    exact⟨s,q1,q2,q3⟩
  have ⟨s,g3,f3,c3⟩:=st;have un:¬AJ u g:=λh=>(m2 g h).elim N λh=>by omega
  have vb:V.beq v v=true:=by
    rcases hd with h|⟨b,rfl,_⟩
    · rcases h with ⟨_,rfl,_⟩ | ⟨_,rfl,_⟩<;>exact Be _ rfl
    · exact Be _ rfl
  have go:FB (Jx E U 11 JQ _ s) E D U 11 0 Kf JQ ⟨[(0,.o g 0),(2,.int .i64 dd),(4,.o eb 0),(7,.int .i64 ii),(8,.o G 0)],U.j+11,[U.F],[],0,[]⟩:=
    DR (.o g 0) rfl rfl <|
    DR (.o g 0) rfl rfl <|
    DR (.o g 0) rfl rfl <|
    DR (.o g 5) rfl rfl <|
    HF v (B7 (S:=AJ v) j) rfl (Cj (b:=g) (off:=5) rfl M hv j N vb) λr1=>
    HF (.agg [.int .i64 r,tgv,.bool y1,.bool y2,.bool y3,.bool y4,.int .i64 A,.int .i64 w,.h,.h,.int .i64 t,.bool z,.int .i64 (AA 0)]) r1 rfl (Fu (b:=G) (off:=0) rfl hi rfl rfl j ni (by rcases C with rfl | ⟨tb,rfl⟩<;>exact Be _ rfl)) λr2=>
    Sk (.D (U.j+6) 0 1 (.ex 1)) (.cells [.int .i64 r,tgv,.bool y1,.bool y2,.bool y3,.bool y4,.int .i64 A,.int .i64 w,.h,.h,.int .i64 t,.bool z,.int .i64 (AA 0)]) 64 r2 rfl (by decide) rfl (by rcases C with rfl | ⟨tb,rfl⟩<;>rfl) λ_ r3=>
    Mt u (by rw[<-q]at r3;exact r3) rfl (by decide) (S':=AJ v) J (λ_ _ h=>h) (λb h h1 _=>by have:=vl b h;omega) (Jq rfl rfl g2) λ_ _ r4=>
    DR (.o g 0) rfl rfl <|
    DR (.o g 5) rfl rfl <|
    LD .i5 r4 rfl (by decide) f3 (λb h h1 _=>by omega) g3 (λx hx=>by
      simp only[A0,FU,or_false]at hx;rcases hx with rfl|rfl
      · show FG JQ 5 [10,7] []=false
        decide
      · show FG JQ 4 [10,7] []=false
        decide)
  have d:=HG (ops:=Kf) go;refine⟨_,u,s,d,rfl,rfl,rfl,rfl,c3,d2.Z f3 J.y (λb p e=>un (e ▸ p)),λb p=>(m2 b p).elim .inl (λh => .inr (by omega)),un,?_⟩;exact((K.mono (λ_ _ h=>h.elim):Fr (λb=>b=g\/AJ v b) U B).trans J (λ_ _ h => .inr h)).trans f3 (λ_ _ h => .inl h)
def yK(k:Nat):Nat:=match k with
 | 1=>1 | 2=>2 | 3=>10 | 4=>5 | 5=>4 | 6=>12 | 7=>16 | 8=>17 | 10=>16 | _=>0
def jB(F:List V->H->AE):Prop:=∀U k,k<=10->F [.int .i64 (AA k)] U=some (.agg [.int .i64 (AA 0),.int .i64 (AA (yK k))],U)
theorem AKg{W}:jB (wv E D W N):=by
 intro U k b;match k,b with
 | 0,_=>rfl | 1,_=>rfl | 2,_=>rfl | 3,_=>rfl | 4,_=>rfl | 5,_=>rfl | 6,_=>rfl | 7,_=>rfl | 8,_=>rfl | 9,_=>rfl | 10,_=>rfl
theorem T8:∀ns a i (nd:Ae) (u:V × V),ns[i]? = some nd->a[i]? = some u->((H5 ns a).drop (i*16)).take 16=nd.c u.1 u.2
 | [],_,i,nd,u,h,_=>by simp at h
 | _::_,[],i,nd,u,_,h=>by simp at h
 | x::ns,y::a,0,nd,u,h,e=>by simp at h e;subst h;subst e;rfl
 | x::ns,y::a,i+1,nd,u,h,e=>by
  have h:ns[i]? = some nd:=by simpa using h
  have e:a[i]? = some u:=by simpa using e
  show ((x.c y.1 y.2++H5 ns a).drop ((i+1)*16)).take 16=_;rw[show (i+1)*16=16+i*16 by omega,<-Cd,show (x.c y.1 y.2++H5 ns a).drop 16=H5 ns a from rfl];exact T8 ns a i nd u h e
theorem HN{U a n i v}{m c:List V}(h:Cv U a n v m)(l:i<n)(j:(m.drop (i*a)).take a=c)(s:0<a) J:AS a v (AA i) (λb o=>Bv E U b o a J)=J c:=by
 rcases h with ⟨t,_,_⟩|⟨b,o,u,L,rfl,q,p,r⟩
 ·omega
 ·rw[CC l]
  show Bv E U b (o+i*a) a J=_;have k:i*a+a<=n*a:=by rw[<-Nat.succ_mul];exact Fm _ l
  rw[BU q,E2 (by omega)];rw[r,Wb,List.take_take,Ha (by omega),Cd]at j;rw[j]
theorem Pq{U n i v w m}(h:Cv U 1 n v m)(l:i<n)(f:m[i]? = some w) J:AS 1 v (AA i) (λb o=>DF E U b o J)=J w:=by
 rcases h with ⟨p,_,_⟩|⟨b,o,q,L,rfl,k,j,g⟩
 ·omega
 ·rw[CC l]
  show DF E U b (o+i*1) J=_;have:L[o+i*1]? = some w:=by
   rw[g,CQ (by omega),B6]at f;rw[CB];exact f
  rw[AT k,PE (by rw[Mg];exact this)]
end
def RP(F:List V->H->AE):Prop:=∀U v (l:List Nat) x,Cv U 1 l.length v (FJ l)->l.length<=9000->F [v,.int .i64 (AA x)] U=some (.bool (l.any λy=>decide (y=x)),U)
structure LR(m:Cs):Prop where
 kinds:∀nd∈m.ns,nd.A≠11/\nd.A<=10/\nd.K.length<=5000
 few:m.ns.length<=300/\m.az.length<=40
 as_many:m.ks.length=m.az.length
 apart:∀i,i<m.az.length->((m.az.take i).map BB).any (λx=>x.beq (BB (m.az[i]?.getD [])))=false
def MN(m:Cs)(q:Nat)(F:List V->H->AE):Prop:=∀U a b c k d,Ai U->PX U m a b c->17<=d+q->d<=1000 ->
 ∃U',F [.agg (I2 m a b c),.int .i64 (AA k),.int .i64 (AA d),.h] U=some (.B [.h,.bool false],U')/\Fr AH U U'
theorem PX.Z{U U' m i g j}(h:PX U m i g j)(f:Fr AH U U')(c:Ai U):PX U' m i g j:=by
 have ⟨n,h1,l,q⟩:=h.d;refine⟨h.n.Z f c (λ_ _ h=>h),h.t.Z f c (λ_ _ h=>h),n,h1.Z f c (λ_ _ h=>h),l,λk nd u o p=>?_⟩;have ⟨a,b⟩:=q k nd u o p;exact⟨a.Z f c (λ_ _ h=>h),b.Z f c (λ_ _ h=>h)⟩
theorem PX.nd{U}{m:Cs}{n l j}(h:PX U m n l j){k}{nd:Ae}(e:m.ns[k]? = some nd):
  ∃iv fv,(∀E J,AS 16 j (AA k) (λb o=>Bv E U b o 16 J)=J (nd.c iv fv))/\Cv U 3 nd.R.length iv (JE nd.R)/\Cv U 11 nd.K.length fv (Ie nd.K):=by
 have ⟨g,h1,q,p⟩:=h.d;have d:=(AN.1 e).1;have ⟨u,i⟩:∃u,g[k]? = some u:=⟨g[k],AI (by omega)⟩;have ⟨a,b⟩:=p k nd u e i;exact⟨u.1,u.2,λE J=>HN h1 d (T8 _ _ _ _ _ e i) (by decide) J,a,b⟩
theorem QV:∀l i (f:BW),l[i]? = some f->(Ie l)[i*11+1]? = some (.int .i64 (AA f.type))
 | [],i,f,h=>by simp at h
 | x::l,0,f,h=>by simp at h;subst h;rfl
 | x::l,i+1,f,h=>by
  have h:l[i]? = some f:=by simpa using h
  show (x.c++Ie l)[(i+1)*11+1]? = _;rw[Aw (by show 11<=_;omega),show (i+1)*11+1-x.c.length=i*11+1 by show (i+1)*11+1-11=_;omega];exact QV l i f h
section
variable {E:EB}{D:Ac}{W:AF}{N:Nat}
theorem EM{U a n i off v w m}(h:Cv U a n v m)(d:i<n)(f:off<a)(e:m[i*a+off]? = some w) J:AS a v (AA i) (λb o=>DF E U b (AM o off) J)=J w:=by grind [Cv,CC,GS]
theorem AL2(G:10000<N):RP (F5 E D W N):=by
 intro U v l x t I;have key:∀m i n,i+m=l.length->m<n->AAy E D W N n v (AA x) (AA i) U=some (.bool ((l.drop i).any λy=>decide (y=x)),U):=by
  intro m;induction m with
  | zero=>
   intro i n C B;obtain⟨n,rfl⟩:∃k,n=k+1:=⟨n-1,by omega⟩;rw[Jt (by omega)];show Zz E D W (mV E D W) _ v (AA x) (AA i) U=_;have u:decide (i<l.length)=false:=decide_eq_false (by omega);have q:∀J,Ao v J=J l.length:=λJ=>t.ip;have k:∀R,Zz E D W (mV E D W) R v (AA x) (AA i) U=some (.bool false,U):=by
    intro R;unfold Zz mV;simp only[↓rP,rA,↓q,u]
   exact k _
  | succ m A=>
   intro i n C B;obtain⟨n,rfl⟩:∃k,n=k+1:=⟨n-1,by omega⟩;have f:i<l.length:=by omega
   rw[Db f,List.any_cons];show Zz E D W (mV E D W) (AAy E D W N n) v (AA x) (AA i) U=_;have u:=decide_eq_true f;have F:BQ .i64 (AA i) (AA 1)=AA (i+1):=Al (by omega);have q:∀J,Ao v J=J l.length:=λJ=>t.ip;have rd:∀J,AS 1 v (AA i) (λb o=>DF E U b o J)=J (.int .i64 (AA l[i])):=λJ=>Pq t f (by unfold FJ;rw[As,AI f];rfl) J;have k:∀R,Zz E D W (mV E D W) R v (AA x) (AA i) U=AK (decide (l[i]=x)) (some (.bool true,U)) (R v (AA x) (AA (i+1)) U):=by
    intro R;unfold Zz;simp only[↓rP,rA,AD,AG,AB,↓q,u,↓rd,F]
   rw[k,A (i+1) n (by omega) (by omega)];cases decide (l[i]=x)<;>rfl
 exact key l.length 0 N (by omega) (by omega)
theorem AEB{m:Cs}{q}(Y:MN m q (D 66))(hN:6000<N){nd:Ae}{iv fv v u t mb d}(X:nd.A≠11)(hq:17<=d+1+q)(hd:d<=16)(Z:nd.K.length<=5000):∀(n i k:Nat) {U:H},i+n=nd.K.length->n<k->Ai U->Bx U mb (I2 m v u t)->PX U m v u t->Cv U 11 nd.K.length fv (Ie nd.K) ->
  ∃U',YZ E D W N k (AA d) .h mb 0 false (AA i) (AA nd.A) (BB nd.name) nd.mHas nd.mNum (AA nd.mMode) nd.T.has nd.T.no nd.T.i9 nd.T.I nd.T.low nd.T.high iv fv (AA nd.W) nd.I (AA nd.of_) U=some (.B [.h,.bool false],U')/\Fr AH U U':=by
 have S:BQ .i64 (AA d) (AA 1)=AA (d+1):=Al (by omega);intro n;induction n with
 | zero=>
  intro i k U hi hk x B L G;obtain⟨k,rfl⟩:∃j,k=j+1:=⟨k-1,by omega⟩;have M:decide (i<nd.K.length)=false:=decide_eq_false (by omega);have I:∀J:Nat->AE,Ao fv J=J nd.K.length:=λJ=>G.ip;unfold I2 at B;have y:∀J:List V->AE,FD [.N (BB m.nm),.int .i64 (AA m.tg),v,u,t] 0 5 J=J [.N (BB m.nm),.int .i64 (AA m.tg),v,u,t]:=λJ=>by
   rw[E2 (by simp)];rfl
  have ⟨U',g,f⟩:=Y U v u t nd.of_ (d+1) x L (by omega) (by omega);unfold I2 at g;cases F:decide (nd.A=10)with
  | false=>
   refine⟨U,?_,Fr.refl x⟩;show Lb E D W (Oj E D W (Oi E D W)) _ _ _ _ _ _ _ _ _ _ _ _ _ _ _ _ _ _ _ _ _ _ _ _=_;have key:∀R,Lb E D W (Oj E D W (Oi E D W)) R (AA d) .h mb 0 false (AA i) (AA nd.A) (BB nd.name) nd.mHas nd.mNum (AA nd.mMode) nd.T.has nd.T.no nd.T.i9 nd.T.I nd.T.low nd.T.high iv fv (AA nd.W) nd.I (AA nd.of_) U=some (.B [.h,.bool false],U):=by
    intro R;unfold Lb Oj Oi;simp only[↓rP,rA,AD,AG,AB,↓I,M,F]
   exact key _
  | true=>
   refine⟨U',?_,f⟩;show Lb E D W (Oj E D W (Oi E D W)) _ _ _ _ _ _ _ _ _ _ _ _ _ _ _ _ _ _ _ _ _ _ _ _=_;have key:∀R,Lb E D W (Oj E D W (Oi E D W)) R (AA d) .h mb 0 false (AA i) (AA nd.A) (BB nd.name) nd.mHas nd.mNum (AA nd.mMode) nd.T.has nd.T.no nd.T.i9 nd.T.I nd.T.low nd.T.high iv fv (AA nd.W) nd.I (AA nd.of_) U=some (.B [.h,.bool false],U'):=by
    intro R;unfold Lb Oj Oi;simp only[↓rP,rA,AD,AG,AB,↓I,M,F,↓BU B,↓y,S,↓g]
   exact key _
 | succ n ih=>
  intro i k U hi hk x B L G;obtain⟨k,rfl⟩:∃j,k=j+1:=⟨k-1,by omega⟩;have z:i<nd.K.length:=by omega
  have M:decide (i<nd.K.length)=true:=decide_eq_true z;have a1:BQ .i64 (AA i) (AA 1)=AA (i+1):=Al (by omega);have I:∀J:Nat->AE,Ao fv J=J nd.K.length:=λJ=>G.ip;have rd:∀J,AS 11 fv (AA i) (λb o=>DF E U b (AM o 1) J)=J (.int .i64 (AA nd.K[i].type)):=λJ=>EM G z (by decide) (QV _ _ _ (AI z)) J;have ⟨U1,g,C⟩:=Y U v u t nd.K[i].type (d+1) x L (by omega) (by omega);have ⟨U',g',f'⟩:=ih (i+1) k (by omega) (by omega) C.y (C.X B x (λh=>h)) (L.Z C x) (G.Z C x (λ_ _ h=>h));refine⟨U',?_,C.trans f' (λ_ _ h=>h)⟩;unfold I2 at B g;have y:∀J:List V->AE,FD [.N (BB m.nm),.int .i64 (AA m.tg),v,u,t] 0 5 J=J [.N (BB m.nm),.int .i64 (AA m.tg),v,u,t]:=λJ=>by
   rw[E2 (by simp)];rfl
  show Lb E D W (Oj E D W (Oi E D W)) (YZ E D W N k) _ _ _ _ _ _ _ _ _ _ _ _ _ _ _ _ _ _ _ _ _ _ _=_;have key:∀K R,Lb E D W K R (AA d) .h mb 0 false (AA i) (AA nd.A) (BB nd.name) nd.mHas nd.mNum (AA nd.mMode) nd.T.has nd.T.no nd.T.i9 nd.T.I nd.T.low nd.T.high iv fv (AA nd.W) nd.I (AA nd.of_) U=R (AA d) .h mb 0 false (AA (i+1)) (AA nd.A) (BB nd.name) nd.mHas nd.mNum (AA nd.mMode) nd.T.has nd.T.no nd.T.i9 nd.T.I nd.T.low nd.T.high iv fv (AA nd.W) nd.I (AA nd.of_) U1:=by
   intro K R;unfold Lb;simp only[↓rP,rA,AD,AG,AB,↓I,M,↓BU B,↓y,↓rd,S,a1,↓g]
  rw[key];exact g'
theorem oM{m:Cs}{q}(Q:LR m)(P:6000<N)(hU:∀p,q=p+1->MN m p (D 66)):MN m q (F66 E D W N):=by
 intro U x A s k d K g hq hd;have ⟨U1,w,u,o,n1⟩:=Fh K (I2 m x A s);have z:∀J,Ao s J=J m.ns.length:=λJ=>by
  have ⟨ws,h1,_⟩:=g.d;exact h1.ip
 have G:s.S=true:=by
  have ⟨ws,h1,_⟩:=g.d;exact h1.S
 have B:decide (k<0)=false:=decide_eq_false (by omega);unfold I2 at w o;have O:=g.Z u K;show ∃U',S5 E D W (ACq E D W (YZ E D W N N)) (ACp E D W) (BB m.nm) (AA m.tg) x A s (AA k) (AA d) .h U=_/\_;cases h1:decide (m.ns.length<=k)with
 | true=>
  refine⟨U1,?_,u⟩;unfold S5;simp only[↓rP,rA,AD,AG,AB,g.n.S,g.t.S,G,B,↓w,↓AT o,↓z,h1]
 | false=>
  cases C:decide (16<d)with
  | true=>
   refine⟨U1,?_,u⟩;unfold S5;simp only[↓rP,rA,AD,AG,AB,g.n.S,g.t.S,G,B,↓w,↓AT o,↓z,h1,C]
  | false=>
   have M:k<m.ns.length:=by have:=of_decide_eq_false h1;omega
   have r:d<=16:=by have:=of_decide_eq_false C;omega
   obtain⟨p,rfl⟩:∃p,q=p+1:=⟨q-1,by omega⟩;have ⟨iv,fv,rd,L,I⟩:=O.nd (AI M);have f:=Q.kinds _ (Gg M);have T:=o;have ⟨nd,y⟩:∃nd,nd=m.ns[k]:=⟨_,rfl⟩;rw[<-y]at rd L I f;have ⟨U2,R,f2⟩:=AEB (E:=E) (W:=W) (hU p rfl) P (iv:=iv) f.1 (by omega) r f.2.2 nd.K.length 0 N (by omega) (by omega) u.y o O I;refine⟨U2,?_,u.trans f2 (λ_ _ h=>h)⟩;have F:=decide_eq_false f.1;have t:=rd E;unfold Ae.c at t;have key:∀K1 K2,S5 E D W K1 K2 (BB m.nm) (AA m.tg) x A s (AA k) (AA d) .h U=K1 (AA d) .h U.j 0 (AA nd.A) (BB nd.name) nd.mHas nd.mNum (AA nd.mMode) nd.T.has nd.T.no nd.T.i9 nd.T.I nd.T.low nd.T.high iv fv (AA nd.W) nd.I (AA nd.of_) U1:=by
    intro K1 K2;unfold S5;simp only[↓rP,rA,AD,AG,AB,g.n.S,g.t.S,G,B,↓w,↓AT o,↓z,h1,C,↓t,F,Bg,CE,G3,FZ,G7,L.S,I.S]
   rw[key];exact R
end
def PT(F:List V->H->AE):Prop:=∀U g n i j,Ai U->Cv U 1 n g (Bf n .h)->i<n->∃U',F [g,.int .i64 (AA i),.int .i64 (AA j)] U=some (.bool false,U')/\Fr AH U U'
def VJ(m:Cs)(F:List V->H->AE):Prop:=∀U c a b,Ai U->PX U m c a b->∃v U',F [.agg (I2 m c a b)] U=some (.B [v,.int .i64 (AA 0),.int .i64 (AA 0)],U')/\v.S=true/\Fr AH U U'
theorem AJp k d:GX (some (.int .i64 (AA k))) d=some k:=by grind [GX]
theorem ATK{b n k c}(h:c = .op 1\/c = .ex n)(j:k<=n)(l:0<n):CT 1 (.D b 0 n c) none (some (.int .i64 (AA k))) none=some (.D b 0 k c):=by
 rcases h with rfl|rfl
 ·unfold CT
  simp only[AJp,show GX none 0=some 0 from rfl];rw[if_pos (by simp;omega),if_neg (by simp;omega)];simp
 ·unfold CT
  simp only[AJp,show GX none 0=some 0 from rfl,show GX none n=some n from rfl];rw[if_pos (by simp;omega)];simp
theorem zg{U n k v}{l:List V}(h:DW U 1 n v l)(s:k<=n):∃u,CT 1 v none (some (.int .i64 (AA k))) none=some u/\Cv U 1 k u (l.take k):=by
 have q:∀{b c},(c = .op 1\/c = .ex n)->0<n->Bx U b l->v = .D b 0 n c->∃u,CT 1 v none (some (.int .i64 (AA k))) none=some u/\Cv U 1 k u (l.take k):=by
  intro b c r g j i;subst i;refine⟨_,ATK r s g,.inr ⟨b,0,c,l,rfl,j,?_,?_⟩⟩
  ·have:=h.length;omega
  ·rw[E7,CB]
 rcases h with (⟨g,i,p⟩|⟨b,i,j,g,p⟩)|⟨b,i,j,p⟩
 ·subst g;subst i
  have:k=0:=by omega
  subst this;exact⟨.h,rfl,.inl ⟨rfl,rfl,rfl⟩⟩
 ·exact q (.inl rfl) g j i
 ·rcases AJB n with g|g
  ·subst g
   have:k=0:=by omega
   subst this;subst i;exact⟨.D b 0 0 (.ex 0),rfl,.inr ⟨b,0,_,l,rfl,j,CA _,rfl⟩⟩
  ·exact q (.inr rfl) g j i
section
variable {E:EB}{D:Ac}{W:AF}{N:Nat}
theorem yh(x:10<N):PT (F67 E D W N):=by
 intro U g n i j m v s;obtain⟨N,rfl⟩:∃k,N=k+1:=⟨N-1,by omega⟩;have ⟨U1,u,q,z,y⟩:=Fh m [];refine⟨U1,?_,q⟩;have rd:∀J,AS 1 g (AA i) (λb o=>DF E U1 b o J)=J .h:=λJ=>Pq (v.Z q m (λ_ _ h=>h)) s (by rw[List.getElem?_replicate,if_pos s]) J;have t:∀J,Dx E 1 8 .h .h U1 J=J .h U1:=λJ=>rfl;show iJ E D W (iH E D W (iI E D W) _) g (AA i) (AA j) U=_;have key:∀R,iJ E D W (iH E D W (iI E D W) R) g (AA i) (AA j) U=some (.bool false,U1):=by
  intro R;unfold iJ iH iI;simp only[↓rP,rA,AG,↓u,↓rd,↓t]
 exact key _
theorem ALc{m:Cs}(G:LR m)(L:YQ (D 65)){U r z C mb}(t:Bx U mb (I2 m r z C))(w:PX U m r z C):∀n i k,i+n=m.az.length->n<k->∀K1,(Nat.rec (λ_ _ _ _ _ _=>none) (λ_ s=>Oo E D W K1 s) k:Nat->Nat->V->Int->Int->H->AE) mb 0 .h (A1 0) (AA i) U=K1 mb 0 .h (A1 0) U:=by
 have B:=G.few.2;have K:∀J,Ao r J=J m.az.length:=λJ=>w.n.ip;unfold I2 at t;intro n;induction n with
 | zero=>
  intro i k M N K1;obtain⟨k,rfl⟩:∃j,k=j+1:=⟨k-1,by omega⟩;have v:decide (i<m.az.length)=false:=decide_eq_false (by omega);show Oo E D W K1 _ mb 0 .h (A1 0) (AA i) U=_;have key:∀R,Oo E D W K1 R mb 0 .h (A1 0) (AA i) U=K1 mb 0 .h (A1 0) U:=by
   intro R;unfold Oo;simp only[↓rP,rA,AB,↓AT t,↓K,v]
  exact key _
 | succ n s=>
  intro i k M N K1;obtain⟨k,rfl⟩:∃j,k=j+1:=⟨k-1,by omega⟩;have e:i<m.az.length:=by omega
  have v:=decide_eq_true e;have P:BQ .i64 (AA i) (AA 1)=AA (i+1):=Al (by omega);have ⟨u,O,F⟩:=zg w.n (k:=i) (by omega);have Q:∀J,gK (CT 1 r none (some (.int .i64 (AA i))) none) J=J u:=λJ=>by rw[O];rfl
  have rd:∀J,AS 1 r (AA i) (λb o=>DF E U b o J)=J (.N (BB m.az[i])):=λJ=>Pq w.n.src e (by unfold fQ;rw[As,AI e];rfl) J;have A:=L U u ((m.az.take i).map BB) (BB m.az[i]) (by
   rw[Bp,DM,Ha (by omega),List.map_map];have:fQ m.az=m.az.map (V.N ∘ BB):=rfl;rw[this,<-List.map_take]at F;exact F) (by rw[Bp,DM];omega)
  have:=G.apart i e;rw[AI e]at this;have this:((m.az.take i).map BB).any (λx=>x.beq (BB m.az[i]))=false:=this;rw[this]at A;show Oo E D W K1 _ mb 0 .h (A1 0) (AA i) U=_;have key:∀R,Oo E D W K1 R mb 0 .h (A1 0) (AA i) U=R mb 0 .h (A1 0) (AA (i+1)) U:=by
   intro R;unfold Oo;simp only[↓rP,rA,AD,AG,AB,↓AT t,↓K,v,↓Q,↓rd,↓A,P]
  rw[key];exact s (i+1) k (by omega) (by omega) K1
theorem ki{α:Type} n (x:α):Bf n x++[x]=Bf (n+1) x:=by
 rw[List.replicate_succ']
theorem ALb{m:Cs}(hm:LR m)(hU:MN m 17 (D 66)){t z G mb}{r:H}(v:Ai r)(F:Bx r mb (I2 m t z G))(w:PX r m t z G):∀n i k {U u},i+n=m.az.length->n<k->Fr AH r U->DW U 1 i u (Bf i .h)->(∀b,AJ u b->r.j<=b) ->
  ∃C U',(∀g,(Nat.rec (λ_ _ _ _ _ _=>none) (λ_ L=>On E D W g (YK E D W L)) k:Nat->Nat->V->Int->Int->H->AE) mb 0 u (A1 0) (AA i) U=g mb 0 C (A1 0) U')/\DW U' 1 m.az.length C (Bf m.az.length .h)/\(∀b,AJ C b->r.j<=b)/\Fr AH r U':=by
 have hfew:=hm.few.2;intro n;induction n with
 | zero=>
  intro i k U u hi hk f M p;obtain⟨k,rfl⟩:∃j,k=j+1:=⟨k-1,by omega⟩;have hi:i=m.az.length:=by omega
  subst hi;have y:=f.X F v (λh=>h);have sl:∀J,Ao t J=J m.az.length:=λJ=>w.n.ip;have d1:decide (m.az.length<m.az.length)=false:=decide_eq_false (by omega);unfold I2 at y;refine⟨u,U,λg=>?_,M,p,f⟩;show On E D W g _ mb 0 u (A1 0) (AA m.az.length) U=_;have key:∀R,On E D W g R mb 0 u (A1 0) (AA m.az.length) U=g mb 0 u (A1 0) U:=by
   intro R;unfold On;simp only[↓rP,rA,AD,AG,AB,↓AT y,↓sl,d1]
  exact key _
 | succ n L=>
  intro i k U u hi hk f M p;obtain⟨k,rfl⟩:∃j,k=j+1:=⟨k-1,by omega⟩;have hlt:i<m.az.length:=by omega
  have y:=f.X F v (λh=>h);have hs:=w.Z f v;have d1:decide (i<m.az.length)=true:=decide_eq_true hlt;have a1:BQ .i64 (AA i) (AA 1)=AA (i+1):=Al (by omega);have A:i<m.ks.length:=by have:=hm.as_many;omega
  have rd:∀J:V->AE,AS 1 z (AA i) (λb o=>DF E U b o J)=J (.int .i64 (AA m.ks[i])):=λJ=>Pq hs.t A (by unfold FJ;rw[As,AI A];rfl) J;have sl:∀J:Nat->AE,Ao t J=J m.az.length:=λJ=>w.n.ip;have ⟨U1,g1,N⟩:=hU U t z G m.ks[i] 0 f.y hs (by omega) (by omega);have ⟨U2,e2,f2,a2,n2⟩:=Fh N.y [.h];have xs:Cv U2 1 1 (V.D U1.j 0 1 (.ex 1)) [.h] := .inr ⟨_,_,_,_,rfl,a2,AL _,rfl⟩;have I:=N.trans f2 (λ_ _ h=>h);have ⟨u3,U3,g3,K,m3,f3⟩:=Dd (E:=E) (bytes:=24) (M.Z I f.y (λ_ _ h=>h)) f2.y xs rfl (by unfold Bu;simp;omega);have le:=f.le;have le1:=N.le;have le2:=f2.le;have f3':Fr AH r U3:=((f.trans I (λ_ _ h=>h))).trans f3 (λb hb h=>by have:=p b h;omega);rw[ki]at K;have ⟨C,U',g',d',m',f'⟩:=L (i+1) k (by omega) (by omega) f3' K (λb hb=>(m3 b hb).elim (p b) (λh=>by omega));refine⟨C,U',λg=>?_,d',m',f'⟩;rw[<-g' g];unfold I2 at y g1;have O:∀J:List V->AE,FD [.N (BB m.nm),.int .i64 (AA m.tg),t,z,G] 0 5 J=J [.N (BB m.nm),.int .i64 (AA m.tg),t,z,G]:=λJ=>by
   rw[E2 (by simp)];rfl
  have fl:∀J:List V->AE,H9 [(0,1,.h)] [V.h] J=J [.h]:=λJ=>rfl;show On E D W g (YK E D W _) mb 0 u (A1 0) (AA i) U=_;have key:∀R,On E D W g (YK E D W R) mb 0 u (A1 0) (AA i) U=R mb 0 u3 (A1 0) (AA (i+1)) U3:=by
   intro R;unfold On YK;simp only[↓rP,rA,AD,AG,AB,↓AT y,↓BU y,↓O,↓sl,d1,↓rd,↓g1,↓fl,↓e2,↓g3,↓Bt K.S,a1]
  exact key _
theorem ALa{m:Cs}(Q:LR m)(M:PT (D 67)){y I G u mb q}(l:Ai q)(s:Bx q mb (I2 m y I G))(x:PX q m y I G)(w:Cv q 1 m.az.length u (Bf m.az.length .h)):∀n i k {U},i+n=m.az.length->n<k->Fr AH q U ->
  ∃U',(∀d,(Nat.rec (λ_ _ _ _ _=>none) (λ_ z=>Om E D W d z) k:Nat->Nat->V->Int->H->AE) mb 0 u (AA i) U=d mb 0 u U')/\Fr AH q U':=by
 have C:=Q.few.2;have F:∀J,Ao y J=J m.az.length:=λJ=>x.n.ip;intro n;induction n with
 | zero=>
  intro i k U O P f;obtain⟨k,rfl⟩:∃j,k=j+1:=⟨k-1,by omega⟩;have v:=f.X s l (λh=>h);have A:decide (i<m.az.length)=false:=decide_eq_false (by omega);unfold I2 at v;refine⟨U,λd=>?_,f⟩;show Om E D W d _ mb 0 u (AA i) U=_;have key:∀R,Om E D W d R mb 0 u (AA i) U=d mb 0 u U:=by
   intro R;unfold Om;simp only[↓rP,rA,↓AT v,↓F,A]
  exact key _
 | succ n z=>
  intro i k U O P f;obtain⟨k,rfl⟩:∃j,k=j+1:=⟨k-1,by omega⟩;have v:=f.X s l (λh=>h);have A:decide (i<m.az.length)=true:=decide_eq_true (by omega);have L:BQ .i64 (AA i) (AA 1)=AA (i+1):=Al (by omega);unfold I2 at v;have ⟨U1,T,N⟩:=M U u m.az.length i i f.y (w.Z f l (λ_ _ h=>h)) (by omega);have ⟨U',S,X⟩:=z (i+1) k (by omega) (by omega) (f.trans N (λ_ _ h=>h));refine⟨U',λd=>?_,X⟩;rw[<-S d];show Om E D W d _ mb 0 u (AA i) U=_;have key:∀R,Om E D W d R mb 0 u (AA i) U=R mb 0 u (AA (i+1)) U1:=by
   intro R;unfold Om;simp only[↓rP,rA,AD,AG,AB,↓AT v,↓F,A,↓T,L]
  exact key _
theorem mP j x:(CW j).any (λy=>decide (y=x))=decide (x<j):=by grind
theorem AEm{m:Cs}(hm:LR m)(hI:RP (D 5))(hN:10<N){P tv dv u mb}{t:H}(z:Ai t)(L:Bx t mb (I2 m P tv dv))(G:PX t m P tv dv)(K:Cv t 1 m.az.length u (Bf m.az.length .h)){U:H}{v}{j:Nat}(f:Fr AH t U)(T:DW U 1 j v (FJ (CW j)))(hn:∀b,AJ v b->t.j<=b)(hj:j<m.az.length):
  ∃C U',(∀(n i k:Nat) d,i+n=j->n<k->Kb E D W N d k mb 0 u v (AA i) U=d mb 0 u C U')/\Fr AH t U'/\DW U' 1 (j+1) C (FJ (CW (j+1)))/\(∀b,AJ C b->t.j<=b):=by
 have hfew:=hm.few.2;have sl:∀J:Nat->AE,Ao P J=J m.az.length:=λJ=>G.n.ip;have F:=f.X L z (λh=>h);have hu:=K.Z f z (λ_ _ h=>h);unfold I2 at F;have rd:∀i,i<m.az.length->∀J:V->AE,AS 1 u (AA i) (λb o=>DF E U b o J)=J .h:=λi x J=>Pq hu x (by rw[List.getElem?_replicate,if_pos x]) J;have gi:∀i,D 5 [v,.int .i64 (AA i)] U=some (.bool (decide (i<j)),U):=λi=>by
  rw[hI U v (CW j) i (by rw[Ho];exact T.src) (by rw[Ho];omega),mP]
 have ⟨U2,e2,O,a2,n2⟩:=Fh f.y [.int .i64 (AA j)];have xs:Cv U2 1 1 (V.D U.j 0 1 (.ex 1)) [.int .i64 (AA j)] := .inr ⟨_,_,_,_,rfl,a2,AL _,rfl⟩;have ⟨v3,U3,g3,d3,m3,f3⟩:=Dd (E:=E) (bytes:=8) (T.Z O f.y (λ_ _ h=>h)) O.y xs rfl (by unfold Bu;simp;omega);have le:=f.le;refine⟨v3,U3,?_,(f.trans O (λ_ _ h=>h)).trans f3 (λb hb h=>by have:=hn b h;omega),by
  rw[show FJ (CW (j+1))=FJ (CW j)++[.int .i64 (AA j)] by unfold FJ;rw[List.range_succ];simp];exact d3,λb hb=>(m3 b hb).elim (hn b) (λh=>by omega)⟩
 intro n;induction n with
 | zero=>
  intro i k d x hk;obtain⟨k,rfl⟩:∃j,k=j+1:=⟨k-1,by omega⟩;have x:i=j:=by omega
  subst x;have I:decide (i<m.az.length)=true:=decide_eq_true hj;have Q:decide (i<i)=false:=decide_eq_false (by omega);have g:=gi i;have r:=rd i hj;obtain⟨N,rfl⟩:∃k,N=k+1:=⟨N-1,by omega⟩;show MG E D W (ME E D W (MF E D W (Ng E D W _) d) _) d mb 0 u v (AA i) U=_;have key:∀R A,MG E D W (ME E D W (MF E D W (Ng E D W R) d) A) d mb 0 u v (AA i) U=d mb 0 u v3 U3:=by
   intro R A;unfold MG ME MF;simp only[↓rP,rA,AD,AG,AB,↓AT F,↓sl,I,↓g,↓r,Q,↓e2,↓g3,↓Bt d3.S]
  exact key _ _
 | succ n ih=>
  intro i k d x hk;obtain⟨k,rfl⟩:∃j,k=j+1:=⟨k-1,by omega⟩;have I:decide (i<m.az.length)=true:=decide_eq_true (by omega);have Q:decide (i<j)=true:=decide_eq_true (by omega);have a1:BQ .i64 (AA i) (AA 1)=AA (i+1):=Al (by omega);have g:=gi i;have r:=rd i (by omega);rw[<-ih (i+1) k d (by omega) (by omega)];obtain⟨N',S⟩:∃k,N=k+1:=⟨N-1,by omega⟩;have key:∀R A,MG E D W (ME E D W (MF E D W (Ng E D W R) d) A) d mb 0 u v (AA i) U=R mb 0 u v (AA (i+1)) U:=by
   intro R A;unfold MG ME MF Ng;simp only[↓rP,rA,AD,AG,AB,↓AT F,↓sl,I,↓g,↓r,Q,a1]
  show MG E D W (Ra E D W N d (Kb E D W N d k) N) d mb 0 u v (AA i) U=_;have hL:Ra E D W N d (Kb E D W N d k) N=ME E D W (MF E D W (Ng E D W (Kb E D W N d k)) d) (Ra E D W N d (Kb E D W N d k) N'):=by
   conv=>lhs;arg 7;rw[S]
   rfl
  rw[hL]
  exact key _ _
theorem ALZ{m:Cs}(K:LR m)(hI:RP (D 5))(hN:1000<N){A M L u mb}{q:H}(o:Ai q)(p:Bx q mb (I2 m A M L))(t:PX q m A M L)(G:Cv q 1 m.az.length u (Bf m.az.length .h)):∀n j k {U v},j+n=m.az.length->n<k->Fr AH q U->DW U 1 j v (FJ (CW j))->(∀b,AJ v b->q.j<=b) ->
  ∃z U',Yb E D W N k mb 0 u v U=some (.B [z,.int .i64 (AA 0),.int .i64 (AA 0)],U')/\z.S=true/\Fr AH q U':=by
 have S:=K.few.2;have Q:∀J,Ao A J=J m.az.length:=λJ=>t.n.ip;intro n;induction n with
 | zero=>
  intro j k U v X hk f s P;obtain⟨k,rfl⟩:∃i,k=i+1:=⟨k-1,by omega⟩;have w:=f.X p o (λh=>h);unfold I2 at w;have C:∀J,Ao v J=J j:=λJ=>s.ip;have F:decide (j<m.az.length)=false:=decide_eq_false (by omega);refine⟨v,U,?_,s.S,f⟩;show Qv E D W (iT E D W) _ mb 0 u v U=_;have key:∀R,Qv E D W (iT E D W) R mb 0 u v U=some (.B [v,.int .i64 (AA 0),.int .i64 (AA 0)],U):=by
   intro R;unfold Qv iT;simp only[↓rP,rA,AB,↓AT w,↓Q,↓C,F]
  exact key _
 | succ n ih=>
  intro j k U v X hk f s P;obtain⟨k,rfl⟩:∃i,k=i+1:=⟨k-1,by omega⟩;have w:=f.X p o (λh=>h);unfold I2 at w;have C:∀J:Nat->AE,Ao v J=J j:=λJ=>s.ip;have F:decide (j<m.az.length)=true:=decide_eq_true (by omega);have ⟨v1,U1,Z,T,B,n1⟩:=AEm (E:=E) (W:=W) (N:=N) K hI (by omega) o p t G f s P (by omega);have ⟨z,U',g',Y,f'⟩:=ih (j+1) k (by omega) (by omega) T B n1;refine⟨z,U',?_,Y,f'⟩;rw[<-g',<-Z j 0 N (Yb E D W N k) (by omega) (by omega)];show Qv E D W _ (Kb E D W N (Yb E D W N k) N) mb 0 u v U=_;have key:∀K8 R,Qv E D W K8 R mb 0 u v U=R mb 0 u v (AA 0) U:=by
   intro K8 R;unfold Qv;simp only[↓rP,rA,AD,AG,AB,↓AT w,↓Q,↓C,F]
  exact key _ _
theorem yt{m:Cs}(n:LR m)(P:YQ (D 65))(Y:RP (D 5))(L:MN m 17 (D 66))(R:PT (D 67))(X:1000<N):VJ m (F34 E D W N):=by
 intro U w u p C o;have A:=n.few.2;have ⟨U1,z,i,t,n1⟩:=Fh C (I2 m w u p);have Z:p.S=true:=by
  have ⟨ws,h1,_⟩:=o.d;exact h1.S
 have q:=o.Z i C;have ⟨v,r,g4,y,m4,e⟩:=ALb (E:=E) (W:=W) n L i.y t q m.az.length 0 N (by omega) (by omega) (Fr.refl i.y) (DW.nil _ _) (λb s=>s.elim);have F:=e.X t i.y (λh=>h);have B:=q.Z e i.y;have ⟨U7,O,j⟩:=ALa (E:=E) (W:=W) n R e.y F B y.src m.az.length 0 N (by omega) (by omega) (Fr.refl e.y);have ⟨S,I,K,J,Q⟩:=ALZ (E:=E) (W:=W) n Y X j.y (j.X F e.y (λh=>h)) (B.Z j e.y) (y.src.Z j e.y (λ_ _ h=>h)) m.az.length 0 N (by omega) (by omega) (Fr.refl j.y) (DW.nil _ _) (λb s=>s.elim);refine⟨S,I,?_,J,((i.trans e (λ_ _ h=>h)).trans j (λ_ _ h=>h)).trans Q (λ_ _ h=>h)⟩;have M:=ALc (E:=E) (W:=W) n P t q m.az.length 0 N (by omega) (by omega);unfold I2 at z;have l:∀K2,iU E D W K2 (BB m.nm) (AA m.tg) w u p U=K2 U.j 0 .h (A1 0) (AA 0) U1:=by
  intro K2;unfold iU;simp only[↓rP,rA,o.n.S,o.t.S,Z,↓z]
 show iU E D W (uu E D W N N) (BB m.nm) (AA m.tg) w u p U=_;rw[l];refine(M (jf E D W N)).trans ?_;show uq E D W N N U.j 0 .h (A1 0) (AA 0) U1=_;refine(g4 (je E D W N)).trans ?_;show sr E D W (um E D W N N) U.j 0 v (A1 0) r=_;have k:∀K7,sr E D W K7 U.j 0 v (A1 0) r=K7 U.j 0 v (AA 0) r:=λK7=>rfl;rw[k];exact(O (jd E D W N)).trans K
end
structure Cu where
 A:Nat
 wn:List (Nat × Nat)
 T:ABq
 R:List CS
 K:List BW
 W:Nat
 I:Bool
 of_:Nat
def SJ(l:List (Nat × Nat)):List V:=l.flatMap λt=>[.int .i64 (AA t.1),.int .i64 (AA t.2)]
structure X6(U:H)(l:List (Nat × Nat))(v:V):Prop where
 s:Cv U 2 l.length v (SJ l)
 e:l.length=1->∃b,v = .D b 0 1 (.ex 1)
section
variable {U U':H}{l:List (Nat × Nat)}{v:V}
theorem X6.Z{S}(h:X6 U l v)(f:Fr S U U')(a:Ai U)(c:∀b,AJ v b->¬S b):X6 U' l v:=⟨h.s.Z f a c,h.e⟩
theorem X6.lt(h:X6 U l v)(c:Ai U){b}(a:AJ v b):b<U.j:=h.s.lt c a
theorem X6.S(h:X6 U l v):v.S=true:=h.s.S
end
def Cu.c(t:Cu)(u:V × V × V):List V:=[.int .i64 (AA t.A),u.1,.bool t.T.has,.bool t.T.no,.bool t.T.i9,.bool t.T.I,.int .i64 t.T.low,.int .i64 t.T.high,u.2.1,u.2.2,.int .i64 (AA t.W),.bool t.I,.int .i64 (AA t.of_)]
def EF:List Cu->List (V × V × V)->List V
 | t::tl,u::a=>t.c u++EF tl a
 | _,_=>[]
theorem Wx:∀(tl:List Cu) (b:List (V × V × V)) (t:Cu) u,b.length=tl.length->EF (tl++[t]) (b++[u])=EF tl b++t.c u
 | [],[],t,u,_=>by simp[EF]
 | x::tl,y::b,t,u,h=>by
  have d:=Wx tl b t u (by simpa using h);show x.c y++EF (tl++[t]) (b++[u])=(x.c y++EF tl b)++_;rw[d,BC]
 | [],_::_,_,_,h=>by simp at h
 | _::_,[],_,_,h=>by simp at h
theorem Hx:∀(tl:List Cu) (a:List (V × V × V)),a.length=tl.length->(EF tl a).length=tl.length*13
 | [],[],_=>rfl | x::tl,y::a,h=>by
  have e:=Hx tl a (by simpa using h);show (x.c y++EF tl a).length=_;rw[AP,e,Ag];show 13+_=_;omega
 | [],_::_,h=>by simp at h
 | _::_,[],h=>by simp at h
def ZV(m:Cs)(a b c d:V):List V:=[.N (BB m.nm),.int .i64 (AA m.tg),a,b,c,d,.int .i64 (AA 0)]
structure Mk(U0 U:H)(xb:Nat)(m:Cs)(nv tv dv:V)(tl:List Cu)(lv:V)(Q:Nat->Prop):Prop where
 a:Bx U xb (ZV m nv tv dv lv)
 w:∃ws:List (V × V × V),DW U 13 tl.length lv (EF tl ws)/\ws.length=tl.length/\∀(k:Nat) (t:Cu) (u:V × V × V),tl[k]? = some t->ws[k]? = some u->X6 U t.wn u.1/\Cv U 3 t.R.length u.2.1 (JE t.R)/\Cv U 11 t.K.length u.2.2 (Ie t.K)/\∀b,(AJ u.1 b\/AJ u.2.1 b\/AJ u.2.2 b)->b≠xb/\¬AJ lv b/\¬Q b
 lx:∀b,AJ lv b->b≠xb/\U0.j<=b/\¬Q b
 qx:¬Q xb
 x0:U0.j<=xb
 f:Fr AH U0 U
abbrev MT:=Nat->Nat->List Cu->Option (Nat × List Cu)
def J8:Nat->List (Nat × Nat)
 | 9=>[]
 | k=>[(0,yK k)]
def HO(nd:Ae):Cu:=⟨nd.A,J8 nd.A,nd.T,[],[],nd.W,nd.I,0⟩
def Ii(m:Cs)(T:MT)(F:List V->H->AE):Prop:=∀{e U:H}{xb f g h j tl a d k i Q},Ai e->PX e m f g h->Mk e U xb m f g h tl j Q->(∀b,Q b->b<U.j)->d<=900->T d k tl=some (i,a) ->
 ∃c U',F [.o xb 0,.int .i64 (AA k),.int .i64 (AA d)] U=some (.int .i64 (AA i),U')/\Mk e U' xb m f g h a c Q/\(∀b,AJ c b->AJ j b\/U.j<=b)/\Fr (λb=>b=xb\/AJ j b) U U'
section
variable {E:EB}{D:Ac}{N:Nat}{U0 U U':H}{xb:Nat}{m:Cs}{nv tv dv lv:V}{tl:List Cu}{Q Q':Nat->Prop}
theorem Mk.ht(h:Mk U0 U xb m nv tv dv tl lv Q):Ai U:=h.f.y
theorem Mk.len(h:Mk U0 U xb m nv tv dv tl lv Q){J}:Ao lv J=J tl.length:=by
 have ⟨f,h1,_⟩:=h.w;exact h1.ip
theorem Mk.llt(h:Mk U0 U xb m nv tv dv tl lv Q){b}(d:AJ lv b):b<U.j:=by
 have ⟨g,h1,_⟩:=h.w;exact h1.lt h.ht d
theorem Mk.Z{S}(h:Mk U0 U xb m nv tv dv tl lv Q)(f:Fr S U U')(l:∀b,S b->U.j<=b\/Q b)(p:∀b,S b->U0.j<=b):Mk U0 U' xb m nv tv dv tl lv Q:=by
 have i:=h.ht;have E:=h.f.le;have ⟨v,h1,D,w⟩:=h.w;refine⟨f.X h.a i (λe=>(l _ e).elim (λe=>by have:=h.a.lt i;omega) h.qx),⟨v,h1.Z f i (λb q e=>(l _ e).elim (λe=>by have:=h1.lt i q;omega) (h.lx b q).2.2),D,λk t u s B=>?_⟩,h.lx,h.qx,h.x0,h.f.trans f (λb q e=>by have:=p b e;omega)⟩;have ⟨a,b,c,d⟩:=w k t u s B;exact⟨a.Z f i (λx j e=>(l _ e).elim (λe=>by have:=a.lt i j;omega) (d x (.inl j)).2.2),b.Z f i (λx j e=>(l _ e).elim (λe=>by have:=b.lt i j;omega) (d x (.inr (.inl j))).2.2),c.Z f i (λx j e=>(l _ e).elim (λe=>by have:=c.lt i j;omega) (d x (.inr (.inr j))).2.2),d⟩
theorem Mk.ext(h:Mk U0 U xb m nv tv dv tl lv Q)(p:∀b,Q' b->Q b\/U.j<=b):Mk U0 U xb m nv tv dv tl lv Q':=by
 have j:=h.ht;have ⟨v,h1,D,w⟩:=h.w;refine⟨h.a,⟨v,h1,D,λk t u y A=>?_⟩,λb l=>⟨(h.lx b l).1,(h.lx b l).2.1,λq=>(p b q).elim (h.lx b l).2.2 (λe=>by have:=h1.lt j l;omega)⟩,λq=>(p _ q).elim h.qx (λe=>by have:=h.a.lt j;omega),h.x0,h.f⟩;have ⟨a,b,c,d⟩:=w k t u y A;have s:∀x,(AJ u.1 x\/AJ u.2.1 x\/AJ u.2.2 x)->x<U.j:=λx g=>by
  rcases g with g|g|g
  ·exact a.lt j g
  ·exact b.lt j g
  ·exact c.lt j g
 exact⟨a,b,c,λx g=>⟨(d x g).1,(d x g).2.1,λq=>(p x q).elim (d x g).2.2 (λe=>by have:=s x g;omega)⟩⟩
theorem Mk.push(h:Mk U0 U xb m nv tv dv tl lv Q){nd:Ae}{gb eb tgv dd ii}(hl:tl.length<300)(hg:Bx U gb ((HO nd).c (tgv,.h,.h)))(z:(tgv = .h/\J8 nd.A=[])\/∃tb,tgv = .D tb 0 1 (.ex 1)/\Bx U tb (SJ (J8 nd.A))/\(J8 nd.A).length=1/\tb≠xb/\¬AJ lv tb/\¬Q tb)(hgx:gb≠xb)(hgl:¬AJ lv gb)(hQ:∀b,Q b->b<U.j):
  ∃e' u U',AV E D Kf JQ [(0,.o xb 0),(2,.int .i64 dd),(4,.o eb 0),(7,.int .i64 ii),(8,.o gb 0)] U=some (e',U')/\Go.Og.look e' 0=some (.o xb 0)/\Go.Og.look e' 2=some (.int .i64 dd)/\Go.Og.look e' 4=some (.o eb 0)/\Go.Og.look e' 7=some (.int .i64 ii) /\
   Mk U0 U' xb m nv tv dv (tl++[HO nd]) u Q/\(∀b,AJ u b->AJ lv b\/U.j<=b)/\Fr (λb=>b=xb\/AJ lv b) U U':=by
 have ⟨ws,h1,K,h3⟩:=h.w;have i:=h.a;unfold ZV at i;have ⟨e',u,U',g,t0,t2,t4,t7,a',d',m',n',s⟩:=oX (E:=E) (D:=D) (dd:=dd) (ii:=ii) (eb:=eb) (z.imp (λh=>h.1) (λ⟨tb,h,_⟩=>⟨tb,h⟩)) h.ht i rfl hg h1 (by omega) (λe=>hgx e.symm) (λe=>(h.lx _ e).1 rfl) hgl;have le:=h.f.le;have lx:=h.a.lt h.ht;refine⟨e',u,U',g,t0,t2,t4,t7,⟨a',⟨ws++[(tgv,.h,.h)],?_,by simp[K],λk t w v y=>?_⟩,λb F=>⟨λe=>n' (e ▸ F),(m' b F).elim (λe=>(h.lx b e).2.1) (λe=>by omega),λq=>(m' b F).elim (λe=>(h.lx b e).2.2 q) (λe=>by have:=hQ b q;omega)⟩,h.qx,h.x0,h.f.trans s (λb F e=>e.elim (λe=>by have:=h.x0;omega) (λe=>by have:=(h.lx b e).2.1;omega))⟩,m',s⟩
 ·rw[AP,Ag,Cm,Wx _ _ _ _ K]
  exact d'
 ·rcases A2 k tl.length with hlt|hge
  ·rw[CH hlt]at v
   rw[CH (by omega)]at y;have ⟨a,b,c,d⟩:=h3 k t w v y;have nn:∀x,(AJ w.1 x\/AJ w.2.1 x\/AJ w.2.2 x)->x<U.j:=λx i=>by
    rcases i with i|i|i
    ·exact a.lt h.ht i
    ·exact b.lt h.ht i
    ·exact c.lt h.ht i
   exact⟨a.Z s h.ht (λx i e=>e.elim (d x (.inl i)).1 (d x (.inl i)).2.1),b.Z s h.ht (λx i e=>e.elim (d x (.inr (.inl i))).1 (d x (.inr (.inl i))).2.1),c.Z s h.ht (λx i e=>e.elim (d x (.inr (.inr i))).1 (d x (.inr (.inr i))).2.1),λx i=>⟨(d x i).1,λhu=>(m' x hu).elim (d x i).2.1 (λe=>by have:=nn x i;omega),(d x i).2.2⟩⟩
  ·rw[Aw hge]at v
   rw[Aw (by omega),K]at y;have ⟨j,hj⟩:∃j,k-tl.length=j:=⟨_,rfl⟩;rw[hj]at v y;cases j with
   | succ j=>simp at v | zero=>
    cases v;cases y;rcases z with ⟨rfl,h0⟩|⟨tb,rfl,z,hl1,B,C,htq⟩
    ·refine⟨⟨.inl ⟨by show (J8 nd.A).length=0;rw[h0];rfl,rfl,by show SJ (J8 nd.A)=[];rw[h0];rfl⟩,λe=>?_⟩,.inl ⟨rfl,rfl,rfl⟩,.inl ⟨rfl,rfl,rfl⟩,λx i=>?_⟩
     ·have e:(J8 nd.A).length=1:=e
      rw[h0]at e;cases e
     ·rcases i with i|i|i<;>exact i.elim
    ·have ltb:=z.lt h.ht
     have a2:=s.X z h.ht (λe=>e.elim B C);have e2:(SJ (J8 nd.A)).length=1*2:=by
      have ⟨t0,e⟩:=List.length_eq_one_iff.1 hl1;rw[e];rfl
     refine⟨⟨.inr ⟨tb,0,.ex 1,_,by show (V.D tb 0 1 (.ex 1))=V.D tb 0 (J8 nd.A).length (.ex 1);rw[hl1],a2,by rw[e2];show 0+(J8 nd.A).length*2<=_;rw[hl1];exact AL _,?_⟩,λ_=>⟨tb,rfl⟩⟩,.inl ⟨rfl,rfl,rfl⟩,.inl ⟨rfl,rfl,rfl⟩,λx i=>?_⟩
     ·show SJ (J8 nd.A)=((SJ (J8 nd.A)).drop 0).take ((J8 nd.A).length*2)
      rw[E7,hl1,<-e2,Iz]
     ·have:x=tb:=by
       rcases i with i|i|i
       ·exact i
       ·exact i.elim
       ·exact i.elim
      subst this;exact⟨B,λhu=>(m' _ hu).elim C (λe=>by omega),htq⟩
end
end
end Go.Proofs.YtpbligmafbkeaaaGreatDoor
namespace Go.Og
noncomputable section
section
variable {Q:DS->Prop}{E:EB}{D:Ac}{U Uc U':H}{n i:Nat}{S:Nat->Prop}{d:Option Nat}{o:Ek}{l:List BO}{anc:Nat}{lk:List Nat}{pl:List DP}{e env:CF}{nx am:Nat}{ss:List (EB)}{ks:List Nat}{ls:List (Nat × Ek × CF × V)}
theorem qM{f I}{g:H} v (Z:Ey E U n S nx ss am ls Uc)(O:o.d8 = .k)(A:∀j,j<n->am.testBit j=true->anc.testBit j=true)(T:Fr I Uc g)(X:∀j,j<n->I (U.j+j)->am.testBit j=true)
  (N:ES E D o (restr lk e) Uc=some (v,g)) (P:∀x∈ls,FG f x.1 (i::ks) []=false):FB (Jx E U n f (DY e d v) g) E D U n i [⟨d,o,none⟩] [⟨anc,lk⟩] ⟨e,nx,ss,ks,am,ls⟩:=by
 obtain⟨⟨Q,r,rfl⟩,h2,h3,W,F,M⟩:=Z;subst Q;refine⟨_,(dk v g.j g.F O (GJ λj k s=>?_) N).trans IA,rfl,rfl,⟨_,rfl⟩,?_,λj k m=>?_⟩
 ·refine F _ AZ j k ?_
  cases J:am.testBit j with
  | false=>rfl | true=>
   exfalso;unfold Dw at s;rw[J,A j k J]at s;cases s
 ·refine EA.2 λx B=>?_
  show Fz E U.j n f am x.1 x.2.1 x.2.2.1 x.2.2.2 (g.F::Uc.F::r) (i::ks) []=true;rw[Qe (P x B)];exact JJ (M x B) _ _ _ W
 ·have m:=m
  have:=T.same (U.j+j) (by omega) (λL=>by have:=X j k L;rw[m]at this;cases this);rw[<-BG,this,BG];exact F _ AZ j k m
end
theorem AUU{x y a s}{u:V}(f:Ca a x = .N s)(e:Ca a y=u)(h:u.S=true):Bb (.build [.N ⟨0,0⟩,.h,.h,.h] [(0,1,x),(1,1,y)]) a=some (.agg [.N s,u,.h,.h]):=by
 have ⟨h1,d⟩:=Et h;show (match GK [(0,1,Ca a x),(1,1,Ca a y)] [.N ⟨0,0⟩,.h,.h,.h]with
  | some l=>some (V.agg l) | none=>none)=_
 rw[f,e];show (match GK [(1,1,u)] [.N s,.h,.h,.h]with
  | some l=>some (V.agg l) | none=>none)=_
 unfold GK;rw[h1,d];rfl
theorem HE{a x y e b o n i c}(f:Ca e x = .D b o n c)(g:Ca e y = .int .i64 (AA i))(h:i<n):Bb (.qr a x y) e=some (.o b (o+i*a)):=by grind [Bb]
end
end Go.Og
namespace Go.Proofs.YtpbligmafbkeaaaGreatDoor
open Go Go.Og
noncomputable section
section
variable {E:EB}{D:Ac}{N:Nat}
theorem nh{U d k v m}(e:DW U d k v m):V.beq v v=true:=by
 rcases e with h|⟨b,rfl,_⟩
 ·rcases h with ⟨_,rfl,_⟩|⟨_,rfl,_⟩<;>exact Be _ rfl
 ·exact Be _ rfl
theorem lC {U:H} {cb} {m:Cs} {J tv dv p2 p8} (w:Ai U) (ha:Bx U cb (I2 m J tv dv)) (L:DW U 1 m.az.length J (fQ m.az)) (hl:m.az.length<=40) :
    ∃e' u U',AV E D TS Ow [(1,.o cb 0),(2,p2),(8,p8)] U=some (e',U')/\Go.Og.look e' 1=some (.o cb 0)/\Go.Og.look e' 2=some p2/\Go.Og.look e' 8=some p8/\Go.Og.look e' 9=some (.o (U.j+6) 0)/\Bx U' (U.j+6) [.N (BB m.nm),u,.h,.h]/\DW U' 1 m.az.length u (fQ m.az)/\(∀b,AJ u b->U.j+8<=b)/\U.j+8<=U'.j/\Fr AH U U':=by
  have fw:=(B7 (E:=E) (n:=8) (S:=AH) w).Z;have xs:=(L.Z fw w (λ_ _ h=>h)).src;have ho:BH (fQ m.az)=true:=by
    unfold fQ;generalize m.az=l;induction l with
    | nil=>rfl | cons x l ih=>show (true&&BH (l.map _))=true;rw[EX];exact ih
  have ⟨u,o,g2,C,m2,z⟩:=Dd (E:=E) (bytes:=16) (DW.nil ⟨U.j+8,U.F⟩ 1) fw.y xs ho (by unfold Bu;simp;omega);rw[BV,Hb]at C;have le2:U.j+8<=o.j:=z.le;have I:∀b,AJ u b->U.j+8<=b:=λb g=>(m2 b g).elim (λh=>h.elim) (λh=>h);have ⟨v,K⟩:∃v,v=(⟨o.j,(U.j+6,.cells [.N ⟨0,0⟩,.h,.h,.h])::o.F⟩:H):=⟨_,rfl⟩;have y:Fr (λk=>k=U.j+6) o v:=by
    rw[K];refine⟨λb g=>?_,AL _,λb g L=>?_⟩
    · have g:o.j<=b:=g
      show BX ((U.j+6,_)::o.F) b=none;rw[Aj,if_neg (by simp;omega)];exact z.y b g
    · show BX ((U.j+6,_)::o.F) b=_
      rw[Aj,if_neg (by simp;omega)]
  have a3:Bx v (U.j+6) [.N ⟨0,0⟩,.h,.h,.h]:=by
    rw[K];show BX ((U.j+6,_)::o.F) _=_;rw[Aj,if_pos rfl]
  have F:BH [.N (BB m.nm),u,.h,.h]=true:=by simp only[Bg,CE,FZ,Me,C.S,Bz]
  have st:∃q,ES E D (.store 4 (.tmp 9) (.tmp 30)) [(9,.o (U.j+6) 0),(30,.agg [.N (BB m.nm),u,.h,.h])] v=some (.i5,q)/\Fr (λk=>k=U.j+6) v q/\Bx q (U.j+6) [.N (BB m.nm),u,.h,.h]:=by
    have ⟨q,q1,q2,q3⟩:=HM (E:=E) (D:=D) (n:=4) (x := .tmp 9) y.y a3 rfl (show (Ca [(9,.o (U.j+6) 0),(30,.agg [.N (BB m.nm),u,.h,.h])] (.tmp 30)).cells=[.N (BB m.nm),u,.h,.h] from rfl) (by
      rw[F];rfl)
    exact⟨q,q1,q2,q3⟩
  have ⟨q,g4,B,a4⟩:=st;have uo:=C.S;have go:FB (Jx E U 8 Ow _ q) E D U 8 0 TS Ow ⟨[(1,.o cb 0),(2,p2),(8,p8)],U.j+8,[U.F],[],0,[]⟩:=
    DR (.o cb 0) rfl rfl <|
    HF (.N (BB m.nm)) (B7 (S:=AH) w) rfl (Cj (off:=0) rfl ha rfl w (λh=>h) (Be _ rfl)) λr1=>
    DR (.o cb 2) rfl rfl <|
    HF J r1 rfl (Cj (b:=cb) (off:=2) rfl ha rfl w (λh=>h) (nh L)) λr2=>
    Mt u r2 rfl (by decide) (S':=AH) (z.mono λ_ _ h=>h.elim) (λ_ _ h=>h.elim) (λ_ h _ _=>h) (Jq rfl rfl g2) λ_ _ r4=>
    DR (.agg [.N (BB m.nm),u,.h,.h]) rfl (AUU rfl rfl uo) <|
    Sk (.o (U.j+6) 0) (.cells [.N ⟨0,0⟩,.h,.h,.h]) 64 r4 rfl (by decide) rfl rfl λ_ r5=>
    qM .i5 (by rw[<-K]at r5;exact r5) rfl (by decide) B (λj hj e=>by
      have:j=6:=by omega
      subst this;decide) g4 (λx hx=>by
      simp at hx;rcases hx with rfl|rfl
      · show FG Ow 3 [7,4] []=false
        decide
      · show FG Ow 1 [7,4] []=false
        decide)
  have d:=HG (ops:=TS) go;refine⟨_,u,q,d,rfl,rfl,rfl,rfl,a4,?_,I,?_,?_⟩
  · exact(C.Z y z.y (λb g e=>by have:=I b g;omega)).Z B y.y (λb g e=>by have:=I b g;omega)
  · have:=y.le
    have:=B.le;omega
  · exact((fw.trans (z.mono λ_ _ h=>h.elim:Fr AH _ o) (λ_ _ h=>h)).trans y (λb g e=>by omega)).trans B (λb g e=>by omega)
theorem lA {m:Cs} {T} (hT:Ii m T (D 35)) {U0 U:H} {cb xb tb nv tv dv w u l p2 tl tl'} {rs:List Nat} {i k r nm} {P:Nat->Prop} (hP:∀b,P b->b<U.j) (ht0:Ai U0) (hs0:PX U0 m nv tv dv) (h:Mk U0 U xb m nv tv dv tl w (fun b=>b=tb\/AJ l b\/P b)) (hc:Bx U cb (I2 m nv tv dv)) (ht:Bx U tb [.N nm,u,l,.h]) (hr:DW U 1 rs.length l (FJ rs)) (hrl:rs.length<=40) (hk:m.ks[i]? = some k)
    (cx:cb≠xb) (cl:¬AJ w cb) (cr:¬AJ l cb) (ct:cb≠tb) (tr:¬AJ l tb) (rx:∀b,AJ l b->U0.j<=b) (t0:U0.j<=tb) (hd:T 0 k tl=some (r,tl')) :
    ∃e' z j U',AV E D TR ND [(1,.o cb 0),(2,p2),(8,.o xb 0),(9,.o tb 0),(10,.int .i64 (AA i))] U=some (e',U')/\Go.Og.look e' 1=some (.o cb 0)/\Go.Og.look e' 2=some p2/\Go.Og.look e' 8=some (.o xb 0)/\Go.Og.look e' 9=some (.o tb 0)/\Go.Og.look e' 10=some (.int .i64 (AA i)) /\
      Mk U0 U' xb m nv tv dv tl' z (λb=>b=tb\/AJ j b\/P b)/\Bx U' tb [.N nm,u,j,.h]/\DW U' 1 (rs.length+1) j (FJ (rs++[r]))/\(∀b,AJ z b->AJ w b\/U.j<=b)/\(∀b,AJ j b->AJ l b\/U.j<=b)/\Fr (λb=>b=xb\/b=tb\/AJ w b\/AJ l b) U U':=by
  have p:=h.ht;have le0:=h.f.le;have fw:Fr AH U ⟨U.j+13,U.F⟩:=(B7 (E:=E) p).Z;have rl:∀b,AJ l b->b<U.j:=λb s=>hr.lt p s;have tl_lt:=ht.lt p;have cl_lt:=hc.lt p;have xl:=h.a.lt p;have hw:=(h.ext (Q':=λb=>(b=tb\/AJ l b\/P b)\/(U.j<=b/\b<U.j+13)) (λb q=>q.imp id (λq=>q.1))).Z fw (λ_ h=>h.elim) (λ_ h=>h.elim);have ⟨z,U1,g1,h1,m1,f1⟩:=hT ht0 hs0 hw (λb q=>by
    show b<U.j+13;rcases q with (q|q|q)|q
    · omega
    · have:=rl b q;omega
    · have:=hP b q;omega
    · omega) (by omega) hd
  have le1:U.j+13<=U1.j:=f1.le;have lxq:∀b,AJ w b->b≠tb/\¬AJ l b:=λb s=>⟨λe=>(h.lx b s).2.2 (.inl e),λe=>(h.lx b s).2.2 (.inr (.inl e))⟩;have ⟨U2,h2⟩:∃U2,U2=(⟨U1.j,(U.j+9,.cells [.int .i64 (AA r)])::U1.F⟩:H):=⟨_,rfl⟩;have f2:Fr (λk=>k=U.j+9) U1 U2:=by
    rw[h2];refine⟨λb s=>?_,AL _,λb s hn=>?_⟩
    · have s:U1.j<=b:=s
      show BX ((U.j+9,_)::U1.F) b=none;rw[Aj,if_neg (by simp;omega)];exact f1.y b s
    · show BX ((U.j+9,_)::U1.F) b=_
      rw[Aj,if_neg (by simp;omega)]
  have a2:Bx U2 (U.j+9) [.int .i64 (AA r)]:=by
    rw[h2];show BX ((U.j+9,_)::U1.F) _=_;rw[Aj,if_pos rfl]
  have xs:Cv U2 1 1 (V.D (U.j+9) 0 1 (.ex 1)) [.int .i64 (AA r)] := .inr ⟨_,_,_,_,rfl,a2,AL _,rfl⟩;have hr1:DW U1 1 rs.length l (FJ rs):=(hr.Z fw p (λ_ _ h=>h)).Z f1 fw.y (λb s e=>e.elim (λe=>h.qx (.inr (.inl (e ▸ s)))) (λe=>(lxq b e).2 s));have ⟨j,U3,g3,d3,m3,f3⟩:=Dd (E:=E) (bytes:=8) (hr1.Z f2 f1.y (λb s e=>by have:=rl b s;omega)) f2.y xs rfl (by unfold Bu;simp only[AQ,Bn];omega);have n2:U2.j=U1.j:=by rw[h2]
  have t1:Bx U1 tb [.N nm,u,l,.h]:=f1.X (fw.X ht p (λh=>h)) fw.y (λe=>e.elim (λe=>h.qx (.inl e.symm)) (λe=>(lxq tb e).1 rfl));have t3:=f3.X (f2.X t1 f1.y (by omega)) f2.y tr;have ⟨o1,o2⟩:=Et d3.S;have st:∃B,ES E D (.store 1 (.tmp 49) (.tmp 48)) [(49,.o tb 2),(48,j)] U3=some (.i5,B)/\Fr (λk=>k=tb) U3 B/\Bx B tb [.N nm,u,j,.h]:=by
    have ⟨B,q1,q2,q3⟩:=HM (E:=E) (D:=D) (n:=1) (x := .tmp 49) (y := .tmp 48) (e:=[(49,.o tb 2),(48,j)]) f3.y t3 rfl (show (Ca [(49,.o tb 2),(48,j)] (.tmp 48)).cells=[j] from o2) (by
      simp only[Bg,CE,d3.S,Bz];rfl)
    exact⟨B,q1,q2,q3⟩
  have ⟨B,g4,f4,a4⟩:=st;have le3:=f3.le;have le2:=f2.le;have hs:=hs0.Z h.f ht0;have hkl:i<m.ks.length:=(AN.1 hk).1;have mr:∀b,AJ j b->AJ l b\/U1.j<=b:=λb s=>(m3 b s).imp id (λh=>by omega);have ml:∀b,AJ z b->AJ w b\/U.j<=b:=λb s=>(m1 b s).imp id (λh=>by have h:U.j+13<=b:=h;omega);have h4:Mk U0 B xb m nv tv dv tl' z (λb=>((b=tb\/AJ l b\/P b)\/(U.j<=b/\b<U.j+13))\/U1.j<=b):=(((h1.ext (Q':=λb=>((b=tb\/AJ l b\/P b)\/(U.j<=b/\b<U.j+13))\/U1.j<=b) (λb q=>q)).Z f2 (λb e => .inr (.inl (.inr (by omega)))) (λb e=>by omega)).Z f3 (λb e => .inr (.inl (.inl (.inr (.inl e))))) (λb e=>rx b e)).Z f4 (λb e => .inr (.inl (.inl (.inl e)))) (λb e=>by omega);have ⟨vb,vo,vc,L,htv,hva,hvle,hvm⟩:∃vb vo vc L,tv = .D vb vo m.ks.length vc/\Bx U vb L/\vo+m.ks.length*1<=L.length/\FJ m.ks=(L.drop vo).take (m.ks.length*1):=by
    rcases hs.t with ⟨h0,_,_⟩|⟨b,o,c,L,e1,e2,e3,e4⟩
    · omega
    · exact⟨b,o,c,L,e1,e2,e3,e4⟩
  have hvb:vb<U0.j:=hs0.t.lt ht0 (by rw[htv];rfl);have hLk:L[vo+i*1]? = some (.int .i64 (AA k)):=by
    have:(FJ m.ks)[i]? = some (.int .i64 (AA k)):=by unfold FJ;rw[As,hk];rfl
    rw[hvm,CQ (by omega),B6]at this;rw[CB];exact this
  have hct:=hc;unfold I2 at hct;rw[htv]at hct;have go:FB (Jx E U 13 ND _ B) E D U 13 0 TR ND ⟨[(1,.o cb 0),(2,p2),(8,.o xb 0),(9,.o tb 0),(10,.int .i64 (AA i))],U.j+13,[U.F],[],0,[]⟩:=
    DR (.o tb 2) rfl rfl <|
    HF l (B7 (S:=λb=>b=xb\/AJ w b\/AJ l b) p) rfl (Cj (b:=tb) (off:=2) rfl ht rfl p (λe=>by
      rcases e with e|e|e
      · exact h.qx (.inl e.symm)
      · exact(lxq _ e).1 rfl
      · exact tr e) (nh hr)) λr1=>
    DR (.o xb 0) rfl rfl <|
    DR (.o cb 3) rfl rfl <|
    HF (.D vb vo m.ks.length vc) r1 rfl (Cj (b:=cb) (off:=3) rfl hct rfl p (λe=>by
      rcases e with e|e|e
      · exact cx e
      · exact cl e
      · exact cr e) (Be _ rfl)) λr2=>
    DR (.int .i64 (AA i)) rfl rfl <|
    DR (.o vb (vo+i*1)) rfl (HE rfl rfl hkl) <|
    HF (.int .i64 (AA k)) r2 rfl (Cj (b:=vb) (off:=vo+i*1) rfl hva hLk p (λe=>by
      rcases e with e|e|e
      · have:=h.x0;omega
      · have:=(h.lx _ e).2.1;omega
      · have:=rx _ e;omega) (Be _ rfl)) λr3=>
    Mt (.int .i64 (AA r)) r3 rfl (by decide) (S':=λb=>b=xb\/AJ w b) f1 (λb _ e=>e.imp id .inl) (λb e e1 e2=>by
      rcases e with e|e
      · omega
      · have:=h.llt e;omega) (Eb (vs:=[.o xb 0,.int .i64 (AA k),.int .i64 (AA 0)]) rfl rfl g1) λ_ _ r4=>
    Sk (.D (U.j+9) 0 1 (.ex 1)) (.cells [.int .i64 (AA r)]) 512 r4 rfl (by decide) (by decide) rfl λ_ r5=>
    Mt (S:=λb=>b=xb\/AJ w b\/AJ l b) j (by rw[<-h2]at r5;exact r5) rfl (by decide) (S':=AJ l) f3 (λ_ _ e=>Or.inr (Or.inr e)) (λb e e1 e2=>by have:=rl b e;omega) (Jq rfl rfl g3) λ_ _ r6=>
    DR (.o tb 2) rfl rfl <|
    LD .i5 r6 rfl (by decide) f4 (λb e e1 _=>by omega) g4 (λx hx=>by
      simp only[A0,FU,or_false]at hx;rcases hx with rfl|rfl|rfl
      · show FG ND 7 [12,10,8] []=false
        decide
      · show FG ND 4 [12,10,8] []=false
        decide
      · show FG ND 1 [12,10,8] []=false
        decide)
  have d:=HG (ops:=TR) go;refine⟨_,z,j,B,d,rfl,rfl,rfl,rfl,rfl,h4.ext (λb q=>?_),a4,?_,ml,λb s=>(mr b s).imp id (λh=>by omega),?_⟩
  · rcases q with q | q | q
    · exact .inl (.inl (.inl (.inl q)))
    · exact(mr b q).elim (λe=>Or.inl (Or.inl (Or.inl (Or.inr (Or.inl e))))) (λe=>Or.inl (Or.inr e))
    · exact .inl (.inl (.inl (.inr (.inr q))))
  · have d4:=d3.Z f4 f3.y (λb s e=>(mr b s).elim (λh=>tr (e ▸ h)) (λh=>by omega))
    rw[show FJ (rs++[r])=FJ rs++[.int .i64 (AA r)] by unfold FJ;simp];exact d4
  · have F1:Fr (λb=>b=xb\/b=tb\/AJ w b\/AJ l b) U ⟨U.j+13,U.F⟩:=fw.mono (λ_ _ h=>h.elim)
    have F2:Fr (λb=>b=xb\/b=tb\/AJ w b\/AJ l b) U U1:=F1.trans f1 (λb _ e=>e.elim Or.inl (λe=>Or.inr (Or.inr (Or.inl e))));have F3:Fr (λb=>b=xb\/b=tb\/AJ w b\/AJ l b) U U2:=F2.trans f2 (λb s e=>by omega);have F4:Fr (λb=>b=xb\/b=tb\/AJ w b\/AJ l b) U U3:=F3.trans f3 (λb _ e=>Or.inr (Or.inr (Or.inr e)));exact F4.trans f4 (λb _ e=>Or.inr (Or.inl e))
end
end
end Go.Proofs.YtpbligmafbkeaaaGreatDoor
