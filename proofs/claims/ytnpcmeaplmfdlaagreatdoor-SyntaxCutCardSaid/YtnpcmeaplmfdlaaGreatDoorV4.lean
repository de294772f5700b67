/- What the last text leans on, part 5 of 10: merged out of smaller texts. No condition. -/
import Derived.Test.YtnpcmeaplmfdlaaGreatDoorV3
open Int renaming ofNat -> AA
open Nat renaming reduceLeDiff -> AD,reduceEqDiff -> AE,reduceLT -> AF,le_refl -> AL,add -> AN,le_trans -> AU,ble -> Ac,ble_eq -> Ag,lt_or_ge -> Av,beq -> Ax,zero_le -> BF,zero_add -> BQ,eq_of_beq_eq_true -> CJ,lt_of_lt_of_le -> Cj,blt -> Cr,blt_eq -> Cs,le_succ -> C9,mul_one -> DO,succ_ne_zero -> Df,mul -> FP,mod_eq_of_lt -> Fy,beq_refl -> GC,min_eq_left -> Gi,min -> HL,le_add_right -> HQ,succ_pos -> Ih,pow_le_pow_right -> Ii,le_succ_of_le -> Ij,lt_irrefl -> JH,sub_zero -> OH,eq_zero_or_pos -> SV,add_eq -> SW,succ_le_succ -> Zz,or_lt_two_pow -> ANx
open Bool renaming and_eq_true -> AI,and_true -> Au,true_and -> BX,false_and -> BY,or_eq_false_iff -> Ba,not_true -> B3,or_eq_true -> B5,not_false -> CE,false_eq_true -> CF,or_false -> EW,and_false -> EX,eq_false_iff -> Ga,not_eq_true -> HR
open List renaming length_cons -> AK,length_drop -> AQ,getElem?_eq_getElem -> AV,length_append -> AY,length_nil -> Aa,getElem?_eq_none -> Ae,mem_cons_of_mem -> Ar,mem_cons_self -> As,getD_eq_getElem?_getD -> A1,mem_cons -> BK,getElem?_map -> BR,drop_drop -> BU,eq_nil_of_length_eq_zero -> Bc,length_take -> Bn,replicate -> Bo,mem_of_mem_drop -> Bq,mem_singleton -> B0,getElem?_drop -> CD,append_assoc -> CK,getElem?_take -> CY,append_nil -> CZ,map_cons -> Cf,getElem?_append_right -> Ck,getElem?_append_left -> Cu,length_map -> DD,length -> Du,drop_zero -> Dv,mem_append -> Dw,not_mem_nil -> D7,drop_eq_getElem_cons -> EE,mem_of_mem_take -> Eu,drop_append_of_le_length -> GL,ext_getElem? -> GZ,drop_succ_cons -> Gy,take_of_length_le -> HM,map_append -> IX,mem_of_getElem? -> Il,map_nil -> Km,any_cons -> P0,drop_take -> WQ,mem_iff_getElem? -> Ys,getElem_mem -> Z1,forall_mem_cons -> j0,map_map -> xT,take_left -> AFb,drop_left -> AFd
set_option linter.all false
set_option maxRecDepth 100000
namespace Go.Proofs.YtnpcmeaplmfdlaaGreatDoor
open Go Go.Og
noncomputable section
structure Rd(U:H)(b:Nat)(s:BS)(i:Nat)(r:List Nat):Prop where
 at_:DQ U b [.str s,.int .i64 (AA i)]
 t5:HN s i r
 ht:CI U
section
variable {U U':H}{b i k:Nat}{s:BS}{r:List Nat}
theorem Rd.fr{S}(h:Rd U b s i r)(f:Fr S U U')(a:¬S b):Rd U' b s i r:=⟨f.at_ h.at_ h.ht a,h.t5,f.tidy⟩
theorem Rd.lt(h:Rd U b s i r):b<U.next:=h.at_.lt h.ht
theorem Rd.adv(h:Rd U b s i r){k}(l:k<=r.length):
  ∃U',(∀J,Cg 1 b 1 (.int .i64 (AA (i+k))) U J=J U')/\Rd U' b s (i+k) (r.drop k)/\Fr (λc=>c=b) U U':=by
 obtain⟨U',e,f,j⟩:=yO h.ht h.at_ [.str s,.int .i64 (AA (i+k))];refine⟨U',λJ=>?_,⟨j,h.t5.dr l,f.tidy⟩,f⟩;rw[LH h.at_ rfl];show J (Mq U b (.cells [.str s,.int .i64 (AA (i+k))]))=_;rw[e]
theorem HN.ixk(h:HN s i r)(a:i+k<s.len) J:Az s (AA (i+k)) J=J (AA (r.getD k 0)):=by
 rw[JO a,h.r.getD_lt a]
theorem HN.pre(h:HN s i r) J:BA s (some (.int .i64 (AA i))) none J=J (BO r):=by
 rw[G7 (by have:=h.len;omega),h.r.subAll]
theorem HN.cut(h:HN s i r)(b:k<=r.length) J:BA s (some (.int .i64 (AA i))) (some (.int .i64 (AA (i+k)))) J=J (BO (r.take k)):=by
 rw[G8 (by omega) (by have:=h.len;omega),h.r.sub b]
end
def Pw(t:BS)(r:List Nat):Bool:=decide (t.len<=r.length)&&decide (r.take t.len=t.nats)
theorem RV r:Pw (BS.mk 2 11565) r=(match r with | c::j=>Fq c j | []=>false):=by
 have e:(BS.mk 2 11565).nats=[45,45]:=by decide +kernel
 unfold Pw;rw[e];match r with
 | []=>rfl | [c]=>
  show (decide (2<=1)&&_)=(decide (c=45)&&decide ((0:Nat)=45));rw[show decide (2<=1)=false from rfl,show decide (0=45)=false from rfl,EX];rfl
 | c::d::r=>
  show (decide (2<=(c::d::r).length)&&decide ((c::d::r).take 2=[45,45]))=(decide (c=45)&&decide (d=45));rw[decide_eq_true (show 2<=(c::d::r).length by simp),BX];show decide ([c,d]=[45,45])=_;by_cases k:c=45<;>by_cases i:d=45<;>simp[k,i]
def MY(F:List V->H->AH):Prop:=∀{U b i s}{r:List Nat} k,Rd U b s i r->k<=10->F [.ptr b 0,.int .i64 (AA k)] U=some (.int .u8 (AA (r.getD k 0)),U)
def PO(F:List V->H->AH):Prop:=∀U c,F [.int .u8 (AA c)] U=some (.bool (Em c),U)
def Mh(F:List V->H->AH):Prop:=∀U c,F [.int .u8 (AA c)] U=some (.bool (Ai c),U)
def Xy(F:List V->H->AH):Prop:=∀U r t,(∀c∈r,c<256)->F [.str (BO r),.str t] U=some (.bool (Pw t r),U)
def V5(F:List V->H->AH):Prop:=∀{U b i s r} t,Rd U b s i r->F [.ptr b 0,.str t] U=some (.bool (Pw t r),U)
def qV(N:Nat)(F:List V->H->AH):Prop:=∀{U b i s r},Rd U b s i r->∃a U',F [.ptr b 0] U=some (.tup [],U')/\Rd U' b s a (HS N r)/\Fr (λc=>c=b) U U'
section
variable {E:EB}{D:Am}{W:AJ}{N:Nat}
theorem AHa:MY (F51 E D W N):=by
 intro U b i s r k h u;have a:=h.at_;have q:=h.t5.le;have o:BP .i64 (AA i) (AA k)=AA (i+k):=BB (by omega);show pT E D W b 0 (AA k) U=_;unfold pT;by_cases p:i+k<s.len
 ·have l:decide (s.len<=i+k)=false:=decide_eq_false (by omega)
  have e:=λJ=>h.t5.ixk p J;simp only[↓rP,rA,AE,AF,AD,↓AT a,o,l,↓e]
 ·have l:decide (s.len<=i+k)=true:=decide_eq_true (by omega)
  simp only[↓rP,rA,AE,AF,AD,↓AT a,o,l];have n:=h.t5.len;rw[A1,Ae (by omega)];rfl
theorem yP:PO (F53 E D W N):=by
 intro U c;show pR E D W (AA c) U=_;unfold pR Em;simp only[GB,KA,J9,BW,Bg,Ed,GP,FF,FR,Qr,NS,Au,XO,J2,J3,Qc,Qb,Qa,QZ,NJ,LG,Gk,Hy,Jw,Jx,Jz,Jv,Hx,Jy,Iy,LO,LN,Iw,LJ,H7,CC,Bx,Nc,Lc,Nd,SW,BQ,B3,CE,rC,rQ,decide_false,decide_true,AE,AF,AD]
theorem yf:Mh (F55 E D W N):=by
 intro U c;show pP E D W (AA c) U=_;unfold pP Ai;simp only[GB,KA,J9,BW,Bg,Ed,GP,FF,FR,Qr,NS,Au,XO,J2,J3,Qc,Qb,Qa,QZ,NJ,LG,Gk,Hy,Jw,Jx,Jz,Jv,Hx,Jy,Iy,LO,LN,Iw,LJ,H7,CC,Bx,Nc,Lc,Nd,SW,BQ,B3,CE,rC,rQ,decide_false,decide_true,AE,AF,AD]
theorem yR:Xy (F87 E D W N):=by
 intro U r t k;have a:=DR r;show ow E D W (BO r) t U=_;unfold ow Pw;by_cases f:t.len<=r.length
 ·have l:∀J,BA (BO r) none (some (.int .i64 (AA t.len))) J=J ((BO r).sub 0 t.len):=λJ=>KT (by rw[a];exact f)
  have j:((BO r).sub 0 t.len).beq t=decide (r.take t.len=t.nats):=by
   rw[BS.beq_nats,BS.nats_sub (by rw[a];exact f),Dk k,Dv,OH]
  simp only[↓rP,rA,AE,AF,AD,a,decide_eq_true f,↓l,j]
 ·simp only[↓rP,rA,AE,AF,AD,a,decide_eq_false f]
theorem yC(h:Xy (D 87)):Xy (F75 E D W N):=by
 intro U r t e;have g:=h U r t e;show pJ E D W (BO r) t U=_;unfold pJ;simp only[↓rP,rS,↓g]
theorem AIb(h:Xy (D 75)):V5 (F52 E D W N):=by
 intro U b i s r t e;have a:=e.at_;have g:=h U r t e.t5.r.bd;have k:=λJ=>e.t5.pre J;show pS E D W b 0 t U=_;unfold pS;simp only[↓rP,rA,AE,AF,AD,↓AT a,↓k,↓g]
theorem lQ(P:MY (D 51))(J:V5 (D 52)) w {b}{s:BS}:∀(r:List Nat) n i U,r.length<n->Rd U b s i r ->
  ∃F U',Tj E D W N w n b 0 U=w b 0 U'/\Rd U' b s F (MC r)/\Fr (λc=>c=b) U U'
 | [],n,i,U,O,h=>by
  obtain⟨n,rfl⟩:∃m,n=m+1:=⟨n-1,by omega⟩;refine⟨i,U,?_,h,Fr.refl h.ht⟩;have a:=h.at_;have C:decide (i<s.len)=false:=decide_eq_false (by have:=h.t5.nil;omega);have g:=J (BS.mk 2 11565) h;rw[RV]at g;show Lr E D W (sU E D W N w) _ b 0 U=_;have u:∀K R,Lr E D W K R b 0 U=K b 0 U:=by
   intro K R;unfold Lr;simp only[↓rP,rA,AE,AF,AD,↓AT a,C]
  rw[u];show Rt E D W w b 0 U=_;unfold Rt;simp only[↓rP,rS,↓g]
 | c::r,n,i,U,O,h=>by
  obtain⟨n,rfl⟩:∃m,n=m+1:=⟨n-1,by omega⟩;have a:=h.at_;have Z:=h.t5.le;have C:=decide_eq_true h.t5.lt;have g:=J (BS.mk 2 11565) h;rw[RV]at g;have p0:=P 0 h (by decide);have T:BP .i64 (AA i) (AA 1)=AA (i+1):=BB (by omega);have S:BP .i64 (AA i) (AA 2)=AA (i+2):=BB (by omega);have p0:D 51 [.ptr b 0,.int .i64 (AA 0)] U=some (.int .u8 (AA c),U):=p0;have g:D 52 [.ptr b 0,.str (BS.mk 2 11565)] U=some (.bool (Fq c r),U):=g;show ∃F U',Lr E D W (sU E D W N w) (Tj E D W N w n) b 0 U=_/\_;by_cases B:c=10
  ·have z:=decide_eq_true B
   have y:Fq c r=false:=by unfold Fq;rw[decide_eq_false (show ¬c=45 by omega)];rfl
   rw[y]at g;refine⟨i,U,?_,?_,Fr.refl h.ht⟩
   ·have u:∀K R,Lr E D W K R b 0 U=K b 0 U:=by
     intro K R;unfold Lr;simp only[↓rP,rA,AE,AF,AD,↓AT a,C,↓p0,z]
    rw[u];show Rt E D W w b 0 U=_;unfold Rt;simp only[↓rP,rS,↓g]
   ·unfold MC;rw[z];exact h
  ·have z:=decide_eq_false B
   cases y:Fq c r with
   | true=>
    rw[y]at g;have Q:r≠[]:=λe=>by subst e;simp[Fq]at y
    obtain⟨G,I,L,f1⟩:=h.adv (k:=2) (by cases r with|nil=>exact absurd rfl Q|cons _ _=>simp);refine⟨i+2,G,?_,by unfold MC;rw[z,y];exact L,f1⟩;have u:∀K R,Lr E D W K R b 0 U=K b 0 U:=by
     intro K R;unfold Lr;simp only[↓rP,rA,AE,AF,AD,↓AT a,C,↓p0,z,↓g]
    rw[u];show Rt E D W w b 0 U=_;unfold Rt;simp only[↓rP,rA,AE,AF,AD,↓g,↓AT a,S,↓I]
   | false=>
    rw[y]at g;obtain⟨G,I,L,f1⟩:=h.adv (k:=1) (by simp);obtain⟨F,U',X,Y,f'⟩:=lQ P J w r n (i+1) G (by simp at O;omega) L;refine⟨F,U',?_,by unfold MC;rw[z,y];exact Y,f1.trans f' (λ_ _ h=>h)⟩;have u:∀K R,Lr E D W K R b 0 U=R b 0 G:=by
     intro K R;unfold Lr;simp only[↓rP,rA,AE,AF,AD,↓AT a,C,↓p0,z,↓g,T,↓I]
    rw[u,X]
theorem AAv(P:MY (D 51))(M:V5 (D 52))(hN:10000<N){b}{s:BS}:∀n (r:List Nat) i U,r.length<n->Rd U b s i r ->
  ∃y U',PQ E D W N n b 0 U=some (.tup [],U')/\Rd U' b s y (HS n r)/\Fr (λc=>c=b) U U'
 | 0,r,i,U,O,h=>by omega
 | n+1,[],i,U,O,h=>by
  refine⟨i,U,?_,h,Fr.refl h.ht⟩;have a:=h.at_;have F:decide (i<s.len)=false:=decide_eq_false (by have:=h.t5.nil;omega);show Ls E D W (Tj E D W N (PQ E D W N n) N) (PQ E D W N n) b 0 U=_;have t:∀K R,Ls E D W K R b 0 U=some (.tup [],U):=by
   intro K R;unfold Ls;simp only[↓rP,rA,AE,AF,AD,↓AT a,F]
  exact t _ _
 | n+1,c::r,i,U,O,h=>by
  have a:=h.at_;have hle:=h.t5.le;have F:=decide_eq_true h.t5.lt;have g:=M (BS.mk 2 11565) h;rw[RV]at g;have p0:=P 0 h (by decide);have a1:BP .i64 (AA i) (AA 1)=AA (i+1):=BB (by omega);have a2:BP .i64 (AA i) (AA 2)=AA (i+2):=BB (by omega);have p0:D 51 [.ptr b 0,.int .i64 (AA 0)] U=some (.int .u8 (AA c),U):=p0;have g:D 52 [.ptr b 0,.str (BS.mk 2 11565)] U=some (.bool (Fq c r),U):=g;have aw:=h.at_;show ∃y U',Ls E D W (Tj E D W N (PQ E D W N n) N) (PQ E D W N n) b 0 U=_/\_;cases w:Se c with
  | true=>
   obtain⟨J,Q,T,f1⟩:=h.adv (k:=1) (by simp);obtain⟨y,U',X,r',f'⟩:=AAv P M hN n r (i+1) J (by simp at O;omega) T;refine⟨y,U',?_,by unfold HS;rw[w];exact r',f1.trans f' (λ_ _ h=>h)⟩;have t:∀K R,Ls E D W K R b 0 U=R b 0 J:=by
    intro K R;unfold Se at w;unfold Ls;cases L:decide (c=32)<;>cases C:decide (c=9)<;>cases G:decide (c=10)<;>cases A:decide (c=13)<;>rw[L,C,G,A]at w <;>
     first
     | (cases w;done) | simp only[↓rP,rA,AE,AF,AD,↓AT a,F,↓p0,L,C,G,A,a1,↓Q]
   rw[t,X]
  | false=>
   have x:=w;unfold Se at x;simp only[Ba]at x;obtain⟨⟨⟨L,C⟩,G⟩,A⟩:=x;cases B:Fq c r with
   | true=>
    rw[B]at g;have hr:r≠[]:=λe=>by subst e;simp[Fq]at B
    have hr1:1<=r.length:=by cases r with | nil=>exact absurd rfl hr | cons _ _=>simp
    obtain⟨J,Q,T,f1⟩:=h.adv (k:=2) (by simp only[AK];omega);have z:=h.t5.len;have hfew:=h.t5.few;simp only[AK]at z O;obtain⟨i2,U2,e2,r2,f2⟩:=lQ P M (PQ E D W N n) (r.drop 1) N (i+2) J (by simp only[AQ];omega) T;have I:=Mt (r.drop 1);simp only[AQ]at I;obtain⟨y,U',X,r',f'⟩:=AAv P M hN n (MC (r.drop 1)) i2 U2 (by omega) r2;refine⟨y,U',?_,by unfold HS;rw[w,B];exact r',(f1.trans f2 (λ_ _ h=>h)).trans f' (λ_ _ h=>h)⟩;have t:∀K R,Ls E D W K R b 0 U=K b 0 J:=by
     intro K R;unfold Ls;simp only[↓rP,rA,AE,AF,AD,↓AT a,F,↓p0,L,C,G,A,↓g,a2,↓Q]
    rw[t,e2,X]
   | false=>
    rw[B]at g;refine⟨i,U,?_,by unfold HS;rw[w,B];exact h,Fr.refl h.ht⟩;have t:∀K R,Ls E D W K R b 0 U=some (.tup [],U):=by
     intro K R;unfold Ls;simp only[↓rP,rA,AE,AF,AD,↓AT a,F,↓p0,L,C,G,A,↓g]
    exact t _ _
theorem AG6(e:MY (D 51))(f:V5 (D 52))(g:10000<N):qV N (F24 E D W N):=by
 intro U b i s r h;exact AAv e f g N r i U (by have:=h.t5.len;have:=h.t5.few;omega) h
end
abbrev Sg:=Nat × List Nat × List Nat
def k8(x:Sg):V := .tup [.int .i64 (AA x.1),.str (BO x.2.1)]
theorem GA:BO []=BS.mk 0 0:=by decide +kernel
def NU(c:Nat)(r:List Nat):Sg:=match Ma ((c::r).take (Fm (c::r)))with
 | true=>(0,[],(c::r).drop (Fm (c::r)))
 | false=>(if kY (BO ((c::r).take (Fm (c::r))))=true then 5 else if c<=90 then 1 else 2,(c::r).take (Fm (c::r)),(c::r).drop (Fm (c::r)))
def Ql(r:List Nat):Sg:=match IY Cp r with
 | 0=>(0,[],r)
 | n+1=>(6,r.take (n+1),r.drop (n+1))
def MX(a:List Nat->Prop)(T:List Nat->Sg)(F:List V->H->AH):Prop:=∀{U b i s r},Rd U b s i r->a r ->
 ∃d U',F [.ptr b 0] U=some (k8 (T r),U')/\Rd U' b s d (T r).2.2/\Fr (λc=>c=b) U U'
def wy(F:List V->H->AH):Prop:=∀U t,F [.str t] U=some (.bool (kY t),U)
theorem jd(a b:BS):a.beq b=b.beq a:=by
 rw[BS.beq_nats,BS.beq_nats];by_cases h:a.nats=b.nats
 ·rw[h]
 ·rw[decide_eq_false h,decide_eq_false (λe=>h e.symm)]
theorem Ic(r:List Nat):r.getD 0 0=r.headD 0:=by cases r<;>rfl
section
variable {E:EB}{D:Am}{W:AJ}{N:Nat}
theorem AGp:wy (F76 E D W N):=by
 intro U t;have e:kY t=KQ.any λw=>t.beq w:=by
  unfold kY;congr 1;funext w;exact jd w t
 have o:∀b,ra E D W N b U=some (.bool b,U):=λb=>by cases b<;>rfl
 have m:∀b a c,a=some (.bool c,U)->AG b (some (.bool b,U)) a=some (.bool (b || c),U):=λb a c h=>by
  subst h;cases b<;>rfl
 show pH E D W (ra E D W N) t U=_;rw[e];unfold pH;simp only[o];unfold KQ;simp only[P0,List.any_nil];repeat (refine m _ _ _ ?_)
 rw[EW]
theorem yN(hP:MY (D 51))(hL:PO (D 53))(hD:Mh (D 55)){b s} f:∀(r:List Nat) n i U,r.length<n->Rd U b s i r ->
  ∃U',YB E D W N n b 0 f (AA (r.headD 0)) U=fc E D W N b 0 f U'/\Rd U' b s (i+Fm r) (r.drop (Fm r))/\Fr (λc=>c=b) U U'
 | [],n,i,U,hn,h=>by
  obtain⟨n,rfl⟩:∃m,n=m+1:=⟨n-1,by omega⟩;refine⟨U,?_,h,Fr.refl h.ht⟩;have z:=hL U 0;have y:=hD U 0;show N4 E D W (fc E D W N) _ b 0 f (AA 0) U=_;have u:∀K R,N4 E D W K R b 0 f (AA 0) U=K b 0 f U:=by
   intro K R;have e1:Em 0=false:=rfl;have e2:Ai 0=false:=rfl;rw[e1]at z;rw[e2]at y;unfold N4;simp only[↓rP,rA,AE,AF,AD,↓z,↓y]
  exact u _ _
 | c::r,n,i,U,hn,h=>by
  obtain⟨n,rfl⟩:∃m,n=m+1:=⟨n-1,by omega⟩;have a:=h.at_;have hle:=h.t5.le;have z:=hL U c;have y:=hD U c;have p1:=hP 1 h (by decide);rw[show (c::r).getD 1 0=r.headD 0 from Ic r]at p1;have a1:BP .i64 (AA i) (AA 1)=AA (i+1):=BB (by omega);obtain⟨U1,s1,r1,f1⟩:=h.adv (k:=1) (by simp);have p2:=hP 0 r1 (by decide);rw[show ((c::r).drop 1).getD 0 0=r.headD 0 from Ic r]at p2;show ∃U',N4 E D W (fc E D W N) (YB E D W N n) b 0 f (AA c) U=_/\_;cases v:OT c r with
  | true=>
   obtain⟨U',e',r',f'⟩:=yN hP hL hD f r n (i+1) U1 (by simp at hn;omega) r1;refine⟨U',?_,?_,f1.trans f' (λ_ _ h=>h)⟩
   ·have u:∀K R,N4 E D W K R b 0 f (AA c) U=R b 0 f (AA (r.headD 0)) U1:=by
     intro K R;unfold OT at v;unfold N4;cases F:Em c<;>cases G:Ai c<;>cases C:decide (c=45)<;>cases A:decide (r.headD 0=45)<;>rw[F,G,C,A]at v<;>rw[F]at z<;>rw[G]at y <;>
      first
      | (cases v;done) | simp only[↓rP,rA,AE,AF,AD,↓AT a,↓z,↓y,C,↓p1,A,a1,↓s1,↓p2]
    rw[u,e']
   ·rw[LV,v]
    show Rd U' b s (i+(Fm r+1)) (r.drop (Fm r));rw[show i+(Fm r+1)=i+1+Fm r by omega];exact r'
  | false=>
   refine⟨U,?_,by rw[LV,v];exact h,Fr.refl h.ht⟩;have u:∀K R,N4 E D W K R b 0 f (AA c) U=K b 0 f U:=by
    intro K R;unfold OT at v;unfold N4;cases F:Em c<;>cases G:Ai c<;>cases C:decide (c=45)<;>cases A:decide (r.headD 0=45)<;>rw[F,G,C,A]at v<;>rw[F]at z<;>rw[G]at y <;>
     first
     | (cases v;done) | simp only[↓rP,rA,AE,AF,AD,↓AT a,↓z,↓y,C,↓p1,A]
   exact u _ _
theorem cc(M:MY (D 51))(hL:PO (D 53))(hD:Mh (D 55))(hW:wy (D 76))(hN:10000<N):
  MX (λr=>∃c l,r=c::l/\Em c=true) (λr=>NU (r.headD 0) (r.drop 1)) (F54 E D W N):=by
 intro U b i s r h G;obtain⟨c,r,rfl,hc⟩:=G;have a:=h.at_;have aa:=h.t5.le;have L:=h.t5.len;have Y:=h.t5.few;have P:=Qv (c::r);have B:OT c r=true:=by unfold OT;rw[hc];rfl
 have h0:1<=Fm (c::r):=by unfold Fm;rw[B];exact Ih _
 have p0:=M 0 h (by decide);obtain⟨A,e1,X,f1⟩:=yN M hL hD (AA i) (c::r) N i U (by omega) h;refine⟨i+Fm (c::r),A,?_,?_,f1⟩
 ·show eY E D W (YB E D W N N) b 0 U=_
  have k0:∀K,eY E D W K b 0 U=K b 0 (AA i) (AA c) U:=by
   intro K;have p0:D 51 [.ptr b 0,.int .i64 (AA 0)] U=some (.int .u8 (AA c),U):=p0;unfold eY;simp only[↓rP,rA,AE,AF,AD,↓AT a,↓p0]
  rw[k0];refine e1.trans ?_;show pQ E D W b 0 (AA i) A=some (k8 (NU c r),A);have R:=X.at_;have I:=λJ=>h.t5.cut P J;unfold NU;obtain⟨m,F⟩:∃m,Fm (c::r)=m:=⟨_,rfl⟩;rw[F]at P h0 I R ⊢;have C:((c::r).take m).length=m:=by rw[Bn];omega
  have S:∀x∈(c::r).take m,x<256:=λx hx=>h.t5.r.bd x (Eu hx);have Q:((c::r).take m).headD 0=c:=by
   obtain⟨m,rfl⟩:∃q,m=q+1:=⟨m-1,by omega⟩;rfl
  generalize (c::r).take m=w at I C S Q ⊢;have ln:(BO w).len=m:=by rw[DR,C]
  have y:∀j,j<m->∀J:Int->AH,Az (BO w) (AA j) J=J (AA (w.getD j 0)):=λj hj J=>by
   rw[JO (by omega)];have B:(BO w).nats[j]? = some ((BO w).get j):=BS.nats_get (by omega);rw[Dk S]at B;rw[A1,B];rfl
  have T:=y 0 (by omega);rw[Ic,Q]at T;have i1:=y (m-1) (by omega);have Z:Ez .i64 (AA m) (AA 1)=AA (m-1):=G5 (by omega) (by omega);have O:=hW A (BO w);unfold Ma k8;rw[C];unfold pQ;cases h5:decide (w.getD (m-1) 0=45)<;>cases h6:decide (60<m)<;>cases h7:kY (BO w)<;>rw[h7]at O<;>by_cases h8:c<=90 <;>
   simp only[↓rP,rA,AE,AF,AD,↓AT R,↓I,ln,h6,Z,↓i1,h5,↓O,↓T,decide_eq_true,decide_eq_false,h8,if_true,if_false]<;>rfl
 ·show Rd A b s _ (NU c r).2.2
  have:(NU c r).2.2=(c::r).drop (Fm (c::r)):=by
   unfold NU;cases Ma ((c::r).take (Fm (c::r)))<;>rfl
  rw[this];exact X
theorem iu:∀t∈Cp,BO t.nats=t/\t.len<=3/\1<=t.len:=by
 unfold Cp;simp only[j0,D7,false_implies,implies_true,and_true];decide +kernel
theorem yD(S:V5 (D 52)){b w i s}{r:List Nat}(O:w≠b):∀m j n U,j+m=13->m<n->Rd U b s i r->DQ U w (Cp.map .str) ->
  ∃C U',X8 E D W N n b 0 (.sl w 0 13 (.ex 13)) (AA 13) (AA j) U=some (.tup [.int .i64 (AA (match IY (Cp.drop j) r with | 0=>0 | _+1=>6)),.str (BO (r.take (IY (Cp.drop j) r)))],U')/\Rd U' b s C (r.drop (IY (Cp.drop j) r))/\Fr (λc=>c=b) U U'
 | 0,j,n,U,hj,X,h,I=>by
  obtain⟨n,rfl⟩:∃k,n=k+1:=⟨n-1,by omega⟩;obtain rfl:j=13:=by omega
  refine⟨i,U,?_,h,Fr.refl h.ht⟩;show N1 E D W (rv E D W N) _ b 0 (.sl w 0 13 (.ex 13)) (AA 13) (AA 13) U=_;have v:∀K R,N1 E D W K R b 0 (.sl w 0 13 (.ex 13)) (AA 13) (AA 13) U=K U:=by
   intro K R;unfold N1;simp only[↓rP,rA,AE,AF,AD,JH]
  rw[v];show some (V.tup [.int .i64 (AA 0),.str (BS.mk 0 0)],U)=some (V.tup [.int .i64 (AA 0),.str (BO [])],U);rw[GA]
 | m+1,j,n,U,hj,X,h,I=>by
  obtain⟨n,rfl⟩:∃k,n=k+1:=⟨n-1,by omega⟩;have L:j<Cp.length:=by show j<13;omega
  rw[EE L];have a:=h.at_;have Z:=h.t5.le;have Q:decide (j<13)=true:=decide_eq_true (by omega);have rd:∀J,Bl 1 (.sl w 0 13 (.ex 13)) (AA j) (λb o=>Ee E U b o J)=J (.str Cp[j]):=λJ=>by
   rw[DG (show j<13 by omega)];refine MI I ?_;show (Cp.map V.str)[0+j*1]? = _;rw[BQ,DO,BR,AV L];rfl
  have P:=iu Cp[j] (Z1 L);generalize Cp[j]=t at rd P ⊢;have g:=S t h;have Y:BP .i64 (AA j) (AA 1)=AA (j+1):=BB (by omega);have F:BP .i64 (AA i) (AA t.len)=AA (i+t.len):=BB (by omega);rw[Js];show ∃C U',N1 E D W (rv E D W N) (X8 E D W N n) b 0 (.sl w 0 13 (.ex 13)) (AA 13) (AA j) U=_/\_;cases A:Pw t r with
  | true=>
   rw[A]at g;unfold Pw at A;rw[A];have B:=A;rw[AI,decide_eq_true_eq,decide_eq_true_eq]at B;obtain⟨G,s1,r1,f1⟩:=h.adv B.1;refine⟨_,G,?_,r1,f1⟩;have v:∀K R,N1 E D W K R b 0 (.sl w 0 13 (.ex 13)) (AA 13) (AA j) U=some (.tup [.int .i64 (AA 6),.str t],G):=by
    intro K R;unfold N1;simp only[↓rP,rA,AE,AF,AD,Q,↓rd,↓g,↓AT a,F,↓s1]
   rw[v];show _=some (V.tup [.int .i64 (AA (match t.len with | 0=>0 | _+1=>6)),.str (BO (r.take t.len))],G);rw[B.2,P.1];obtain⟨q,hq⟩:∃q,t.len=q+1:=⟨t.len-1,by omega⟩;rw[hq]
  | false=>
   rw[A]at g;unfold Pw at A;rw[A];obtain⟨C,U',T,r',f'⟩:=yD S O m (j+1) n U (by omega) (by omega) h I;refine⟨C,U',?_,r',f'⟩;have v:∀K R,N1 E D W K R b 0 (.sl w 0 13 (.ex 13)) (AA 13) (AA j) U=R b 0 (.sl w 0 13 (.ex 13)) (AA 13) (AA (j+1)) U:=by
    intro K R;unfold N1;simp only[↓rP,rA,AE,AF,AD,Q,↓rd,↓g,Y]
   rw[v,T]
theorem bg(x:V5 (D 52))(C:100<N):MX (λ_=>True) Ql (F59 E D W N):=by
 intro U b i s r h _;have B:=h.lt;obtain⟨n,o,f1,A,F⟩:=Ia h.ht (Cp.map .str);have z:=h.fr f1 (λh=>h);obtain⟨w,U',v,t,y⟩:=yD x (show U.next≠b by omega) 13 0 N n rfl (by omega) z A;have u:Ql r=(match IY Cp r with | 0=>0 | _+1=>6,r.take (IY Cp r),r.drop (IY Cp r)):=by
  unfold Ql;cases IY Cp r<;>rfl
 rw[Dv]at v t;refine⟨w,U',?_,by rw[u];exact t,(f1.mono (λ_ _ h=>h.elim):Fr (λc=>c=b) U n).trans y (λ_ _ h=>h)⟩;rw[u];show eJ E D W (X8 E D W N N) b 0 U=_;unfold Cp at o;simp only[Cf,Km]at o;have q:∀K,eJ E D W K b 0 U=K b 0 (.sl U.next 0 13 (.ex 13)) (AA 13) (AA 0) n:=by
  intro K;unfold eJ;simp only[↓rP,rA,AE,AF,AD,↓o]
 rw[q];exact v
end
def Al(p:Nat->Bool):List Nat->Nat
 | []=>0
 | c::r=>match p c with
  | true=>Al p r+1
  | false=>0
theorem ED p c r:Al p (c::r)=match p c with
 | true=>Al p r+1 | false=>0:=rfl
theorem Hs p:∀r,Al p r<=r.length
 | []=>AL _ | c::r=>by
  rw[ED];cases p c
  ·exact BF _
  ·exact Zz (Hs p r)
theorem LL p:∀r:List Nat,∀c∈r.take (Al p r),p c=true
 | [],c,h=>by cases h
 | a::r,c,h=>by
  rw[ED]at h;cases f:p a with
  | false=>rw[f]at h;cases h | true=>
   rw[f]at h;rcases BK.1 (show c∈a::r.take (Al p r)from h)with rfl|h
   ·exact f
   ·exact LL p r c h
def Jc(m:Bool):Nat:=if m=true then 9223372036854775808 else 9223372036854775807
def EU(m:Bool)(a:List Nat)(c:Nat):Bool:=decide (C4 0 a<=Jc m)&&(!(decide (a.headD 0=48)&&(decide (1<a.length) || m)) && !Em c)
def Kw(r:List Nat):Sg:=
 let m:=decide (r.headD 0=45)
 let q:=if m=true then r.drop 1 else r
 let b:=q.take (Al Ai q)
 let a:=q.drop (Al Ai q)
 if EU m b (a.headD 0)=true then(3,De m b,a)else(0,[],a)
def Bk(c:Nat):Bool:=Ai c || (decide (65<=c)&&decide (c<=70))
def Kx(r:List Nat):Sg:=
 let q:=r.drop 1
 let b:=q.take (Al Bk q)
 let a:=q.drop (Al Bk q)
 if(decide (b.length % 2=0)&&Pw (BS.mk 2 18471) a)=true then(4,b,a.drop 2)else(0,[],a)
theorem My{l:List Nat}(h:∀c∈l,c<256):(BO l).toList=l.map UInt8.ofNat:=by
 rw[VH h,BS.toList_ofList]
theorem xt{c:Nat}(h:c<256):(UInt8.ofNat c).toNat=c:=by
 simp only[UInt8.toNat_ofNat'];exact Fy h
theorem pum:∀(g:List Nat) a,(∀d∈g,Ai d=true) ->
  (Go.Lib.parseUintM 18446744073709551615 a (g.map UInt8.ofNat) = .ok (C4 a g))\/(Go.Lib.parseUintM 18446744073709551615 a (g.map UInt8.ofNat) = .range/\9223372036854775808<C4 a g)
 | [],a,_ => .inl rfl | d::g,a,h=>by
  obtain⟨r,t⟩:=GW (h d (As ..));have e:(UInt8.ofNat d).toNat=d:=xt (by omega);have q:=pum g (10*a+(d-48)) (λx s=>h x (Ar _ s));have u:=av g (10*a+(d-48));have o:C4 a (d::g)=C4 (10*a+(d-48)) g:=rfl;have p:a*10+(d-48)=10*a+(d-48):=by omega
  rw[Cf,o];unfold Go.Lib.parseUintM;rw[e,if_pos ⟨r,t⟩];by_cases n:1844674407370955162<=a
  ·rw[if_pos n];exact .inr ⟨rfl,by omega⟩
  ·rw[if_neg n]
   by_cases l:18446744073709551615<a*10+(d-48)
   ·rw[if_pos l];exact .inr ⟨rfl,by omega⟩
   ·rw[if_neg l,p];exact q
theorem pib{m o}(v:∀d∈o,Ai d=true)(z:o≠[]):
  Go.Lib.parseIntB 64 ((De m o).map UInt8.ofNat)=if C4 0 o<=Jc m then .ok (if m=true then -(C4 0 o:Int)else(C4 0 o:Int))else .range:=by
 obtain⟨d,l,rfl⟩:∃d l,o=d::l:=by
  cases o with
  | nil=>exact absurd rfl z | cons d l=>exact⟨d,l,rfl⟩
 have x:=GW (v d (As ..));have e:(UInt8.ofNat d).toNat=d:=xt (by omega);have t:Go.Lib.parseUintB 64 ((d::l).map UInt8.ofNat)=Go.Lib.parseUintM 18446744073709551615 0 ((d::l).map UInt8.ofNat):=by
  unfold Go.Lib.parseUintB;rw[if_neg (by simp)]
 have i:=pum (d::l) 0 v;rw[<-t]at i;cases m with
 | false=>
  show Go.Lib.parseIntB 64 (UInt8.ofNat d::l.map UInt8.ofNat)=_;unfold Go.Lib.parseIntB;simp only[e];rw[if_neg (show ¬(d=43\/d=45)by omega)];have w:Go.Lib.parseUintB 64 (UInt8.ofNat d::l.map UInt8.ofNat)=Go.Lib.parseUintB 64 ((d::l).map UInt8.ofNat):=rfl;rw[w];unfold Jc;rcases i with i|⟨i,s⟩
  ·rw[i]
   simp only[show ¬d=45 by omega,not_false_eq_true,true_and,false_and,if_false,CF];by_cases j:C4 0 (d::l)<=9223372036854775807
   ·rw[if_pos j,if_neg (show ¬2 ^ (64-1)<=C4 0 (d::l)by omega)]
   ·rw[if_neg j,if_pos (show 2 ^ (64-1)<=C4 0 (d::l)by omega)]
  ·rw[i]
   simp only[if_false,CF];rw[if_neg (show ¬C4 0 (d::l)<=9223372036854775807 by omega)]
 | true=>
  show Go.Lib.parseIntB 64 (UInt8.ofNat 45::(d::l).map UInt8.ofNat)=_;unfold Go.Lib.parseIntB;have u:(UInt8.ofNat 45).toNat=45:=rfl;simp only[u];rw[if_pos (show 45=43\/True from .inr trivial)];unfold Jc;rcases i with i|⟨i,s⟩
  ·rw[i]
   simp only[not_true_eq_false,true_and,false_and,if_false,if_true];by_cases j:C4 0 (d::l)<=9223372036854775808
   ·rw[if_pos j,if_neg (show ¬2 ^ (64-1)<C4 0 (d::l)by omega)]
   ·rw[if_neg j,if_pos (show 2 ^ (64-1)<C4 0 (d::l)by omega)]
  ·rw[i]
   simp only[if_true];rw[if_neg (show ¬C4 0 (d::l)<=9223372036854775808 by omega)]
theorem Fr.skip{U:H}(d:CI U):Fr Af U ⟨U.next+1,U.bl⟩:=⟨λc b=>d c (by have b:U.next+1<=c:=b;omega),C9 _,λ_ _ _=>rfl⟩
section
variable {E:EB}{D:Am}{W:AJ}{N:Nat}
theorem yg(x:MY (D 51))(z:Mh (D 55)){b s} f g:∀(r:List Nat) n i U,r.length<n->Rd U b s i r ->
  ∃U',YA E D W N n b 0 f g U=YO E D W N b 0 f g U'/\Rd U' b s (i+Al Ai r) (r.drop (Al Ai r))/\Fr (λc=>c=b) U U'
 | [],n,i,U,A,h=>by
  obtain⟨n,rfl⟩:∃m,n=m+1:=⟨n-1,by omega⟩;refine⟨U,?_,h,Fr.refl h.ht⟩;have p0:=x 0 h (by decide);have p0:D 51 [.ptr b 0,.int .i64 (AA 0)] U=some (.int .u8 (AA 0),U):=p0;have v:=z U 0;rw[show Ai 0=false from rfl]at v;show N3 E D W (YO E D W N) _ b 0 f g U=_;have p:∀K R,N3 E D W K R b 0 f g U=K b 0 f g U:=by
   intro K R;unfold N3;simp only[↓rP,rA,AE,AF,AD,↓p0,↓v]
  exact p _ _
 | c::r,n,i,U,A,h=>by
  obtain⟨n,rfl⟩:∃m,n=m+1:=⟨n-1,by omega⟩;have a:=h.at_;have M:=h.t5.le;have p0:=x 0 h (by decide);have p0:D 51 [.ptr b 0,.int .i64 (AA 0)] U=some (.int .u8 (AA c),U):=p0;have v:=z U c;have F:BP .i64 (AA i) (AA 1)=AA (i+1):=BB (by omega);obtain⟨B,G,I,f1⟩:=h.adv (k:=1) (by simp);rw[ED];show ∃U',N3 E D W (YO E D W N) (YA E D W N n) b 0 f g U=_/\_;cases C:Ai c with
  | true=>
   rw[C]at v;obtain⟨U',O,J,L⟩:=yg x z f g r n (i+1) B (by simp at A;omega) I;refine⟨U',?_,?_,f1.trans L (λ_ _ h=>h)⟩
   ·have p:∀K R,N3 E D W K R b 0 f g U=R b 0 f g B:=by
     intro K R;unfold N3;simp only[↓rP,rA,AE,AF,AD,↓p0,↓v,↓AT a,F,↓G]
    rw[p,O]
   ·show Rd U' b s (i+(Al Ai r+1)) (r.drop (Al Ai r))
    rw[show i+(Al Ai r+1)=i+1+Al Ai r by omega];exact J
  | false=>
   rw[C]at v;refine⟨U,?_,h,Fr.refl h.ht⟩;have p:∀K R,N3 E D W K R b 0 f g U=K b 0 f g U:=by
    intro K R;unfold N3;simp only[↓rP,rA,AE,AF,AD,↓p0,↓v]
   exact p _ _
theorem ABB(hP:MY (D 51))(hL:PO (D 53)){F}(hI:D 77=MU F){U:H}{b i:Nat}{s:BS}{m:Bool}{e x:List Nat}(C:HN s i (De m e++x))(hd:∀d∈e,Ai d=true)(A:e≠[])(h:Rd U b s (i+(De m e).length) x):
  ∃U',YO E D W N b 0 (AA i) (AA (if m=true then i+1 else i)) U=some (k8 (if EU m e (x.headD 0)=true then(3,De m e,x)else(0,[],x)),U')/\Rd U' b s (i+(De m e).length) x/\Fr (λc=>c=b) U U':=by
 have a:=h.at_;have hle:=h.t5.le;have few:=C.few;have hdl:1<=e.length:=by cases e with | nil=>exact absurd rfl A | cons _ _=>simp
 have bw:∀c∈De m e,c<256:=λc hc=>C.r.bd c (List.mem_append_left _ hc);have nl:(De m e).length=(if m=true then e.length+1 else e.length):=by unfold De;split<;>simp
 have ct:=λJ=>C.cut (k:=(De m e).length) (by simp) J;rw[AFb]at ct;have h5:HN s (if m=true then i+1 else i) (e++x):=by
  cases m with
  | false=>exact C | true=>exact HN.tl (show HN s i (45::(e++x))from C)
 have ix:∀J:Int->AH,Az s (AA (if m=true then i+1 else i)) J=J (AA (e.headD 0)):=by
  obtain⟨d,l,rfl⟩:∃d l,e=d::l:=by
   cases e with
   | nil=>exact absurd rfl A | cons d l=>exact⟨d,l,rfl⟩
  exact HN.ix (show HN s _ (d::(l++x))from h5)
 have hlw:(De m e).length<=10000:=by have:=C.len;simp only[AY]at this;omega
 have sb:Ez .i64 (AA (i+(De m e).length)) (AA (if m=true then i+1 else i))=AA e.length:=by
  rw[nl];cases m with
  | false=>
   simp only[CF,if_false]at nl ⊢;rw[G5 (by omega) (by omega),show i+e.length-i=e.length by omega]
  | true=>
   simp only[if_true]at nl ⊢;rw[G5 (by omega) (by omega),show i+(e.length+1)-(i+1)=e.length by omega]
 have lf:Cw (AA i) (AA (if m=true then i+1 else i))=m:=by
  rw[P7];cases m with
  | false=>exact decide_eq_false (by rw[if_neg (by decide)];omega) | true=>exact decide_eq_true (by rw[if_pos rfl];omega)
 have hp:=pib (m:=m) hd A;have u:D 77 [.str (BO (De m e)),.int .i64 (AA 10),.int .i64 (AA 64)] U=(match decide (C4 0 e<=Jc m)with
   | true=>some (V.tup [.int .i64 (if m=true then -((C4 0 e:Nat):Int)else((C4 0 e:Nat):Int)),.nili],U) | false=>some (V.tup [.int .i64 (Go.Lib.intSat 64 (BO (De m e)).toList),.ifc F (.ptr U.next 0)],⟨U.next+1,U.bl⟩)):=by
  rw[hI];show (if(BO (De m e)).len<=1000000 then(match Go.Lib.parseIntB 64 (BO (De m e)).toList with
   | .ok v=>some (V.tup [.int .i64 v,.nili],U) | .range=>some (V.tup [.int .i64 (Go.Lib.intSat 64 (BO (De m e)).toList),.ifc F (.ptr U.next 0)],⟨U.next+1,U.bl⟩) | _=>none)else none)=_
  rw[if_pos (by rw[DR];omega)];have hq:Go.Lib.parseIntB 64 (BO (De m e)).toList=if C4 0 e<=Jc m then .ok (if m=true then -((C4 0 e:Nat):Int)else((C4 0 e:Nat):Int))else .range:=by rw[My bw];exact hp
  by_cases z:C4 0 e<=Jc m
  ·rw[hq,if_pos z,decide_eq_true z]
  ·rw[if_neg z]at hq
   rw[decide_eq_false z,hq]
 have p0:=hP 0 h (by decide);rw[Ic]at p0;have gl:=hL U (x.headD 0);unfold EU;show ∃U',eW E D W b 0 (AA i) (AA (if m=true then i+1 else i)) U=_/\_;generalize (if m=true then i+1 else i)=g at ix sb lf ⊢;generalize (De m e).length=wl at a ct sb u h ⊢;generalize De m e=w at ct u ⊢;cases z:decide (C4 0 e<=Jc m)with
 | false=>
  rw[z]at u;refine⟨⟨U.next+1,U.bl⟩,?_,h.fr (Fr.skip h.ht) (λh=>h),(Fr.skip h.ht).mono (λ_ _ h=>h.elim)⟩;have u:D 77 [.str (BO w),.int .i64 (AA 10),.int .i64 (AA 64)] U=some (.tup [.int .i64 (Go.Lib.intSat 64 (BO w).toList),.ifc F (.ptr U.next 0)],⟨U.next+1,U.bl⟩):=u;have ek:∀J:Bool->AH,Sh (.iface true) (.ifc F (.ptr U.next 0)) V.nili J=J false:=λJ=>rfl;unfold eW;simp only[↓rP,rA,AE,AF,AD,↓AT a,↓ct,↓ix,↓u,↓ek];rfl
 | true=>
  rw[z]at u;refine⟨U,?_,h,Fr.refl h.ht⟩;have u:D 77 [.str (BO w),.int .i64 (AA 10),.int .i64 (AA 64)] U=some (.tup [.int .i64 (if m=true then -((C4 0 e:Nat):Int)else((C4 0 e:Nat):Int)),.nili],U):=u;have ek:∀J:Bool->AH,Sh (.iface true) V.nili V.nili J=J true:=λJ=>rfl;generalize (if m=true then -((C4 0 e:Nat):Int)else((C4 0 e:Nat):Int))=nv at u;unfold eW;cases h1:decide (e.headD 0=48)<;>cases h2:decide (1<e.length)<;>cases hm:m<;>cases h3:Em (x.headD 0)<;>rw[h3]at gl<;>rw[hm]at lf <;>
   simp only[↓rP,rA,AE,AF,AD,↓AT a,↓ct,↓ix,↓u,↓ek,h1,sb,h2,lf,↓p0,↓gl]<;>rfl
theorem mI(G:MY (D 51))(hL:PO (D 53))(hD:Mh (D 55)){te}(hI:D 77=MU te)(hN:10000<N):
  MX (λr=>(∃c l,r=c::l/\Ai c=true)\/∃l,r=45::l/\Ai (l.headD 0)=true) Kw (F56 E D W N):=by
 intro U b i s r h J;have a:=h.at_;have ab:=h.t5.le;have O:=h.t5.len;have T:=h.t5.few;have p0:=G 0 h (by decide);rw[Ic]at p0;have a1:BP .i64 (AA i) (AA 1)=AA (i+1):=BB (by omega);have y:∀m (q:List Nat) u,r=(if m=true then 45::q else q)->Ai (q.headD 0)=true->Rd u b s (if m=true then i+1 else i) q->Fr (λc=>c=b) U u->m=decide (r.headD 0=45) ->
   SP E D W N b 0 (AA i) u=SP E D W N b 0 (AA i) u ->
   ∃M U',SP E D W N b 0 (AA i) u=some (k8 (Kw r),U')/\Rd U' b s M (Kw r).2.2/\Fr (λc=>c=b) U U':=by
  intro m q u X L x f1 Q _;obtain⟨U2,e2,R,f2⟩:=yg G hD (AA i) (AA (if m=true then i+1 else i)) q N _ u (by have:=x.t5.len;have:=x.t5.few;omega) x;have aa:1<=Al Ai q:=by
   cases q with
   | nil=>cases L | cons c l=>rw[ED,show Ai c=true from L];exact Ih _
  have ac:=Hs Ai q;have S:(q.take (Al Ai q)).length=Al Ai q:=by rw[Bn];omega
  have I:r=De m (q.take (Al Ai q))++q.drop (Al Ai q):=by
   rw[X];unfold De;cases m with
   | false=>simp | true=>simp
  have el:(if m=true then i+1 else i)+Al Ai q=i+(De m (q.take (Al Ai q))).length:=by
   unfold De;cases m with
   | false=>simp only[CF,if_false];omega | true=>simp only[if_true,AK];omega
  rw[el]at R;have h0:HN s i (De m (q.take (Al Ai q))++q.drop (Al Ai q)):=by rw[<-I];exact h.t5
  obtain⟨U3,e3,r3,f3⟩:=ABB G hL hI h0 (LL Ai q) (λe=>by rw[e]at S;simp at S;omega) R;have Y:Kw r=if EU m (q.take (Al Ai q)) ((q.drop (Al Ai q)).headD 0)=true then(3,De m (q.take (Al Ai q)),q.drop (Al Ai q))else(0,[],q.drop (Al Ai q)):=by
   have C:(if decide (r.headD 0=45)=true then r.drop 1 else r)=q:=by
    rw[<-Q,X];cases m<;>rfl
   unfold Kw;simp only[];rw[C,<-Q]
  have a2:=x.at_;refine⟨i+(De m (q.take (Al Ai q))).length,U3,?_,?_,(f1.trans f2 (λ_ _ h=>h)).trans f3 (λ_ _ h=>h)⟩
  ·show eX E D W (YA E D W N N) b 0 (AA i) u=_
   have w:∀K,eX E D W K b 0 (AA i) u=K b 0 (AA i) (AA (if m=true then i+1 else i)) u:=by
    intro K;unfold eX;simp only[↓rP,rA,AE,AF,AD,↓AT a2]
   rw[w,e2,e3,Y]
  ·rw[Y]
   split<;>exact r3
 show ∃M U',TT E D W (SP E D W N) b 0 U=_/\_;rcases J with ⟨c,l,rfl,z⟩|⟨l,rfl,z⟩
 ·have Z:=GW z
  have P:decide (c=45)=false:=decide_eq_false (by omega);have p0:D 51 [.ptr b 0,.int .i64 (AA 0)] U=some (.int .u8 (AA c),U):=p0;have w:∀K,TT E D W K b 0 U=K b 0 (AA i) U:=by
   intro K;unfold TT;simp only[↓rP,rA,AE,AF,AD,↓AT a,↓p0,P]
  rw[w];exact y false (c::l) U rfl z h (Fr.refl h.ht) P.symm rfl
 ·have p0:D 51 [.ptr b 0,.int .i64 (AA 0)] U=some (.int .u8 (AA 45),U):=p0
  obtain⟨u,s1,x,f1⟩:=h.adv (k:=1) (by simp);have w:∀K,TT E D W K b 0 U=K b 0 (AA i) u:=by
   intro K;unfold TT;simp only[↓rP,rA,AE,AF,AD,↓AT a,↓p0,a1,↓s1]
  rw[w];exact y true l u rfl z x f1 rfl rfl
theorem yY(M:MY (D 51))(F:Mh (D 55)){b s} f:∀(r:List Nat) n i U,r.length<n->Rd U b s i r ->
  ∃U',X9 E D W N n b 0 f (AA (r.headD 0)) U=fZ E D W N b 0 f U'/\Rd U' b s (i+Al Bk r) (r.drop (Al Bk r))/\Fr (λc=>c=b) U U'
 | [],n,i,U,G,h=>by
  obtain⟨n,rfl⟩:∃m,n=m+1:=⟨n-1,by omega⟩;refine⟨U,?_,h,Fr.refl h.ht⟩;have x:=F U 0;rw[show Ai 0=false from rfl]at x;show N2 E D W (fZ E D W N) _ b 0 f (AA 0) U=_;have q:∀K R,N2 E D W K R b 0 f (AA 0) U=K b 0 f U:=by
   intro K R;unfold N2;simp only[↓rP,rA,AE,AF,AD,↓x]
  exact q _ _
 | c::r,n,i,U,G,h=>by
  obtain⟨n,rfl⟩:∃m,n=m+1:=⟨n-1,by omega⟩;have a:=h.at_;have T:=h.t5.le;have x:=F U c;have O:BP .i64 (AA i) (AA 1)=AA (i+1):=BB (by omega);obtain⟨I,Q,J,f1⟩:=h.adv (k:=1) (by simp);have L:=M 0 J (by decide);rw[show ((c::r).drop 1).getD 0 0=r.headD 0 from Ic r]at L;rw[ED];show ∃U',N2 E D W (fZ E D W N) (X9 E D W N n) b 0 f (AA c) U=_/\_;cases y:Bk c with
  | true=>
   obtain⟨U',X,P,S⟩:=yY M F f r n (i+1) I (by simp at G;omega) J;refine⟨U',?_,?_,f1.trans S (λ_ _ h=>h)⟩
   ·have q:∀K R,N2 E D W K R b 0 f (AA c) U=R b 0 f (AA (r.headD 0)) I:=by
     intro K R;unfold Bk at y;unfold N2;cases C:Ai c<;>cases B:decide (65<=c)<;>cases z:decide (c<=70)<;>rw[C,B,z]at y<;>rw[C]at x <;>
      first
      | (cases y;done) | simp only[↓rP,rA,AE,AF,AD,↓AT a,↓x,B,z,O,↓Q,↓L]
    rw[q,X]
   ·show Rd U' b s (i+(Al Bk r+1)) (r.drop (Al Bk r))
    rw[show i+(Al Bk r+1)=i+1+Al Bk r by omega];exact P
  | false=>
   refine⟨U,?_,h,Fr.refl h.ht⟩;have q:∀K R,N2 E D W K R b 0 f (AA c) U=K b 0 f U:=by
    intro K R;unfold Bk at y;unfold N2;cases C:Ai c<;>cases B:decide (65<=c)<;>cases z:decide (c<=70)<;>rw[C,B,z]at y<;>rw[C]at x <;>
     first
     | (cases y;done) | simp only[↓rP,rA,AE,AF,AD,↓AT a,↓x,B,z]
   exact q _ _
theorem nJ(T:MY (D 51))(hD:Mh (D 55))(hA:V5 (D 52))(hN:10000<N):MX (λr=>∃l,r=39::l) Kx (F57 E D W N):=by
 intro U b i s r h G;obtain⟨l,rfl⟩:=G;have a:=h.at_;have aa:=h.t5.le;have Q:=h.t5.few;have a1:BP .i64 (AA i) (AA 1)=AA (i+1):=BB (by omega);obtain⟨M,s1,q,f1⟩:=h.adv (k:=1) (by simp);have q:Rd M b s (i+1) l:=q;have b1:=q.at_;have S:=T 0 q (by decide);rw[Ic]at S;have C:=q.t5.len;obtain⟨B,e2,v,f2⟩:=yY T hD (AA (i+1)) l N (i+1) M (by omega) q;have F:=Hs Bk l;have y:=λJ=>q.t5.cut F J;have I:=v.at_;have g:=hA (BS.mk 2 18471) v;have R:(l.take (Al Bk l)).length=Al Bk l:=by rw[Bn];omega
 have z:(BO (l.take (Al Bk l))).len=Al Bk l:=by rw[DR,R]
 have p:=f1.trans f2 (λ_ _ h=>h);have A:Int.tmod (AA (Al Bk l)) (AA 2)=AA (Al Bk l % 2):=rfl;have Y:∀K,eQ E D W K b 0 U=K b 0 (AA (i+1)) (AA (l.headD 0)) M:=by
  intro K;unfold eQ;simp only[↓rP,rA,AE,AF,AD,↓AT a,a1,↓s1,↓AT b1,↓S]
 have X:Kx (39::l)=if(decide (Al Bk l % 2=0)&&Pw (BS.mk 2 18471) (l.drop (Al Bk l)))=true then(4,l.take (Al Bk l),(l.drop (Al Bk l)).drop 2)else(0,[],l.drop (Al Bk l)):=by
  unfold Kx;show (if(decide ((l.take (Al Bk l)).length % 2=0)&&_)=true then _ else _)=_;rw[R];rfl
 rw[X];show ∃i' U',eQ E D W (X9 E D W N N) b 0 U=_/\_;rw[Y,e2];show ∃i' U',Xm E D W b 0 (AA (i+1)) B=_/\_;have a3:BP .i64 (AA (i+1+Al Bk l)) (AA 2)=AA (i+1+Al Bk l+2):=BB (by omega);generalize l.take (Al Bk l)=w at y z ⊢;cases L:decide (Al Bk l % 2=0)with
 | false=>
  refine⟨i+1+Al Bk l,B,?_,v,p⟩;unfold Xm;simp only[↓rP,rA,AE,AF,AD,↓AT I,↓y,z,A,L];rfl
 | true=>
  cases x:Pw (BS.mk 2 18471) (l.drop (Al Bk l))with
  | false=>
   rw[x]at g;refine⟨i+1+Al Bk l,B,?_,v,p⟩;unfold Xm;simp only[↓rP,rA,AE,AF,AD,↓AT I,↓y,z,A,L,↓g];rfl
  | true=>
   rw[x]at g;have O:2<=(l.drop (Al Bk l)).length:=by
    unfold Pw at x;rw[AI,decide_eq_true_eq]at x;exact x.1
   obtain⟨U3,Z,r3,f3⟩:=v.adv O;refine⟨i+1+Al Bk l+2,U3,?_,r3,p.trans f3 (λ_ _ h=>h)⟩;unfold Xm;simp only[↓rP,rA,AE,AF,AD,↓AT I,↓y,z,A,L,↓g,a3,↓Z];rfl
end
def EP:List Nat:=Bo 128 240++(Bo 66 241++(Bo 30 2++([19]++(Bo 12 3++([35]++(Bo 2 3++([52]++(Bo 3 4++([68]++Bo 11 241)))))))))
def E9:List Nat:=[128,191,160,191,128,159,144,191,128,143]++Bo 22 0
def WR(l:List Nat):List V:=l.map λc => .int .u8 (AA c)
theorem nO:EP.length=256:=by decide +kernel
theorem XY:E9.length=32:=by decide +kernel
def QA(a b c:Nat):Bool:=decide (a<=c)&&decide (c<=b)
def Qf(c:Nat)(r:List Nat):Option Nat:=
 let x:=EP.getD c 0
 let lo:=E9.getD (x / 16*2) 0
 let a:=E9.getD (x / 16*2+1) 0
 if x % 8=2 then(if(decide (1<=r.length)&&QA lo a (r.getD 0 0))=true then some 1 else none)
 else if x % 8=3 then(if(decide (2<=r.length)&&(QA lo a (r.getD 0 0)&&QA 128 191 (r.getD 1 0)))=true then some 2 else none)
 else if x % 8=4 then(if(decide (3<=r.length)&&(QA lo a (r.getD 0 0)&&(QA 128 191 (r.getD 1 0)&&QA 128 191 (r.getD 2 0))))=true then some 3 else none)
 else none
def Mp:Nat->List Nat->Bool
 | 0,_=>true
 | _+1,[]=>true
 | n+1,c::r=>match decide (c<128)with
  | true=>Mp n r
  | false=>match Qf c r with
   | some k=>Mp n (r.drop k)
   | none=>false
theorem QY:∀n m (r:List Nat),r.length<=n->r.length<=m->Mp n r=Mp m r
 | 0,0,_,_,_=>rfl | 0,m+1,[],_,_=>rfl | 0,m+1,c::r,h,_=>by simp at h
 | n+1,0,[],_,_=>rfl | n+1,0,c::r,_,h=>by simp at h
 | n+1,m+1,[],_,_=>rfl | n+1,m+1,c::r,j,i=>by
  simp only[AK]at j i;unfold Mp;cases decide (c<128)with
  | true=>exact QY n m r (by omega) (by omega) | false=>
   cases Qf c r with
   | none=>rfl | some k=>exact QY n m (r.drop k) (by rw[AQ];omega) (by rw[AQ];omega)
def CR(r:List Nat):Bool:=Mp r.length r
theorem OP{c r}(h:c<128):CR (c::r)=CR r:=by
 unfold CR;show (match decide (c<128)with | true=>_ | false=>_)=_;rw[decide_eq_true h]
theorem Sq{c}{r:List Nat}(h:¬c<128):CR (c::r)=match Qf c r with
  | some k=>CR (r.drop k) | none=>false:=by
 unfold CR;show (match decide (c<128)with | true=>_ | false=>_)=_;rw[decide_eq_false h];show (match Qf c r with | some k=>Mp r.length (r.drop k) | none=>false)=_;cases Qf c r with
 | none=>rfl | some k=>exact QY _ _ _ (by rw[AQ];omega) (AL _)
theorem DE:∀k (r:List Nat),(∀x∈r.take k,x<128)->CR (r.drop k)=CR r
 | 0,_,_=>rfl | k+1,[],_=>rfl | k+1,c::r,h=>by
  rw[Gy,DE k r (λx a=>h x (Ar _ a)),OP (h c (As ..))]
theorem ch:JX .u64=18446744073709551615:=rfl
theorem Db{a b}(h:a<18446744073709551616)(i:b<18446744073709551616):Gt .u64 (AA a) (AA b)=AA (a ||| b):=by
 unfold Gt LI;simp only[];rw[show (Ac a (JX .u64)&&Ac b (JX .u64))=true by
  rw[ch,AI,Ag,Ag];omega]
 rfl
theorem Ho{a b}(h:a<18446744073709551616)(i:b<18446744073709551616):IP .u64 (AA a) (AA b)=AA (a &&& b):=by
 unfold IP LI;simp only[];rw[show (Ac a (JX .u64)&&Ac b (JX .u64))=true by
  rw[ch,AI,Ag,Ag];omega]
 rfl
theorem Wb{c k}(h:c<256)(d:k<=56):Eb .u64 (AA c) k=AA (c*2 ^ k):=by
 have e:2 ^ k<=2 ^ 56:=Ii (by decide) d;have f:c*2 ^ k<=255*2 ^ 56:=Nat.mul_le_mul (by omega) e;show BH .u64 (AA (c*Nat.pow 2 (HL k 64)))=_;rw[show HL k 64=k from Gi (by omega)];exact Cq (show c*2 ^ k<=18446744073709551615 by omega)
def H8:Nat:=9259542123273814144
theorem wP:∀c:Fin 256,∀k:Fin 8,(c.val*2 ^ (8*k.val)) &&& H8=0->c.val<128:=by decide +kernel
theorem EG{a b h}(e:(a ||| b) &&& h=0):a &&& h=0/\b &&& h=0:=by
 rw[Nat.and_or_distrib_right]at e;exact Nat.or_eq_zero_iff.1 e
theorem EH{a b}(c:a<18446744073709551616)(d:b<18446744073709551616):a ||| b<18446744073709551616:=ANx (n:=64) c d
theorem Va{c k}(f:c<256)(d:k<8):c*2 ^ (8*k)<18446744073709551616:=by
 have b:2 ^ (8*k)<=2 ^ 56:=Ii (by decide) (by omega);have e:c*2 ^ (8*k)<=255*2 ^ 56:=Nat.mul_le_mul (by omega) b;omega
def w8(l:List Nat):Nat:=(((((((l.getD 0 0*2 ^ (8*0)) ||| (l.getD 1 0*2 ^ (8*1))) ||| (l.getD 2 0*2 ^ (8*2))) ||| (l.getD 3 0*2 ^ (8*3))) ||| (l.getD 4 0*2 ^ (8*4))) ||| (l.getD 5 0*2 ^ (8*5))) ||| (l.getD 6 0*2 ^ (8*6))) ||| (l.getD 7 0*2 ^ (8*7))
theorem Ke{l:List Nat}(h:∀c∈l,c<256) i:l.getD i 0<256:=by
 rw[A1];by_cases f:i<l.length
 ·rw[AV f];exact h _ (Z1 f)
 ·rw[Ae (by omega)];decide
theorem HT{l:List Nat}(h:∀c∈l,c<256):w8 l<18446744073709551616:=by
 have b:∀i,i<8->l.getD i 0*2 ^ (8*i)<18446744073709551616:=λi e=>Va (Ke h i) e;unfold w8;exact EH (EH (EH (EH (EH (EH (EH (b 0 (by decide)) (b 1 (by decide))) (b 2 (by decide))) (b 3 (by decide))) (b 4 (by decide))) (b 5 (by decide))) (b 6 (by decide))) (b 7 (by decide))
theorem G3{l:List Nat}(h:∀c∈l,c<256)(G:8<=l.length)(e:w8 l &&& H8=0):∀x∈l.take 8,x<128:=by
 have g:=λi f e=>wP ⟨l.getD i 0,Ke h i⟩ ⟨i,f⟩ e;unfold w8 at e;obtain⟨e,B⟩:=EG e;obtain⟨e,C⟩:=EG e;obtain⟨e,r⟩:=EG e;obtain⟨e,y⟩:=EG e;obtain⟨e,s⟩:=EG e;obtain⟨e,q⟩:=EG e;obtain⟨o,F⟩:=EG e;have w:=g 0 (by decide) o;have E:=g 1 (by decide) F;have A:=g 2 (by decide) q;have t:=g 3 (by decide) s;have u:=g 4 (by decide) y;have z:=g 5 (by decide) r;have n:=g 6 (by decide) C;have D:=g 7 (by decide) B;intro x p;obtain⟨i,f,rfl⟩:=List.mem_iff_getElem.1 p;rw[Bn]at f;rw[List.getElem_take];have v:l[i]'(by omega)=l.getD i 0:=by rw[A1,AV (by omega)];rfl
 rw[v];match i,f with
 | 0,_=>exact w | 1,_=>exact E | 2,_=>exact A | 3,_=>exact t | 4,_=>exact u | 5,_=>exact z | 6,_=>exact n | 7,_=>exact D | i+8,f=>omega
structure KF(E:EB)(U:H):Prop where
 n:100<=U.next
 h0:CB U.bl 0=none
 h1:CB U.bl 1=none
 e0:CB E 0=some (.cells (WR EP))
 e1:CB E 1=some (.cells (WR E9))
theorem KF.fr{E S U U'}(h:KF E U)(f:Fr S U U')(c:∀b,S b->100<=b):KF E U':=
 ⟨AU h.n f.le,(f.same 0 (by have:=h.n;omega) (λe=>by have:=c _ e;omega)).trans h.h0,(f.same 1 (by have:=h.n;omega) (λe=>by have:=c _ e;omega)).trans h.h1,h.e0,h.e1⟩
theorem be{l:List Nat}{i}(h:i<l.length):(WR l)[i]? = some (.int .u8 (AA (l.getD i 0))):=by
 unfold WR;rw[BR,AV h,A1,AV h];rfl
theorem KF.ld0{E U}(h:KF E U){c}(i:c<256) J:Ee E U 0 c J=J (.int .u8 (AA (EP.getD c 0))):=by
 unfold Ee vO;rw[h.h0];simp only[h.e0];refine P6 ?_;rw[KW];exact be (by rw[nO];exact i)
theorem KF.ld1{E U}(h:KF E U){k}(m:k<16) J:Dt E U 1 (k*2) 2 J=J [.int .u8 (AA (E9.getD (k*2) 0)),.int .u8 (AA (E9.getD (k*2+1) 0))]:=by
 unfold Dt vO;rw[h.h1];simp only[h.e1];have n:(WR E9).length=32:=by unfold WR;rw[DD,XY]
 rw[P3 (by omega)];congr 1;apply GZ;intro j;rw[CY];by_cases i:j<2
 ·rw[if_pos i,CD,be (by rw[XY];omega)]
  match j,i with
  | 0,_=>rfl | 1,_=>rfl
 ·rw[if_neg i,Ae (by simp;omega)]
structure Ox(E:EB)(U:H)(x:V)(l:List Nat):Prop where
 is:(l=[]/\x = .nils)\/∃b o,x = .sl b o l.length (.ex l.length)/\∀(i:Nat),i<l.length->∀J:V->AH,Ee E U b (o+i) J=J (.int .u8 (AA (l.getD i 0)))
 bd:∀c∈l,c<256
 few:l.length<=100000
section
variable {E:EB}{D:Am}{W:AJ}{N:Nat}{U:H}{x:V}{l:List Nat}
theorem Ox.slen(h:Ox E U x l) J:BV x J=J l.length:=by
 rcases h.is with ⟨rfl,rfl⟩|⟨_,_,rfl,_⟩<;>rfl
theorem Ox.rd(h:Ox E U x l){i}(d:i<l.length) J:Bl 1 x (AA i) (λb o=>Ee E U b o J)=J (.int .u8 (AA (l.getD i 0))):=by
 rcases h.is with ⟨rfl,rfl⟩|⟨b,o,rfl,f⟩
 ·cases d
 ·rw[DG d]
  show Ee E U b (o+i*1) J=_;rw[DO];exact f i d J
theorem Ox.cut(h:Ox E U x l){k}(p:k<=l.length)(s:l≠[]):∃y,(∀J,gK (Dh 1 x (some (.int .i64 (AA k))) none none) J=J y)/\Ox E U y (l.drop k):=by
 rcases h.is with ⟨rfl,rfl⟩|⟨b,o,rfl,r⟩
 ·exact absurd rfl s
 ·refine⟨.sl b (if Ax l.length k then o else o+k*1) (l.drop k).length (.ex (l.drop k).length),λJ=>?_,⟨.inr ⟨b,_,rfl,λi u J=>?_⟩,λc t=>h.bd c (Bq t),by rw[AQ];have:=h.few;omega⟩⟩
  ·rw[AQ]
   show gK (if(Ac k l.length&&Ac l.length l.length&&(Option.isNone none || Ac l.length l.length))=true then some (V.sl b (if Ax l.length k then o else o+k*1) (l.length-k) (.ex (l.length-k)))else none) J=_;rw[if_pos (by simp[p])];rfl
  ·rw[AQ]at u
   have q:Ax l.length k=false:=by
    rw[Ga];intro e;have:=CJ e;omega
   rw[q];show Ee E U b (o+k*1+i) J=_;rw[show o+k*1+i=o+(k+i)by omega,r (k+i) (by omega)];congr 3;rw[A1,A1,CD]
end
def jm(E:EB)(F:List V->H->AH):Prop:=∀{U x}{l:List Nat},Ox E U x l->8<=l.length->F [x] U=some (.int .u64 (AA (w8 l)),U)
def CpO(x:V):Prop:=match x with
 | .sl _ _ n (.ex c)=>n<=c
 | .sl _ _ _ (.op e)=>e=1
 | _=>True
def qP(E:EB)(F:List V->H->AH):Prop:=∀{U x}{l:List Nat},KF E U->By U x (nI l)->CpO x->(∀c∈l,c<256)->l.length<=100000->F [x] U=some (.bool (CR l),U)
section
variable {E:EB}{D:Am}{W:AJ}{N:Nat}
theorem AGq:jm E (F90 E D W N):=by
 intro U x l h h8;have rd:∀i,i<8->∀J,Bl 1 x (AA i) (λb o=>Ee E U b o J)=J (.int .u8 (AA (l.getD i 0))):=λi y J=>h.rd (by omega) J;have r0:=rd 0 (by decide);have I:=rd 1 (by decide);have X:=rd 2 (by decide);have r3:=rd 3 (by decide);have P:=rd 4 (by decide);have r5:=rd 5 (by decide);have r6:=rd 6 (by decide);have S:=rd 7 (by decide);have g:=Ke h.bd;have b:∀i,i<8->l.getD i 0*2 ^ (8*i)<18446744073709551616:=λi y=>Va (g i) y;have w:∀i,BH .u64 (AA (l.getD i 0))=AA (l.getD i 0):=λi=>Cq (by rw[ch];have:=g i;omega);have T:AA (l.getD 0 0)=AA (l.getD 0 0*2 ^ (8*0)):=by rw[Nat.mul_zero,Nat.pow_zero,DO]
 have s:∀k,k<8->Eb .u64 (AA (l.getD k 0)) (8*k)=AA (l.getD k 0*2 ^ (8*k)):=λk hk=>Wb (g k) (by omega);have m:=b 0 (by decide);have n:=b 1 (by decide);have q:=b 2 (by decide);have z:=b 3 (by decide);have j:=b 4 (by decide);have t:=b 5 (by decide);have F:=b 6 (by decide);have L:=b 7 (by decide);have G:=s 1 (by decide);have R:=s 2 (by decide);have O:=s 3 (by decide);have K:=s 4 (by decide);have Q:=s 5 (by decide);have Z:=s 6 (by decide);have M:=s 7 (by decide);have d:Gt .u64 (Gt .u64 (Gt .u64 (Gt .u64 (Gt .u64 (Gt .u64 (Gt .u64 (BH .u64 (AA (l.getD 0 0))) (Eb .u64 (BH .u64 (AA (l.getD 1 0))) 8)) (Eb .u64 (BH .u64 (AA (l.getD 2 0))) 16)) (Eb .u64 (BH .u64 (AA (l.getD 3 0))) 24)) (Eb .u64 (BH .u64 (AA (l.getD 4 0))) 32)) (Eb .u64 (BH .u64 (AA (l.getD 5 0))) 40)) (Eb .u64 (BH .u64 (AA (l.getD 6 0))) 48)) (Eb .u64 (BH .u64 (AA (l.getD 7 0))) 56)=AA (w8 l):=by
  rw[w,w,w,w,w,w,w,w,show 8=8*1 from rfl,G,show 16=8*2 from rfl,R,show 24=8*3 from rfl,O,show 32=8*4 from rfl,K,show 40=8*5 from rfl,Q,show 48=8*6 from rfl,Z,show 56=8*7 from rfl,M,T];rw[Db m n];have B:=EH m n;rw[Db B q];have u:=EH B q;rw[Db u z];have A:=EH u z;rw[Db A j];have p:=EH A j;rw[Db p t];have C:=EH p t;rw[Db C F];have Y:=EH C F;rw[Db Y L];rfl
 show ov E D W x U=_;unfold ov;simp only[↓rP,rS,↓r0,↓I,↓X,↓r3,↓P,↓r5,↓r6,↓S,d]
end
theorem AIa{f}(i:f<256):BH .i64 (IP .u8 (AA f) (AA 7))=AA (f % 8):=by
 have e:IP .u8 (AA f) (AA 7)=AA (f &&& 7):=by
  unfold IP LI;simp only[];rw[show (Ac f (JX .u8)&&Ac 7 (JX .u8))=true by
   rw[show JX .u8=255 from rfl,AI,Ag,Ag];omega]
  rfl
 rw[e,show f &&& 7=f % 8 from Nat.and_two_pow_sub_one_eq_mod f 3];exact Cq (show f % 8<=9223372036854775807 by omega)
theorem AG7 f:kz .u8 (AA f) 4=AA (f / 16):=rfl
theorem nN:∀c,EP.getD c 0<256:=by
 intro c;have:∀x∈EP,x<256:=by decide +kernel
 exact Ke this c
section
variable {E:EB}{D:Am}{W:AJ}{N:Nat}
theorem vl5(B:jm E (D 90)) R {U}:∀m x (l:List Nat),l.length<m->Ox E U x l->∃y l',X5 E D W N R m x U=R y U/\Ox E U y l'/\CR l'=CR l/\l'.length<=l.length
 | 0,x,l,h,_=>by omega
 | m+1,x,l,hm,h=>by
  show ∃y l',Ny E D W (YL E D W N R) (X5 E D W N R m) x U=_/\_;have T:=λJ=>h.slen J;by_cases p:32<l.length
  ·have o:l≠[]:=λe=>by rw[e]at p;cases p
   have K:=decide_eq_true p;obtain⟨y8,s8,Z⟩:=h.cut (k:=8) (by omega) o;obtain⟨UZ,I,w⟩:=h.cut (k:=16) (by omega) o;obtain⟨xZ,F,v⟩:=h.cut (k:=24) (by omega) o;obtain⟨Z4,P,Y⟩:=h.cut (k:=32) (by omega) o;have g0:=B h (by omega);have g8:=B Z (by rw[AQ];omega);have C:=B w (by rw[AQ];omega);have G:=B v (by rw[AQ];omega);have Q:=HT h.bd;have S:=HT Z.bd;have t:=HT w.bd;have u:=HT v.bd;have e1:Gt .u64 (Gt .u64 (AA (w8 l)) (AA (w8 (l.drop 8)))) (Gt .u64 (AA (w8 (l.drop 16))) (AA (w8 (l.drop 24))))=AA ((w8 l ||| w8 (l.drop 8)) ||| (w8 (l.drop 16) ||| w8 (l.drop 24))):=by
    rw[Db Q S,Db t u,Db (EH Q S) (EH t u)]
   have e2:IP .u64 (AA ((w8 l ||| w8 (l.drop 8)) ||| (w8 (l.drop 16) ||| w8 (l.drop 24)))) (AA 9259542123273814144)=AA (((w8 l ||| w8 (l.drop 8)) ||| (w8 (l.drop 16) ||| w8 (l.drop 24))) &&& H8):=Ho (EH (EH Q S) (EH t u)) (by decide);by_cases O:((w8 l ||| w8 (l.drop 8)) ||| (w8 (l.drop 16) ||| w8 (l.drop 24))) &&& H8=0
   ·obtain⟨ha,hb⟩:=EG O
    obtain⟨z0,z8⟩:=EG ha;obtain⟨L,M⟩:=EG hb;have v0:=DE 8 l (G3 h.bd (by omega) z0);have v8:=DE 8 (l.drop 8) (G3 Z.bd (by rw[AQ];omega) z8);have z:=DE 8 (l.drop 16) (G3 w.bd (by rw[AQ];omega) L);have A:=DE 8 (l.drop 24) (G3 v.bd (by rw[AQ];omega) M);rw[BU]at v8 z A;obtain⟨y,l',e',o',hv,hl⟩:=vl5 B R m Z4 (l.drop 32) (by rw[AQ];omega) Y;refine⟨y,l',?_,o',hv.trans (A.trans (z.trans (v8.trans v0))),AU hl (by rw[AQ];omega)⟩;have i:∀n q,Ny E D W n q x U=q Z4 U:=by
     intro n q;unfold Ny;simp only[↓rP,rA,AE,AF,AD,↓T,K,↓g0,↓s8,↓g8,↓I,↓C,↓F,↓G,e1,e2,decide_eq_true O,↓P]
    rw[i,e']
   ·refine⟨x,l,?_,h,rfl,AL _⟩
    have i:∀n q,Ny E D W n q x U=n x U:=by
     intro n q;unfold Ny;simp only[↓rP,rA,AE,AF,AD,↓T,K,↓g0,↓s8,↓g8,↓I,↓C,↓F,↓G,e1,e2,decide_eq_false O]
    rw[i];rfl
  ·have K:=decide_eq_false p
   refine⟨x,l,?_,h,rfl,AL _⟩;have i:∀n q,Ny E D W n q x U=n x U:=by
    intro n q;unfold Ny;simp only[↓rP,rA,AE,AF,AD,↓T,K]
   rw[i];rfl
theorem vl3 {U:H} {x:V} {c:Nat} {r:List Nat} (h:Ox E U x (c::r)) (ht:KF E U) (hc:¬c<128) (R:V->H->AH) (b:Bool)
    (hR:∀k y,Ox E U y (r.drop k)->R y U=some (.bool (CR (r.drop k)),U)) :
    fT E D W N R x (AA c) U=some (.bool (CR (c::r)),U):=by
  have hc2:c<256:=h.bd c (As ..);have hf:=nN c;rw[Sq hc];have sl:∀J:Nat->AH,BV x J=J (r.length+1):=λJ=>h.slen J
  have l0:∀J:V->AH,Ee E U 0 (FP c 1) J=J (.int .u8 (AA (EP.getD c 0))):=λJ=>by rw[show FP c 1=c from DO c];exact ht.ld0 hc2 J
  have l1:∀J:List V->AH,Dt E U 1 (FP (EP.getD c 0 / 16) 2) 2 J=J [.int .u8 (AA (E9.getD (EP.getD c 0 / 16*2) 0)),.int .u8 (AA (E9.getD (EP.getD c 0 / 16*2+1) 0))]:=λJ=>ht.ld1 (by omega) J
  have c1:Cr c 256=true:=by rw[Cs];exact hc2
  have c2:Cr (EP.getD c 0 / 16) 16=true:=by rw[Cs];omega
  have bd:=λi=>Ke h.bd i
  show Xf E D W (fS E D W N R) (WD E D W N R) R x (AA c) U=_
  have a7:=AIa hf
  have s4:=AG7 (EP.getD c 0)
  have z:∀i,i<r.length->∀J,Bl 1 x (AA (i+1)) (λb o=>Ee E U b o J)=J (.int .u8 (AA (r.getD i 0))):=λi w J=>h.rd (by simp;omega) J
  have cutx:∀k,k<r.length+1->∃y,(∀J:V->AH,gK (Dh 1 x (some (.int .i64 (AA (k+1)))) none none) J=J y)/\Ox E U y (r.drop k):=λk hk=>h.cut (by simp;omega) (by simp)
  unfold Qf
  simp only[]
  generalize EP.getD c 0=f at l0 l1 c2 a7 s4 ⊢
  generalize E9.getD (f / 16*2) 0=lo at l1 ⊢
  generalize E9.getD (f / 16*2+1) 0=w at l1 ⊢
  have k3:∀K6 K10 R2,Xf E D W K6 K10 R2 x (AA c) U=AG (decide (f % 8=2))
      (AG (decide (1<=r.length)&&QA lo w (r.getD 0 0)) (gK (Dh 1 x (some (.int .i64 (AA 2))) none none) λu=>R2 u U) (some (.bool false,U)))
      (AG (decide (f % 8=3)) (K6 x (AA lo) (AA w) U) (AG (decide (f % 8=4)) (K10 x (AA lo) (AA w) U) (some (.bool false,U)))):=by
    intro K6 K10 R2
    unfold Xf
    by_cases h2:f % 8=2
    · by_cases hl:1<=r.length
      · have r1:∀J,Bl 1 x (AA 1) (λb o=>Ee E U b o J)=J (.int .u8 (AA (r.getD 0 0))):=z 0 (by omega)
        have d2:decide (r.length+1<2)=false:=decide_eq_false (by omega)
        unfold QA
        cases h5:decide (lo<=r.getD 0 0)<;>cases h6:decide (r.getD 0 0<=w) <;>
          (have h7:decide (r.getD 0 0<lo)=!decide (lo<=r.getD 0 0):=by
             by_cases h:lo<=r.getD 0 0
             · rw[decide_eq_true h,decide_eq_false (by omega)];rfl
             · rw[decide_eq_false h,decide_eq_true (by omega)];rfl) <;>
          (have h8:decide (w<r.getD 0 0)=!decide (r.getD 0 0<=w):=by
             by_cases h:r.getD 0 0<=w
             · rw[decide_eq_true h,decide_eq_false (by omega)];rfl
             · rw[decide_eq_false h,decide_eq_true (by omega)];rfl) <;>
          rw[h5]at h7<;>rw[h6]at h8 <;>
          simp only[↓rP,rA,AE,AF,AD,KX,c1,↓l0,s4,c2,↓l1,a7,decide_eq_true h2,↓sl,d2,↓r1,h7,h8,decide_eq_true hl,h5,h6,B3,CE,BX,Au,EX,BY]
      · have d2:decide (r.length+1<2)=true:=decide_eq_true (by omega)
        simp only[↓rP,rA,AE,AF,AD,KX,c1,↓l0,s4,c2,↓l1,a7,decide_eq_true h2,↓sl,d2,decide_eq_false hl,BY]
    · simp only[↓rP,rA,AE,AF,AD,KX,c1,↓l0,s4,c2,↓l1,a7,decide_eq_false h2]
  have ng:∀a b:Nat,decide (a<b)=!decide (b<=a):=λa b=>by
    by_cases h:b<=a
    · rw[decide_eq_true h,decide_eq_false (by omega)];rfl
    · rw[decide_eq_false h,decide_eq_true (by omega)];rfl
  have k6:fS E D W N R x (AA lo) (AA w) U=AG (decide (2<=r.length)&&(QA lo w (r.getD 0 0)&&QA 128 191 (r.getD 1 0))) (gK (Dh 1 x (some (.int .i64 (AA 3))) none none) λu=>R u U) (some (.bool false,U)):=by
    show df E D W (dZ E D W (dc E D W (de E D W R))) x (AA lo) (AA w) U=_
    unfold df dZ dc de
    by_cases hl:2<=r.length
    · have r1:∀J,Bl 1 x (AA 1) (λb o=>Ee E U b o J)=J (.int .u8 (AA (r.getD 0 0))):=z 0 (by omega)
      have r2:∀J,Bl 1 x (AA 2) (λb o=>Ee E U b o J)=J (.int .u8 (AA (r.getD 1 0))):=z 1 (by omega)
      have d2:decide (r.length+1<3)=false:=decide_eq_false (by omega)
      unfold QA
      cases h5:decide (lo<=r.getD 0 0)<;>cases h6:decide (r.getD 0 0<=w)<;>cases h7:decide (128<=r.getD 1 0)<;>cases h8:decide (r.getD 1 0<=191) <;>
        simp only[↓rP,rA,AE,AF,AD,↓sl,d2,↓r1,↓r2,ng,h5,h6,h7,h8,decide_eq_true hl,B3,CE,BX,Au,EX,BY]
    · have d2:decide (r.length+1<3)=true:=decide_eq_true (by omega)
      simp only[↓rP,rA,AE,AF,AD,↓sl,d2,decide_eq_false hl,BY]
  have k10:WD E D W N R x (AA lo) (AA w) U=AG (decide (3<=r.length)&&(QA lo w (r.getD 0 0)&&(QA 128 191 (r.getD 1 0)&&QA 128 191 (r.getD 2 0)))) (gK (Dh 1 x (some (.int .i64 (AA 4))) none none) λu=>R u U) (some (.bool false,U)):=by
    show Vg E D W (Vd E D W (Ve E D W (Vf E D W R))) x (AA lo) (AA w) U=_
    unfold Vg Vd Ve Vf
    by_cases hl:3<=r.length
    · have r1:∀J,Bl 1 x (AA 1) (λb o=>Ee E U b o J)=J (.int .u8 (AA (r.getD 0 0))):=z 0 (by omega)
      have r2:∀J,Bl 1 x (AA 2) (λb o=>Ee E U b o J)=J (.int .u8 (AA (r.getD 1 0))):=z 1 (by omega)
      have r3:∀J,Bl 1 x (AA 3) (λb o=>Ee E U b o J)=J (.int .u8 (AA (r.getD 2 0))):=z 2 (by omega)
      have d2:decide (r.length+1<4)=false:=decide_eq_false (by omega)
      unfold QA
      cases h5:decide (lo<=r.getD 0 0)<;>cases h6:decide (r.getD 0 0<=w)<;>cases h7:decide (128<=r.getD 1 0)<;>cases h8:decide (r.getD 1 0<=191)<;>cases h9:decide (128<=r.getD 2 0)<;>cases h10:decide (r.getD 2 0<=191) <;>
        simp only[↓rP,rA,AE,AF,AD,↓sl,d2,↓r1,↓r2,↓r3,ng,h5,h6,h7,h8,h9,h10,decide_eq_true hl,B3,CE,BX,Au,EX,BY]
    · have d2:decide (r.length+1<4)=true:=decide_eq_true (by omega)
      simp only[↓rP,rA,AE,AF,AD,↓sl,d2,decide_eq_false hl,BY]
  rw[k3,k6,k10]
  have fin:∀(k:Nat) (q:Bool),(q=true->k<r.length+1)->AG q (gK (Dh 1 x (some (.int .i64 (AA (k+1)))) none none) λu=>R u U) (some (.bool false,U))=some (.bool (match (if q=true then some k else none:Option Nat)with | some k=>CR (r.drop k) | none=>false),U):=by
    intro k q hq
    cases q with
    | true=>
      obtain⟨y,s,o⟩:=cutx k (hq rfl)
      rw[CC,s]
      exact hR k y o
    | false=>rfl
  by_cases h2:f % 8=2
  · rw[decide_eq_true h2,CC,if_pos h2]
    exact fin 1 _ (λh=>by rw[AI,decide_eq_true_eq]at h;omega)
  · rw[decide_eq_false h2,Bx,if_neg h2]
    by_cases h3:f % 8=3
    · rw[decide_eq_true h3,CC,if_pos h3]
      exact fin 2 _ (λh=>by rw[AI,decide_eq_true_eq]at h;omega)
    · rw[decide_eq_false h3,Bx,if_neg h3]
      by_cases h4:f % 8=4
      · rw[decide_eq_true h4,CC,if_pos h4]
        exact fin 3 _ (λh=>by rw[AI,decide_eq_true_eq]at h;omega)
      · rw[decide_eq_false h4,Bx,if_neg h4]
theorem AGs(hW:jm E (D 90))(hN:100000<N){U}(ht:KF E U):∀n x (l:List Nat),l.length<n->Ox E U x l->Mi E D W N n x U=some (.bool (CR l),U)
 | 0,x,l,hn,_=>by omega
 | n+1,x,[],hn,h=>by
  show HY E D W (fU E D W N) _ _ _ x U=_;have K:∀J:Nat->AH,BV x J=J 0:=λJ=>h.slen J;have j:∀v u p t,HY E D W v u p t x U=v U:=by
   intro v u p t;unfold HY;simp only[↓rP,rA,AE,AF,AD,↓K,JH]
  rw[j];rfl
 | n+1,x,c::r,hn,h=>by
  have hn:r.length<n:=by simp at hn;omega
  have hfew:=h.few;simp only[AK]at hfew;have K:∀J:Nat->AH,BV x J=J (r.length+1):=λJ=>h.slen J;have r0:∀J,Bl 1 x (AA 0) (λb o=>Ee E U b o J)=J (.int .u8 (AA c)):=λJ=>h.rd (by simp) J;have ih:∀y l',l'.length<=r.length->Ox E U y l'->Mi E D W N n y U=some (.bool (CR l'),U):=λy l' hl o=>AGs hW hN ht n y l' (by omega) o;have d0:decide (0<r.length+1)=true:=decide_eq_true (by omega);show HY E D W (fU E D W N) (fT E D W N (Mi E D W N n)) (YL E D W N (Mi E D W N n)) (X5 E D W N (Mi E D W N n) N) x U=_;by_cases hc:c<128
  ·have d1:decide (c<128)=true:=decide_eq_true hc
   rw[OP hc];obtain⟨y1,s1,o1⟩:=h.cut (k:=1) (by simp) (by simp);have o1:Ox E U y1 r:=o1;have A:=λJ=>o1.slen J;have i1:=ih y1 r (AL _) o1;by_cases h8:8<r.length
   ·have d8:decide (8<r.length)=true:=decide_eq_true h8
    have hne:r≠[]:=λe=>by rw[e]at h8;cases h8
    have g1:=hW o1 (by omega);have e1:IP .u64 (AA (w8 r)) (AA 9259542123273814144)=AA (w8 r &&& H8):=Ho (HT o1.bd) (by decide);by_cases hz:w8 r &&& H8=0
    ·obtain⟨y2,s2,G⟩:=o1.cut (k:=8) (by omega) hne
     have v1:=DE 8 r (G3 o1.bd (by omega) hz);have sl2:=λJ=>G.slen J;have i2:=ih y2 (r.drop 8) (by rw[AQ];omega) G;have ln:(r.drop 8).length=r.length-8:=AQ;generalize r.drop 8=q at *;by_cases C:16<q.length
     ·have B:decide (16<q.length)=true:=decide_eq_true C
      have F:q≠[]:=λe=>by rw[e]at C;cases C
      obtain⟨y8,s8,o8⟩:=G.cut (k:=8) (by omega) F;obtain⟨UZ,s16,o16⟩:=G.cut (k:=16) (by omega) F;have g2:=hW G (by omega);have g8:=hW o8 (by rw[AQ];omega);have e2:Gt .u64 (AA (w8 q)) (AA (w8 (q.drop 8)))=AA (w8 q ||| w8 (q.drop 8)):=Db (HT G.bd) (HT o8.bd);have e3:IP .u64 (AA (w8 q ||| w8 (q.drop 8))) (AA 9259542123273814144)=AA ((w8 q ||| w8 (q.drop 8)) &&& H8):=Ho (EH (HT G.bd) (HT o8.bd)) (by decide);by_cases hz2:(w8 q ||| w8 (q.drop 8)) &&& H8=0
      ·obtain⟨z0,z8⟩:=EG hz2
       have v2:=DE 8 q (G3 G.bd (by omega) z0);have v3:=DE 8 (q.drop 8) (G3 o8.bd (by rw[AQ];omega) z8);rw[BU]at v3;obtain⟨y,l',e',o',hv,hl⟩:=vl5 (E:=E) (W:=W) (N:=N) hW (Mi E D W N n) N UZ (q.drop 16) (by rw[AQ];omega) o16;have j:∀v u p t,HY E D W v u p t x U=t UZ U:=by
        intro v u p t;unfold HY;simp only[↓rP,rA,AE,AF,AD,↓K,d0,↓r0,d1,↓s1,↓A,d8,↓g1,e1,decide_eq_true hz,↓s2,↓sl2,B,↓g2,↓s8,↓g8,e2,e3,decide_eq_true hz2,↓s16]
       rw[j,e',ih y l' (by rw[AQ]at hl;omega) o',hv,v3,v2,v1]
      ·have j:∀v u p t,HY E D W v u p t x U=p y2 U:=by
        intro v u p t;unfold HY;simp only[↓rP,rA,AE,AF,AD,↓K,d0,↓r0,d1,↓s1,↓A,d8,↓g1,e1,decide_eq_true hz,↓s2,↓sl2,B,↓g2,↓s8,↓g8,e2,e3,decide_eq_false hz2]
       rw[j,<-v1];exact i2
     ·have B:decide (16<q.length)=false:=decide_eq_false C
      have j:∀v u p t,HY E D W v u p t x U=p y2 U:=by
       intro v u p t;unfold HY;simp only[↓rP,rA,AE,AF,AD,↓K,d0,↓r0,d1,↓s1,↓A,d8,↓g1,e1,decide_eq_true hz,↓s2,↓sl2,B]
      rw[j,<-v1];exact i2
    ·have j:∀v u p t,HY E D W v u p t x U=p y1 U:=by
      intro v u p t;unfold HY;simp only[↓rP,rA,AE,AF,AD,↓K,d0,↓r0,d1,↓s1,↓A,d8,↓g1,e1,decide_eq_false hz]
     rw[j];exact i1
   ·have d8:decide (8<r.length)=false:=decide_eq_false h8
    have j:∀v u p t,HY E D W v u p t x U=p y1 U:=by
     intro v u p t;unfold HY;simp only[↓rP,rA,AE,AF,AD,↓K,d0,↓r0,d1,↓s1,↓A,d8]
    rw[j];exact i1
  ·have d1:decide (c<128)=false:=decide_eq_false hc
   have j:∀v u p t,HY E D W v u p t x U=u x (AA c) U:=by
    intro v u p t;unfold HY;simp only[↓rP,rA,AE,AF,AD,↓K,d0,↓r0,d1]
   rw[j];exact vl3 h ht hc (Mi E D W N n) true (λk y o=>ih y (r.drop k) (by rw[AQ];omega) o)
theorem AGt(hW:jm E (D 90))(Z:100000<N):qP E (F78 E D W N):=by
 intro U x l T I g L P;have t:(nI l).length=l.length:=by unfold nI;rw[DD]
 obtain⟨y,R,X⟩:∃y,(∀J,gK (Dh 1 x none (some (.int .i64 (AA l.length))) (some (.int .i64 (AA l.length)))) J=J y)/\Ox E U y l:=by
  rcases I with ⟨C,rfl,_⟩|⟨b,o,c,M,rfl,ha,w,F⟩
  ·rw[t]at C
   have:=Bc C;subst this;exact⟨.nils,λJ=>rfl,⟨.inl ⟨rfl,rfl⟩,L,P⟩⟩
  ·rw[t]at w F ⊢
   have u:∀i,i<l.length->∀J,Ee E U b (o+i) J=J (.int .u8 (AA (l.getD i 0))):=λi B J=>by
    refine MI ha ?_;have G:(Sr (nI l))[i]? = some (.int .u8 (AA (l.getD i 0))):=by
     unfold Sr nI;rw[xT,BR,AV B,A1,AV B];rfl
    rw[F,DO,CY,if_pos B,CD]at G;exact G
   have Y:(if Ax l.length 0 then o else o+0*1)=o:=by split<;>omega
   have q:Ox E U (.sl b (if Ax l.length 0 then o else o+0*1) (l.length-0) (.ex (l.length-0))) l:=by
    rw[Y,OH];exact⟨.inr ⟨b,o,rfl,u⟩,L,P⟩
   cases c with
   | ex c=>
    have g:l.length<=c:=by
     have h:=g;rwa [t]at h
    refine⟨_,λJ=>?_,q⟩;show gK (if(Ac 0 l.length&&Ac l.length l.length&&(Option.isNone (some (V.int .i64 (AA l.length))) || Ac l.length c))=true then some (V.sl b (if Ax l.length 0 then o else o+0*1) (l.length-0) (.ex (l.length-0)))else none) J=_;rw[if_pos (by simp[g])];rfl
   | op e=>
    have he:=g;subst he;refine⟨_,λJ=>?_,q⟩;show gK (if(Ac 0 l.length&&Ac l.length l.length&&Ac l.length l.length)=true then some (V.sl b (if Ax l.length 0 then o else o+0*1) (l.length-0) (.ex (l.length-0)))else none) J=_;rw[if_pos (by simp)];rfl
 have S:∀J,BV x J=J l.length:=λJ=>by rw[I.slen,t]
 show Xg E D W (Mi E D W N N) x U=_;have v:∀K,Xg E D W K x U=K y U:=by
  intro K;unfold Xg;simp only[↓rP,rA,AE,AF,AD,↓S,↓R]
 rw[v];exact AGs hW Z T N y l (by omega) X
end
def D1:Bool->List Nat->Option (List Nat × List Nat)
 | false,[]=>none
 | true,[]=>some ([],[])
 | false,c::r=>match decide (c=34)with
  | true=>D1 true r
  | false=>(D1 false r).map λp=>(c::p.1,p.2)
 | true,c::r=>match decide (c=34)with
  | true=>(D1 false r).map λp=>(34::p.1,p.2)
  | false=>some ([],c::r)
def quo(r:List Nat):Option (List Nat × List Nat):=D1 false r
def GF(a r:List Nat):Sg:=match quo r with
 | some p=>match CR (a++p.1)with
  | true=>(7,a++p.1,p.2)
  | false=>(0,[],p.2)
 | none=>(0,[],[])
def OL(r:List Nat):Sg:=GF [] (r.drop 1)
theorem Sz a c {r}(h:¬c=34):GF a (c::r)=GF (a++[c]) r:=by
 unfold GF;have e:quo (c::r)=(quo r).map λp=>(c::p.1,p.2):=by
  show (match decide (c=34)with | true=>D1 true r | false=>(D1 false r).map λp:List Nat × List Nat=>(c::p.1,p.2))=_;rw[decide_eq_false h];rfl
 rw[e];cases quo r with
 | none=>rfl | some p=>
  show (match CR (a++c::p.1)with | true=>_ | false=>_)=(match CR (a++[c]++p.1)with | true=>_ | false=>_);rw[CK];rfl
theorem Wg a {r}:GF a (34::34::r)=GF (a++[34]) r:=by
 unfold GF;have e:quo (34::34::r)=(quo r).map λp=>(34::p.1,p.2):=rfl;rw[e];cases quo r with
 | none=>rfl | some p=>
  show (match CR (a++34::p.1)with | true=>_ | false=>_)=(match CR (a++[34]++p.1)with | true=>_ | false=>_);rw[CK];rfl
theorem Wh a {r:List Nat}(h:r.headD 0≠34):GF a (34::r)=match CR a with
  | true=>(7,a,r) | false=>(0,[],r):=by
 unfold GF;have e:quo (34::r)=some ([],r):=by
  cases r with
  | nil=>rfl | cons d r=>
   have h:¬d=34:=h;show (match decide (d=34)with | true=>(D1 false r).map λp:List Nat × List Nat=>(34::p.1,p.2) | false=>some ([],d::r))=_;rw[decide_eq_false h]
 rw[e];show (match CR (a++[])with | true=>(7,a++[],r) | false=>_)=_;rw[CZ]
def Hc(r:List Nat):Sg:=
 if Em (r.headD 0)=true then NU (r.headD 0) (r.drop 1)
 else if(Ai (r.headD 0) || (decide (r.headD 0=45)&&Ai ((r.drop 1).headD 0)))=true then Kw r
 else if r.headD 0=39 then Kx r
 else if r.headD 0=34 then OL r
 else Ql r
def Vw(E:EB)(a:List Nat->Prop)(T:List Nat->Sg)(F:List V->H->AH):Prop:=∀{U b i s r},Rd U b s i r->KF E U->100<=b->a r ->
 ∃d U',F [.ptr b 0] U=some (k8 (T r),U')/\Rd U' b s d (T r).2.2/\Fr (λc=>c=b) U U'
theorem kj{E U v L}(h:By U v (nI L))(f:∀c∈L,c<256) J:KS E U v J=J (BO L):=by
 have e:KS E U v J=srcK E U 1 v λ_ l=>match GX l with
  | some s=>J (BS.ofList s) | none=>none:=by
  rcases h with ⟨_,rfl,_⟩|⟨_,_,_,_,rfl,_⟩<;>rfl
 have g:∀J,srcK E U 1 v J=J (nI L).length (Sr (nI L)):=λJ=>D0.srcK h;rw[e,g];show (match GX (Sr (nI L))with
  | some s=>J (BS.ofList s) | none=>none)=_
 rw[L9];show J (BS.ofList ((nI L).map λc=>UInt8.ofNat c.toNat))=_;rw[VH f];congr 2;unfold nI;rw[xT];rfl
theorem ES.cpO{U k v l}(h:ES U 1 k v l):CpO v:=by
 rcases h with (⟨_,rfl,_⟩|⟨_,rfl,_⟩)|⟨_,rfl,_⟩
 ·trivial
 ·rfl
 ·exact AL _
section
variable {E:EB}{D:Am}{W:AJ}{N:Nat}
theorem AGy (hP:MY (D 51)) (hV:qP E (D 78)) {b} {s:BS} (hb1:100<=b) {U0:H} (hb0:b<U0.next):∀n (r o:List Nat) (i:Nat) (v:V) (U:H),r.length<n->o.length+r.length<=10000->(∀c∈o,c<256)->Rd U b s i r->KF E U->Fr (fun c=>c=b) U0 U->ES U 1 o.length v (Sr (nI o))->(∀c,AS v c->U0.next<=c) ->
    ∃Q U',SI E D W N n b 0 v U=some (k8 (GF o r),U')/\Rd U' b s Q (GF o r).2.2/\Fr (λc=>c=b) U0 U'
  | 0,r,o,i,v,U,hn,_,_,_,_,_,_,_=>by omega
  | n+1,[],o,i,v,U,hn,hl,ha,h,hu,f,hv,I=>by
    refine⟨i,U,?_,h,f⟩;have a:=h.at_;have d1:decide (i<s.len)=false:=decide_eq_false (by have:=h.t5.nil;omega);show KH E D W (sA E D W N) _ b 0 v U=_;have F:∀K R,KH E D W K R b 0 v U=K U:=by
      intro K R;unfold KH;simp only[↓rP,rA,AE,AF,AD,↓AT a,d1]
    rw[F];show some (V.tup [.int .i64 (AA 0),.str (BS.mk 0 0)],U)=some (V.tup [.int .i64 (AA 0),.str (BO [])],U);rw[GA]
  | n+1,c::r,o,i,v,U,hn,hl,ha,h,hu,f,hv,I=>by
    have a:=h.at_;have hle:=h.t5.le;simp only[AK]at hn hl;have d1:decide (i<s.len)=true:=decide_eq_true h.t5.lt;have p0:D 51 [.ptr b 0,.int .i64 (AA 0)] U=some (.int .u8 (AA c),U):=hP 0 h (by decide);have a1:BP .i64 (AA i) (AA 1)=AA (i+1):=BB (by omega);have nl:∀l:List Nat,(nI l).length=l.length:=λl=>by unfold nI;rw[DD]
    have push:∀(d j:Nat) (q:List Nat) (B:H),d<256->Rd B b s j (d::q)->KF E B->Fr (λc=>c=b) U0 B->ES B 1 o.length v (Sr (nI o))->q.length<=r.length->GF o (c::r)=GF (o++[d]) q ->
        ∃Q U',YN E D W N (SI E D W N n) b 0 v B=some (k8 (GF o (c::r)),U')/\Rd U' b s Q (GF o (c::r)).2.2/\Fr (λc=>c=b) U0 U':=by
      intro d j q B hd M T f1 O hq hquo;have hle1:=M.t5.le;have q0:=hP 0 M (by decide);have q0:D 51 [.ptr b 0,.int .i64 (AA 0)] B=some (.int .u8 (AA d),B):=q0;obtain⟨U2,e2,f2,a2,n2⟩:=Ia M.ht [.int .u8 (AA d)];have xs:D0 U2 1 1 (V.sl B.next 0 1 (.ex 1)) (Sr (nI [d])) := .inr ⟨_,_,_,_,rfl,a2,AL _,rfl⟩;obtain⟨u,U3,g,dd,nm,f3⟩:=Fa (E:=E) (bytes:=1) (O.fr f2 M.ht (λ_ _ h=>h)) f2.tidy xs (bc _) (by unfold CX;simp only[DO,AI,Ag];omega);have l0:=f1.le;have l2:=f2.le;have F3:Fr (λc=>c=b) U0 U3:=(f1.trans (f2.mono (λ_ _ h=>h.elim)) (λ_ _ h=>h)).trans f3 (λc S h=>by have:=I c h;omega);have hr3:Rd U3 b s j (d::q):=(M.fr f2 (λh=>h)).fr f3 (λh=>by have:=I b h;omega);have dd:ES U3 1 (o++[d]).length u (Sr (nI (o++[d]))):=by
        have e:nI (o++[d])=nI o++nI [d]:=by unfold nI;rw[IX]
        rw[e,ui,AY];exact dd
      obtain⟨U4,s4,r4,f4⟩:=hr3.adv (k:=1) (by simp);have hu4:KF E U4:=((T.fr f2 (λ_ h=>h.elim)).fr f3 (λc h=>by have:=I c h;have:=hu.n;omega)).fr f4 (λc h=>by omega);have b3:=hr3.at_;have aj:BP .i64 (AA j) (AA 1)=AA (j+1):=BB (by omega);obtain⟨Q,U',e',r',f'⟩:=AGy hP hV hb1 hb0 n q (o++[d]) (j+1) u U4 (by omega) (by rw[AY,AK,Aa];omega) (λx hx=>by
        rcases Dw.1 hx with hx|hx
        · exact ha x hx
        · rw[B0.1 hx];exact hd) r4 hu4 (F3.trans f4 (λ_ _ h=>h)) (dd.fr f4 hr3.ht (λc S e=>by
          have:=(nm c S).elim (I c) (λh=>by omega);omega)) (λc S=>by
          have:=(nm c S).elim (I c) (λh=>by omega);exact this)
      rw[hquo];refine⟨Q,U',?_,r',f'⟩;show eL E D W (eM E D W (SI E D W N n)) b 0 v B=_;have F:∀R,eL E D W (eM E D W R) b 0 v B=R b 0 u U4:=by
        intro R;unfold eL eM;simp only[↓rP,rA,AE,AF,AD,↓q0,↓e2,↓g,↓Ec dd.one,↓AT b3,aj,↓s4]
      rw[F,e']
    show ∃Q U',KH E D W (sA E D W N) (YN E D W N (SI E D W N n)) b 0 v U=_/\_;by_cases S:c=34
    · subst S
      obtain⟨B,s1,r1,f1⟩:=h.adv (k:=1) (by simp);have r1:Rd B b s (i+1) r:=r1;have p1:=hP 0 r1 (by decide);rw[Ic]at p1;have T:=hu.fr f1 (λc h=>by omega);have F1:=f.trans f1 (λ_ _ h=>h);have O:ES B 1 o.length v (Sr (nI o)):=hv.fr f1 h.ht (λc S e=>by have:=I c S;omega);by_cases hd:r.headD 0=34
      · obtain⟨q,rfl⟩:∃q,r=34::q:=by
          cases r with
          | nil=>cases hd | cons d q=>exact⟨q,by rw[show d=34 from hd]⟩
        obtain⟨Q,U',e',r',f'⟩:=push 34 (i+1) q B (by decide) r1 T F1 O (by simp) (Wg o);refine⟨Q,U',?_,r',f'⟩;have p1:D 51 [.ptr b 0,.int .i64 (AA 0)] B=some (.int .u8 (AA 34),B):=p1;have F:∀K R,KH E D W K R b 0 v U=R b 0 v B:=by
          intro K R;unfold KH;simp only[↓rP,rA,AE,AF,AD,↓AT a,d1,↓p0,a1,↓s1,↓p1]
        rw[F,e']
      · have hby:By B v (nI o):=by
          have:=O.src;unfold By;rw[nl];exact this
        have gv:=hV T hby (ES.cpO O) ha (by omega);have ts:=λJ=>kj (E:=E) hby ha J;rw[Wh o hd];cases hval:CR o with
        | true=>
          rw[hval]at gv;refine⟨i+1,B,?_,r1,F1⟩;have F:∀K R,KH E D W K R b 0 v U=some (.tup [.int .i64 (AA 7),.str (BO o)],B):=by
            intro K R;unfold KH;simp only[↓rP,rA,AE,AF,AD,↓AT a,d1,↓p0,a1,↓s1,↓p1,decide_eq_false hd,↓gv,↓ts]
          exact F _ _
        | false=>
          rw[hval]at gv;refine⟨i+1,B,?_,r1,F1⟩;have F:∀K R,KH E D W K R b 0 v U=some (.tup [.int .i64 (AA 0),.str (BS.mk 0 0)],B):=by
            intro K R;unfold KH;simp only[↓rP,rA,AE,AF,AD,↓AT a,d1,↓p0,a1,↓s1,↓p1,decide_eq_false hd,↓gv]
          rw[F];show _=some (V.tup [.int .i64 (AA 0),.str (BO [])],B);rw[GA]
    · obtain⟨Q,U',e',r',f'⟩:=push c i r U (h.t5.r.bd c (As ..)) h hu f hv (AL _) (Sz o c S)
      refine⟨Q,U',?_,r',f'⟩;have F:∀K R,KH E D W K R b 0 v U=R b 0 v U:=by
        intro K R;unfold KH;simp only[↓rP,rA,AE,AF,AD,↓AT a,d1,↓p0,decide_eq_false S]
      rw[F,e']
theorem ko(B:MY (D 51))(C:qP E (D 78))(R:10000<N):Vw E (λr=>∃q,r=34::q) OL (F58 E D W N):=by
 intro U b i s r h L I u;obtain⟨q,rfl⟩:=u;have a:=h.at_;have O:=h.t5.le;have l:=h.t5.len;have y:=h.t5.few;simp only[AK]at l;have w:=h.lt;have P:BP .i64 (AA i) (AA 1)=AA (i+1):=BB (by omega);obtain⟨o,z,A,f1⟩:=h.adv (k:=1) (by simp);have v:=L.fr f1 (λc h=>by omega);obtain⟨G,U',M,J,F⟩:=AGy B C I w N q [] (i+1) .nils o (by omega) (by simp only[Aa];omega) (λ_ h=>by cases h) A v f1 (ES.nil o 1) (λ_ h=>h.elim);refine⟨G,U',?_,J,F⟩;show eP E D W (SI E D W N N) b 0 U=_;have t:∀K,eP E D W K b 0 U=K b 0 .nils o:=by
  intro K;unfold eP;simp only[↓rP,rA,AE,AF,AD,↓AT a,P,↓z]
 rw[t];exact M
theorem xw (hP:MY (D 51)) (hL:PO (D 53)) (hD:Mh (D 55)) (hNm:MX (fun r=>∃c l,r=c::l/\Em c=true) (fun r=>NU (r.headD 0) (r.drop 1)) (D 54))
    (hNu:MX (λr=>(∃c l,r=c::l/\Ai c=true)\/∃l,r=45::l/\Ai (l.headD 0)=true) Kw (D 56)) (hH:MX (λr=>∃l,r=39::l) Kx (D 57)) (hT:Vw E (λr=>∃q,r=34::q) OL (D 58)) (hS:MX (λ_=>True) Ql (D 59)) :
    Vw E (λr=>r≠[]) Hc (F25 E D W N):=by
  intro U b i s r h hu hb hok;obtain⟨c,r,rfl⟩:∃c l,r=c::l:=by
    cases r with
    | nil=>exact absurd rfl hok | cons c l=>exact⟨c,l,rfl⟩
  have p0:=hP 0 h (by decide);have p0:D 51 [.ptr b 0,.int .i64 (AA 0)] U=some (.int .u8 (AA c),U):=p0;have p1:=hP 1 h (by decide);rw[show (c::r).getD 1 0=r.headD 0 from Ic r]at p1;have g1:=hL U c;have g2:=hD U c;have g3:=hD U (r.headD 0);unfold k8 at *;show ∃o U',Rq E D W b 0 U=_/\_;unfold Hc;show ∃o U',Rq E D W b 0 U=some (k8 (if Em c=true then NU c r else if(Ai c || (decide (c=45)&&Ai (r.headD 0)))=true then Kw (c::r)else if c=39 then Kx (c::r)else if c=34 then OL (c::r)else Ql (c::r)),U')/\Rd U' b s o (if Em c=true then NU c r else if(Ai c || (decide (c=45)&&Ai (r.headD 0)))=true then Kw (c::r)else if c=39 then Kx (c::r)else if c=34 then OL (c::r)else Ql (c::r)).2.2/\_;unfold k8;by_cases B:Em c=true
  · rw[if_pos B]
    rw[B]at g1;obtain⟨o,U',n,y,x⟩:=hNm h ⟨c,r,rfl,B⟩;have n:D 54 [.ptr b 0] U=some (.tup [.int .i64 (AA (NU c r).1),.str (BO (NU c r).2.1)],U'):=n
    refine⟨o,U',?_,y,x⟩
    unfold Rq
    simp only[↓rP,rA,AE,AF,AD,↓p0,↓g1,↓n]
  · rw[if_neg B]
    rw[HR]at B
    rw[B]at g1
    by_cases m:(Ai c || (decide (c=45)&&Ai (r.headD 0)))=true
    · rw[if_pos m]
      obtain⟨o,U',n,y,x⟩:=hNu h (by
        rw[B5,AI,decide_eq_true_eq]at m
        rcases m with m|⟨rfl,m⟩
        · exact .inl ⟨c,r,rfl,m⟩
        · exact .inr ⟨r,rfl,m⟩)
      have n:D 56 [.ptr b 0] U=some (.tup [.int .i64 (AA (Kw (c::r)).1),.str (BO (Kw (c::r)).2.1)],U'):=n
      refine⟨o,U',?_,y,x⟩
      unfold Rq
      cases h1:Ai c<;>cases h2:decide (c=45)<;>cases h3:Ai (r.headD 0)<;>rw[h1,h2,h3]at m<;>rw[h1]at g2<;>rw[h3]at g3 <;>
        first
        | (cases m;done)
        | simp only[↓rP,rA,AE,AF,AD,↓p0,↓g1,↓g2,h2,↓p1,↓g3,↓n]
    · rw[if_neg m]
      rw[HR]at m
      have Y0:∀(v:V) (U':H),(∀K:V->H->AH,True)->AG (decide (c=39)) (D 57 [.ptr b 0] U) (AG (decide (c=34)) (D 58 [.ptr b 0] U) (D 59 [.ptr b 0] U))=some (v,U')->(∃k w,v = .tup [.int .i64 k,.str w])->Rq E D W b 0 U=some (v,U'):=by
        rintro v U' _ hv ⟨k,w,rfl⟩
        unfold Rq
        cases h1:Ai c<;>cases h2:decide (c=45)<;>cases h3:Ai (r.headD 0)<;>rw[h1,h2,h3]at m<;>rw[h1]at g2<;>rw[h3]at g3 <;>
          first
          | (cases m;done)
          | (cases h4:decide (c=39)<;>cases h5:decide (c=34)<;>rw[h4,h5]at hv<;>simp only[CC,Bx]at hv <;>
             simp only[↓rP,rA,AE,AF,AD,↓p0,↓g1,↓g2,h2,↓p1,↓g3,h4,h5,↓hv])
      by_cases A:c=39
      · rw[if_pos A]
        obtain⟨o,U',n,y,x⟩:=hH h ⟨r,by rw[A]⟩
        exact⟨o,U',Y0 _ _ (λ_=>trivial) (by rw[decide_eq_true A,CC];exact n) ⟨_,_,rfl⟩,y,x⟩
      · rw[if_neg A]
        by_cases c4:c=34
        · rw[if_pos c4]
          obtain⟨o,U',n,y,x⟩:=hT h hu hb ⟨r,by rw[c4]⟩
          exact⟨o,U',Y0 _ _ (λ_=>trivial) (by rw[decide_eq_false A,Bx,decide_eq_true c4,CC];exact n) ⟨_,_,rfl⟩,y,x⟩
        · rw[if_neg c4]
          obtain⟨o,U',n,y,x⟩:=hS h trivial
          exact⟨o,U',Y0 _ _ (λ_=>trivial) (by rw[decide_eq_false A,Bx,decide_eq_false c4,Bx];exact n) ⟨_,_,rfl⟩,y,x⟩
end
def HA(M len:Nat):Nat->List Nat->Except Nat (List Ad)
 | 0,_ => .error 0
 | _+1,[] => .ok [(0,[],len)]
 | k+1,c::r=>match (Hc (c::r)).1 with
  | 0 => .error (len-(r.length+1))
  | a+1=>match HA M len k (HS M (Hc (c::r)).2.2)with
   | .ok ts => .ok ((a+1,(Hc (c::r)).2.1,len-(r.length+1))::ts)
   | .error e => .error e
def IK(M:Nat)(s:BS):Except (Nat × Nat) (List Ad):=match decide (8000<s.len)with
 | true => .error (0,5)
 | false=>match HA M s.len (s.len+1) (HS M s.nats)with
  | .ok ts => .ok ts
  | .error p => .error (p,6)
theorem Qu c r:(NU c r).2.2=(c::r).drop (Fm (c::r)):=by
 unfold NU;cases Ma ((c::r).take (Fm (c::r)))<;>rfl
theorem NQ:∀b (r:List Nat) (p:List Nat × List Nat),D1 b r=some p->p.2.length<=r.length
 | false,[],p,h=>by cases h
 | true,[],p,h=>by cases h;exact AL _
 | false,c::r,p,h=>by
  have h:(match decide (c=34)with | true=>D1 true r | false=>(D1 false r).map λp=>(c::p.1,p.2))=some p:=h;cases g:decide (c=34)with
  | true=>rw[g]at h;exact Ij (NQ true r p h) | false=>
   rw[g]at h;cases e:D1 false r with
   | none=>rw[e]at h;cases h | some q=>
    rw[e]at h;cases h;exact Ij (NQ false r q e)
 | true,c::r,p,h=>by
  have h:(match decide (c=34)with | true=>(D1 false r).map λp=>(34::p.1,p.2) | false=>some ([],c::r))=some p:=h;cases g:decide (c=34)with
  | false=>rw[g]at h;cases h;exact AL _ | true=>
   rw[g]at h;cases e:D1 false r with
   | none=>rw[e]at h;cases h | some q=>
    rw[e]at h;cases h;exact Ij (NQ false r q e)
theorem vP(r:List Nat):(GF [] r).2.2.length<=r.length:=by
 unfold GF;cases d:quo r with
 | none=>exact BF _ | some p=>
  have:=NQ false r p d;show (match CR ([]++p.1)with | true=>(7,[]++p.1,p.2) | false=>(0,[],p.2):Sg).2.2.length<=_;cases CR ([]++p.1)<;>exact this
theorem Up{c}{r:List Nat}(h:(Hc (c::r)).1≠0):(Hc (c::r)).2.2.length<(c::r).length:=by
 unfold Hc at h ⊢;show (if Em c=true then NU c r else if(Ai c || (decide (c=45)&&Ai (r.headD 0)))=true then Kw (c::r)else if c=39 then Kx (c::r)else if c=34 then OL (c::r)else Ql (c::r)).2.2.length<_;have h:(if Em c=true then NU c r else if(Ai c || (decide (c=45)&&Ai (r.headD 0)))=true then Kw (c::r)else if c=39 then Kx (c::r)else if c=34 then OL (c::r)else Ql (c::r)).1≠0:=h;by_cases s:Em c=true
 ·rw[if_pos s,Qu,AQ]
  have x:OT c r=true:=by unfold OT;rw[s];rfl
  have:1<=Fm (c::r):=by unfold Fm;rw[x];exact Ih _
  simp only[AK];omega
 ·rw[if_neg s]at h ⊢
  by_cases m:(Ai c || (decide (c=45)&&Ai (r.headD 0)))=true
  ·rw[if_pos m]
   have p:∀q:List Nat,(if EU (decide (c=45)) (q.take (Al Ai q)) ((q.drop (Al Ai q)).headD 0)=true then((3,De (decide (c=45)) (q.take (Al Ai q)),q.drop (Al Ai q)):Sg)else(0,[],q.drop (Al Ai q))).2.2=q.drop (Al Ai q):=λq=>by split<;>rfl
   have e:(Kw (c::r)).2.2=(if decide (c=45)=true then r else c::r).drop (Al Ai (if decide (c=45)=true then r else c::r)):=p _;rw[e,AQ];by_cases k:c=45
   ·rw[decide_eq_true k,if_pos rfl]
    simp only[AK];omega
   ·rw[decide_eq_false k,if_neg (by decide)]
    rw[decide_eq_false k,BY,EW]at m;rw[ED,m];show (c::r).length-(Al Ai r+1)<_;simp only[AK];omega
  ·rw[if_neg m]at h ⊢
   by_cases v:c=39
   ·rw[if_pos v]at h ⊢
    have e:(Kx (c::r)).2.2.length<=r.length:=by
     unfold Kx;simp only[Gy,Dv];split
     ·simp only[AQ];omega
     ·simp only[AQ];omega
    simp only[AK];omega
   ·rw[if_neg v]at h ⊢
    by_cases w:c=34
    ·rw[if_pos w]at h ⊢
     have:=vP r;show (GF [] r).2.2.length<_;simp only[AK];omega
    ·rw[if_neg w]at h ⊢
     unfold Ql at h ⊢;cases y:IY Cp (c::r)with
     | zero=>rw[y]at h;exact absurd rfl h | succ n=>
      simp only[AQ,AK];omega
inductive jj(len:Nat):List Ad->Prop
 | fin:jj len [(0,[],len)]
 | cons {t:Ad}{ts:List Ad}:t.1≠0->jj len ts->jj len (t::ts)
theorem cq{M len}:∀k r (ts:List Ad),HA M len k r = .ok ts->jj len ts/\ts.length<=k
 | 0,r,ts,h=>by cases h
 | k+1,[],ts,h=>by cases h;exact⟨.fin,by simp⟩
 | k+1,c::r,ts,h=>by
  unfold HA at h;cases q:(Hc (c::r)).1 with
  | zero=>rw[q]at h;cases h | succ u=>
   rw[q]at h;cases l:HA M len k (HS M (Hc (c::r)).2.2)with
   | error e=>simp only[l]at h;cases h | ok n=>
    simp only[l]at h;cases h;obtain⟨t,v⟩:=cq k _ n l;exact⟨.cons (Df _) t,by simp only[AK];omega⟩
def N8(E:EB)(M:Nat)(F:List V->H->AH):Prop:=∀(U:H) s,CI U->KF E U ->
 match IK M s with
 | .ok ts=>∃v U',F [.str s] U=some (.tup [v,.int .i64 (AA 0),.int .i64 (AA 0)],U')/\ES U' 3 ts.length v (Dq ts)/\(∀b,AS v b->U.next<=b)/\Fr Af U U'
 | .error e=>∃U',F [.str s] U=some (.tup [.nils,.int .i64 (AA e.1),.int .i64 (AA e.2)],U')/\Fr Af U U'
section
variable {E:EB}{D:Am}{W:AJ}{N:Nat}
theorem AHn(hK:qV N (D 24))(hT:Vw E (λr=>r≠[]) Hc (D 25)){b}{s:BS}(hs:s.len<=8000){O:H}(h0:100<=O.next)(hb:O.next<=b):∀(k:Nat) (r:List Nat),r.length<k->∀(n i:Nat) (o:List Ad) (v:V) (U:H),r.length<n->o.length+r.length<=8500->Rd U b s i r->KF E U->Fr Af O U->ES U 3 o.length v (Dq o)->(∀c,AS v c->O.next<=c/\c≠b) ->
  match HA N s.len k r with
  | .ok ts=>∃u U',YJ E D W N n s b 0 v U=some (.tup [u,.int .i64 (AA 0),.int .i64 (AA 0)],U')/\ES U' 3 (o++ts).length u (Dq (o++ts))/\(∀c,AS u c->O.next<=c)/\Fr Af O U' | .error p=>∃U',YJ E D W N n s b 0 v U=some (.tup [.nils,.int .i64 (AA p),.int .i64 (AA 6)],U')/\Fr Af O U':=by
 have ac:∀k,k<=9001->CX k 32=true:=λk hk=>by unfold CX;simp only[AI,Ag];omega
 have X:∀(t:Ad) (o:List Ad) (v:V) (U:H),o.length+1<=9001->Fr Af O U->b<U.next->ES U 3 o.length v (Dq o)->(∀c,AS v c->O.next<=c/\c≠b) ->
   ∃u F S,B9 U (.cells [.int .i64 (AA t.1),.str (BO t.2.1),.int .i64 (AA t.2.2)])=F/\(∀J:V->H->AH,Gv E 3 32 v (.sl U.next 0 1 (.ex 1)) F J=J u S)/\ES S 3 (o++[t]).length u (Dq (o++[t]))/\(∀c,AS u c->O.next<=c/\c≠b)/\Fr Af O S/\Fr (λc=>c≠b/\100<=c) U S:=by
  intro t o v U ha f hlt hv hn;obtain⟨F,L,f1,a1,n1⟩:=Ia f.tidy [.int .i64 (AA t.1),.str (BO t.2.1),.int .i64 (AA t.2.2)];have xs:D0 F 3 1 (V.sl U.next 0 1 (.ex 1)) [.int .i64 (AA t.1),.str (BO t.2.1),.int .i64 (AA t.2.2)] := .inr ⟨_,_,_,_,rfl,a1,AL _,rfl⟩;obtain⟨u,S,g,d,nm,f2⟩:=Fa (hv.fr f1 f.tidy (λ_ _ h=>h)) f1.tidy xs rfl (ac _ ha);have l1:=f1.le;have l0:=f.le;refine⟨u,F,S,L,g,?_,λc P=>(nm c P).elim (hn c) (λh=>⟨by omega,by omega⟩),(f.trans f1 (λ_ _ h=>h)).trans f2 λc P h=>by have:=(hn c h).1;omega,(f1.mono (λ_ _ h=>h.elim):Fr (λc=>c≠b/\100<=c) U F).trans f2 λc P h=>by have:=hn c h;exact⟨this.2,by omega⟩⟩;rw[O4,AY];exact d
 intro k;induction k with
 | zero=>intro r h;omega | succ k ih=>
  intro r hk n i o v U hn ha h hu f hv aa;obtain⟨n,rfl⟩:∃j,n=j+1:=⟨n-1,by omega⟩;have a:=h.at_;cases r with
  | nil=>
   have hi:=h.t5.nil;obtain⟨u,F,S,L,g,d,nm,f2,_⟩:=X (0,[],s.len) o v U (by omega) f h.lt hv aa;show ∃u U',_;refine⟨u,S,?_,d,λc P=>(nm c P).1,f2⟩;have e1':B9 U (.cells [.int .i64 (AA 0),.str (BS.mk 0 0),.int .i64 (AA s.len)])=F:=by rw[<-GA];exact L
   have d1:decide (i<s.len)=false:=decide_eq_false (by omega);show N7 E D W (se E D W N) _ s b 0 v U=_;have M:∀K R,N7 E D W K R s b 0 v U=K s v U:=by
    intro K R;unfold N7;simp only[↓rP,rA,AE,AF,AD,↓AT a,d1]
   rw[M];show qN E D W s v U=_;unfold qN;simp only[↓rP,rA,AE,AF,AD,↓e1',↓g,↓Ec d.one]
  | cons c r=>
   have ab:=h.t5.len;simp only[AK]at hk hn ha ab;have d1:decide (i<s.len)=true:=decide_eq_true h.t5.lt;have hbn:100<=b:=by omega
   have hlt:=h.lt;obtain⟨i1,F,L,r1,f1⟩:=hT h hu hbn (by simp);have eat:s.len-(r.length+1)=i:=by omega
   have F1:=f.trans f1 (λc P e=>by omega);have hu1:=hu.fr f1 (λc e=>by omega);have G:=@Up c r;unfold HA;rw[eat];cases Y:(Hc (c::r)).1 with
   | zero=>
    show ∃U',_;refine⟨F,?_,F1⟩;have L:D 25 [.ptr b 0] U=some (.tup [.int .i64 (AA (Hc (c::r)).1),.str (BO (Hc (c::r)).2.1)],F):=L;rw[Y]at L;show N7 E D W (se E D W N) _ s b 0 v U=_;have M:∀K R,N7 E D W K R s b 0 v U=some (.tup [.nils,.int .i64 (AA i),.int .i64 (AA 6)],F):=by
     intro K R;unfold N7;simp only[↓rP,rA,AE,AF,AD,↓AT a,d1,↓L]
    exact M _ _
   | succ kd=>
    have L:D 25 [.ptr b 0] U=some (.tup [.int .i64 (AA (Hc (c::r)).1),.str (BO (Hc (c::r)).2.1)],F):=L;rw[Y]at L;have G:=G (by rw[Y];exact Df _);simp only[AK]at G;generalize hq:(Hc (c::r)).2.2=q at r1 G;generalize hw:(Hc (c::r)).2.1=w at L;have hv1:ES F 3 o.length v (Dq o):=hv.fr f1 h.ht (λc P e=>(aa c P).2 e);obtain⟨u,S,U3,e2,g,d,nm,f3,f13⟩:=X (kd+1,w,i) o v F (by omega) F1 (Cj hlt f1.le) hv1 aa;have r3:Rd U3 b s i1 q:=r1.fr f13 (λe=>e.1 rfl);have hu3:=hu1.fr f13 (λc e=>e.2);obtain⟨i4,U4,g4,r4,f4⟩:=hK r3;have F4:=f3.trans f4 (λc P e=>by omega);have hu4:=hu3.fr f4 (λc e=>by omega);have hwl:=G1 N q;have IH:=ih (HS N q) (by omega) n i4 (o++[(kd+1,w,i)]) u U4 (by omega) (by rw[AY,AK,Aa];omega) r4 hu4 F4 (d.fr f4 f3.tidy (λc P e=>(nm c P).2 e)) nm;have M:∀K R,N7 E D W K R s b 0 v U=R s b 0 u U4:=by
     intro K R;have e2':B9 F (.cells [.int .i64 (AA (kd+1)),.str (BO w),.int .i64 (AA i)])=S:=e2;unfold N7;simp only[↓rP,rA,AE,AF,AD,↓AT a,d1,↓L,decide_eq_false (Df kd),↓e2',↓g,↓Ec d.one,↓g4]
    simp only[];cases hl:HA N s.len k (HS N q)with
    | error p=>
     rw[hl]at IH;obtain⟨U',e',f'⟩:=IH;exact⟨U',(M _ _).trans e',f'⟩
    | ok ts=>
     rw[hl]at IH;obtain⟨u',U',e',d',nm',f'⟩:=IH;rw[CK]at d';exact⟨u',U',(M _ _).trans e',d',nm',f'⟩
theorem yS(y:qV N (D 24))(X:Vw E (λr=>r≠[]) Hc (D 25))(Z:10000<N):N8 E N (F10 E D W N):=by
 intro U s C F;unfold IK;cases o:decide (8000<s.len)with
 | true=>
  show ∃U',_;refine⟨U,?_,Fr.refl C⟩;show Ta E D W (YJ E D W N N) s U=_;have k:∀K,Ta E D W K s U=some (.tup [.nils,.int .i64 (AA 0),.int .i64 (AA 5)],U):=by
   intro K;unfold Ta;simp only[↓rP,rA,AE,AF,AD,o]
  exact k _
 | false=>
  have I:s.len<=8000:=by have:=of_decide_eq_false o;omega
  obtain⟨L,S,f1,M,n1⟩:=Ia C [.str s,.int .i64 (AA 0)];have rd:Rd L U.next s 0 s.nats:=⟨M,⟨OM.start s,by omega⟩,f1.tidy⟩;obtain⟨O,w,Q,R,z⟩:=y rd;have P:=F.n;have v:=(F.fr f1 (λ_ h=>h.elim)).fr z (λc e=>by omega);have T:=f1.trans z (λc hc e=>by omega);have Y:=G1 N s.nats;rw[BS.length_nats]at Y;have n:=AHn (W:=W) y X I P (AL _) (s.len+1) (HS N s.nats) (by omega) N O [] .nils w (by omega) (by simp only[Aa];omega) R v T (ES.nil w 3) (λ_ h=>h.elim);have k:∀K,Ta E D W K s U=K s U.next 0 .nils w:=by
   intro K;unfold Ta OU;simp only[↓rP,rA,AE,AF,AD,o,↓S,↓Q]
  simp only[];cases B:HA N s.len (s.len+1) (HS N s.nats)with
  | error p=>
   rw[B]at n;obtain⟨U',q,x⟩:=n;exact⟨U',(k _).trans q,x⟩
  | ok ts=>
   rw[B]at n;obtain⟨G,U',q,J,u,x⟩:=n;exact⟨G,U',(k _).trans q,J,u,x⟩
end
def fu:Nat:=Classical.choose (⟨9001,rfl⟩:∃n,n=9001)
theorem Nk:fu=9001:=Classical.choose_spec (⟨9001,rfl⟩:∃n,n=9001)
abbrev Er:=Nat × Nat
def EJ(er:Er)(a e:Nat):Er:=if er.2=0 then(a,e)else er
def Bu(t:Ad):List V:=[.int .i64 (AA t.1),.str (BO t.2.1),.int .i64 (AA t.2.2)]
def BJ:List Ad->Ad
 | t::_=>t
 | []=>(0,[],0)
def Fh:List Ad->List Ad
 | _::a::l=>a::l
 | l=>l
def FE(s:BS)(l:List Ad):Bool:=(decide ((BJ l).1=5) || decide ((BJ l).1=6))&&(BO (BJ l).2.1).beq s
def CP(s:BS)(l:List Ad):Bool × List Ad:=match FE s l with
 | true=>(true,Fh l)
 | false=>(false,l)
def Ao:List BS->List Ad->Er->Bool × List Ad × Er
 | [],l,er=>(true,l,er)
 | s::a,l,er=>match FE s l with
  | true=>Ao a (Fh l) er
  | false=>(false,l,EJ er (BJ l).2.2 7)
def Jk(k:Nat)(l:List Ad)(er:Er):Bool × List Ad × Er:=match decide ((BJ l).1=k)with
 | true=>(true,Fh l,er)
 | false=>(false,l,EJ er (BJ l).2.2 7)
def Pt(w:List Nat):Int:=match w with
 | []=>0
 | c::a=>match decide (c=45)with
  | true=>-(C4 0 a:Int)
  | false=>((C4 0 (c::a):Nat):Int)
structure Rp where
 nm:BS
 tg:Int
 nv:V
 tv:V
 dv:V
 er:Er
def II(b:V)(a:Nat)(R:Rp):List V:=[b,.int .i64 (AA a),.str R.nm,.int .i64 R.tg,R.nv,R.tv,R.dv,.int .i64 (AA R.er.1),.int .i64 (AA R.er.2)]
structure TsX(ts:List Ad):Prop where
 few:ts.length<=9000
 fin:∃p e,ts=p++[e]/\e.1=0/\∀t∈p,t.1≠0
 nums:∀t∈ts,t.1=3->∃m ds,t.2.1=De m ds/\(∀d∈ds,Ai d=true)/\ds≠[]/\C4 0 ds<=Jc m
 at_:∀t∈ts,t.2.2<=10000
 oct:∀t∈ts,t.2.1.length<=10000/\∀c∈t.2.1,c<256
 hexs:∀t∈ts,t.1=4->∀c∈t.2.1,Bk c=true
structure Ps(U:H)(pb:Nat)(lv:V)(ts l:List Ad)(R:Rp):Prop where
 ex:∃a,DQ U pb (II lv a R)/\ts.drop a=l
 src:D0 U 3 ts.length lv (Dq ts)
 ne:l≠[]
 nx:∀b,AS lv b->b≠pb
 ok:TsX ts
 ht:CI U
def Rp.e(R:Rp)(er:Er):Rp:=⟨R.nm,R.tg,R.nv,R.tv,R.dv,er⟩
section
variable {U U':H}{pb:Nat}{lv:V}{ts l:List Ad}{R:Rp}{t:Ad}
theorem Ps.fr{S}(h:Ps U pb lv ts l R)(f:Fr S U U')(k:¬S pb)(j:∀b,AS lv b->¬S b):Ps U' pb lv ts l R:=by
 obtain⟨a,i,m⟩:=h.ex;exact⟨⟨a,f.at_ i h.ht k,m⟩,h.src.fr f h.ht j,h.ne,h.nx,h.ok,f.tidy⟩
theorem Ps.fr0(h:Ps U pb lv ts l R)(f:Fr Af U U'):Ps U' pb lv ts l R:=h.fr f (λh=>h) (λ_ _ h=>h)
theorem Ps.lt(h:Ps U pb lv ts l R):pb<U.next:=by
 obtain⟨a,e,_⟩:=h.ex;exact e.lt h.ht
theorem Ps.hd(h:Ps U pb lv ts l R):∃t b,l=t::b:=by
 cases l with
 | nil=>exact absurd rfl h.ne | cons t b=>exact⟨t,b,rfl⟩
theorem Ps.mem(h:Ps U pb lv ts l R):∀t∈l,t∈ts:=by
 obtain⟨a,_,f⟩:=h.ex;intro t e;rw[<-f]at e;exact Bq e
theorem Ps.few(h:Ps U pb lv ts l R):l.length<=9000:=by
 obtain⟨a,_,d⟩:=h.ex;have:=h.ok.few;rw[<-d,AQ];omega
theorem Nh(h:Ps U pb lv ts l R):BJ l∈ts:=by
 obtain⟨t,e,rfl⟩:=h.hd;exact h.mem t (As ..)
theorem Ps.end_iff(h:Ps U pb lv ts (t::l) R):t.1=0↔l=[]:=by
 obtain⟨a,_,j⟩:=h.ex;obtain⟨p,e,rfl,w,u⟩:=h.ok.fin;have g:=congrArg Du j;simp only[AQ,AY,AK,Aa]at g;constructor
 ·intro v
  by_cases m:a<p.length
  ·have s:(p++[e]).drop a=p.drop a++[e]:=GL (by omega)
   rw[s,EE m]at j;have x:=(List.cons.inj j).1;exact absurd v (x ▸ u _ (Z1 m))
  ·have:l.length=0:=by omega
   exact Bc this
 ·rintro rfl
  simp only[Aa]at g;have y:a=p.length:=by omega
  rw[y,AFd]at j;have:=(List.cons.inj j).1;rw[<-this];exact w
theorem Ps.adv(h:Ps U pb lv ts (t::l) R){a}(p:DQ U pb (II lv a R))(v:ts.drop a=t::l)(w:t.1≠0):
  ∃U',(∀J,Cg 1 pb 1 (.int .i64 (AA (a+1))) U J=J U')/\Ps U' pb lv ts (Fh (t::l)) R/\Fr (λk=>k=pb) U U':=by
 obtain⟨i,l,rfl⟩:∃i r,l=i::r:=by
  cases l with
  | nil=>exact absurd (h.end_iff.2 rfl) w | cons i l=>exact⟨i,l,rfl⟩
 obtain⟨U',e,f,s⟩:=yO h.ht p (II lv (a+1) R);refine⟨U',λJ=>?_,⟨⟨a+1,s,?_⟩,h.src.fr f h.ht λb u e=>h.nx b u e,by simp[Fh],h.nx,h.ok,f.tidy⟩,f⟩
 ·rw[LH p rfl]
  show J (Mq U pb (.cells (II lv (a+1) R)))=_;rw[e]
 ·rw[<-BU,v];rfl
end
theorem Un:∀ts i t,ts[i]? = some t->((Dq ts).drop (i*3)).take 3=Bu t
 | [],i,t,h=>by simp at h
 | u::ts,0,t,h=>by simp at h;subst h;rfl
 | u::ts,i+1,t,h=>by
  have:ts[i]? = some t:=by simpa using h
  show ((Bu u++Dq ts).drop ((i+1)*3)).take 3=_;rw[show (i+1)*3=3+i*3 by omega,<-BU,show (Bu u++Dq ts).drop 3=Dq ts from rfl];exact Un ts i t this
theorem Uo{E U n}{ts l:List Ad}{t a}(h:D0 U 3 ts.length n (Dq ts))(m:ts.drop a=t::l) J:Bl 3 n (AA a) (λb o=>Dt E U b o 3 J)=J (Bu t):=by
 have g:a<ts.length:=by
  have:=congrArg Du m;simp only[AQ,AK]at this;omega
 have p:ts[a]? = some t:=by
  have:=congrArg (λx=>x[0]?) m;simpa using this
 rcases h with ⟨u,_,_⟩|⟨b,o,c,L,rfl,q,s,r⟩
 ·omega
 ·rw[DG g]
  show Dt E U b (o+a*3) 3 J=_;rw[Ev q,P3 (by omega)];have:=Un ts a t p;rw[r,WQ,List.take_take,Gi (by omega),BU]at this;rw[this]
def C0(F:List V->H->AH):Prop:=∀{U a b ts l R},Ps U a b ts l R->F [.ptr a 0] U=some (.agg (Bu (BJ l)),U)
def FL(F:List V->H->AH):Prop:=∀{U a b ts l R},Ps U a b ts l R->∃U',F [.ptr a 0] U=some (.agg (Bu (BJ l)),U')/\Ps U' a b ts (Fh l) R/\Fr (λk=>k=a) U U'
def PL(F:List V->H->AH):Prop:=∀{U a b ts l R} s,Ps U a b ts l R->F [.ptr a 0,.str s] U=some (.bool (FE s l),U)
def Gr(F:List V->H->AH):Prop:=∀{U a b ts l R} s,Ps U a b ts l R->∃U',F [.ptr a 0,.str s] U=some (.bool (CP s l).1,U')/\Ps U' a b ts (CP s l).2 R/\Fr (λk=>k=a) U U'
def HH(F:List V->H->AH):Prop:=∀{U a b ts l}{R:Rp} p e,Ps U a b ts l R->∃U',F [.ptr a 0,.int .i64 (AA p),.int .i64 (AA e)] U=some (.bool false,U')/\Ps U' a b ts l (R.e (EJ R.er p e))/\Fr (λk=>k=a) U U'
def D6(F:List V->H->AH):Prop:=∀{U c d ts l}{R:Rp}{b} (a:List BS),Ps U c d ts l R->DQ U b (a.map .str)->b≠c->a.length<=10 ->
 ∃U',F [.ptr c 0,.sl b 0 a.length (.ex a.length)] U=some (.bool (Ao a l R.er).1,U')/\Ps U' c d ts (Ao a l R.er).2.1 (R.e (Ao a l R.er).2.2)/\Fr (λk=>k=c) U U'
def PN(F:List V->H->AH):Prop:=∀{U:H}{a c ts l}{R:Rp} k,Ps U a c ts l R->(∀b,AS c b->b<U.next) ->
 ∃U',F [.ptr a 0,.int .i64 (AA k)] U=some (.tup [.agg (Bu (BJ l)),.bool (Jk k l R.er).1],U')/\Ps U' a c ts (Jk k l R.er).2.1 (R.e (Jk k l R.er).2.2)/\Fr (λk=>k=a) U U'
section
variable {E:EB}{D:Am}{W:AJ}{N:Nat}
theorem cR:C0 (F29 E D W N):=by
 intro U j k ts l R h;obtain⟨t,l,rfl⟩:=h.hd;obtain⟨a,g,i⟩:=h.ex;have rd:=λJ=>Uo (E:=E) h.src i J;unfold Bu at rd;unfold II at g;show px E D W j 0 U=some (.agg (Bu t),U);unfold px Bu;simp only[↓rP,rA,AE,AF,AD,↓AT g,↓rd]
theorem ca:FL (F61 E D W N):=by
 intro U v x ts l R h;obtain⟨t,l,rfl⟩:=h.hd;obtain⟨a,m,q⟩:=h.ex;have rd:=λJ=>Uo (E:=E) h.src q J;have s:a+1<=ts.length:=by
  have:=congrArg Du q;simp only[AQ,AK]at this;omega
 have w:=h.ok.few;have u:BP .i64 (AA a) (AA 1)=AA (a+1):=BB (by omega);show ∃U',eE E D W (eD E D W) v 0 U=some (.agg (Bu t),U')/\_;by_cases n:t.1=0
 ·have:=h.end_iff.1 n
  subst this;refine⟨U,?_,h,Fr.refl h.ht⟩;unfold Bu at rd ⊢;unfold II at m;unfold eE eD;simp only[↓rP,rA,AE,AF,AD,↓AT m,↓rd,decide_eq_true n]
 ·obtain⟨U',g,p,f⟩:=h.adv m q n
  refine⟨U',?_,p,f⟩;unfold Bu at rd ⊢;unfold II at m;unfold eE eD;simp only[↓rP,rA,AE,AF,AD,↓AT m,↓rd,decide_eq_false n,u,↓g]
theorem Su(j:C0 (D 29)):PL (F28 E D W N):=by
 intro U i n ts l R s h;have g:=j h;unfold Bu at g;show qA E D W (.ptr i 0) s U=_;unfold qA FE;generalize BJ l=t at g ⊢;cases m:decide (t.1=5)<;>cases k:decide (t.1=6)<;>simp only[↓rP,rA,AE,AF,AD,↓g,m,k]<;>rfl
theorem yV(r:PL (D 28))(m:FL (D 61)):Gr (F62 E D W N):=by
 intro U o t ts l R s h;have g:=r s h;obtain⟨U',j,p,q⟩:=m h;unfold Bu at j;show ∃U',pO E D W (.ptr o 0) s U=_/\_;unfold pO CP;cases k:FE s l with
 | true=>
  rw[k]at g;refine⟨U',?_,p,q⟩;simp only[↓rP,rS,↓g,↓j]
 | false=>
  rw[k]at g;refine⟨U,?_,h,Fr.refl h.ht⟩;simp only[↓rP,rS,↓g]
theorem dE:HH (F60 E D W N):=by
 intro U k r ts l R p e h;obtain⟨a,i,z⟩:=h.ex;show ∃U',eI E D W (eH E D W) k 0 (AA p) (AA e) U=_/\_;unfold EJ;by_cases q:R.er.2=0
 ·obtain⟨t,A,f1,u⟩:=yO h.ht i [r,.int .i64 (AA a),.str R.nm,.int .i64 R.tg,R.nv,R.tv,R.dv,.int .i64 (AA p),.int .i64 (AA R.er.2)]
  obtain⟨v,x,B,C⟩:=yO f1.tidy u [r,.int .i64 (AA a),.str R.nm,.int .i64 R.tg,R.nv,R.tv,R.dv,.int .i64 (AA p),.int .i64 (AA e)];have g:=f1.trans B (λ_ _ h=>h);rw[if_pos q];refine⟨v,?_,⟨⟨a,C,z⟩,h.src.fr g h.ht λb F e=>h.nx b F e,h.ne,h.nx,h.ok,g.tidy⟩,g⟩;have w:∀J,Cg 1 k 7 (.int .i64 (AA p)) U J=J t:=λJ=>by
   rw[LH i rfl];show J (Mq U k (.cells [r,.int .i64 (AA a),.str R.nm,.int .i64 R.tg,R.nv,R.tv,R.dv,.int .i64 (AA p),.int .i64 (AA R.er.2)]))=_;rw[A]
  have y:∀J,Cg 1 k 8 (.int .i64 (AA e)) t J=J v:=λJ=>by
   rw[LH u rfl];show J (Mq t k (.cells [r,.int .i64 (AA a),.str R.nm,.int .i64 R.tg,R.nv,R.tv,R.dv,.int .i64 (AA p),.int .i64 (AA e)]))=_;rw[x]
  unfold II at i;unfold eI eH;simp only[↓rP,rA,AE,AF,AD,↓AT i,decide_eq_true q,↓w,↓y]
 ·rw[if_neg q]
  refine⟨U,?_,h,Fr.refl h.ht⟩;unfold II at i;unfold eI eH;simp only[↓rP,rA,AE,AF,AD,↓AT i,decide_eq_false q]
theorem Z8(hI:Gr (D 62))(Y:C0 (D 29))(hF:HH (D 60)){m b n0:Nat}{P ts}{a:List BS}(Z:b≠m)(O:a.length<=10):∀(r:List BS) j n l (R:Rp) U,a.drop j=r->r.length<n->Ps U m P ts l R->DQ U b (a.map .str) ->
  ∃U',YH E D W N n m 0 (.sl b 0 a.length (.ex a.length)) (AA a.length) (AA j) U=some (.bool (Ao r l R.er).1,U')/\Ps U' m P ts (Ao r l R.er).2.1 (R.e (Ao r l R.er).2.2)/\Fr (λk=>k=m) U U'
 | [],j,n,l,R,U,B,X,h,M=>by
  obtain⟨n,rfl⟩:∃k,n=k+1:=⟨n-1,by omega⟩;have u:a.length<=j:=by
   have:=congrArg Du B;simp only[AQ,Aa]at this;omega
  refine⟨U,?_,h,Fr.refl h.ht⟩;show N5 E D W (sS E D W N) _ m 0 (.sl b 0 a.length (.ex a.length)) (AA a.length) (AA j) U=_;have q:∀K Q,N5 E D W K Q m 0 (.sl b 0 a.length (.ex a.length)) (AA a.length) (AA j) U=K U:=by
   intro K Q;unfold N5;simp only[↓rP,rA,AE,AF,AD,decide_eq_false (show ¬j<a.length by omega)]
  rw[q];rfl
 | s::r,j,n,l,R,U,B,X,h,M=>by
  obtain⟨n,rfl⟩:∃k,n=k+1:=⟨n-1,by omega⟩;have u:j<a.length:=by
   have:=congrArg Du B;simp only[AQ,AK]at this;omega
  have F:a[j]? = some s:=by
   have:=congrArg (λx:List BS=>x[0]?) B;simpa using this
  have I:a.drop (j+1)=r:=by rw[<-BU,B];rfl
  have rd:∀J,Bl 1 (.sl b 0 a.length (.ex a.length)) (AA j) (λb o=>Ee E U b o J)=J (.str s):=λJ=>by
   rw[DG u];refine MI M ?_;show (a.map V.str)[0+j*1]? = _;rw[BQ,DO,BR,F];rfl
  have aj:BP .i64 (AA j) (AA 1)=AA (j+1):=BB (by omega);have S:decide (j<a.length)=true:=decide_eq_true u;obtain⟨A,z,t,f1⟩:=hI s h;have C:=f1.at_ M h.ht Z;show ∃U',N5 E D W (sS E D W N) (YH E D W N n) m 0 (.sl b 0 a.length (.ex a.length)) (AA a.length) (AA j) U=_/\_;unfold Ao;unfold CP at z t;cases T:FE s l with
  | true=>
   rw[T]at z t;obtain⟨U2,w,p2,f2⟩:=Z8 hI Y hF (n0:=n0) Z O r (j+1) n (Fh l) R A I (by simp only[AK]at X;omega) t C;refine⟨U2,?_,p2,f1.trans f2 (λ_ _ h=>h)⟩;have q:∀K Q,N5 E D W K Q m 0 (.sl b 0 a.length (.ex a.length)) (AA a.length) (AA j) U=Q m 0 (.sl b 0 a.length (.ex a.length)) (AA a.length) (AA (j+1)) A:=by
    intro K Q;unfold N5;simp only[↓rP,rA,AE,AF,AD,S,↓rd,↓z,aj]
   rw[q];exact w
  | false=>
   rw[T]at z t;have w:=Y t;unfold Bu at w;have t:Ps A m P ts l R:=t;obtain⟨U3,g3,p3,f3⟩:=hF (BJ l).2.2 7 t;have w:D 29 [.ptr m 0] A=some (.agg [.int .i64 (AA (BJ l).1),.str (BO (BJ l).2.1),.int .i64 (AA (BJ l).2.2)],A):=w;refine⟨U3,?_,p3,f1.trans f3 (λ_ _ h=>h)⟩;have q:∀K Q,N5 E D W K Q m 0 (.sl b 0 a.length (.ex a.length)) (AA a.length) (AA j) U=some (.bool false,U3):=by
    intro K Q;unfold N5;simp only[↓rP,rA,AE,AF,AD,S,↓rd,↓z,↓w,↓g3]
   exact q _ _
theorem Z9(t:Gr (D 62))(s:C0 (D 29))(v:HH (D 60))(z:20<N):D6 (F27 E D W N):=by
 intro U n y ts l R b a h u w r;obtain⟨U',g,p,f⟩:=Z8 (n0:=0) t s v w r a 0 N l R U rfl (by omega) h u;refine⟨U',?_,p,f⟩;show fD E D W (YH E D W N N) n 0 (.sl b 0 a.length (.ex a.length)) U=_;have k:∀K,fD E D W K n 0 (.sl b 0 a.length (.ex a.length)) U=K n 0 (.sl b 0 a.length (.ex a.length)) (AA a.length) (AA 0) U:=by
  intro K;unfold fD;simp only[↓rP,rA,AE,AF,AD]
 rw[k];exact g
end
def tz3:List V:=[.int .i64 (AA 0),.str ⟨0,0⟩,.int .i64 (AA 0)]
def Fl(l:List Ad)(er:Er):Bool × Int × List Ad × Er:=match decide ((BJ l).1=3)with
 | true=>(true,Pt (BJ l).2.1,Fh l,er)
 | false=>(false,0,l,EJ er (BJ l).2.2 7)
theorem cW{m b}(g:∀d∈b,Ai d=true)(i:b≠[]):Pt (De m b)=if m=true then -(C4 0 b:Int)else(C4 0 b:Int):=by
 obtain⟨d,l,rfl⟩:∃d l,b=d::l:=by
  cases b with
  | nil=>exact absurd rfl i | cons d l=>exact⟨d,l,rfl⟩
 have j:=GW (g d (As ..));cases m with
 | false=>
  show (match decide (d=45)with | true=>_ | false=>_:Int)=_;rw[decide_eq_false (show ¬d=45 by omega)];rfl
 | true=>rfl
def Kj(F:List V->H->AH):Prop:=∀{U a b ts l}{R:Rp},Ps U a b ts l R ->
 ∃U',F [.ptr a 0] U=some (.tup [.int .i64 (Fl l R.er).2.1,.agg (Bu (BJ l)),.bool (Fl l R.er).1],U')/\Ps U' a b ts (Fl l R.er).2.2.1 (R.e (Fl l R.er).2.2.2)/\Fr (λk=>k=a) U U'
section
variable {E:EB}{D:Am}{W:AJ}{N:Nat}
theorem wT t:V.beq (.agg (Bu t)) (.agg (Bu t))=true:=by
 unfold Bu;exact Bz _ rfl
theorem yM(hP:C0 (D 29))(hX:FL (D 61))(hF:HH (D 60)):PN (F26 E D (AZ E D) N):=by
 intro U i lv ts l R k h _;obtain⟨t,e1,f1,a1,n1⟩:=Ia h.ht tz3;have p1:=h.fr0 f1;have K:=hP p1;obtain⟨U2,e2,f2,a2,n2⟩:=Ia f1.tidy tz3;obtain⟨U3,e3,f3,w⟩:=yO f2.tidy a2 (Bu (BJ l));have q:=f2.trans f3 (λb o e=>by omega);have f:=f1.trans q (λ_ _ h=>h);have p3:=h.fr0 f;have l1:=f1.le;have l13:=q.le;have hpl:=h.lt;have F:∀b,AS lv b->b<U.next:=λb o=>D0.lt h.src h.ht o;have z:=q.at_ a1 f1.tidy (λh=>h);unfold tz3 at e1 e2;have I:∀J,Cg 3 t.next 0 (.agg (Bu (BJ l))) U2 J=J U3:=λJ=>by
  rw[LH a2 rfl];show J (Mq U2 t.next (.cells (Bu (BJ l))))=_;rw[e3]
 unfold Jk;by_cases M:(BJ l).1=k
 ·rw[decide_eq_true M]
  obtain⟨U4,L,p4,r⟩:=hX p3;have G:=r.at_ z f.tidy (by omega);obtain⟨j,e5,A,C⟩:=yO r.tidy G (Bu (BJ l));have s5:∀J,Cg 3 U.next 0 (.agg (Bu (BJ l))) U4 J=J j:=λJ=>by
   rw[LH G rfl];show J (Mq U4 U.next (.cells (Bu (BJ l))))=_;rw[e5]
  have B:∀J,Dt E j U.next 0 3 J=J (Bu (BJ l)):=λJ=>(Ev C).trans rfl;refine⟨j,?_,p4.fr A (by omega) (λb o e=>by have:=F b o;omega),((f.mono (λ_ _ h=>h.elim):Fr (λk=>k=i) U U3).trans r (λ_ _ h=>h)).trans A (λb o e=>by omega)⟩;unfold Bu at K I w L s5 B;show Xq E D (AZ E D) i 0 (AA k) U=_;unfold Xq Bu;simp only[↓rP,rA,AE,AF,AD,↓e1,↓K,↓e2,↓I,↓AT w,decide_eq_true M,↓L,↓s5,↓B]
 ·rw[decide_eq_false M]
  have Q:Fr Af U3 ⟨U3.next+7,U3.bl⟩:=(Cn (E:=E) f.tidy).fr;have pw:=p3.fr0 Q;obtain⟨U4,L,p4,r⟩:=hF (BJ l).2.2 7 pw;have G:DQ U4 U.next tz3:=r.at_ (Q.at_ z f.tidy (λh=>h)) Q.tidy (by omega);obtain⟨j,g5,A,C⟩:=Fj (E:=E) (D:=D) (n:=3) (x := .tmp 4) (y := .tmp 15) (e:=[(15,.agg (Bu (BJ l))),(4,.ptr U.next 0)]) r.tidy G rfl rfl rfl;have go:ID E D U3 7 0 (λb=>b=i\/b=U.next) Tz YR ⟨[(0,.ptr i 0),(4,.ptr U.next 0),(6,.ptr t.next 0)],U3.next+7,[U3.bl],[],0,[]⟩ _ j:=
   RA (.agg (Bu (BJ l))) (Cn f.tidy) rfl (KV rfl w rfl rfl f.tidy (by omega) (wT _)) λ_ r1=>
   EI (.ptr i 0) rfl rfl <|
   EI (.ptr t.next 2) rfl rfl <|
   RA (.int .i64 (AA (BJ l).2.2)) r1 rfl (FG (off:=2) rfl w rfl f.tidy (by omega) (Bz _ rfl)) λ_ r2=>
   OZ (.bool false) r2 rfl (by decide) (S':=λk=>k=i) r (λ_ _ h => .inl h) (λb e h1 _=>by omega) (dH (vs:=[.ptr i 0,.int .i64 (AA (BJ l).2.2),.int .i64 (AA 7)]) rfl rfl L) λ_ _ _ r3=>
   OZ .dead r3 rfl (by decide) (S':=λb=>b=U.next) A (λ_ _ h => .inr h) (λb e h1 _=>by omega) g5 λ_ _ _ r4=>
   EI (.bool false) rfl rfl <|
   Li r4
  obtain⟨P,d2⟩:=JP (ops:=Tz) go;have C:DQ j U.next (Bu (BJ l)):=C;obtain⟨s,P,q4,q5⟩:∃s,AZ E D Tz YR [(0,.ptr i 0),(4,.ptr U.next 0),(6,.ptr t.next 0)] U3=some (s,j)/\Go.Og.look s 4=some (.ptr U.next 0)/\Go.Og.look s 5=some (.bool false):=⟨_,P,rfl,rfl⟩;have gd:∀J:Cb->H->AH,DZ (AZ E D Tz YR [(0,.ptr i 0),(4,.ptr U.next 0),(6,.ptr t.next 0)] U3) J=J s j:=λJ=>by rw[P];rfl
  have k4:∀J:V->AH,EO s 4 J=J (.ptr U.next 0):=λJ=>D4 q4 rfl;have k5:∀J:V->AH,EO s 5 J=J (.bool false):=λJ=>D4 q5 rfl;have B:∀J:List V->AH,Dt E j U.next 0 3 J=J (Bu (BJ l)):=λJ=>(Ev C).trans rfl;refine⟨j,?_,p4.fr A (by omega) (λb o e=>by have:=F b o;omega),?_⟩
  ·unfold Bu at K I w B
   show Xq E D (AZ E D) i 0 (AA k) U=_;unfold Xq;simp only[↓rP,rA,AE,AF,AD,↓e1,↓K,↓e2,↓I,↓AT w,decide_eq_false M];refine(gd _).trans ?_;unfold Bu;simp only[↓rP,rS,↓k4,↓k5,↓B]
  ·refine(f.mono (λ_ _ h=>h.elim):Fr (λk=>k=i) U U3).trans d2 (λb o e=>?_)
   rcases e with e|e
   ·exact e
   ·omega
theorem mK(I:PN (D 26)){A}(F:D 77=MU A):Kj (jx E D W N):=by
 intro U L M ts l R h;obtain⟨f,i,k,f1⟩:=I 3 h (λb B=>D0.lt h.src h.ht B);have z:=Nh h;show ∃U',Vt E D W (.ptr L 0) U=_/\_;unfold Fl;unfold Jk at i k;by_cases w:(BJ l).1=3
 ·rw[decide_eq_true w]at i k ⊢
  obtain⟨m,q,r,y,x,J⟩:=h.ok.nums _ z w;have g:=h.ok.oct _ z;have K:∀c∈De m q,c<256:=by rw[<-r];exact g.2
  have C:D 77 [.str (BO (BJ l).2.1),.int .i64 (AA 10),.int .i64 (AA 64)] f=some (.tup [.int .i64 (Pt (BJ l).2.1),.nili],f):=by
   rw[F,r,cW y x];show (if(BO (De m q)).len<=1000000 then(match Go.Lib.parseIntB 64 (BO (De m q)).toList with
    | .ok v=>some (V.tup [.int .i64 v,.nili],f) | .range=>some (V.tup [.int .i64 (Go.Lib.intSat 64 (BO (De m q)).toList),.ifc A (.ptr f.next 0)],⟨f.next+1,f.bl⟩) | _=>none)else none)=_
   rw[if_pos (by rw[DR,<-r];have:=g.1;omega),My K,pib y x,if_pos J]
  refine⟨f,?_,k,f1⟩;unfold Bu at i ⊢;unfold Vt;simp only[↓rP,rA,AE,AF,AD,↓i,↓C]
 ·rw[decide_eq_false w]at i k ⊢
  refine⟨f,?_,k,f1⟩;unfold Bu at i ⊢;unfold Vt;simp only[↓rP,rA,AE,AF,AD,↓i];rfl
end
structure FB where
 has:Bool
 hasLow:Bool
 hasHigh:Bool
 more:Bool
 low:Int
 high:Int
def Of:FB:=⟨false,false,false,false,0,0⟩
structure Fu where
 name:List Nat
 num:Int
 has:Bool
structure C5 where
 name:List Nat
 type:Nat
 opt:Bool
 has:Bool
 dk:Nat
 dn:Int
 db:List Nat
 group:Nat
structure AM where
 kind:Nat
 name:List Nat
 mHas:Bool
 mNum:Int
 mMode:Nat
 con:FB
 items:List Fu
 fields:List C5
 root:Nat
 more:Bool
 of_:Nat
def Iz:AM:=⟨0,[],false,0,0,Of,[],[],0,false,0⟩
def AM.c(x:AM)(iv fv:V):List V:=[.int .i64 (AA x.kind),.str (BO x.name),.bool x.mHas,.int .i64 x.mNum,.int .i64 (AA x.mMode),.bool x.con.has,.bool x.con.hasLow,.bool x.con.hasHigh,.bool x.con.more,.int .i64 x.con.low,.int .i64 x.con.high,iv,fv,.int .i64 (AA x.root),.bool x.more,.int .i64 (AA x.of_)]
def AM.cn(x:AM)(c:FB):AM:=⟨x.kind,x.name,x.mHas,x.mNum,x.mMode,c,x.items,x.fields,x.root,x.more,x.of_⟩
def tyW:List BS:=[BS.mk 7 22026814072246082,BS.mk 4 1280070990,BS.mk 10 488440487847103610377301,BS.mk 7 23157120498421321,BS.mk 5 361940403023,BS.mk 10 322399817400452109389381,BS.mk 8 4990918871747741011,BS.mk 3 5522771,BS.mk 6 76155295057987]
def XW(t:Ad):Bool:=if t.1=1 then true else if t.1=6 then(BO t.2.1).beq (BS.mk 1 91)else if t.1=5 then tyW.any λw=>(BO t.2.1).beq w else false
def H0(l:List Ad)(er:Er):Bool × (Bool × Int × Nat) × List Ad × Er:=match CP (BS.mk 1 91) l with
 | (false,d)=>(true,(false,0,0),d,er)
 | (true,d)=>match Fl d er with
  | (false,_,c,b)=>(false,(false,0,0),c,b)
  | (true,n,c,b)=>match Cw n (AA 0) || Cw (AA 268435456) n with
   | true=>(false,(false,0,0),c,EJ b (BJ d).2.2 12)
   | false=>match Ao [BS.mk 1 93] c b with
    | (false,f,a)=>(false,(false,0,0),f,a)
    | (true,f,a)=>match CP (BS.mk 8 6073459554577832005) f with
     | (true,l4)=>(true,(true,n,1),l4,a)
     | (false,l4)=>match CP (BS.mk 8 6073459554577829193) l4 with
      | (true,e)=>(true,(true,n,2),e,a)
      | (false,e)=>(true,(true,n,0),e,a)
def MV(c:FB)(l:List Ad)(er:Er):Bool × FB × List Ad × Er:=match CP (BS.mk 3 5130573) l with
 | (true,b)=>(true,c,b,er)
 | (false,b)=>match Fl b er with
  | (false,_,d,a)=>(false,c,d,a)
  | (true,n,d,a)=>(true,⟨c.has,true,c.hasHigh,c.more,n,c.high⟩,d,a)
def IT(c:FB)(l:List Ad)(er:Er):Bool × FB × List Ad × Er:=match CP (BS.mk 2 11822) l with
 | (false,d)=>(true,⟨c.has,c.hasLow,c.hasLow,c.more,c.low,c.low⟩,d,er)
 | (true,d)=>match CP (BS.mk 3 5783885) d with
  | (true,b)=>(true,c,b,er)
  | (false,b)=>match Fl b er with
   | (false,_,e,a)=>(false,c,e,a)
   | (true,n,e,a)=>(true,⟨c.has,c.hasLow,true,c.more,c.low,n⟩,e,a)
def JR(c:FB)(l:List Ad)(er:Er):Bool × FB × List Ad × Er:=match CP (BS.mk 1 44) l with
 | (false,d)=>(true,c,d,er)
 | (true,d)=>match Ao [BS.mk 3 3026478] d er with
  | (b,e,a)=>(b,⟨c.has,c.hasLow,c.hasHigh,true,c.low,c.high⟩,e,a)
def Dc(c:FB)(l:List Ad)(er:Er):Bool × FB × List Ad × Er:=match MV ⟨true,c.hasLow,c.hasHigh,c.more,c.low,c.high⟩ l er with
 | (false,b,d,er1)=>(false,b,d,er1)
 | (true,b,d,er1)=>match IT b d er1 with
  | (false,e,f,a)=>(false,e,f,a)
  | (true,e,f,a)=>JR e f a
def Ea(c:FB)(l:List Ad)(er:Er):Bool × FB × List Ad × Er:=match CP (BS.mk 1 40) l with
 | (false,g)=>(true,c,g,er)
 | (true,g)=>match Ao [BS.mk 4 1163544915,BS.mk 1 40] g er with
  | (false,h,a)=>(false,c,h,a)
  | (true,h,a)=>match Dc c h a with
   | (false,e,f,d)=>(false,e,f,d)
   | (true,e,f,d)=>match Ao [BS.mk 1 41,BS.mk 1 41] f d with
    | (b,l4,er4)=>(b,e,l4,er4)
theorem Jo{U}{b n o:Nat}{l l':List V}{v:V}(g:CI U)(h:DQ U b l)(j:(Ax v.cells.length n&&Ac (AN o n) l.length&&BM v.cells)=true)(i:Gj l o v.cells=l'):
  ∃U',(∀J,Cg n b o v U J=J U')/\DQ U' b l'/\Fr (λk=>k=b) U U':=by
 obtain⟨U',e,f,a⟩:=yO g h l';refine⟨U',λJ=>?_,a,f⟩;rw[LH h j,i,e]
structure An(pb:Nat)(lv:V)(nb:Nat):Prop where
 p:nb≠pb
 l:∀b,AS lv b->b≠nb
def V4(F:List V->H->AH):Prop:=∀U t,CI U->∃U',F [.agg (Bu t)] U=some (.bool (XW t),U')/\Fr Af U U'
def QO(F:List V->H->AH):Prop:=∀{U a b ts l}{R:Rp},Ps U a b ts l R ->
 ∃U',F [.ptr a 0] U=some (.tup [.agg [.bool (H0 l R.er).2.1.1,.int .i64 (H0 l R.er).2.1.2.1,.int .i64 (AA (H0 l R.er).2.1.2.2)],.bool (H0 l R.er).1],U')/\Ps U' a b ts (H0 l R.er).2.2.1 (R.e (H0 l R.er).2.2.2)/\Fr (λk=>k=a) U U'
def SC(F:List V->H->AH):Prop:=∀{U a nb b iv fv ts l}{R:Rp}{nd:AM},Ps U a b ts l R->An a b nb->DQ U nb (nd.c iv fv) ->
 ∃U',F [.ptr a 0,.ptr nb 5] U=some (.bool (Dc nd.con l R.er).1,U')/\Ps U' a b ts (Dc nd.con l R.er).2.2.1 (R.e (Dc nd.con l R.er).2.2.2)/\DQ U' nb ((nd.cn (Dc nd.con l R.er).2.1).c iv fv)/\Fr (λk=>k=a\/k=nb) U U'
def Xx(F:List V->H->AH):Prop:=∀{U a nb b iv fv ts l}{R:Rp}{nd:AM},Ps U a b ts l R->An a b nb->DQ U nb (nd.c iv fv) ->
 ∃U',F [.ptr a 0,.ptr nb 5] U=some (.bool (Ea nd.con l R.er).1,U')/\Ps U' a b ts (Ea nd.con l R.er).2.2.1 (R.e (Ea nd.con l R.er).2.2.2)/\DQ U' nb ((nd.cn (Ea nd.con l R.er).2.1).c iv fv)/\Fr (λk=>k=a\/k=nb) U U'
section
variable {E:EB}{D:Am}{W:AJ}{N:Nat}
theorem EM(q:D6 (D 27)){U:H}{d j ts l}{R:Rp}(h:Ps U d j ts l R)(b:List BS)(n:b.length<=10):
  ∃c U',B9 U (.cells (b.map .str))=c/\D 27 [.ptr d 0,.sl U.next 0 b.length (.ex b.length)] c=some (.bool (Ao b l R.er).1,U')/\Ps U' d j ts (Ao b l R.er).2.1 (R.e (Ao b l R.er).2.2)/\Fr (λk=>k=d) U U':=by
 obtain⟨c,o,f1,m,r⟩:=Ia h.ht (b.map .str);have s:=h.lt;obtain⟨U',g,p,f⟩:=q b (h.fr0 f1) m (by omega) n;exact⟨c,U',o,g,p,(f1.mono (λ_ _ h=>h.elim):Fr (λk=>k=d) U c).trans f (λ_ _ h=>h)⟩
theorem oR:V4 (F79 E D W N):=by
 intro U t x;obtain⟨k,o,f1,n,y⟩:=Ia x (Bu t);refine⟨k,?_,f1⟩;have u:∀b,rV E D W N b k=some (.bool b,k):=λb=>by cases b<;>rfl
 have s:∀b a c,a=some (.bool c,k)->AG b (some (.bool b,k)) a=some (.bool (b || c),k):=λb a c h=>by
  subst h;cases b<;>rfl
 unfold Bu at n o;show pG E D W (pF E D W) (rV E D W N) (AA t.1) (BO t.2.1) (AA t.2.2) U=_;unfold pG pF OU XW;by_cases l:t.1=1
 ·rw[if_pos l]
  simp only[↓rP,rA,AE,AF,AD,↓o,↓AT n,decide_eq_true l]
 ·rw[if_neg l]
  by_cases p:t.1=6
  ·rw[if_pos p]
   simp only[↓rP,rA,AE,AF,AD,↓o,↓AT n,decide_eq_false l,decide_eq_true p]
  ·rw[if_neg p]
   by_cases q:t.1=5
   ·rw[if_pos q]
    simp only[↓rP,rA,AE,AF,AD,↓o,↓AT n,decide_eq_false l,decide_eq_false p,decide_eq_true q];simp only[u];unfold tyW;simp only[P0,List.any_nil];repeat (refine s _ _ _ ?_)
    rw[EW]
   ·rw[if_neg q]
    simp only[↓rP,rA,AE,AF,AD,↓o,↓AT n,decide_eq_false l,decide_eq_false p,decide_eq_false q]
theorem ck(hI:Gr (D 62))(hN:Kj (D 103))(hF:HH (D 60))(hW:D6 (D 27)):QO (F91 E D W N):=by
 intro U y lv ts l R h;obtain⟨U1,k,x,f1⟩:=hI (BS.mk 1 91) h;show ∃U',PG E D W (PF E D W) y 0 U=_/\_;unfold H0;generalize CP (BS.mk 1 91) l=i1 at k x ⊢;obtain⟨b1,l1⟩:=i1;cases b1 with
 | false=>
  refine⟨U1,?_,x,f1⟩;unfold PG PF;simp only[↓rP,rS,↓k];rfl
 | true=>
  obtain⟨U2,j,t,f2⟩:=hN x;unfold Bu at j;simp only[]at x j t ⊢;generalize Fl l1 R.er=i2 at j t ⊢;obtain⟨b2,n,v,i⟩:=i2;have m:=f1.trans f2 (λ_ _ h=>h);cases b2 with
  | false=>
   refine⟨U2,?_,t,m⟩;unfold PG PF;simp only[↓rP,rS,↓k,↓j];rfl
  | true=>
   simp only[]at j t ⊢;obtain⟨U3,g3,p3,f3⟩:=hF (BJ l1).2.2 12 t;obtain⟨U4,U5,u,q,s,f5⟩:=EM hW t [BS.mk 1 93] (by decide);have u:B9 U2 (.cells [.str (BS.mk 1 93)])=U4:=u;have q:D 27 [.ptr y 0,.sl U2.next 0 1 (.ex 1)] U4=some (.bool (Ao [BS.mk 1 93] v i).1,U5):=q;have s:Ps U5 y lv ts (Ao [BS.mk 1 93] v i).2.1 (R.e (Ao [BS.mk 1 93] v i).2.2):=s;have p3:Ps U3 y lv ts v (R.e (EJ i (BJ l1).2.2 12)):=p3;cases A:(Cw n (AA 0) || Cw (AA 268435456) n)with
   | true=>
    refine⟨U3,?_,p3,m.trans f3 (λ_ _ h=>h)⟩;unfold PG PF;cases p:Cw n (AA 0)<;>cases r:Cw (AA 268435456) n<;>rw[p,r]at A <;>
     first
     | (cases A;done) | (simp only[↓rP,rS,↓k,↓j,p,r,↓g3];done) | (simp only[↓rP,rS,↓k,↓j,p,r,↓g3];rfl)
   | false=>
    rw[Ba]at A;obtain⟨p,r⟩:=A;generalize Ao [BS.mk 1 93] v i=i5 at q s ⊢;obtain⟨b5,l5,er5⟩:=i5;have o:=m.trans f5 (λ_ _ h=>h);cases b5 with
    | false=>
     refine⟨U5,?_,s,o⟩;unfold PG PF;simp only[↓rP,rS,↓k,↓j,p,r,↓u,↓q];rfl
    | true=>
     simp only[]at q s ⊢;obtain⟨U6,g6,z,f6⟩:=hI (BS.mk 8 6073459554577832005) s;generalize CP (BS.mk 8 6073459554577832005) l5=i6 at g6 z ⊢;obtain⟨b6,l6⟩:=i6;cases b6 with
     | true=>
      refine⟨U6,?_,z,o.trans f6 (λ_ _ h=>h)⟩;unfold PG PF;simp only[↓rP,rS,↓k,↓j,p,r,↓u,↓q,↓g6]
     | false=>
      simp only[]at z ⊢;obtain⟨U7,g7,p7,f7⟩:=hI (BS.mk 8 6073459554577829193) z;generalize CP (BS.mk 8 6073459554577829193) l6=i7 at g7 p7 ⊢;obtain⟨b7,l7⟩:=i7;refine⟨U7,?_,?_,(o.trans f6 (λ_ _ h=>h)).trans f7 (λ_ _ h=>h)⟩
      ·unfold PG PF
       cases b7<;>simp only[↓rP,rS,↓k,↓j,p,r,↓u,↓q,↓g6,↓g7]
      ·cases b7<;>exact p7
theorem AOc(hI:Gr (D 62))(S:Kj (D 103)){U m nb B iv fv ts l}{R:Rp}{nd:AM}(h:Ps U m B ts l R)(r:An m B nb)(a:DQ U nb (nd.c iv fv)) K:
  ∃U',TQ E D W K m 0 nb 5 U=(match (MV ⟨true,nd.con.hasLow,nd.con.hasHigh,nd.con.more,nd.con.low,nd.con.high⟩ l R.er).1 with | true=>K m 0 nb 5 U' | false=>some (.bool false,U')) /\
   Ps U' m B ts (MV ⟨true,nd.con.hasLow,nd.con.hasHigh,nd.con.more,nd.con.low,nd.con.high⟩ l R.er).2.2.1 (R.e (MV ⟨true,nd.con.hasLow,nd.con.hasHigh,nd.con.more,nd.con.low,nd.con.high⟩ l R.er).2.2.2)/\DQ U' nb ((nd.cn (MV ⟨true,nd.con.hasLow,nd.con.hasHigh,nd.con.more,nd.con.low,nd.con.high⟩ l R.er).2.1).c iv fv)/\Fr (λk=>k=m\/k=nb) U U':=by
 obtain⟨c0,y⟩:∃c0:FB,c0=⟨true,nd.con.hasLow,nd.con.hasHigh,nd.con.more,nd.con.low,nd.con.high⟩:=⟨_,rfl⟩;rw[<-y];obtain⟨N,A,M,f1⟩:=Jo (n:=1) (o:=5) (v := .bool true) (l':=(nd.cn c0).c iv fv) h.ht a rfl (by rw[y];rfl);have p1:=h.fr f1 (λe=>r.p e.symm) (λb C e=>r.l b C e);obtain⟨U2,z,w,I⟩:=hI (BS.mk 3 5130573) p1;have G:=I.at_ M f1.tidy r.p;have u:=(f1.mono (λ_ _ h => .inr h):Fr (λk=>k=m\/k=nb) U N).trans I (λ_ _ h => .inl h);unfold MV;generalize CP (BS.mk 3 5130573) l=T at z w ⊢;obtain⟨Y,l2⟩:=T;cases Y with
 | true=>
  refine⟨U2,?_,w,G,u⟩;unfold TQ;simp only[↓rP,rA,AE,AF,AD,↓A,↓z]
 | false=>
  obtain⟨U3,q,s,F⟩:=S w;unfold Bu at q;have L:=F.at_ G w.ht r.p;simp only[]at w q s ⊢;have x:=u.trans F (λ_ _ h => .inl h);generalize Fl l2 R.er=i3 at q s ⊢;obtain⟨Z,n,l3,aa⟩:=i3;cases Z with
  | false=>
   refine⟨U3,?_,s,L,x⟩;unfold TQ;simp only[↓rP,rA,AE,AF,AD,↓A,↓z,↓q]
  | true=>
   simp only[]at q s ⊢;obtain⟨U4,O,X,J⟩:=Jo (n:=1) (o:=6) (v := .bool true) s.ht L rfl rfl;obtain⟨U5,s5,P,Q⟩:=Jo (n:=1) (o:=9) (v := .int .i64 n) J.tidy X rfl rfl;have t:=J.trans Q (λ_ _ h=>h);refine⟨U5,?_,s.fr t (λe=>r.p e.symm) (λb C e=>r.l b C e),P,x.trans t (λ_ _ h => .inr h)⟩;unfold TQ;simp only[↓rP,rA,AE,AF,AD,↓A,↓z,↓q,↓O,↓s5]
theorem AHv(Q:Gr (D 62))(hN:Kj (D 103)){U p nb O iv fv ts l}{R:Rp}{nd:AM}(h:Ps U p O ts l R)(q:An p O nb)(a:DQ U nb (nd.c iv fv)) K:
  ∃U',PE E D W K p 0 nb 5 U=(match (IT nd.con l R.er).1 with | true=>K p 0 nb 5 U' | false=>some (.bool false,U')) /\
   Ps U' p O ts (IT nd.con l R.er).2.2.1 (R.e (IT nd.con l R.er).2.2.2)/\DQ U' nb ((nd.cn (IT nd.con l R.er).2.1).c iv fv)/\Fr (λk=>k=p\/k=nb) U U':=by
 obtain⟨U2,C,t,T⟩:=Q (BS.mk 2 11822) h;have J:=T.at_ a h.ht q.p;unfold IT;have w:Fr (λk=>k=p\/k=nb) U U2:=T.mono (λ_ _ h => .inl h);generalize CP (BS.mk 2 11822) l=Z at C t ⊢;obtain⟨b2,l2⟩:=Z;cases b2 with
 | false=>
  obtain⟨U4,s4,I,F⟩:=Jo (n:=1) (o:=7) (v := .bool nd.con.hasLow) t.ht J rfl rfl;obtain⟨X,M,N,G⟩:=Jo (n:=1) (o:=10) (v := .int .i64 nd.con.low) F.tidy I rfl rfl;have y:=F.trans G (λ_ _ h=>h);refine⟨X,?_,t.fr y (λe=>q.p e.symm) (λb L e=>q.l b L e),N,w.trans y (λ_ _ h => .inr h)⟩;unfold AM.c at J;unfold PE;simp only[↓rP,rA,AE,AF,AD,↓C,↓AT J,↓s4,↓M]
 | true=>
  obtain⟨U3,B,r,P⟩:=Q (BS.mk 3 5783885) t;have S:=P.at_ J t.ht q.p;have A:=w.trans P (λ_ _ h => .inl h);simp only[]at t B r ⊢;generalize CP (BS.mk 3 5783885) l2=i3 at B r ⊢;obtain⟨b3,l3⟩:=i3;cases b3 with
  | true=>
   refine⟨U3,?_,r,S,A⟩;unfold PE;simp only[↓rP,rA,AE,AF,AD,↓C,↓B]
  | false=>
   obtain⟨U4,u,s,F⟩:=hN r;unfold Bu at u;have I:=F.at_ S r.ht q.p;have x:=A.trans F (λ_ _ h => .inl h);simp only[]at r u s ⊢;generalize Fl l3 R.er=i4 at u s ⊢;obtain⟨b4,n,l4,er4⟩:=i4;cases b4 with
   | false=>
    refine⟨U4,?_,s,I,x⟩;unfold PE;simp only[↓rP,rA,AE,AF,AD,↓C,↓B,↓u]
   | true=>
    simp only[]at u s ⊢;obtain⟨X,M,N,G⟩:=Jo (n:=1) (o:=7) (v := .bool true) s.ht I rfl rfl;obtain⟨U6,s6,a6,Y⟩:=Jo (n:=1) (o:=10) (v := .int .i64 n) (l':=(nd.cn ⟨nd.con.has,nd.con.hasLow,true,nd.con.more,nd.con.low,n⟩).c iv fv) G.tidy N rfl rfl;have z:=G.trans Y (λ_ _ h=>h);refine⟨U6,?_,s.fr z (λe=>q.p e.symm) (λb L e=>q.l b L e),a6,x.trans z (λ_ _ h => .inr h)⟩;unfold PE;simp only[↓rP,rA,AE,AF,AD,↓C,↓B,↓u,↓M,↓s6]
theorem AID(L:Gr (D 62))(Q:D6 (D 27)){U m nb x iv fv ts l}{R:Rp}{nd:AM}(h:Ps U m x ts l R)(s:An m x nb)(a:DQ U nb (nd.c iv fv)):
  ∃U',RY E D W m 0 nb 5 U=some (.bool (JR nd.con l R.er).1,U') /\
   Ps U' m x ts (JR nd.con l R.er).2.2.1 (R.e (JR nd.con l R.er).2.2.2)/\DQ U' nb ((nd.cn (JR nd.con l R.er).2.1).c iv fv)/\Fr (λk=>k=m\/k=nb) U U':=by
 obtain⟨F,u,r,A⟩:=L (BS.mk 1 44) h;have B:=A.at_ a h.ht s.p;unfold JR;have p:Fr (λk=>k=m\/k=nb) U F:=A.mono (λ_ _ h => .inl h);generalize CP (BS.mk 1 44) l=S at u r ⊢;obtain⟨O,J⟩:=S;cases O with
 | false=>
  refine⟨F,?_,r,B,p⟩;unfold RY;simp only[↓rP,rA,AE,AF,AD,↓u]
 | true=>
  obtain⟨U4,P,Y,w⟩:=Jo (n:=1) (o:=8) (v := .bool true) r.ht B rfl rfl;have N:=r.fr w (λe=>s.p e.symm) (λb X e=>s.l b X e);obtain⟨I,G,y,q,z,C⟩:=EM Q N [BS.mk 3 3026478] (by decide);have y:B9 U4 (.cells [.str (BS.mk 3 3026478)])=I:=y;have M:=C.at_ Y w.tidy s.p;simp only[]at q z ⊢;have q:D 27 [.ptr m 0,.sl U4.next 0 1 (.ex 1)] I=some (.bool (Ao [BS.mk 3 3026478] J R.er).1,G):=q;generalize Ao [BS.mk 3 3026478] J R.er=K at q z ⊢;obtain⟨b6,Z,T⟩:=K;refine⟨G,?_,z,M,(p.trans w (λ_ _ h => .inr h)).trans C (λ_ _ h => .inl h)⟩;unfold RY;simp only[↓rP,rA,AE,AF,AD,↓u,↓P,↓y,↓q]
theorem oM(q:Gr (D 62))(v:Kj (D 103))(w:D6 (D 27)):SC (F93 E D W N):=by
 intro U P nb S iv fv ts l R nd h t a;show ∃U',TQ E D W (PE E D W (RY E D W)) P 0 nb 5 U=_/\_;obtain⟨z,k,p,u,f1⟩:=AOc q v h t a (PE E D W (RY E D W));unfold Dc;generalize MV ⟨true,nd.con.hasLow,nd.con.hasHigh,nd.con.more,nd.con.low,nd.con.high⟩ l R.er=B at k p u ⊢;obtain⟨F,s,M,er1⟩:=B;cases F with
 | false=>exact⟨z,k,p,u,f1⟩ | true=>
  obtain⟨x,i,g,f,J⟩:=AHv q v p t u (RY E D W);simp only[]at k ⊢;have y:(nd.cn s).con=s:=rfl;rw[y]at i g f;have er:(R.e er1).er=er1:=rfl;simp only[]at p i g f;rw[er]at i g f;have j:=f1.trans J (λ_ _ h=>h);generalize IT s M er1=C at i g f ⊢;obtain⟨Q,T,X,O⟩:=C;cases Q with
  | false=>exact⟨x,k.trans i,g,f,j⟩ | true=>
   obtain⟨U3,K,L,G,I⟩:=AID q w g t f;exact⟨U3,(k.trans i).trans K,L,G,j.trans I (λ_ _ h=>h)⟩
theorem yA(hI:Gr (D 62))(L:D6 (D 27))(Y:SC (D 93)):Xx (F92 E D W N):=by
 intro U w nb lv iv fv ts l R nd h B a;obtain⟨A,o,u,f1⟩:=hI (BS.mk 1 40) h;have Q:=f1.at_ a h.ht B.p;have p:Fr (λk=>k=w\/k=nb) U A:=f1.mono (λ_ _ h => .inl h);show ∃U',TR E D W w 0 (.ptr nb 5) U=_/\_;unfold Ea;generalize CP (BS.mk 1 40) l=i1 at o u ⊢;obtain⟨b1,P⟩:=i1;cases b1 with
 | false=>
  refine⟨A,?_,u,Q,p⟩;unfold TR;simp only[↓rP,rA,AE,AF,AD,↓o]
 | true=>
  obtain⟨J,U3,v,m,q,O⟩:=EM L u [BS.mk 4 1163544915,BS.mk 1 40] (by decide);have v:B9 A (.cells [.str (BS.mk 4 1163544915),.str (BS.mk 1 40)])=J:=v;have M:=O.at_ Q u.ht B.p;simp only[]at u m q ⊢;have m:D 27 [.ptr w 0,.sl A.next 0 2 (.ex 2)] J=some (.bool (Ao [BS.mk 4 1163544915,BS.mk 1 40] P R.er).1,U3):=m;have s:=p.trans O (λ_ _ h => .inl h);generalize Ao [BS.mk 4 1163544915,BS.mk 1 40] P R.er=X at m q ⊢;obtain⟨b3,l3,n⟩:=X;cases b3 with
  | false=>
   refine⟨U3,?_,q,M,s⟩;unfold TR;simp only[↓rP,rA,AE,AF,AD,↓o,↓v,↓m]
  | true=>
   obtain⟨U4,y,j,r,S⟩:=Y q B M;simp only[]at q y j r ⊢;have er:(R.e n).er=n:=rfl;rw[er]at y j r;have z:=s.trans S (λ_ _ h=>h);generalize Dc nd.con l3 n=i4 at y j r ⊢;obtain⟨b4,c4,l4,er4⟩:=i4;cases b4 with
   | false=>
    refine⟨U4,?_,j,r,z⟩;unfold TR;simp only[↓rP,rA,AE,AF,AD,↓o,↓v,↓m,↓y]
   | true=>
    obtain⟨K,G,C,t,x,I⟩:=EM L j [BS.mk 1 41,BS.mk 1 41] (by decide);have C:B9 U4 (.cells [.str (BS.mk 1 41),.str (BS.mk 1 41)])=K:=C;have a6:=I.at_ r j.ht B.p;simp only[]at j t x ⊢;have t:D 27 [.ptr w 0,.sl U4.next 0 2 (.ex 2)] K=some (.bool (Ao [BS.mk 1 41,BS.mk 1 41] l4 er4).1,G):=t;have x:Ps G w lv ts (Ao [BS.mk 1 41,BS.mk 1 41] l4 er4).2.1 (R.e (Ao [BS.mk 1 41,BS.mk 1 41] l4 er4).2.2):=x;generalize Ao [BS.mk 1 41,BS.mk 1 41] l4 er4=T at t x ⊢;obtain⟨b6,l6,Z⟩:=T;refine⟨G,?_,x,a6,z.trans I (λ_ _ h => .inl h)⟩;unfold TR;simp only[↓rP,rA,AE,AF,AD,↓o,↓v,↓m,↓y,↓C,↓t]
end
section
variable {E:EB}{D:Am}{U Uc U':H}{n i:Nat}{S:Nat->Prop}{d:Option Nat}{o:Eg}{g:Option (Nat × Bool)}{l:List Bf}{anc:Nat}{lk:List Nat}{pl:List DP}{e env:Cb}{nx am:Nat}{ss:List (EB)}{ks:List Nat}{ls:List (Nat × Eg × Cb × V)}
theorem AHy v b a (I:FC E U n S nx ss am ls Uc)(K:B6 (B7 lk e) g=some true)(F:o.cls = .a)(A:i<n)(x:am ||| 2 ^ i=a)(C:Cz o (B7 lk e) (U.next+i)=some (v,b))
  (k:∀p,FC E U n S nx p a ls ⟨Uc.next,(U.next+i,b)::Uc.bl⟩->ID E D U n (i+1) S l pl ⟨DF e d v,nx,p,ks,a,ls⟩ env U') :
  ID E D U n i S (⟨d,o,g⟩::l) (⟨anc,lk⟩::pl) ⟨e,nx,ss,ks,am,ls⟩ env U':=by
 obtain⟨m,G,J,B⟩:=AOg v b a I F A x C k;refine⟨m,?_,J,B⟩;rw[<-G];show (match EK E D U.next n i ⟨d,o,g⟩ ⟨anc,lk⟩ ⟨e,nx,ss,ks,am,ls⟩with | none=>none | some m=>Ca E D U.next n (i+1) l pl m)=(match EK E D U.next n i ⟨d,o,none⟩ ⟨anc,lk⟩ ⟨e,nx,ss,ks,am,ls⟩with | none=>none | some m=>Ca E D U.next n (i+1) l pl m);have:EK E D U.next n i ⟨d,o,g⟩ ⟨anc,lk⟩ ⟨e,nx,ss,ks,am,ls⟩=EK E D U.next n i ⟨d,o,none⟩ ⟨anc,lk⟩ ⟨e,nx,ss,ks,am,ls⟩:=by
  unfold EK;rw[K,show B6 (B7 lk e) none=some true from rfl]
 rw[this]
end
theorem S9{s n b e d c f x}(h:V.inn (λ_=>true) x=true):V.inn (λ_=>true) (.agg [.str s,.int .i64 n,.bool c,.bool f,.int .i64 b,.int .i64 e,x,.nils,.int .i64 (AA 0),.nils,.int .i64 d])=true:=by
 simp[V.inn,W9,h]
section
variable {E:EB}{D:Am}{N:Nat}
theorem jJ{U:H}{nb A}{l:List V}{v k m s n c p0}(p:CI U)(J:DQ U nb l)(L:l[11]? = some v)(Q:DQ U A [.str s,.int .i64 n,.bool c])(M:ES U 3 k v m)(hk:k<=9000)(ab:nb≠A)(G:¬AS v nb)(ni:¬AS v A):
    ∃P u U',AZ E D PW Mk [(0,p0),(1,.ptr nb 0),(5,.ptr A 0)] U=some (P,U')/\Go.Og.look P 0=some p0/\Go.Og.look P 1=some (.ptr nb 0)/\DQ U' nb (Gj l 11 [u])/\ES U' 3 (k+1) u (m++[.str s,.int .i64 n,.bool c])/\(∀b,AS u b->AS v b\/U.next<=b)/\¬AS u nb/\Fr (λb=>b=nb\/AS v b) U U':=by
  have fw:Fr Af U ⟨U.next+11,U.bl⟩:=(Cn (E:=E) p).fr;have lb:=J.lt p;have li:=Q.lt p;obtain⟨z,r⟩:∃z,z=(⟨U.next+11,(U.next+6,.cells [.str s,.int .i64 n,.bool c])::U.bl⟩:H):=⟨_,rfl⟩;have C:Fr Af U z:=by
    rw[r];refine⟨λb q=>?_,HQ _ _,λb q hn=>?_⟩
    · have q:U.next+11<=b:=q
      show CB ((U.next+6,_)::U.bl) b=none;rw[Bb,if_neg (by simp only[];omega)];exact p b (by omega)
    · show CB ((U.next+6,_)::U.bl) b=_
      rw[Bb,if_neg (by simp only[];omega)]
  have aa:DQ z (U.next+6) [.str s,.int .i64 n,.bool c]:=by
    rw[r];show CB ((U.next+6,_)::U.bl) _=_;rw[Bb,if_pos rfl]
  have xs:D0 z 3 1 (V.sl (U.next+6) 0 1 (.ex 1)) [.str s,.int .i64 n,.bool c] := .inr ⟨_,_,_,_,rfl,aa,AL _,rfl⟩;have Z:BM [.str s,.int .i64 n,.bool c]=true:=by simp only[BW,Bg,FF,Ed,GP,FR,Au]
  obtain⟨u,K,g2,O,W,B⟩:=Fa (bytes:=32) (M.fr C p (λ_ _ h=>h)) C.tidy xs Z (by unfold CX;simp only[AI,Ag];omega);have na:z.next=U.next+11:=by rw[r]
  have vl:∀b,AS v b->b<U.next:=λb q=>M.lt p q;have a2:DQ K nb l:=B.at_ (C.at_ J p (λh=>h)) C.tidy G;obtain⟨o1,o2⟩:=E3 O.one;have st:∃U3,FW E D (.store 1 (.tmp 57) (.tmp 55)) [(57,.ptr nb 11),(55,u)] K=some (.dead,U3)/\Fr (λk=>k=nb) K U3/\DQ U3 nb (Gj l 11 [u]):=by
    obtain⟨U3,Y,q2,q3⟩:=Fj (D:=D) (n:=1) (x := .tmp 57) (y := .tmp 55) (e:=[(57,.ptr nb 11),(55,u)]) B.tidy a2 rfl (show (Cv [(57,.ptr nb 11),(55,u)] (.tmp 55)).cells=[u] from o2) (by
      have:11<l.length:=by
        rcases Av 11 l.length with h|h
        · exact h
        · rw[Ae h]at L;cases L
      simp only[BW,Bg,O.one,Au,AK,Aa,BQ,GC,BX,Ag];omega)
    exact⟨U3,Y,q2,q3⟩
  obtain⟨U3,g3,N,c3⟩:=st;have X:¬AS u nb:=λh=>(W nb h).elim G λh=>by omega
  have vb:V.beq v v=true:=by
    rcases M with h|⟨b,rfl,_⟩
    · rcases h with ⟨_,rfl,_⟩ | ⟨_,rfl,_⟩<;>exact Bz _ rfl
    · exact Bz _ rfl
  have go:Ha (Ml E U 11 Mk _ U3) E D U 11 0 PW Mk ⟨[(0,p0),(1,.ptr nb 0),(5,.ptr A 0)],U.next+11,[U.bl],[],0,[]⟩:=
    DC (.ptr nb 0) rfl rfl <|
    DC (.ptr nb 0) rfl rfl <|
    DC (.ptr nb 0) rfl rfl <|
    DC (.ptr nb 11) rfl rfl <|
    Lg v (Cn (S:=AS v) p) rfl (FG (b:=nb) (off:=11) rfl J L p G vb) λr1=>
    Lg (.agg [.str s,.int .i64 n,.bool c]) r1 rfl (KV (b:=A) (off:=0) rfl Q rfl rfl p ni (Bz _ rfl)) λr2=>
    TC (.sl (U.next+6) 0 1 (.ex 1)) (.cells [.str s,.int .i64 n,.bool c]) 64 r2 rfl (by decide) (by decide) rfl λ_ T=>
    TA u (by rw[<-r]at T;exact T) rfl (by decide) (S':=AS v) B (λ_ _ h=>h) (λb h h1 _=>by have:=vl b h;omega) (MN rfl rfl g2) λ_ _ r4=>
    DC (.ptr nb 0) rfl rfl <|
    DC (.ptr nb 11) rfl rfl <|
    QB .dead r4 rfl (by decide) N (λb h h1 _=>by omega) g3 (λx R=>by
      simp only[BK,D7,or_false]at R;rcases R with rfl|rfl
      · show IQ Mk 5 [10,7] []=false
        decide
      · show IQ Mk 4 [10,7] []=false
        decide)
  have d:=Lh (ops:=PW) go;refine⟨_,u,U3,d,rfl,rfl,c3,O.fr N B.tidy (λb q e=>X (e ▸ q)),λb q=>(W b q).elim .inl (λh => .inr (by omega)),X,?_⟩;exact((C.mono (λ_ _ h=>h.elim):Fr (λb=>b=nb\/AS v b) U z).trans B (λ_ _ h => .inr h)).trans N (λ_ _ h => .inl h)
theorem ZN{U:H}{nb I}{l:List V}{v k m s n c z C B A p0}{x:V}(q:CI U)(N:DQ U nb l)(Q:l[12]? = some v)(hi:DQ U I [.str s,.int .i64 n,.bool c,.bool A,.int .i64 C,.int .i64 B,x,.nils,.int .i64 (AA 0),.nils,.int .i64 z])(P:ES U 11 k v m)(hk:k<=9000)(ab:nb≠I)(O:¬AS v nb)(ni:¬AS v I)(J:x = .nils\/∃b o k c,x = .sl b o k c):
    ∃e' u U',AZ E D Ow Lz [(1,.ptr nb 0),(10,.bool p0),(11,.ptr I 0)] U=some (e',U')/\Go.Og.look e' 10=some (.bool p0)/\DQ U' nb (Gj l 12 [u])/\ES U' 11 (k+1) u (m++[.str s,.int .i64 n,.bool c,.bool A,.int .i64 C,.int .i64 B,x,.nils,.int .i64 (AA 0),.nils,.int .i64 z])/\(∀b,AS u b->AS v b\/U.next<=b)/\¬AS u nb/\Fr (λb=>b=nb\/AS v b) U U':=by
  have fw:Fr Af U ⟨U.next+11,U.bl⟩:=(Cn (E:=E) q).fr;have xo:x.one=true:=by rcases J with rfl | ⟨b,o,k,c,rfl⟩<;>rfl
  have xb:V.inn (λ_=>true) x=true:=by rcases J with rfl | ⟨b,o,k,c,rfl⟩<;>simp[V.inn]
  have lb:=N.lt q;have li:=hi.lt q;obtain⟨F,t⟩:∃F,F=(⟨U.next+11,(U.next+6,.cells [.str s,.int .i64 n,.bool c,.bool A,.int .i64 C,.int .i64 B,x,.nils,.int .i64 (AA 0),.nils,.int .i64 z])::U.bl⟩:H):=⟨_,rfl⟩;have K:Fr Af U F:=by
    rw[t];refine⟨λb r=>?_,HQ _ _,λb r hn=>?_⟩
    · have r:U.next+11<=b:=r
      show CB ((U.next+6,_)::U.bl) b=none;rw[Bb,if_neg (by simp only[];omega)];exact q b (by omega)
    · show CB ((U.next+6,_)::U.bl) b=_
      rw[Bb,if_neg (by simp only[];omega)]
  have aa:DQ F (U.next+6) [.str s,.int .i64 n,.bool c,.bool A,.int .i64 C,.int .i64 B,x,.nils,.int .i64 (AA 0),.nils,.int .i64 z]:=by
    rw[t];show CB ((U.next+6,_)::U.bl) _=_;rw[Bb,if_pos rfl]
  have xs:D0 F 11 1 (V.sl (U.next+6) 0 1 (.ex 1)) [.str s,.int .i64 n,.bool c,.bool A,.int .i64 C,.int .i64 B,x,.nils,.int .i64 (AA 0),.nils,.int .i64 z] := .inr ⟨_,_,_,_,rfl,aa,AL _,rfl⟩;have ho:BM [.str s,.int .i64 n,.bool c,.bool A,.int .i64 C,.int .i64 B,x,.nils,.int .i64 (AA 0),.nils,.int .i64 z]=true:=by simp only[BW,Bg,FF,Ed,GP,FR,xo,Au]
  obtain⟨u,W,g2,X,Z,L⟩:=Fa (bytes:=136) (P.fr K q (λ_ _ h=>h)) K.tidy xs ho (by unfold CX;simp only[AI,Ag];omega);have na:F.next=U.next+11:=by rw[t]
  have vl:∀b,AS v b->b<U.next:=λb r=>P.lt q r;have a2:DQ W nb l:=L.at_ (K.at_ N q (λh=>h)) K.tidy O;obtain⟨o1,o2⟩:=E3 X.one;have st:∃U3,FW E D (.store 1 (.tmp 66) (.tmp 64)) [(66,.ptr nb 12),(64,u)] W=some (.dead,U3)/\Fr (λk=>k=nb) W U3/\DQ U3 nb (Gj l 12 [u]):=by
    obtain⟨U3,q1,q2,q3⟩:=Fj (n:=1) (x := .tmp 66) (y := .tmp 64) (e:=[(66,.ptr nb 12),(64,u)]) L.tidy a2 rfl (show (Cv [(66,.ptr nb 12),(64,u)] (.tmp 64)).cells=[u] from o2) (by
      have:12<l.length:=by
        rcases Av 12 l.length with h|h
        · exact h
        · rw[Ae h]at Q;cases Q
      simp only[BW,Bg,X.one,Au,AK,Aa,BQ,GC,BX,Ag];omega)
    exact⟨U3,q1,q2,q3⟩
  obtain⟨U3,g3,R,c3⟩:=st;have Y:¬AS u nb:=λh=>(Z nb h).elim O λh=>by omega
  have vb:V.beq v v=true:=by
    rcases P with h|⟨b,rfl,_⟩
    · rcases h with ⟨_,rfl,_⟩ | ⟨_,rfl,_⟩<;>exact Bz _ rfl
    · exact Bz _ rfl
  have go:Ha (Ml E U 11 Lz _ U3) E D U 11 0 Ow Lz ⟨[(1,.ptr nb 0),(10,.bool p0),(11,.ptr I 0)],U.next+11,[U.bl],[],0,[]⟩:=
    DC (.ptr nb 0) rfl rfl <|
    DC (.ptr nb 0) rfl rfl <|
    DC (.ptr nb 0) rfl rfl <|
    DC (.ptr nb 12) rfl rfl <|
    Lg v (Cn (S:=AS v) q) rfl (FG (b:=nb) (off:=12) rfl N Q q O vb) λr1=>
    Lg (.agg [.str s,.int .i64 n,.bool c,.bool A,.int .i64 C,.int .i64 B,x,.nils,.int .i64 (AA 0),.nils,.int .i64 z]) r1 rfl (KV (b:=I) (off:=0) rfl hi rfl rfl q ni (Bz _ (S9 xb))) λr2=>
    TC (.sl (U.next+6) 0 1 (.ex 1)) (.cells [.str s,.int .i64 n,.bool c,.bool A,.int .i64 C,.int .i64 B,x,.nils,.int .i64 (AA 0),.nils,.int .i64 z]) 64 r2 rfl (by decide) (by decide) (by rcases J with rfl | ⟨b,o,k,c,rfl⟩<;>rfl) λ_ r3=>
    TA u (by rw[<-t]at r3;exact r3) rfl (by decide) (S':=AS v) L (λ_ _ h=>h) (λb h h1 _=>by have:=vl b h;omega) (MN rfl rfl g2) λ_ _ r4=>
    DC (.ptr nb 0) rfl rfl <|
    DC (.ptr nb 12) rfl rfl <|
    QB .dead r4 rfl (by decide) R (λb h h1 _=>by omega) g3 (λx J=>by
      simp only[BK,D7,or_false]at J;rcases J with rfl|rfl
      · show IQ Lz 5 [10,7] []=false
        decide
      · show IQ Lz 4 [10,7] []=false
        decide)
  have d:=Lh (ops:=Ow) go;refine⟨_,u,U3,d,rfl,c3,X.fr R L.tidy (λb r e=>Y (e ▸ r)),λb r=>(Z b r).elim .inl (λh => .inr (by omega)),Y,?_⟩;exact((K.mono (λ_ _ h=>h.elim):Fr (λb=>b=nb\/AS v b) U F).trans L (λ_ _ h => .inr h)).trans R (λ_ _ h => .inl h)
end
def Fu.c(x:Fu):List V:=[.str (BO x.name),.int .i64 x.num,.bool x.has]
def Dj(b:Bool)(a:List BS)(l:List Ad)(er:Er):Bool × List Ad × Er:=match b with
 | true=>Ao a l er
 | false=>(false,l,er)
def Fo(l:List Ad)(er:Er):Bool × Fu × List Ad × Er:=match Jk 2 l er with
 | (false,d,er1)=>(false,⟨(BJ l).2.1,0,false⟩,d,er1)
 | (true,d,er1)=>match CP (BS.mk 1 40) d with
  | (false,c)=>(true,⟨(BJ l).2.1,0,false⟩,c,er1)
  | (true,c)=>match Fl c er1 with
   | (b,n,e,a)=>match Dj b [BS.mk 1 41] e a with
    | (f,l4,er4)=>(f,⟨(BJ l).2.1,n,true⟩,l4,er4)
theorem JW(l:List Ad):(Fh l).length<=l.length:=by
 unfold Fh;split<;>simp
theorem DY s (l:List Ad):(CP s l).2.length<=l.length:=by
 unfold CP;cases FE s l with
 | true=>exact JW l | false=>exact AL _
theorem DI:∀c (l:List Ad) er,(Ao c l er).2.1.length<=l.length
 | [],l,er=>AL _ | s::c,l,er=>by
  unfold Ao;cases FE s l with
  | true=>exact AU (DI c _ er) (JW l) | false=>exact AL _
theorem L8 b d (l:List Ad) er:(Dj b d l er).2.1.length<=l.length:=by
 cases b with
 | true=>exact DI d l er | false=>exact AL _
theorem VG k (l:List Ad) er:(Jk k l er).2.1.length<=l.length:=by
 unfold Jk;cases decide ((BJ l).1=k)with
 | true=>exact JW l | false=>exact AL _
theorem MF(l:List Ad) er:(Fl l er).2.2.1.length<=l.length:=by
 unfold Fl;cases decide ((BJ l).1=3)with
 | true=>exact JW l | false=>exact AL _
section
variable {U:H}{pb:Nat}{lv:V}{ts l:List Ad}{R:Rp}
theorem Ps.less(h:Ps U pb lv ts l R)(e:(BJ l).1≠0):(Fh l).length+1<=l.length:=by
 obtain⟨t,l,rfl⟩:=h.hd;cases l with
 | nil=>exact absurd (h.end_iff.2 rfl) e | cons j l=>simp[Fh]
theorem Ps.isS_lt(h:Ps U pb lv ts l R){s}{l':List Ad}(e:CP s l=(true,l')):l'.length+1<=l.length:=by
 unfold CP at e;cases c:FE s l with
 | false=>rw[c]at e;cases e | true=>
  rw[c]at e;cases e;refine h.less λg=>?_;unfold FE at c;rw[g]at c;cases c
theorem Ps.ofS_lt(h:Ps U pb lv ts l R){k er d}{l':List Ad}(i:k≠0)(e:Jk k l er=(true,l',d)):l'.length+1<=l.length:=by
 unfold Jk at e;cases c:decide ((BJ l).1=k)with
 | false=>rw[c]at e;cases e | true=>
  rw[c]at e;cases e;exact h.less λj=>i ((of_decide_eq_true c).symm.trans j)
end
theorem W7(l:List Ad) er:(Fo l er).2.2.1.length<=l.length:=by
 unfold Fo;have i:=VG 2 l er;generalize Jk 2 l er=u at i ⊢;obtain⟨t,s,er1⟩:=u;cases t with
 | false=>exact i | true=>
  have k:=DY (BS.mk 1 40) s;simp only[]at i ⊢;generalize CP (BS.mk 1 40) s=v at k ⊢;obtain⟨x,m⟩:=v;cases x with
  | false=>exact AU k i | true=>
   have p:=MF m er1;simp only[]at k ⊢;generalize Fl m er1=w at p ⊢;obtain⟨q,n,o,g⟩:=w;have r:=L8 q [BS.mk 1 41] o g;simp only[]at p ⊢;generalize Dj q [BS.mk 1 41] o g=y at r ⊢;obtain⟨z,l4,er4⟩:=y;simp only[]at r ⊢;omega
theorem nD{U J G}{ts l:List Ad}{R}(h:Ps U J G ts l R){er m x}{l':List Ad}(e:Fo l er=(true,x,l',m)):l'.length+1<=l.length:=by
 unfold Fo at e;cases s:Jk 2 l er with
 | mk z A=>
  obtain⟨y,er1⟩:=A;rw[s]at e;cases z with
  | false=>cases e | true=>
   have F:=h.ofS_lt (by decide) s;have r:=DY (BS.mk 1 40) y;simp only[]at e;generalize CP (BS.mk 1 40) y=C at r e;obtain⟨E,w⟩:=C;cases E with
   | false=>cases e;exact AU (Zz r) F | true=>
    have p:=MF w er1;simp only[]at r e;generalize Fl w er1=B at p e;obtain⟨v,n,t,g⟩:=B;have u:=L8 v [BS.mk 1 41] t g;simp only[]at p e;generalize Dj v [BS.mk 1 41] t g=D at u e;obtain⟨L,l4,er4⟩:=D;have I:l4=l':=congrArg (λq=>q.2.2.1) e;subst I;simp only[]at p u;omega
def OA(F:List V->H->AH):Prop:=∀{U a b ts l}{R:Rp},Ps U a b ts l R ->
 ∃U',F [.ptr a 0] U=some (.tup [.agg (Fo l R.er).2.1.c,.bool (Fo l R.er).1],U')/\Ps U' a b ts (Fo l R.er).2.2.1 (R.e (Fo l R.er).2.2.2)/\Fr (λk=>k=a) U U'
theorem Ps.llt{U:H}{d a ts l R}(h:Ps U d a ts l R):∀b,AS a b->b<U.next:=λb c=>h.src.lt h.ht c
section
variable {E:EB}{D:Am}{N:Nat}
theorem nC(hW:D6 (D 27)){U:H}{g rb p lv ts l}{R:Rp}{s n c b}{z:List V}(h:Ps U g lv ts l R)(N:DQ U p [.str s,.int .i64 n,.bool c])(S:DQ U rb z)(C:z.length=3)(n1:g≠p)(M:rb≠g)(n3:rb≠p)(n4:∀b,AS lv b->b≠rb):
  ∃e' U',AZ E D L0 Ov [(0,.ptr g 0),(2,.ptr rb 0),(5,.bool b),(6,.ptr p 0)] U=some (e',U')/\Go.Og.look e' 2=some (.ptr rb 0)/\Go.Og.look e' 3=some (.bool (Dj b [BS.mk 1 41] l R.er).1) /\
   Ps U' g lv ts (Dj b [BS.mk 1 41] l R.er).2.1 (R.e (Dj b [BS.mk 1 41] l R.er).2.2)/\DQ U' rb [.str s,.int .i64 n,.bool c]/\Fr (λk=>k=g\/k=rb) U U':=by
 have i:=h.ht;have lp:=h.lt;have lr:=S.lt i;have li:=N.lt i;have rp:(R.e R.er)=R:=rfl;cases b with
 | false=>
  have L:Fr Af U ⟨U.next+9,U.bl⟩:=(Cn (E:=E) i).fr;have pw:=h.fr0 L;have G:=L.at_ S i (λh=>h);obtain⟨U3,g3,w,q⟩:=Fj (D:=D) (n:=3) (x := .tmp 2) (y := .tmp 34) (e:=[(2,.ptr rb 0),(34,.agg [.str s,.int .i64 n,.bool c])]) L.tidy G rfl rfl (by rw[C];rfl);have Q:ID E D U 9 0 (λk=>k=g\/k=rb) L0 Ov ⟨[(0,.ptr g 0),(2,.ptr rb 0),(5,.bool false),(6,.ptr p 0)],U.next+9,[U.bl],[],0,[]⟩ _ U3:=
   RA (.agg [.str s,.int .i64 n,.bool c]) (Cn i) rfl (KV (b:=p) (off:=0) rfl N rfl rfl i (λe=>by omega) (Bz _ rfl)) λ_ I=>
   EI (.bool false) rfl rfl <|
   EI (.bool false) rfl rfl <|
   nL rfl <|
   nL rfl <|
   nL rfl <|
   EI (.bool false) rfl rfl <|
   OZ .dead I rfl (by decide) (S':=λk=>k=rb) w (λ_ _ h => .inr h) (λb h h1 _=>by omega) g3 λ_ _ _ P=>
   EI (.bool false) rfl rfl <|
   Li P
  obtain⟨K,d2⟩:=JP (ops:=L0) Q;have p3:=pw.fr w (λe=>M e.symm) (λb u e=>n4 b u e);have q:DQ U3 rb (Gj z 0 [.str s,.int .i64 n,.bool c]):=q;obtain⟨m,o,j,rfl⟩:∃m o j,z=[m,o,j]:=by
   match z,C with
   | [m,o,j],_=>exact⟨m,o,j,rfl⟩
  exact⟨_,U3,K,rfl,rfl,p3,q,d2⟩
 | true=>
  obtain⟨B,r⟩:∃B,B=(⟨U.next+9,(U.next+4,.cells [.str (BS.mk 1 41)])::U.bl⟩:H):=⟨_,rfl⟩;have fa:Fr Af U B:=by
   rw[r];refine⟨λb u=>?_,HQ _ _,λb u hn=>?_⟩
   ·have u:U.next+9<=b:=u
    show CB ((U.next+4,_)::U.bl) b=none;rw[Bb,if_neg (by simp only[];omega)];exact i b (by omega)
   ·show CB ((U.next+4,_)::U.bl) b=_
    rw[Bb,if_neg (by simp only[];omega)]
  have aa:DQ B (U.next+4) [.str (BS.mk 1 41)]:=by
   rw[r];show CB ((U.next+4,_)::U.bl) _=_;rw[Bb,if_pos rfl]
  obtain⟨U1,J,p1,f1⟩:=hW [BS.mk 1 41] (h.fr0 fa) aa (by omega) (by decide);have J:D 27 [.ptr g 0,.sl (U.next+4) 0 1 (.ex 1)] B=some (.bool (Ao [BS.mk 1 41] l R.er).1,U1):=J;have O:DQ U1 rb z:=f1.at_ (fa.at_ S i (λh=>h)) fa.tidy M;obtain⟨U3,g3,w,q⟩:=Fj (E:=E) (D:=D) (n:=3) (x := .tmp 2) (y := .tmp 34) (e:=[(2,.ptr rb 0),(34,.agg [.str s,.int .i64 n,.bool c])]) f1.tidy O rfl rfl (by rw[C];rfl);have Q:ID E D U 9 0 (λk=>k=g\/k=rb) L0 Ov ⟨[(0,.ptr g 0),(2,.ptr rb 0),(5,.bool true),(6,.ptr p 0)],U.next+9,[U.bl],[],0,[]⟩ _ U3:=
   RA (.agg [.str s,.int .i64 n,.bool c]) (Cn i) rfl (KV (b:=p) (off:=0) rfl N rfl rfl i (λe=>by omega) (Bz _ rfl)) λ_ I=>
   EI (.bool true) rfl rfl <|
   EI (.bool true) rfl rfl <|
   AHw (.ptr g 0) rfl rfl rfl <|
   AHy (.sl (U.next+4) 0 1 (.ex 1)) (.cells [.str (BS.mk 1 41)]) 16 I rfl rfl (by decide) (by decide) rfl λ_ r2=>
   AHx (.bool (Ao [BS.mk 1 41] l R.er).1) (by rw[<-r]at r2;exact r2) rfl rfl (by decide) (S':=λk=>k=g) f1 (λ_ _ h => .inl h) (λb h h1 _=>by omega) (dH (vs:=[.ptr g 0,.sl (U.next+4) 0 1 (.ex 1)]) rfl rfl J) λ_ _ _ r3=>
   EI (.bool (Ao [BS.mk 1 41] l R.er).1) rfl rfl <|
   OZ .dead r3 rfl (by decide) (S':=λk=>k=rb) w (λ_ _ h => .inr h) (λb h h1 _=>by omega) g3 λ_ _ _ P=>
   EI (.bool (Ao [BS.mk 1 41] l R.er).1) rfl rfl <|
   Li P
  obtain⟨K,d2⟩:=JP (ops:=L0) Q;have p3:=p1.fr w (λe=>M e.symm) (λb u e=>n4 b u e);have q:DQ U3 rb (Gj z 0 [.str s,.int .i64 n,.bool c]):=q;obtain⟨m,o,j,rfl⟩:∃m o j,z=[m,o,j]:=by
   match z,C with
   | [m,o,j],_=>exact⟨m,o,j,rfl⟩
  exact⟨_,U3,K,rfl,rfl,p3,q,d2⟩
theorem ld3{U b x y z}(h:DQ U b [x,y,z]) J:Dt E U b 0 3 J=J [x,y,z]:=by
 rw[Ev h];rfl
theorem cz(hO:PN (D 26))(hI:Gr (D 62))(hN:Kj (D 103))(hW:D6 (D 27)):OA (jw E D (AZ E D) N):=by
 intro U r lv ts l R h;obtain⟨U0,e0,f0,a0,n0⟩:=Ia h.ht [.str ⟨0,0⟩,.int .i64 (AA 0),.bool false];have h0:=h.fr0 f0;have lp:=h.lt;have S:=h.llt;obtain⟨W,y,T,f1⟩:=hO 2 h0 h0.llt;have y:=y;unfold Bu at y;have a1:=f1.at_ a0 h0.ht (by omega);obtain⟨U2,e2,f2,a2,n2⟩:=Ia T.ht [.str ⟨0,0⟩,.int .i64 (AA 0),.bool false];obtain⟨U3,s3,a3,f3⟩:=Jo (n:=3) (o:=0) (v := .agg [.str (BO (BJ l).2.1),.int .i64 (AA 0),.bool false]) f2.tidy a2 rfl rfl;have le1:=f1.le;have I:=f2.trans f3 (λb p e=>by omega);have x:=T.fr0 I;have b3:=I.at_ a1 T.ht (λh=>h);have M:=((f0.mono (λ_ _ h=>h.elim):Fr (λk=>k=r) U U0).trans f1 (λ_ _ h=>h)).trans I (λ_ _ h=>h.elim);show ∃U',Ry E D (AZ E D) r 0 U=_/\_;have O:∀U4 s n c l4 er4,Ps U4 r lv ts l4 (R.e er4)->Fr (λk=>k=r\/k=W.next) U3 U4->∃q,(∀J:H->AH,Cg 3 U.next 0 (.agg [.str s,.int .i64 n,.bool c]) U4 J=J q)/\Ps q r lv ts l4 (R.e er4)/\Fr (λk=>k=r) U q/\DQ q U.next [.str s,.int .i64 n,.bool c]:=by
  intro U4 s n c l4 er4 u L;have b4:=L.at_ b3 x.ht (by omega);obtain⟨q,F,G,t⟩:=Jo (n:=3) (o:=0) (v := .agg [.str s,.int .i64 n,.bool c]) u.ht b4 rfl rfl;exact⟨q,F,u.fr t (by omega) (λb p e=>by have:=S b p;omega),(M.trans L (λb p e=>by omega)).trans t (λb p e=>by omega),G⟩
 unfold Fo;generalize Jk 2 l R.er=i1 at y T x ⊢;obtain⟨b1,l1,er1⟩:=i1;cases b1 with
 | false=>
  obtain⟨q,F,B,t,G⟩:=O U3 (BO (BJ l).2.1) (AA 0) false _ _ x (Fr.refl x.ht);refine⟨q,?_,B,t⟩;have r3:=ld3 (E:=E) a3;have r5:=ld3 (E:=E) G;unfold Ry;simp only[↓rP,rA,AE,AF,AD,↓e0,↓y,↓e2,↓s3,↓r3,↓F,↓r5];rfl
 | true=>
  obtain⟨U4,P,u,L⟩:=hI (BS.mk 1 40) x;have a4:=L.at_ a3 x.ht (by omega);simp only[]at y x P u ⊢;generalize CP (BS.mk 1 40) l1=i4 at P u ⊢;obtain⟨b4,l4⟩:=i4;cases b4 with
  | false=>
   obtain⟨q,F,B,t,G⟩:=O U4 (BO (BJ l).2.1) (AA 0) false _ _ u (L.mono λ_ _ h => .inl h);refine⟨q,?_,B,t⟩;have r4:=ld3 (E:=E) a4;have r5:=ld3 (E:=E) G;unfold Ry;simp only[↓rP,rA,AE,AF,AD,↓e0,↓y,↓e2,↓s3,↓P,↓r4,↓F,↓r5];rfl
  | true=>
   obtain⟨q,F,G,t⟩:=Jo (n:=1) (o:=2) (v := .bool true) (l':=[.str (BO (BJ l).2.1),.int .i64 (AA 0),.bool true]) u.ht a4 rfl rfl;have B:=u.fr t (by omega) (λb p e=>by have:=S b p;omega);obtain⟨U6,K,z,f6⟩:=hN B;unfold Bu at K;simp only[]at P u B K z ⊢;have a6:=f6.at_ G B.ht (by omega);have er:(R.e er1).er=er1:=rfl;rw[er]at K z;generalize Fl l4 er1=i6 at K z ⊢;obtain⟨b6,n,l6,w⟩:=i6;simp only[]at K z ⊢;have z:Ps U6 r lv ts l6 (R.e w):=z;obtain⟨U7,s7,a7,f7⟩:=Jo (n:=1) (o:=1) (v := .int .i64 n) (l':=[.str (BO (BJ l).2.1),.int .i64 n,.bool true]) z.ht a6 rfl rfl;have p7:=z.fr f7 (by omega) (λb p e=>by have:=S b p;omega);have Q:Fr (λk=>k=r\/k=W.next) U3 U7:=(((L.mono (λ_ _ h => .inl h):Fr (λk=>k=r\/k=W.next) U3 U4).trans t (λ_ _ h => .inr h)).trans f6 (λ_ _ h => .inl h)).trans f7 (λ_ _ h => .inr h);have b7:=Q.at_ b3 x.ht (by omega);obtain⟨e',U8,g8,t2,t3,p8,a8,f8⟩:=nC (E:=E) (b:=b6) hW p7 a7 b7 rfl (by omega) (by omega) (by omega) (λb p e=>by have:=S b p;omega);have er7:(R.e w).er=w:=rfl;rw[er7]at t3 p8;have r8:=ld3 (E:=E) a8;have gd:∀J:Cb->H->AH,DZ (AZ E D L0 Ov [(0,.ptr r 0),(2,.ptr U.next 0),(5,.bool b6),(6,.ptr W.next 0)] U7) J=J e' U8:=λJ=>by rw[g8];rfl
   have m2:∀J:V->AH,EO e' 2 J=J (.ptr U.next 0):=λJ=>D4 t2 rfl;have m3:∀J:V->AH,EO e' 3 J=J (.bool (Dj b6 [BS.mk 1 41] l6 w).1):=λJ=>D4 t3 rfl;refine⟨U8,?_,p8,(M.trans Q (λb p e=>by omega)).trans f8 (λb p e=>by omega)⟩;unfold Ry;simp only[↓rP,rA,AE,AF,AD,↓e0,↓y,↓e2,↓s3,↓P,↓F,↓K,↓s7,↓gd,↓m2,↓m3,↓r8];rfl
end
def Fe(l:List Nat):List V:=l.map λc => .int .u8 (AA c)
def C5.c(x:C5)(v:V):List V:=[.str (BO x.name),.int .i64 (AA x.type),.bool x.opt,.bool x.has,.int .i64 (AA x.dk),.int .i64 x.dn,v,.nils,.int .i64 (AA 0),.nils,.int .i64 (AA x.group)]
def Yo(l:List Fu):List V:=l.flatMap Fu.c
def WS:List C5->List V->List V
 | x::xs,v::vs=>x.c v++WS xs vs
 | _,_=>[]
theorem c8 l m:Yo (l++m)=Yo l++Yo m:=List.flatMap_append
theorem VV:∀(xs:List C5) (vs:List V) (x:C5) v,vs.length=xs.length->WS (xs++[x]) (vs++[v])=WS xs vs++x.c v
 | [],[],x,v,_=>by simp[WS]
 | y::xs,w::vs,x,v,h=>by
  have c:=VV xs vs x v (by simpa using h);show y.c w++WS (xs++[x]) (vs++[v])=(y.c w++WS xs vs)++_;rw[c,CK]
 | [],_::_,_,_,h=>by simp at h
 | _::_,[],_,_,h=>by simp at h
abbrev FV:=V × List V
def NF(f:FV)(b:Nat):Prop:=AS f.1 b\/∃v,v∈f.2/\AS v b
def j8(U:H)(xs:List C5)(vs:List V):Prop:=vs.length=xs.length/\∀(k:Nat) (x:C5) v,xs[k]? = some x->vs[k]? = some v->D0 U 1 x.db.length v (Fe x.db)
structure Nq(U:H)(nb:Nat)(nd:AM)(iv:V)(fv:FV):Prop where
 a:DQ U nb (nd.c iv fv.1)
 i:ES U 3 nd.items.length iv (Yo nd.items)
 f:ES U 11 nd.fields.length fv.1 (WS nd.fields fv.2)
 g:j8 U nd.fields fv.2
 ni:¬AS iv nb
 nf:¬NF fv nb
 d:∀b,AS iv b->¬NF fv b
 gd:∀v,v∈fv.2->∀b,AS v b->¬AS fv.1 b
structure Ap(pb:Nat)(lv:V)(nb:Nat)(iv:V)(fv:FV):Prop where
 x:nb≠pb
 l:¬AS lv nb
 i:∀b,AS iv b->b≠pb/\¬AS lv b
 f:∀b,NF fv b->b≠pb/\¬AS lv b
theorem j8.fr{U U' xs vs S}(h:j8 U xs vs)(f:Fr S U U')(c:CI U)(d:∀v,v∈vs->∀b,AS v b->¬S b):j8 U' xs vs:=
 ⟨h.1,λk x v e a=>(h.2 k x v e a).fr f c (d v (Il a))⟩
theorem j8.lt{U:H}{xs:List C5}{vs}(h:j8 U xs vs)(m:CI U){v}(n:v∈vs){b}(i:AS v b):b<U.next:=by
 obtain⟨k,e⟩:=Ys.1 n;have l:k<xs.length:=by
  rcases Av k xs.length with g|g
  ·exact g
  ·rw[Ae (by rw[h.1];exact g)]at e;cases e
 exact(h.2 k _ v (AV l) e).lt m i
section
variable {U U':H}{nb:Nat}{nd:AM}{iv:V}{fv:FV}{pb:Nat}{lv:V}
theorem Nq.fr{S}(h:Nq U nb nd iv fv)(f:Fr S U U')(a:CI U)(i:¬S nb)(g:∀b,AS iv b->¬S b)(d:∀b,NF fv b->¬S b):Nq U' nb nd iv fv:=
 ⟨f.at_ h.a a i,h.i.fr f a g,h.f.fr f a (λb c=>d b (.inl c)),h.g.fr f a (λv e b c=>d b (.inr ⟨v,e,c⟩)),h.ni,h.nf,h.d,h.gd⟩
theorem Nq.frx(h:Nq U nb nd iv fv)(f:Fr (λk=>k=pb) U U')(e:CI U)(a:Ap pb lv nb iv fv):Nq U' nb nd iv fv:=
 h.fr f e a.x (λb c=>(a.i b c).1) (λb c=>(a.f b c).1)
theorem Nq.lt_i(h:Nq U nb nd iv fv)(c:CI U){b}(a:AS iv b):b<U.next:=h.i.lt c a
theorem Nq.lt_f(h:Nq U nb nd iv fv)(e:CI U){b}(c:NF fv b):b<U.next:=by
 rcases c with c|⟨v,f,c⟩
 ·exact h.f.lt e c
 ·exact h.g.lt e f c
theorem Nq.set(h:Nq U nb nd iv fv)(l:CI U){off}{y:V}(d:AM)(p:y.cells=[y]/\y.one=true)(x:off<16)(t:Gj (nd.c iv fv.1) off [y]=d.c iv fv.1)(w:d.items=nd.items)(r:d.fields=nd.fields):
    ∃U',(∀J,Cg 1 nb off y U J=J U')/\Fr (λk=>k=nb) U U'/\Nq U' nb d iv fv:=by
  obtain⟨U',g,a,f⟩:=Jo (n:=1) (l':=d.c iv fv.1) l h.a (by
    rw[p.1];simp only[AK,Aa,BW,Bg,p.2,Au,BQ,GC,BX,Ag,SW];show off+1<=16;omega) (by rw[p.1];exact t)
  exact⟨U',g,f,a,by rw[w];exact h.i.fr f l (λb i e=>h.ni (e ▸ i)),by rw[r];exact h.f.fr f l (λb i e=>h.nf (e ▸ .inl i)),by rw[r];exact h.g.fr f l (λv u b i e=>h.nf (e ▸ .inr ⟨v,u,i⟩)),h.ni,h.nf,h.d,h.gd⟩
end
abbrev IS:=List Fu × Bool × Nat
def GN(s:IS)(l:List Ad)(er:Er):Bool × IS × List Ad × Er:=
 match (match decide (0<s.1.length) && !s.2.1 with | true=>CP (BS.mk 3 3026478) l | false=>(false,l))with
 | (true,b)=>(true,(s.1,true,s.1.length),b,er)
 | (false,b)=>match Fo b er with
  | (false,_,c,a)=>(false,s,c,a)
  | (true,x,c,a)=>(true,(s.1++[x],s.2.1,s.2.2),c,a)
def jQ(s:IS)(l:List Ad)(er:Er):Bool × IS × List Ad × Er:=match Ao [BS.mk 1 125] l er with
 | (b,a,er1)=>(b,(s.1,s.2.1,match s.2.1 with | true=>s.2.2 | false=>s.1.length),a,er1)
def GG:Nat->IS->List Ad->Er->Bool × IS × List Ad × Er
 | 0,s,l,er=>(false,s,l,EJ er (BJ l).2.2 7)
 | n+1,s,l,er=>match GN s l er with
  | (false,a,c,er1)=>(false,a,c,er1)
  | (true,a,c,er1)=>match CP (BS.mk 1 44) c with
   | (true,b)=>GG n a b er1
   | (false,b)=>jQ a b er1
def HB(s:IS)(l:List Ad)(er:Er):Bool × IS × List Ad × Er:=match Ao [BS.mk 1 123] l er with
 | (false,a,er1)=>(false,s,a,er1)
 | (true,a,er1)=>GG fu s a er1
def AM.is(x:AM):IS:=(x.items,x.more,x.root)
def AM.wi(x:AM)(s:IS):AM:=⟨x.kind,x.name,x.mHas,x.mNum,x.mMode,x.con,s.1,x.fields,s.2.2,s.2.1,x.of_⟩
structure GK(U U':H)(pb:Nat)(lv:V)(ts l':List Ad)(R:Rp)(nb:Nat)(nd':AM)(iv iv':V)(fv:FV):Prop where
 p:Ps U' pb lv ts l' R
 q:Nq U' nb nd' iv' fv
 ap:Ap pb lv nb iv' fv
 m:∀b,AS iv' b->AS iv b\/U.next<=b
 f:Fr (λb=>b=pb\/b=nb\/AS iv b) U U'
theorem GK.trans{U o q m n ts u r t p nb l f iv g d fv}(h:GK U o m n ts u t nb l iv g fv)(k:GK o q m n ts r p nb f g d fv):GK U q m n ts r p nb f iv d fv:=by
 have v:=h.f.le;refine⟨k.p,k.q,k.ap,λb s=>(k.m b s).elim (h.m b) (λe => .inr (by omega)),h.f.trans k.f λb s e=>?_⟩;rcases e with e|e|e
 ·exact .inl e
 ·exact .inr (.inl e)
 ·exact(h.m b e).elim (λh => .inr (.inr h)) (λh=>by omega)
theorem GK.go{U c a b ts d e nb nd iv fv}(i:CI U)(q:Nq U nb nd iv fv)(g:Ap a b nb iv fv)(p:Ps c a b ts d e)(f:Fr (λk=>k=a) U c):GK U c a b ts d e nb nd iv iv fv:=
 ⟨p,q.frx f i g,g,λ_ h => .inl h,f.mono λ_ _ h => .inl h⟩
theorem GK.own{U i d g ts l R nb a iv fv}(h:Ps U d g ts l R)(c:Ap d g nb iv fv)(q:Nq i nb a iv fv)(f:Fr (λk=>k=nb) U i):GK U i d g ts l R nb a iv iv fv:=
 ⟨h.fr f (λe=>c.x e.symm) (λb j e=>c.l (e ▸ j)),q,c,λ_ h => .inl h,f.mono λ_ _ h => .inr (.inl h)⟩
def N9(F:List V->H->AH):Prop:=∀{U a c ts l}{R:Rp}{nb}{nd:AM}{iv fv},Ps U a c ts l R->Nq U nb nd iv fv->Ap a c nb iv fv->nd.items=[] ->
 ∃b U',F [.ptr a 0,.ptr nb 0] U=some (.bool (HB nd.is l R.er).1,U')/\GK U U' a c ts (HB nd.is l R.er).2.2.1 (R.e (HB nd.is l R.er).2.2.2) nb (nd.wi (HB nd.is l R.er).2.1) iv b fv
section
variable {E:EB}{D:Am}{N:Nat}
theorem ZJ(hI:Gr (D 62))(hT:OA (D 104)){U r lv}{ts l:List Ad}{R:Rp}{nb}{nd:AM}{iv fv}
  (h:Ps U r lv ts l R) (q:Nq U nb nd iv fv) (G:Ap r lv nb iv fv) (hl:nd.items.length+l.length<=9000) :
  ∃iv' U',(∀I,dV E D (AZ E D) I r 0 nb 0 U=(match (GN nd.is l R.er).1 with | true=>I r 0 nb 0 U' | false=>some (.bool false,U'))) /\
   GK U U' r lv ts (GN nd.is l R.er).2.2.1 (R.e (GN nd.is l R.er).2.2.2) nb (nd.wi (GN nd.is l R.er).2.1) iv iv' fv /\
   (GN nd.is l R.er).2.2.1.length<=l.length/\((GN nd.is l R.er).1=true->(GN nd.is l R.er).2.1.1.length+(GN nd.is l R.er).2.2.1.length<=9000):=by
 have qa:=q.a;unfold AM.c at qa;have sl:∀J:Nat->AH,BV iv J=J nd.items.length:=λJ=>q.i.slen;obtain⟨c,C,B,hc,k1,P,f1,hl1⟩:∃c C B,(match decide (0<nd.items.length) && !nd.more with|true=>CP (BS.mk 3 3026478) l|false=>(false,l))=(c,C) /\
   (∀(ag:Bool->H->AH),AG (decide (0<nd.items.length) && !nd.more) (BT (D 62 [.ptr r 0,.str (BS.mk 3 3026478)] U) λu31 z=>CN u31 λx33=>ag x33 z) (ag false U)=ag c B)/\Ps B r lv ts C R/\Fr (λk=>k=r) U B/\C.length<=l.length:=by
  cases hq:decide (0<nd.items.length) && !nd.more with
  | false=>exact⟨false,l,U,rfl,λk=>rfl,h,Fr.refl h.ht,AL _⟩ | true=>
   obtain⟨B,g1,P,f1⟩:=hI (BS.mk 3 3026478) h;refine⟨(CP (BS.mk 3 3026478) l).1,(CP (BS.mk 3 3026478) l).2,B,rfl,λk=>?_,P,f1,DY _ _⟩;rw[CC,g1];rfl
 have hs:GN nd.is l R.er=(match (c,C)with
  | (true,C)=>(true,(nd.items,true,nd.items.length),C,R.er) | (false,C)=>match Fo C R.er with
   | (false,_,l2,w)=>(false,nd.is,l2,w) | (true,x,l2,w)=>(true,(nd.items++[x],nd.more,nd.root),l2,w)):=by
  rw[<-hc];rfl
 rw[hs];have s1:=GK.go h.ht q G P f1;have q1a:=s1.q.a;unfold AM.c at q1a;have S:∀I,dV E D (AZ E D) I r 0 nb 0 U=AG c
   (Ee E B nb 11 λu9=>BV u9 λn10=>Cg 1 nb 14 (.bool true) B λak=>Cg 1 nb 13 (.int .i64 (AA n10)) ak λX=>I r 0 nb 0 X)
   (BT (D 104 [.ptr r 0] B) λam t=>HV am λaj=>Aj aj λY W=>Cl Y λan=>NA an λZ T=>F0 .i64 T λae al=>LA al λai l26=>BD l26 (LA W λaq ao=>BD ao (
    Cg 3 (H.next t) 0 (V.agg [.str Z,.int .i64 ae,.bool ai]) (B9 t (.cells [.str ⟨0,0⟩,.int .i64 (AA 0),.bool false])) λz=>
    AG (not aq) (some ((V.bool false),z)) (
    DZ (AZ E D PW Mk [(0,.ptr r 0),(1,.ptr nb 0),(5,.ptr (H.next t) 0)] z) λK af=>EO K 0 λab=>CM ab λQ ad=>EO K 1 λaa=>CM aa λac o40=>I Q ad ac o40 af)))):=by
  intro I;rw[<-k1 λc B=>AG c
   (Ee E B nb 11 λu9=>BV u9 λn10=>Cg 1 nb 14 (.bool true) B λak=>Cg 1 nb 13 (.int .i64 (AA n10)) ak λX=>I r 0 nb 0 X)
   (BT (D 104 [.ptr r 0] B) λam t=>HV am λaj=>Aj aj λY W=>Cl Y λan=>NA an λZ T=>F0 .i64 T λae al=>LA al λai l26=>BD l26 (LA W λaq ao=>BD ao (
    Cg 3 (H.next t) 0 (V.agg [.str Z,.int .i64 ae,.bool ai]) (B9 t (.cells [.str ⟨0,0⟩,.int .i64 (AA 0),.bool false])) λz=>
    AG (not aq) (some ((V.bool false),z)) (
    DZ (AZ E D PW Mk [(0,.ptr r 0),(1,.ptr nb 0),(5,.ptr (H.next t) 0)] z) λK af=>EO K 0 λab=>CM ab λQ ad=>EO K 1 λaa=>CM aa λac o40=>I Q ad ac o40 af))))]
  unfold dV;cases h0:decide (0<nd.items.length)<;>cases hm:nd.more<;>(rw[hm]at qa;simp only[↓rP,rA,AE,AF,AD,↓AT qa,↓sl,h0,hm])<;>rfl
 cases c with
 | true=>
  obtain⟨U2,g2,f2,q2⟩:=s1.q.set (off:=14) (y := .bool true) P.ht (nd.wi (nd.items,true,nd.root)) ⟨rfl,rfl⟩ (by decide) rfl rfl rfl;obtain⟨U3,g3,f3,q3⟩:=q2.set (off:=13) (y := .int .i64 (AA nd.items.length)) f2.tidy (nd.wi (nd.items,true,nd.items.length)) ⟨rfl,rfl⟩ (by decide) rfl rfl rfl;have s3:=s1.trans (GK.own P G q3 (f2.trans f3 (λ_ _ h=>h)));refine⟨iv,U3,λI=>?_,s3,hl1,λ_=>by simp only[];omega⟩;have sl1:∀J:Nat->AH,BV iv J=J nd.items.length:=λJ=>s1.q.i.slen;rw[S,CC];simp only[↓rP,rA,AE,AF,AD,↓AT q1a,↓sl1,↓g2,↓g3]
 | false=>
  obtain⟨U2,g2,p2,f2⟩:=hT P;have s2:=s1.trans (GK.go P.ht s1.q G p2 f2);have ah:=W7 C R.er;have M:∀x l' er',Fo C R.er=(true,x,l',er')->l'.length+1<=C.length:=λx l' er' e=>nD P e;simp only[]at ⊢;generalize Fo C R.er=i2 at g2 p2 s2 ah M ⊢;obtain⟨b2,x,l2,w⟩:=i2;obtain⟨U3,e3,f3,a3,n3⟩:=Ia p2.ht [.str ⟨0,0⟩,.int .i64 (AA 0),.bool false];obtain⟨U4,s4,a4,f4⟩:=Jo (n:=3) (o:=0) (v := .agg x.c) (l':=x.c) f3.tidy a3 rfl rfl;have f24:Fr Af U2 U4:=f3.trans f4 (λb F e=>by omega);have N:=p2.fr0 f24;have A:=s2.q.fr f24 p2.ht (λh=>h) (λ_ _ h=>h) (λ_ _ h=>h);have s24:GK U2 U4 r lv ts l2 (R.e w) nb nd iv iv fv:=⟨N,A,G,λ_ h => .inl h,f24.mono λ_ _ h=>h.elim⟩;unfold Fu.c at g2 s4 a4;cases b2 with
  | false=>
   refine⟨iv,U4,λI=>?_,s2.trans s24,AU ah hl1,λh=>by cases h⟩;rw[S,Bx];simp only[↓rP,rA,AE,AF,AD,↓g2,↓e3,↓s4]
  | true=>
   have q4a:=A.a;unfold AM.c at q4a;have lb:=s2.q.a.lt p2.ht;have M:=M x l2 w rfl;have li:∀b,AS iv b->b<U2.next:=λb F=>s2.q.lt_i p2.ht F;obtain⟨e',u,U7,g7,t0,t1,a7,d7,m7,n7,f7⟩:=jJ (E:=E) (D:=D) (p0 := .ptr r 0) (v:=iv) N.ht q4a rfl a4 A.i (by omega) (by omega) A.ni (λh=>by have:=li _ h;omega);have ll:=N.llt;have lx:=N.lt;have q7:Nq U7 nb (nd.wi (nd.items++[x],nd.more,nd.root)) u fv:=⟨a7,by
     have e1:(nd.items++[x]).length=nd.items.length+1:=by simp
     show ES U7 3 (nd.items++[x]).length u (Yo (nd.items++[x]));rw[e1,c8];exact d7,
    A.f.fr f7 N.ht (λb F e=>by
     rcases e with e|e
     ·exact A.nf (e ▸ .inl F)
     ·exact A.d b e (.inl F)),
    A.g.fr f7 N.ht (λv hv b F e=>by
     rcases e with e|e
     ·exact A.nf (e ▸ .inr ⟨v,hv,F⟩)
     ·exact A.d b e (.inr ⟨v,hv,F⟩)),n7,A.nf,λb hb' hf=>by
     rcases m7 b hb' with h|h
     ·exact A.d b h hf
     ·have:=A.lt_f N.ht hf;omega,A.gd⟩
   have s47:GK U4 U7 r lv ts l2 (R.e w) nb (nd.wi (nd.items++[x],nd.more,nd.root)) iv u fv:=⟨N.fr f7 (λe=>by
     rcases e with e|e
     ·exact G.x e.symm
     ·exact(G.i _ e).1 rfl) (λb F e=>by
     rcases e with e|e
     ·exact G.l (e ▸ F)
     ·exact(G.i _ e).2 F),q7,⟨G.x,G.l,λb F=>(m7 b F).elim (G.i b) (λh=>⟨by omega,λhn=>by have:=ll b hn;omega⟩),G.f⟩,m7,f7.mono λ_ _ h => .inr h⟩
   refine⟨u,U7,λI=>?_,(s2.trans s24).trans s47,AU ah hl1,λ_=>?_⟩
   ·have gd:∀J:Cb->H->AH,DZ (AZ E D PW Mk [(0,.ptr r 0),(1,.ptr nb 0),(5,.ptr U2.next 0)] U4) J=J e' U7:=λJ=>by rw[g7];rfl
    have m0:∀J:V->AH,EO e' 0 J=J (.ptr r 0):=λJ=>D4 t0 rfl;have m1:∀J:V->AH,EO e' 1 J=J (.ptr nb 0):=λJ=>D4 t1 rfl;rw[S,Bx];simp only[↓rP,rA,AE,AF,AD,↓g2,↓e3,↓s4,↓gd,↓m0,↓m1]
   ·simp only[AY,AK,Aa]at M ⊢
    omega
theorem W6(hI:Gr (D 62))(hW:D6 (D 27))(hT:OA (D 104))(hN:9002<N):N9 (F94 E D (AZ E D) N):=by
 have P:∀n k {U:H}{o C}{ts l:List Ad}{R:Rp}{nb}{nd:AM}{iv fv},Ps U o C ts l R->Nq U nb nd iv fv->Ap o C nb iv fv->nd.items.length+l.length<=9000->l.length<n->l.length<k ->
   ∃u U',X4 E D (AZ E D) N k o 0 nb 0 U=some (.bool (GG n nd.is l R.er).1,U')/\GK U U' o C ts (GG n nd.is l R.er).2.2.1 (R.e (GG n nd.is l R.er).2.2.2) nb (nd.wi (GG n nd.is l R.er).2.1) iv u fv:=by
  intro n;induction n with
  | zero=>intro k U o C ts l R nb nd iv fv h q M hl hn;omega | succ n ih=>
   intro k U o C ts l R nb nd iv fv h q M hl hn hk;obtain⟨k,rfl⟩:∃j,k=j+1:=⟨k-1,by omega⟩;obtain⟨B,K,Y,x,T,z⟩:=ZJ hI hT h q M hl;unfold GG;generalize GN nd.is l R.er=i1 at Y x T z ⊢;obtain⟨b1,r,l1,er1⟩:=i1;cases b1 with
   | false=>exact⟨B,K,Y _,x⟩ | true=>
    simp only[]at x T z ⊢;have z:=z trivial;obtain⟨L,w,v,f2⟩:=hI (BS.mk 1 44) x.p;have m:=x.trans (GK.go x.p.ht x.q x.ap v f2);have A:∀l',CP (BS.mk 1 44) l1=(true,l')->l'.length+1<=l1.length:=λl' e=>x.p.isS_lt e;generalize CP (BS.mk 1 44) l1=i2 at w v m A ⊢;obtain⟨b2,F⟩:=i2;cases b2 with
    | true=>
     have A:=A F rfl;simp only[]at w v m A ⊢;obtain⟨u,U',g',s'⟩:=ih k v m.q m.ap (by show r.1.length+F.length<=9000;omega) (by omega) (by omega);refine⟨u,U',?_,m.trans s'⟩;refine(Y _).trans ?_;show Xb E D (AZ E D) _ (X4 E D (AZ E D) N k) o 0 nb 0 K=_;unfold Xb;simp only[↓rP,rS,↓w];exact g'
    | false=>
     simp only[]at w v m ⊢;have I:=m.q.a;unfold AM.c AM.wi at I;simp only[]at I;have sl:∀J:Nat->AH,BV B J=J r.1.length:=λJ=>m.q.i.slen;obtain⟨U3,O,k3⟩:∃U3,GK U U3 o C ts F (R.e er1) nb (nd.wi (r.1,r.2.1,match r.2.1 with|true=>r.2.2|false=>r.1.length)) iv B fv/\∀W,Xc E D (AZ E D) W o 0 nb 0 L=W o 0 U3:=by
      cases hm:r.2.1 with
      | true=>
       refine⟨L,?_,λW=>?_⟩
       ·have e:r=(r.1,true,r.2.2):=by rw[<-hm]
        have S:=m;rw[e]at S;exact S
       ·rw[hm]at I
        unfold Xc;simp only[↓rP,rA,AE,AF,AD,↓AT I]
      | false=>
       obtain⟨U3,g3,f3,q3⟩:=m.q.set (off:=13) (y := .int .i64 (AA r.1.length)) v.ht (nd.wi (r.1,r.2.1,r.1.length)) ⟨rfl,rfl⟩ (by decide) rfl rfl rfl;rw[hm]at q3 I;refine⟨U3,m.trans (GK.own v m.ap q3 f3),λW=>?_⟩;unfold Xc;simp only[↓rP,rA,AE,AF,AD,↓AT I,↓sl,↓g3]
     obtain⟨U5,U6,e5,g6,p6,f6⟩:=EM hW O.p [BS.mk 1 125] (by decide);have e5:B9 U3 (.cells [.str (BS.mk 1 125)])=U5:=e5;have g6:D 27 [.ptr o 0,.sl U3.next 0 1 (.ex 1)] U5=some (.bool (Ao [BS.mk 1 125] F er1).1,U6):=g6;have p6:Ps U6 o C ts (Ao [BS.mk 1 125] F er1).2.1 (R.e (Ao [BS.mk 1 125] F er1).2.2):=p6;have s6:=O.trans (GK.go O.p.ht O.q O.ap p6 f6);refine⟨B,U6,?_,s6⟩;refine(Y _).trans ?_;show Xb E D (AZ E D) (Xc E D (AZ E D) (ou E D (AZ E D))) _ o 0 nb 0 K=_;unfold Xb;simp only[↓rP,rS,↓w,k3];unfold ou;simp only[↓rP,rS,↓e5,↓g6];rfl
 intro U o C ts l R nb nd iv fv h q M h0;obtain⟨K,L,e1,w,v,f2⟩:=EM hW h [BS.mk 1 123] (by decide);have e1:B9 U (.cells [.str (BS.mk 1 123)])=K:=e1;have w:D 27 [.ptr o 0,.sl U.next 0 1 (.ex 1)] K=some (.bool (Ao [BS.mk 1 123] l R.er).1,L):=w;have Q:=DI [BS.mk 1 123] l R.er;have m:=GK.go h.ht q M v f2;have hfew:=h.few;show ∃u U',dW E D (AZ E D) (X4 E D (AZ E D) N N) o 0 nb 0 U=_/\_;unfold HB;generalize Ao [BS.mk 1 123] l R.er=i2 at w v m Q ⊢;obtain⟨b2,F,er2⟩:=i2;simp only[]at w v m Q ⊢;cases b2 with
 | false=>
  refine⟨iv,L,?_,m⟩;unfold dW;simp only[↓rP,rS,↓e1,↓w]
 | true=>
  have hfu:=Nk;obtain⟨u,U',g',s'⟩:=P fu N v m.q M (by rw[h0];simp only[Aa];omega) (by omega) (by omega);refine⟨u,U',?_,m.trans s'⟩;unfold dW;simp only[↓rP,rS,↓e1,↓w];exact g'
end
def Ff(c:Nat):Nat:=match decide (c<58)with
 | true=>c-48
 | false=>c-55
def JV:List Nat->List Nat
 | a::b::r=>(Ff a*16+Ff b)::JV r
 | _=>[]
theorem FH{c}(h:Bk c=true):(48<=c/\c<=57)\/(65<=c/\c<=70):=by
 unfold Bk at h;rw[B5]at h;rcases h with h|h
 ·exact .inl (GW h)
 ·rw[AI]at h
  exact .inr ⟨of_decide_eq_true h.1,of_decide_eq_true h.2⟩
theorem Qt{w}(e:∀c∈w,c<256):Pu (BO w).toList=Fe w:=by
 rw[My e];unfold Pu Fe;rw[xT];refine List.map_congr_left λc h=>?_;have:=e c h;show V.int .u8 (AA (UInt8.ofNat c).toNat)=_;rw[show (UInt8.ofNat c).toNat=c by simp;omega]
def PM(F:List V->H->AH):Prop:=∀U a b,CI U->Bk a=true->Bk b=true->∃U',F [.str (BO [a,b]),.int .i64 (AA 16),.int .i64 (AA 8)] U=some (.tup [.int .u64 (AA (Ff a*16+Ff b)),.nili],U')/\Fr Af U U'
def R8(F:List V->H->AH):Prop:=∀U a,F [.int .u8 a] U=some (.int .u8 (Gt .u8 a (AA 32)),U)
def Lx(F:List V->H->AH):Prop:=∀(U:H) (w:List Nat),CI U->(∀c∈w,Bk c=true)->w.length<=10000 ->
 ∃v U',F [.str (BO w)] U=some (v,U')/\D0 U' 1 (JV w).length v (Fe (JV w))/\(v = .nils\/∃b o k c,v = .sl b o k c)/\(∀b,AS v b->U.next<=b)/\Fr Af U U'
section
variable {E:EB}{D:Am}{W:AJ}{N:Nat}
theorem mX:R8 (ju E D W N):=λ_ _=>rfl
theorem bx(B:R8 (D 108)){U b}{t:List V}{j c g s op}(S:DQ U b t)(X:j<2)(hl:t.length=2)(L:mL t j=some (.int .u8 (AA c)))(C:Bk c=true)(F:g<16)(R:Int->Bool->BS->Int->Int->Bool->Int->V->Int->Int->H->AH):
  TO E D W (zB E D W N) (OC E D W N R) (fR E D W N R) (AA 16) false s (AA 1152921504606846976) (AA 255) false (AA g) (.sl b 0 2 op) (AA 2) (AA j) U =
   R (AA 16) false s (AA 1152921504606846976) (AA 255) false (AA (g*16+Ff c)) (.sl b 0 2 op) (AA 2) (AA (j+1)) U:=by
 have rd:∀J:V->AH,Bl 1 (.sl b 0 2 op) (AA j) (λb o=>Ee E U b o J)=J (.int .u8 (AA c)):=λJ=>by
  rw[DG (show j<2 by omega)];show Ee E U b (0+j*1) J=_;rw[show 0+j*1=j by omega,AT S];exact P6 L
 have A:decide (j<2)=true:=decide_eq_true X;have aj:BP .i64 (AA j) (AA 1)=AA (j+1):=BB (by omega);have x:BH .u8 (AA 16)=AA 16:=rfl;have q:∀v,v<16->Xa E D W (OC E D W N R) (AA 16) false s (AA 1152921504606846976) (AA 255) false (AA g) (AA v) (.sl b 0 2 op) (AA 2) (AA j) U =
   R (AA 16) false s (AA 1152921504606846976) (AA 255) false (AA (g*16+v)) (.sl b 0 2 op) (AA 2) (AA (j+1)) U:=by
  intro v K;have m1:∀g<16,Qx .u64 (AA g) (BH .u64 (AA 16))=AA (g*16):=by decide +kernel
  have M:∀g<16,∀v<16,BP .u64 (AA (g*16)) (BH .u64 (AA v))=AA (g*16+v):=by decide +kernel
  have Z:decide (16<=v)=false:=decide_eq_false (by omega);have c2:decide (1152921504606846976<=g)=false:=decide_eq_false (by omega);have c3:decide (g*16+v<g*16)=false:=decide_eq_false (by omega);have T:decide (255<g*16+v)=false:=decide_eq_false (by omega);unfold Xa;simp only[↓rP,rA,AE,AF,AD,x,m1 g F,M g F v K,Z,c2,c3,T];show ob E D W R _ _ _ _ _ _ _ _ _ _ U=_;unfold ob;rw[aj]
 have Q:=B;show TO E D W _ _ (Xa E D W (OC E D W N R)) _ _ _ _ _ _ _ _ _ _ U=_;generalize Xa E D W (OC E D W N R)=K7 at q ⊢;generalize OC E D W N R=K6;have G:Cc (AA c) (AA 95)=false:=by
  rw[QG];rcases FH C with h|h<;>exact decide_eq_false (by omega)
 unfold TO;rcases FH C with h|h
 ·have z:decide (48<=c)=true:=decide_eq_true h.1
  have y:decide (c<=57)=true:=decide_eq_true h.2;have O:∀c<58,48<=c->Ez .u8 (AA c) (AA 48)=AA (c-48):=by decide +kernel
  have e:Ff c=c-48:=by unfold Ff;rw[decide_eq_true (show c<58 by omega)]
  rw[e];simp only[↓rP,rA,AE,AF,AD,A,↓rd,G,z,y,O c (by omega) h.1];exact q _ (by omega)
 ·have z:decide (48<=c)=true:=decide_eq_true (by omega)
  have y:decide (c<=57)=false:=decide_eq_false (by omega);have w:∀c<71,65<=c->I2 (AA 97) (Gt .u8 (AA c) (AA 32))=true/\I2 (Gt .u8 (AA c) (AA 32)) (AA 122)=true/\BP .u8 (Ez .u8 (Gt .u8 (AA c) (AA 32)) (AA 97)) (AA 10)=AA (c-55):=by decide +kernel
  obtain⟨w,I,P⟩:=w c (by omega) h.1;have e:Ff c=c-55:=by unfold Ff;rw[decide_eq_false (show ¬c<58 by omega)]
  have Y:=B U (AA c);rw[e];simp only[↓rP,rA,AE,AF,AD,A,↓rd,G,z,y,↓Y,w,I,P];exact q _ (by omega)
theorem yL(z:R8 (D 108))(S:10<N):PM (F98 E D W N):=by
 intro U a b L v y;have T:a<256:=by rcases FH v with h | h<;>omega
 have P:b<256:=by rcases FH y with h | h<;>omega
 have K:∀c∈[a,b],c<256:=by
  intro c x;simp only[BK,D7,or_false]at x;rcases x with rfl|rfl<;>assumption
 obtain⟨q,O,f1,A,Q⟩:=Ia L (Fe [a,b]);have I:=Qt K;have u:Ff a<16:=by
  unfold Ff;rcases FH v with h|h
  ·rw[decide_eq_true (show a<58 by omega)];simp only[];omega
  ·rw[decide_eq_false (show ¬a<58 by omega)];simp only[];omega
 have p:(BO [a,b]).len=2:=by rw[DR];rfl
 refine⟨q,?_,f1⟩;have G:BS.beq (BO [a,b]) (BS.mk 0 0)=false:=by
  unfold BS.beq;rw[p];rfl
 have w8:BH .u64 (AA 8)=AA 8:=rfl;have B:Ez .u64 (Eb .u64 (AA 1) 8) (AA 1)=AA 255:=by decide +kernel
 show oq E D W (om E D W (oh E D W (og E D W (fO E D W N N)))) (BO [a,b]) (AA 16) (AA 8) U=_;obtain⟨M,rfl⟩:∃M,N=M+1+1+1:=⟨N-3,by omega⟩;have F:=λ(op:fh) R=>bx (E:=E) (W:=W) (N:=M+1+1+1) (j:=0) (g:=0) (s:=BO [a,b]) (op:=op) z A (by decide) rfl rfl v (by decide) R;have J:=λ(op:fh) R=>bx (E:=E) (W:=W) (N:=M+1+1+1) (j:=1) (s:=BO [a,b]) (op:=op) z A (by decide) rfl rfl y u R;have C:∀op,fO E D W (M+1+1+1) (M+1+1+1) (AA 16) false (BO [a,b]) (AA 1152921504606846976) (AA 255) false (AA 0) (.sl U.next 0 2 op) (AA 2) (AA 0) q=some (.tup [.int .u64 (AA (Ff a*16+Ff b)),.nili],q):=by
  intro op;refine(F op _).trans ?_;rw[show 0*16+Ff a=Ff a by omega];refine(J op _).trans ?_;show TO E D W (oe E D W) _ _ _ _ _ _ _ _ _ _ _ _ q=_;unfold TO oe;simp only[↓rP,rA,AE,AF,AD,show decide (1+1<2)=false from rfl]
 unfold oq om oh og;simp only[↓rP,rA,AE,AF,AD,G,w8,KX,B,p,I,↓O];exact C _
end
theorem OY{a}(g:Bk a=true):Ff a<16:=by
 unfold Ff;rcases FH g with h|h
 ·rw[decide_eq_true (show a<58 by omega)];simp only[];omega
 ·rw[decide_eq_false (show ¬a<58 by omega)];simp only[];omega
abbrev dR:=Nat × Int × List Nat
def Ks (l:List Ad) (er:Er):Bool × dR × List Ad × Er:=match CP (BS.mk 4 1163219540) l with
 | (true,c)=>(true,(1,1,[]),c,er)
 | (false,c)=>match CP (BS.mk 5 297750249798) c with
  | (true,b)=>(true,(1,0,[]),b,er)
  | (false,b)=>match CP (BS.mk 4 1280070990) b with
   | (true,a)=>(true,(4,0,[]),a,er)
   | (false,a)=>match decide ((BJ l).1=3)with
    | true=>match Fl a er with
     | (_,n,l4,er4)=>(true,(2,n,[]),l4,er4)
    | false=>match decide ((BJ l).1=2)with
     | true=>(true,(3,0,(BJ l).2.1),Fh a,er)
     | false=>match decide ((BJ l).1=7)with
      | true=>(true,(6,0,(BJ l).2.1),Fh a,er)
      | false=>match decide ((BJ l).1=4)with
       | true=>(true,(5,0,JV (BJ l).2.1),Fh a,er)
       | false=>(false,(0,0,[]),a,EJ er (BJ l).2.2 7)
def dR.c(x:dR)(v:V):List V:=[.int .i64 (AA x.1),.int .i64 x.2.1,v,.nils,.int .i64 (AA 0),.nils]
def SlV(v:V):Prop:=v = .nils\/∃b o k c,v = .sl b o k c
def Vv(F:List V->H->AH):Prop:=∀{U:H}{a c ts l}{R:Rp},Ps U a c ts l R ->
 ∃v U',F [.ptr a 0] U=some (.tup [.agg ((Ks l R.er).2.1.c v),.bool (Ks l R.er).1],U')/\Ps U' a c ts (Ks l R.er).2.2.1 (R.e (Ks l R.er).2.2.2)/\D0 U' 1 (Ks l R.er).2.1.2.2.length v (Fe (Ks l R.er).2.1.2.2)/\SlV v/\(∀b,AS v b->U.next<=b)/\Fr (λk=>k=a) U U'
theorem D0.nil0 U:D0 U 1 0 .nils [] := .inl ⟨rfl,rfl,rfl⟩
section
variable {E:EB}{D:Am}{W:AJ}{N:Nat}
theorem AHW(i:PM (D 98)):PM (js E D W N):=by
 intro U a b m k n;obtain⟨j,l,f1⟩:=i U a b m k n;refine⟨j,?_,f1⟩;show Zf E D W (BO [a,b]) (AA 16) (AA 8) U=_;unfold Zf;simp only[↓rP,rA,AE,AF,AD,↓l];rfl
theorem mF(hU:PM (D 118))(hN:10001<N):Lx (Zv E D W N):=by
  intro B w ab hx hw;have S:∀n m (r:List Nat) (i k:Nat) v (s:List Nat) U,r.length<n->r.length<m->HN (BO w) i r->(∀c∈r,Bk c=true)->ES U 1 s.length v (Fe s)->s.length+r.length<=10000->Fr Af B U->(∀b,AS v b->B.next<=b) ->
      ∃u U',WB E D W N m (BO w) v (AA i) U=some (u,U')/\ES U' 1 (s++JV r).length u (Fe (s++JV r))/\(∀b,AS u b->B.next<=b)/\Fr Af B U':=by
    intro n;induction n with
    | zero=>intro m r i k v s U h;omega | succ n ih=>
      intro m r i k v s U R O C F hd P f0 T;obtain⟨m,rfl⟩:∃j,m=j+1:=⟨m-1,by omega⟩;have L:=C.len;have hle:=C.le;have X:BP .i64 (AA i) (AA 1)=AA (i+1):=BB (by omega);have Y:BP .i64 (AA i) (AA 2)=AA (i+2):=BB (by omega);show ∃u U',Rw E D W (Vl E D W) (WB E D W N m) (BO w) v (AA i) U=_/\_;match r,R,O,C,F,P,L with
      | [],R,O,C,F,P,L=>
        have Q:decide (i+1<(BO w).len)=false:=decide_eq_false (by simp only[Aa]at L;omega);refine⟨v,U,?_,by rw[show JV []=[] from rfl,CZ];exact hd,T,f0⟩;unfold Rw Vl;simp only[↓rP,rA,AE,AF,AD,X,Q]
      | [c],R,O,C,F,P,L=>
        have Q:decide (i+1<(BO w).len)=false:=decide_eq_false (by simp only[AK,Aa]at L;omega);refine⟨v,U,?_,by rw[show JV [c]=[] from rfl,CZ];exact hd,T,f0⟩;unfold Rw Vl;simp only[↓rP,rA,AE,AF,AD,X,Q]
      | a::b::r,R,O,C,F,P,L=>
        simp only[AK]at L R O P;have Q:decide (i+1<(BO w).len)=true:=decide_eq_true (by omega);have I:=λJ=>C.cut (k:=2) (by simp) J;have I:∀J:BS->AH,BA (BO w) (some (.int .i64 (AA i))) (some (.int .i64 (AA (i+2)))) J=J (BO [a,b]):=I;have xa:=F a (by simp);have xb:=F b (by simp);obtain⟨U1,g1,f1⟩:=hU U a b f0.tidy xa xb;have hq:Ff a*16+Ff b<256:=by have:=OY xa;have:=OY xb;omega
        have wq:BH .u8 (AA (Ff a*16+Ff b))=AA (Ff a*16+Ff b):=Cq (show _<=255 by omega);obtain⟨U2,e2,f2,a2,n2⟩:=Ia f1.tidy [.int .u8 (AA (Ff a*16+Ff b))];have G:Fr Af U U2:=f1.trans f2 (λ_ _ h=>h);have xs:D0 U2 1 1 (.sl U1.next 0 1 (.ex 1)) [.int .u8 (AA (Ff a*16+Ff b))] := .inr ⟨_,_,_,_,rfl,a2,AL _,rfl⟩;have d2:=hd.fr G f0.tidy (λ_ _ h=>h);obtain⟨u,U3,g3,d3,m3,f3⟩:=Fa (E:=E) (bytes:=1) d2 f2.tidy xs rfl (by unfold CX;simp only[AI,Ag];omega);have le12:=G.le;have le0:=f0.le;have aa:Fr Af B U3:=(f0.trans G (λ_ _ h=>h)).trans f3 (λb hb e=>by have:=T b e;omega);have Z:∀b,AS u b->B.next<=b:=λb hb=>(m3 b hb).elim (T b) (λh=>by omega);have e:s++JV (a::b::r)=(s++[Ff a*16+Ff b])++JV r:=by
          show s++((Ff a*16+Ff b)::JV r)=_;rw[CK];rfl
        have ac:ES U3 1 (s++[Ff a*16+Ff b]).length u (Fe (s++[Ff a*16+Ff b])):=by
          rw[AY,Fe,IX];exact d3
        obtain⟨u',U',g',d',h',f'⟩:=ih m r (i+2) k u (s++[Ff a*16+Ff b]) U3 (by omega) (by omega) (C.dr (by simp)) (λc hc=>F c (by simp[hc])) ac (by rw[AY];simp only[AK,Aa];omega) aa Z;refine⟨u',U',?_,by rw[e];exact d',h',f'⟩;unfold Rw;have uo:=d3.one;simp only[↓rP,rA,AE,AF,AD,X,Y,Q,↓I,↓g1,wq,↓e2,↓g3,Ec uo];exact g'
  have a0:HN (BO w) 0 w:=⟨by
    have:=OM.start (BO w);rw[Dk (λc hc=>by rcases FH (hx c hc)with h | h<;>omega)]at this;exact this,by rw[DR];exact hw⟩
  obtain⟨u,U',g,d,Z,f⟩:=S (w.length+1) N w 0 0 .nils [] B (by omega) (by omega) a0 hx (ES.nil B 1) (by simp;omega) (Fr.refl ab) (λb h=>h.elim);refine⟨u,U',g,d.src,?_,Z,f⟩;rcases d with h|⟨b,rfl,_⟩
  · rcases h with ⟨_,rfl,_⟩ | ⟨_,rfl,_⟩
    · exact .inl rfl
    · exact .inr ⟨_,_,_,_,rfl⟩
  · exact .inr ⟨_,_,_,_,rfl⟩
theorem kb(hP:C0 (D 29))(hI:Gr (D 62))(hM:Kj (D 103))(hX:FL (D 61))(hF:HH (D 60))(hO:Lx (D 116)):Vv (jt E D W N):=by
 intro U S lv ts l R h;have z:=hP h;unfold Bu at z;have hm:=Nh h;show ∃v U',Je E D W (Vm E D W) S 0 U=_/\_;obtain⟨U1,y,p1,f1⟩:=hI (BS.mk 4 1163219540) h;unfold Ks;have n1:(BJ l)=BJ l:=rfl;have st:∀(s:BS) (l:List Ad),(CP s l).1=false->(CP s l).2=l:=by
  intro s l B;unfold CP at B ⊢;cases hs:FE s l with
  | true=>rw[hs]at B;cases B | false=>rfl
 have s1:=st (BS.mk 4 1163219540) l;generalize CP (BS.mk 4 1163219540) l=i1 at y p1 s1 ⊢;obtain⟨b1,l1⟩:=i1;cases b1 with
 | true=>
  refine⟨.nils,U1,?_,p1,D0.nil0 _,.inl rfl,λ_ h=>h.elim,f1⟩;unfold Je;simp only[↓rP,rS,↓z,↓y];rfl
 | false=>
  have s1:l1=l:=s1 rfl;subst s1;simp only[]at y p1 ⊢;obtain⟨U2,C,p2,f2⟩:=hI (BS.mk 5 297750249798) p1;have ab:=f1.trans f2 (λ_ _ h=>h);have s2:=st (BS.mk 5 297750249798) l1;generalize CP (BS.mk 5 297750249798) l1=i2 at C p2 s2 ⊢;obtain⟨b2,l2⟩:=i2;cases b2 with
  | true=>
   refine⟨.nils,U2,?_,p2,D0.nil0 _,.inl rfl,λ_ h=>h.elim,ab⟩;unfold Je;simp only[↓rP,rS,↓z,↓y,↓C];rfl
  | false=>
   have s2:l2=l1:=s2 rfl;subst s2;simp only[]at C p2 ⊢;obtain⟨U3,G,p3,f3⟩:=hI (BS.mk 4 1280070990) p2;have P:=ab.trans f3 (λ_ _ h=>h);have s3:=st (BS.mk 4 1280070990) l2;generalize CP (BS.mk 4 1280070990) l2=i3 at G p3 s3 ⊢;obtain⟨b3,m⟩:=i3;cases b3 with
   | true=>
    refine⟨.nils,U3,?_,p3,D0.nil0 _,.inl rfl,λ_ h=>h.elim,P⟩;unfold Je;simp only[↓rP,rS,↓z,↓y,↓C,↓G];rfl
   | false=>
    have s3:m=l2:=s3 rfl;subst s3;simp only[]at G p3 ⊢;obtain⟨Z,ac⟩:=h.ok.oct _ hm;have ad:=h.ok.hexs _ hm;have q:Ac (BO (BJ m).2.1).len 1000000000000=true:=by rw[DR,Ag];omega
    obtain⟨U4,e4,f4,a4,n4⟩:=Ia p3.ht (Fe (BJ m).2.1);have T:=p3.fr0 f4;have eo:=Qt ac;have r:Fr (λk=>k=S) U U4:=P.trans f4 (λ_ _ h=>h.elim);have Y:=P.le;have Q:∀(t:H) (kd:Nat) (v:V) (X:List Nat),Ps t S lv ts m R->Fr (λk=>k=S) U t->D0 t 1 X.length v (Fe X)->SlV v->(∀b,AS v b->U.next<=b) ->
      ∃U',(Vm E D W S 0 (AA 0) (AA 0) .nils .nils (AA 0) .nils (AA kd) (AA 0) v .nils (AA 0) .nils t=some (.tup [.agg (dR.c (kd,0,X) v),.bool true],U'))/\Ps U' S lv ts (Fh m) R/\D0 U' 1 X.length v (Fe X)/\Fr (λk=>k=S) U U':=by
     intro t kd v X K I hs hv hn;obtain⟨M,J,O,F⟩:=hX K;unfold Bu at J;have lp:=h.lt;refine⟨M,?_,O,hs.fr F K.ht (λb B e=>by have:=hn b B;omega),I.trans F (λ_ _ h=>h)⟩;have vo:v.one=true:=hs.one;unfold Vm;simp only[↓rP,rA,AE,AF,AD,↓J,vo];rfl
    cases h3:decide ((BJ m).1=3)with
    | true=>
     obtain⟨t,L,K,I⟩:=hM T;unfold Bu at L;simp only[]at ⊢;generalize Fl m R.er=i5 at L K ⊢;obtain⟨b5,n,l5,ae⟩:=i5;simp only[]at L K ⊢;refine⟨.nils,t,?_,K,D0.nil0 _,.inl rfl,λ_ h=>h.elim,r.trans I (λ_ _ h=>h)⟩;unfold Je;simp only[↓rP,rA,AE,AF,AD,↓z,↓y,↓C,↓G,q,eo,↓e4,h3,↓L];rfl
    | false=>
     simp only[]at ⊢;have s4:D0 U4 1 (BJ m).2.1.length (.sl U3.next 0 (BJ m).2.1.length (.op 1)) (Fe (BJ m).2.1) := .inr ⟨_,_,_,_,rfl,a4,by rw[Fe,DD];omega,by rw[Dv,DO,HM (by rw[Fe,DD];exact AL _)]⟩;have v4:SlV (.sl U3.next 0 (BJ m).2.1.length (.op 1)) := .inr ⟨_,_,_,_,rfl⟩;have A:∀b,AS (.sl U3.next 0 (BJ m).2.1.length (.op 1)) b->U.next<=b:=λb B=>by cases B;exact Y
     have ll:(BO (BJ m).2.1).len=(BJ m).2.1.length:=DR _;have x:Ac (BJ m).2.1.length 1000000000000=true:=by rw[Ag];omega
     cases h2:decide ((BJ m).1=2)with
     | true=>
      obtain⟨M,J,O,s6,F⟩:=Q U4 3 _ _ T r s4 v4 A;refine⟨_,M,?_,O,s6,v4,A,F⟩;unfold Je;simp only[↓rP,rA,AE,AF,AD,↓z,↓y,↓C,↓G,q,eo,↓e4,h3,h2,ll,x];exact J
     | false=>
      cases h7:decide ((BJ m).1=7)with
      | true=>
       obtain⟨M,J,O,s6,F⟩:=Q U4 6 _ _ T r s4 v4 A;refine⟨_,M,?_,O,s6,v4,A,F⟩;unfold Je;simp only[↓rP,rA,AE,AF,AD,↓z,↓y,↓C,↓G,q,eo,↓e4,h3,h2,h7,ll,x];exact J
      | false=>
       cases h4:decide ((BJ m).1=4)with
       | true=>
        obtain⟨v,t,L,s5,v5,n5,I⟩:=hO U4 (BJ m).2.1 T.ht (ad (of_decide_eq_true h4)) Z;have af:=r.le;have aa:∀b,AS v b->U.next<=b:=λb B=>by have:=n5 b B;omega
        have vo:v.one=true:=s5.one;obtain⟨M,J,O,s6,F⟩:=Q t 5 v _ (T.fr0 I) (r.trans I (λ_ _ h=>h.elim)) s5 v5 aa;refine⟨v,M,?_,O,s6,v5,aa,F⟩;unfold Je;simp only[↓rP,rA,AE,AF,AD,↓z,↓y,↓C,↓G,q,eo,↓e4,h3,h2,h7,h4,↓L,Ec vo];exact J
       | false=>
        obtain⟨t,L,K,I⟩:=hF (BJ m).2.2 7 T;refine⟨.nils,t,?_,K,D0.nil0 _,.inl rfl,λ_ h=>h.elim,r.trans I (λ_ _ h=>h)⟩;unfold Je;simp only[↓rP,rA,AE,AF,AD,↓z,↓y,↓C,↓G,q,eo,↓e4,h3,h2,h7,h4,↓L];rfl
end
def HO:List AM->List (V × FV)->List V
 | nd::b,u::a=>nd.c u.1 u.2.1++HO b a
 | _,_=>[]
theorem VK(nd:AM) iv fv:(nd.c iv fv).length=16:=rfl
theorem Wv:∀(b:List AM) (c:List (V × FV)) (nd:AM) (u:V × FV),c.length=b.length->HO (b++[nd]) (c++[u])=HO b c++nd.c u.1 u.2.1
 | [],[],nd,u,_=>by simp[HO]
 | x::b,y::c,nd,u,h=>by
  have e:=Wv b c nd u (by simpa using h);show x.c y.1 y.2.1++HO (b++[nd]) (c++[u])=(x.c y.1 y.2.1++HO b c)++_;rw[e,CK]
 | [],_::_,_,_,h=>by simp at h
 | _::_,[],_,_,h=>by simp at h
theorem NV:∀(a:List AM) (b:List (V × FV)),b.length=a.length->(HO a b).length=a.length*16
 | [],[],_=>rfl | x::a,y::b,h=>by
  have f:=NV a b (by simpa using h);show (x.c y.1 y.2.1++HO a b).length=_;rw[AY,f,VK,AK];omega
 | [],_::_,h=>by simp at h
 | _::_,[],h=>by simp at h
theorem Sw:∀(a b:List V) n d,Gj (a++b) (a.length+n) d=a++Gj b n d
 | [],b,n,d=>by simp
 | x::a,b,n,d=>by
  rw[AK,show a.length+1+n=(a.length+n)+1 by omega];show Gj (x::(a++b)) (a.length+n+1) d=x::(a++Gj b n d);rw[<-Sw a b n d];cases d with
  | nil=>simp[Gj] | cons c d=>rfl
theorem Qi:∀(a b d:List V),d.length=a.length->Gj (a++b) 0 d=d++b
 | [],b,[],_=>by cases b<;>rfl
 | x::a,b,c::d,h=>by
  show c::Gj (a++b) 0 d=_;rw[Qi a b d (by simpa using h)];rfl
 | [],_,_::_,h=>by simp at h
 | _::_,_,[],h=>by simp at h
theorem Wu:∀(a:List AM) (b:List (V × FV)) i (nd:AM) (u:V × FV),b.length=a.length->i<a.length->Gj (HO a b) (i*16) (nd.c u.1 u.2.1)=HO (a.set i nd) (b.set i u)
 | x::a,y::b,0,nd,u,_,_=>by
  show Gj (x.c y.1 y.2.1++HO a b) 0 _=nd.c u.1 u.2.1++HO a b;exact Qi _ _ _ rfl
 | x::a,y::b,i+1,nd,u,h,j=>by
  have k:=Wu a b i nd u (by simpa using h) (by simpa using j);show Gj (x.c y.1 y.2.1++HO a b) ((i+1)*16) _=x.c y.1 y.2.1++HO (a.set i nd) (b.set i u);rw[<-k,show (i+1)*16=(x.c y.1 y.2.1).length+i*16 by rw[VK];omega,Sw]
 | [],_,_,_,_,_,h=>by simp at h
 | _::_,[],_,_,_,h,_=>by simp at h
def PB(c:Nat)(a:V):Nat->Prop:=λb=>b=c\/AS a b
structure qt(U:H)(pb:Nat)(dv:V)(Q:Nat->Prop)(nd:AM)(u:V × FV):Prop where
 i:D0 U 3 nd.items.length u.1 (Yo nd.items)
 f:D0 U 11 nd.fields.length u.2.1 (WS nd.fields u.2.2)
 g:j8 U nd.fields u.2.2
 n:∀b,AS u.1 b\/NF u.2 b->b≠pb/\¬AS dv b/\¬Q b
theorem qt.fr{U U' e g Q nd}{u:V × FV}{S}(h:qt U e g Q nd u)(f:Fr S U U')(d:CI U)(c:∀b,AS u.1 b\/NF u.2 b->¬S b):qt U' e g Q nd u:=
 ⟨h.i.fr f d λb a=>c b (.inl a),h.f.fr f d λb a=>c b (.inr (.inl a)),h.g.fr f d λv i b a=>c b (.inr (.inr ⟨v,i,a⟩)),h.n⟩
structure Pn(U:H)(pb:Nat)(lv:V)(ts l:List Ad)(R:Rp)(ns:List AM)(Q:Nat->Prop):Prop where
 p:Ps U pb lv ts l R
 w:∃ws:List (V × FV),ES U 16 ns.length R.dv (HO ns ws)/\ws.length=ns.length/\∀(k:Nat) (nd:AM) (u:V × FV),ns[k]? = some nd->ws[k]? = some u->qt U pb R.dv Q nd u
 dx:∀b,AS R.dv b->b≠pb/\¬AS lv b
structure Aq(pb:Nat)(lv dv:V)(nb:Nat)(iv:V)(fv:FV):Prop where
 a:Ap pb lv nb iv fv
 d:¬AS dv nb
 i:∀b,AS iv b->¬AS dv b
 f:∀b,NF fv b->¬AS dv b
section
variable {U U':H}{nb:Nat}{nd:AM}{iv:V}{fv:FV}{pb:Nat}{lv dv dv':V}{ts l l':List Ad}{R:Rp}{ns:List AM}{Q Q':Nat->Prop}
theorem qt.lt{u:V × FV}(h:qt U pb dv Q nd u)(e:CI U){b}(c:AS u.1 b\/NF u.2 b):b<U.next:=by
 rcases c with c|c|⟨v,f,c⟩
 ·exact h.i.lt e c
 ·exact h.f.lt e c
 ·exact h.g.lt e f c
theorem Pn.goe{er}(h:Pn U pb lv ts l R ns Q)(p:Ps U' pb lv ts l' (R.e er))(f:Fr (λk=>k=pb) U U'):Pn U' pb lv ts l' (R.e er) ns Q:=by
 obtain⟨q,t,s,j⟩:=h.w;refine⟨p,⟨q,t.fr f h.p.ht λb d e=>(h.dx b d).1 e,s,λk nd u o m=>?_⟩,h.dx⟩;exact(j k nd u o m).fr f h.p.ht λb d e=>((j k nd u o m).n b d).1 e
theorem Pn.fr{S}(h:Pn U pb lv ts l R ns Q)(f:Fr S U U')(z:¬S pb)(w:∀b,AS lv b->¬S b)(q:∀b,AS R.dv b->¬S b)(s:∀b,b<U.next->S b->Q b):Pn U' pb lv ts l R ns Q:=by
 obtain⟨o,v,p,y⟩:=h.w;refine⟨h.p.fr f z w,⟨o,v.fr f h.p.ht q,p,λk nd u n r=>?_⟩,h.dx⟩;have d:=y k nd u n r;exact d.fr f h.p.ht λx m e=>(d.n x m).2.2 (s x (d.lt h.p.ht m) e)
theorem Pn.dlt(h:Pn U pb lv ts l R ns Q){b}(e:AS R.dv b):b<U.next:=by
 obtain⟨i,d,_⟩:=h.w;exact d.lt h.p.ht e
theorem Pn.llt(h:Pn U pb lv ts l R ns Q){b}(a:AS lv b):b<U.next:=h.p.src.lt h.p.ht a
theorem Pn.ext(h:Pn U pb lv ts l R ns Q)(t:∀b,Q' b->Q b\/U.next<=b):Pn U pb lv ts l R ns Q':=by
 obtain⟨v,s,n,j⟩:=h.w;refine⟨h.p,⟨v,s,n,λk nd u m o=>?_⟩,h.dx⟩;have a:=j k nd u m o;exact⟨a.i,a.f,a.g,λb d=>⟨(a.n b d).1,(a.n b d).2.1,λq=>(t b q).elim (a.n b d).2.2 λw=>by have:=a.lt h.p.ht d;omega⟩⟩
theorem Nq.frq(h:Nq U nb nd iv fv)(f:Fr (PB pb dv) U U')(i:CI U)(a:Aq pb lv dv nb iv fv):Nq U' nb nd iv fv:=
 h.fr f i (λe=>e.elim a.a.x a.d) (λb c e=>e.elim (a.a.i b c).1 (a.i b c)) (λb c e=>e.elim (a.a.f b c).1 (a.f b c))
theorem Aq.ndv(d:Aq pb lv dv nb iv fv)(q:Nq U nb nd iv fv)(g:CI U)(h:∀b,AS dv' b->AS dv b\/U.next<=b):Aq pb lv dv' nb iv fv:=
 ⟨d.a,λe=>(h nb e).elim d.d λh=>by have:=q.a.lt g;omega,λb c e=>(h b e).elim (d.i b c) λh=>by have:=q.lt_i g c;omega,λb c e=>(h b e).elim (d.f b c) λh=>by have:=q.lt_f g c;omega⟩
end
structure DA where
 lo:Nat
 go0:Nat->List Ad->Er->List AM->Bool × Nat × List Ad × Er × List AM
def DA.go(T:DA)(d:Nat)(l:List Ad)(er:Er)(a:List AM):Bool × Nat × List Ad × Er × List AM:=T.go0 d l er a
abbrev V8:=Bool × AM × List Ad × Er × List AM
def LB(nb:Nat)(iv:V)(fv:FV):Nat->Prop:=λb=>b=nb\/AS iv b\/NF fv b
def Rp.wd(R:Rp)(a:V):Rp:=⟨R.nm,R.tg,R.nv,R.tv,a,R.er⟩
def AM.af(x:AM)(f:C5):AM:=⟨x.kind,x.name,x.mHas,x.mNum,x.mMode,x.con,x.items,x.fields++[f],x.root,x.more,x.of_⟩
def Pv(nd:AM)(w:List Nat)(g i:Nat)(l:List Ad)(er:Er):Bool × C5 × List Ad × Er:=
 match decide (nd.kind=9)with
 | true=>(true,⟨w,i,false,false,0,0,[],g⟩,l,er)
 | false=>match CP (BS.mk 8 5494759122808361039) l with
  | (true,c)=>(true,⟨w,i,true,false,0,0,[],g⟩,c,er)
  | (false,c)=>match CP (BS.mk 7 23727827094750532) c with
   | (true,l4)=>match Ks l4 er with
    | (b,v,d,a)=>(b,⟨w,i,false,true,v.1,v.2.1,v.2.2,g⟩,d,a)
   | (false,l4)=>(true,⟨w,i,false,false,0,0,[],g⟩,l4,er)
def Ci(T:DA)(d g:Nat)(nd:AM)(l:List Ad)(er:Er)(j:List AM):V8:=match Jk 2 l er with
 | (false,h,er1)=>(false,nd,h,er1,j)
 | (true,h,er1)=>match T.go (d+1) h er1 j with
  | (false,_,f,a,c)=>(false,nd,f,a,c)
  | (true,i,f,a,c)=>match Pv nd (BJ l).2.1 g i f a with
   | (b,x,k,e)=>(b,nd.af x,k,e,c)
def HG(T:DA)(F:List V->H->AH):Prop:=∀{U:H}{e f ts l}{R:Rp}{a Q d},Pn U e f ts l R a Q->(∀b,Q b->b<U.next)->(T.lo<=d/\d<=1000) ->
 ∃c U',F [.ptr e 0,.int .i64 (AA d)] U=some (.tup [.int .i64 (AA (T.go d l R.er a).2.1),.bool (T.go d l R.er a).1],U')/\Pn U' e f ts (T.go d l R.er a).2.2.1 ((R.wd c).e (T.go d l R.er a).2.2.2.1) (T.go d l R.er a).2.2.2.2 Q/\Fr (PB e R.dv) U U'/\(∀b,AS c b->AS R.dv b\/U.next<=b)
structure BG(U U':H)(pb:Nat)(lv:V)(ts l':List Ad)(R:Rp)(er':Er)(ns':List AM)(Q:Nat->Prop)(nb:Nat)(nd':AM)(iv:V)(fv fv':FV)(dv':V):Prop where
 p:Pn U' pb lv ts l' ((R.wd dv').e er') ns' (λb=>Q b\/LB nb iv fv' b)
 q:Nq U' nb nd' iv fv'
 ap:Aq pb lv dv' nb iv fv'
 mf:∀b,NF fv' b->NF fv b\/U.next<=b
 md:∀b,AS dv' b->AS R.dv b\/U.next<=b
 f:Fr (λb=>PB pb R.dv b\/b=nb\/NF fv b) U U'
def JB(T:DA)(F:List V->H->AH):Prop:=∀{U:H}{c h ts l}{R:Rp}{a Q nb}{nd:AM}{iv fv d g},
 Pn U c h ts l R a (λb=>Q b\/LB nb iv fv b)->(∀b,Q b->b<U.next)->Nq U nb nd iv fv->Aq c h R.dv nb iv fv->nd.fields.length<=9000->(T.lo<=d+1/\d<=900)->g<=9000 ->
 ∃f e U',F [.ptr c 0,.ptr nb 0,.int .i64 (AA g),.int .i64 (AA d)] U=some (.bool (Ci T d g nd l R.er a).1,U') /\
  BG U U' c h ts (Ci T d g nd l R.er a).2.2.1 R (Ci T d g nd l R.er a).2.2.2.1 (Ci T d g nd l R.er a).2.2.2.2 Q nb (Ci T d g nd l R.er a).2.1 iv fv e f
section
variable {U U1 U2:H}{pb:Nat}{lv:V}{ts l l1 l2:List Ad}{R:Rp}{er1 er2:Er}{ns ns1 ns2:List AM}{Q:Nat->Prop}{nb:Nat}{nd nd1 nd2:AM}{iv:V}{fv fv1 fv2:FV}{dv1 dv2:V}
theorem BG.trans(h:BG U U1 pb lv ts l1 R er1 ns1 Q nb nd1 iv fv fv1 dv1)(k:BG U1 U2 pb lv ts l2 ((R.wd dv1).e er1) er2 ns2 Q nb nd2 iv fv1 fv2 dv2):BG U U2 pb lv ts l2 R er2 ns2 Q nb nd2 iv fv fv2 dv2:=by
 have x:=h.f.le;refine⟨k.p,k.q,k.ap,λb f=>(k.mf b f).elim (h.mf b) (λe => .inr (by omega)),λb f=>(k.md b f).elim (h.md b) (λe => .inr (by omega)),h.f.trans k.f λb f e=>?_⟩;rcases e with (e|e)|e|e
 ·exact .inl (.inl e)
 ·exact(h.md b e).elim (λh => .inl (.inr h)) (λh=>by omega)
 ·exact .inr (.inl e)
 ·exact(h.mf b e).elim (λh => .inr (.inr h)) (λh=>by omega)
theorem BG.go(h:Pn U pb lv ts l R ns (λb=>Q b\/LB nb iv fv b))(q:Nq U nb nd iv fv)(g:Aq pb lv R.dv nb iv fv)(p:Ps U1 pb lv ts l1 (R.e er1))(f:Fr (λk=>k=pb) U U1):BG U U1 pb lv ts l1 R er1 ns Q nb nd iv fv fv R.dv:=
 ⟨h.goe p f,q.frx f h.p.ht g.a,g,λ_ h => .inl h,λ_ h => .inl h,f.mono λ_ _ e => .inl (.inl e)⟩
theorem BG.own(h:Pn U pb lv ts l R ns (λb=>Q b\/LB nb iv fv b))(a:Aq pb lv R.dv nb iv fv)(q:Nq U1 nb nd1 iv fv)(f:Fr (λk=>k=nb) U U1):BG U U1 pb lv ts l R R.er ns Q nb nd1 iv fv fv R.dv:=
 ⟨h.fr f (λe=>a.a.x e.symm) (λb c e=>a.a.l (e ▸ c)) (λb c e=>a.d (e ▸ c)) (λb _ e => .inr (.inl e)),q,a,λ_ h => .inl h,λ_ h => .inl h,f.mono λ_ _ e => .inr (.inl e)⟩
end
section
variable {E:EB}{D:Am}{N:Nat}
theorem XG{T:DA}(hO:PN (D 26))(hI:Gr (D 62))(hV:Vv (D 114))(hT:HG T (D 63)):JB T (jv E D (AZ E D) N):=by
 intro U pb lv ts l R ns Q nb nd iv fv d g h hQ q ap hfl hd hg;obtain⟨U1,g1,p1,f1⟩:=hO 2 h.p h.p.llt;have g1:=g1;unfold Bu at g1;have s1:=BG.go h q ap p1 f1;show ∃C fv' U',Lu E D (AZ E D) (Vs E D (AZ E D)) pb 0 nb 0 (AA g) (AA d) U=_/\_;unfold Ci;generalize Jk 2 l R.er=i1 at g1 p1 s1 ⊢;obtain⟨b1,l1,er1⟩:=i1;simp only[]at g1 p1 s1 ⊢;cases b1 with
 | false=>
  refine⟨R.dv,fv,U1,?_,s1⟩;unfold Lu;simp only[↓rP,rS,↓g1]
 | true=>
  obtain⟨U2,e2,f2,a2,n2⟩:=Ia p1.ht [.str ⟨0,0⟩,.int .i64 (AA 0),.bool false,.bool false,.int .i64 (AA 0),.int .i64 (AA 0),.nils,.nils,.int .i64 (AA 0),.nils,.int .i64 (AA 0)];obtain⟨w,hw⟩:∃w,w=(BJ l).2.1:=⟨_,rfl⟩;rw[<-hw]at g1 ⊢;obtain⟨U3,s3,a3,f3⟩:=Jo (n:=11) (o:=0) (v := .agg [.str (BO w),.int .i64 (AA 0),.bool false,.bool false,.int .i64 (AA 0),.int .i64 (AA 0),.nils,.nils,.int .i64 (AA 0),.nils,.int .i64 (AA g)]) f2.tidy a2 rfl rfl;have h1:=s1.p;have q1:=s1.q;have f13:Fr Af U1 U3:=f2.trans f3 (λb j e=>by omega);have le1:=f1.le;have le3:=f13.le;have lfb:U1.next<U3.next:=a3.lt f3.tidy;have h3:Pn U3 pb lv ts l1 (R.e er1) ns (λb=>(Q b\/LB nb iv fv b)\/b=U1.next):=(h1.ext λb j=>j.elim .inl λe => .inr (by omega)).fr f13 (λh=>h) (λ_ _ h=>h) (λ_ _ h=>h) (λ_ _ h=>h.elim);have q3:=q1.fr f13 p1.ht (λh=>h) (λ_ _ h=>h) (λ_ _ h=>h);have lnb:=q1.a.lt p1.ht;have lif:∀b,AS iv b->b<U1.next:=λb j=>q1.lt_i p1.ht j;have lff:∀b,NF fv b->b<U1.next:=λb j=>q1.lt_f p1.ht j;obtain⟨C,U4,g4,h4,f4,m4⟩:=hT (d:=d+1) h3 (λb j=>by
   rcases j with (j|j|j|j)|j
   ·have:=hQ b j;omega
   ·omega
   ·have:=lif b j;omega
   ·have:=lff b j;omega
   ·omega) (by omega)
  have er:(R.e er1).er=er1:=rfl;rw[er]at g4 h4;have xlt:=p1.lt;have dlt:∀b,AS R.dv b->b<U1.next:=λb j=>h1.dlt j;have b4:=f4.at_ a3 f3.tidy (λe=>by
   rcases e with e|e
   ·omega
   ·have:=dlt _ e;omega)
  have q4:=q3.frq f4 f3.tidy ap;have ap4:Aq pb lv C nb iv fv:=ap.ndv q3 f3.tidy m4;have le4:=f4.le;have ad:BP .i64 (AA d) (AA 1)=AA (d+1):=BB (by omega);have dlt4:∀b,AS C b->b≠U1.next:=λb j e=>by
   rcases m4 b j with h|h
   ·have:=dlt b h;omega
   ·omega
  have llt:∀b,AS lv b->b<U1.next:=λb j=>p1.llt b j;simp only[]at ⊢;obtain⟨i4,hi4⟩:∃r,T.go (d+1) l1 er1 ns=r:=⟨_,rfl⟩;rw[hi4]at g4 h4 ⊢;clear hi4;obtain⟨b4',i,l2,er2,ns2⟩:=i4;simp only[]at g4 h4 ⊢;obtain⟨U5,g5,a5,f5⟩:=Jo (n:=1) (o:=1) (v := .int .i64 (AA i)) (l':=C5.c ⟨w,i,false,false,0,0,[],g⟩ .nils) h4.p.ht b4 rfl rfl;have h5:=h4.fr f5 (by omega) (λb j e=>by have:=llt b j;omega) dlt4 (λb _ e => .inr e);have q5:=q4.fr f5 h4.p.ht (by omega) (λb j e=>by have:=lif b j;omega) (λb j e=>by have:=lff b j;omega);have q5a:=q5.a;unfold AM.c at q5a;have f05:Fr (λb=>PB pb R.dv b\/b=nb\/NF fv b) U U5:=(((f1.mono (λ_ _ h => .inl (.inl h)):Fr (λb=>PB pb R.dv b\/b=nb\/NF fv b) U U1).trans f13 (λ_ _ h=>h.elim)).trans f4 (λ_ _ h => .inl h)).trans f5 (λb j e=>by omega);have le5:=f5.le;have mdv:∀b,AS C b->AS R.dv b\/U.next<=b:=λb j=>(m4 b j).imp id λh=>by omega
  cases b4' with
  | false=>
   refine⟨C,fv,U5,?_,⟨h5.ext λb j => .inl (.inl j),q5,ap4,λ_ h => .inl h,mdv,f05⟩⟩;unfold Lu;simp only[↓rP,rA,AE,AF,AD,↓g1,↓e2,↓s3,ad,↓g4,↓g5]
  | true=>
   simp only[]at ⊢;have er5:((R.wd C).e er2).er=er2:=rfl;have l5:=h5.p.lt;have fin:∀(x:C5) (v:V) (ok:Bool) (U6:H) (l6:List Ad) (er6:Er),Pn U6 pb lv ts l6 ((R.wd C).e er6) ns2 (λb=>((Q b\/LB nb iv fv b)\/b=U1.next)\/U5.next<=b)->Nq U6 nb nd iv fv->DQ U6 U1.next (x.c v)->D0 U6 1 x.db.length v (Fe x.db)->SlV v->(∀b,AS v b->U5.next<=b) ->
     Fr (λb=>PB pb R.dv b\/b=nb\/NF fv b) U U6->U5.next<=U6.next ->
     ∃fv' U',Vs E D (AZ E D) nb 0 ok U1.next 0 U6=some (.bool ok,U')/\BG U U' pb lv ts l6 R er6 ns2 Q nb (nd.af x) iv fv fv' C:=by
    intro x v ok U6 l6 er6 p6 q6 b6 hv sv nv f06 le56;have q6a:=q6.a;unfold AM.c at q6a;unfold C5.c at b6;obtain⟨e',u,U7,g7,t1,a7,d7,m7,n7,f7⟩:=ZN (E:=E) (D:=D) (v:=fv.1) (p0:=ok) p6.p.ht q6a rfl b6 q6.f (by omega) (by omega) (λh=>q6.nf (.inl h)) (λh=>by have:=lff _ (.inl h);omega) sv;have le6:=f06.le;have vlt:∀b,AS v b->b<U6.next:=λb j=>hv.lt p6.p.ht j;have nu:∀b,NF (u,fv.2++[v]) b->NF fv b\/U5.next<=b:=λb j=>by
     rcases j with j|⟨y,hy,j⟩
     ·exact(m7 b j).elim (λh => .inl (.inl h)) (λh => .inr (by omega))
     ·rcases Dw.1 hy with hy|hy
      ·exact .inl (.inr ⟨y,hy,j⟩)
      ·rw[B0]at hy
       subst hy;exact .inr (nv b j)
    have g7':j8 U7 (nd.fields++[x]) (fv.2++[v]):=by
     have g0:=q6.g.fr f7 p6.p.ht (λy hy b j e=>by
      rcases e with e|e
      ·exact q6.nf (e ▸ .inr ⟨y,hy,j⟩)
      ·exact q6.gd y hy b j e)
     refine⟨by rw[AY,AY,g0.1];rfl,λk y z hy hz=>?_⟩;rcases Av k nd.fields.length with hk|hk
     ·rw[Cu hk]at hy
      rw[Cu (by rw[g0.1];exact hk)]at hz;exact g0.2 k y z hy hz
     ·rw[Ck hk]at hy
      rw[Ck (by rw[g0.1];exact hk),g0.1]at hz;have hk0:k-nd.fields.length=0:=by
       rcases SV (k-nd.fields.length)with h|h
       ·exact h
       ·rw[Ae (by simp only[AK,Aa];omega)]at hy;cases hy
      rw[hk0]at hy hz;cases hy;cases hz;exact hv.fr f7 p6.p.ht (λb j e=>by
       have:=nv b j;rcases e with e|e
       ·omega
       ·have:=lff b (.inl e);omega)
    have q7:Nq U7 nb (nd.af x) iv (u,fv.2++[v]):=⟨a7,q6.i.fr f7 p6.p.ht (λb j e=>by
      rcases e with e|e
      ·exact q6.ni (e ▸ j)
      ·exact q6.d b j (.inl e)),by
      have e1:(nd.fields++[x]).length=nd.fields.length+1:=by simp
      show ES U7 11 (nd.fields++[x]).length u (WS (nd.fields++[x]) (fv.2++[v]));rw[e1,VV _ _ _ _ q6.g.1];exact d7,g7',q6.ni,λe=>(nu _ e).elim q6.nf (λh=>by omega),λb j hu=>by
      rcases nu b hu with h|h
      ·exact q6.d b j h
      ·have:=lif b j;omega,λy hy b j e=>by
      rcases Dw.1 hy with hy|hy
      ·rcases m7 b e with h|h
       ·exact q6.gd y hy b j h
       ·have:=lff b (.inr ⟨y,hy,j⟩);omega
      ·rw[B0]at hy
       subst hy;have:=nv b j;have:=vlt b j;rcases m7 b e with h|h
       ·have:=lff b (.inl h);omega
       ·omega⟩
    have dl5:∀b,AS C b->b<U5.next:=λb j=>h5.dlt j;have h7:=p6.fr f7 (λe=>by
      rcases e with e|e
      ·exact ap.a.x e.symm
      ·exact(ap.a.f _ (.inl e)).1 rfl) (λb j e=>by
      rcases e with e|e
      ·exact ap.a.l (e ▸ j)
      ·exact(ap.a.f _ (.inl e)).2 j) (λb j e=>by
      rcases e with e|e
      ·exact ap4.d (e ▸ j)
      ·exact ap4.f _ (.inl e) j) (λb _ e => .inl (.inl (.inr (e.elim .inl λe => .inr (.inr (.inl e))))))
    have s7:BG U U7 pb lv ts l6 R er6 ns2 Q nb (nd.af x) iv fv (u,fv.2++[v]) C:=by
     refine⟨h7.ext λb j => .inl ?_,q7,⟨⟨ap.a.x,ap.a.l,ap.a.i,λb j=>?_⟩,ap4.d,ap4.i,λb j=>?_⟩,λb j=>(nu b j).elim .inl (λh => .inr (by omega)),mdv,f06.trans f7 (λb _ e => .inr (e.elim .inl λe => .inr (.inl e)))⟩
     ·rcases j with j|j|j|j
      ·exact .inl (.inl (.inl j))
      ·exact .inl (.inl (.inr (.inl j)))
      ·exact .inl (.inl (.inr (.inr (.inl j))))
      ·rcases nu b j with h|h
       ·exact .inl (.inl (.inr (.inr (.inr h))))
       ·exact .inr h
     ·rcases nu b j with h|h
      ·exact ap.a.f b h
      ·exact⟨by omega,λhn=>by have:=llt b hn;omega⟩
     ·rcases nu b j with h|h
      ·exact ap4.f b h
      ·exact λhn=>by have:=dl5 b hn;omega
    refine⟨_,U7,?_,s7⟩;have gd:∀J:Cb->H->AH,DZ (AZ E D Ow Lz [(1,.ptr nb 0),(10,.bool ok),(11,.ptr U1.next 0)] U6) J=J e' U7:=λJ=>by rw[g7];rfl
    have m1:∀J:V->AH,EO e' 10 J=J (.bool ok):=λJ=>D4 t1 rfl;unfold Vs;simp only[↓rP,rS,↓gd,↓m1]
   have h5':Pn U5 pb lv ts l2 ((R.wd C).e er2) ns2 (λb=>((Q b\/LB nb iv fv b)\/b=U1.next)\/U5.next<=b):=h5.ext λb j=>j;unfold Pv;cases hk9:decide (nd.kind=9)with
   | true=>
    simp only[]at ⊢;obtain⟨fv',U',g',s'⟩:=fin ⟨w,i,false,false,0,0,[],g⟩ .nils true U5 _ _ h5' q5 a5 (D0.nil0 _) (.inl rfl) (λ_ h=>h.elim) f05 (AL _);refine⟨C,fv',U',?_,s'⟩;rw[<-g'];unfold Lu;simp only[↓rP,rA,AE,AF,AD,↓g1,↓e2,↓s3,ad,↓g4,↓g5,↓AT q5a,hk9]
   | false=>
    simp only[]at ⊢;obtain⟨U6,g6,p6,f6⟩:=hI (BS.mk 8 5494759122808361039) h5.p;have h6:=h5'.goe (er:=er2) p6 f6;have q6:=q5.frx f6 h5.p.ht ap.a;have b6:=f6.at_ a5 h5.p.ht (by omega);have f06:=f05.trans f6 (λ_ _ h => .inl (.inl h));have le6:=f6.le;generalize CP (BS.mk 8 5494759122808361039) l2=i6 at g6 p6 h6 ⊢;obtain⟨b6',l3⟩:=i6;cases b6' with
    | true=>
     obtain⟨U7,g7,a7,f7⟩:=Jo (n:=1) (o:=2) (v := .bool true) (l':=C5.c ⟨w,i,true,false,0,0,[],g⟩ .nils) p6.ht b6 rfl rfl;have h7:=h6.fr f7 (by omega) (λb j e=>by have:=llt b j;omega) dlt4 (λb _ e => .inl (.inr e));have q7:=q6.fr f7 p6.ht (by omega) (λb j e=>by have:=lif b j;omega) (λb j e=>by have:=lff b j;omega);obtain⟨fv',U',g',s'⟩:=fin ⟨w,i,true,false,0,0,[],g⟩ .nils true U7 _ _ h7 q7 a7 (D0.nil0 _) (.inl rfl) (λ_ h=>h.elim) (f06.trans f7 (λb j e=>by omega)) (by have:=f7.le;omega);refine⟨C,fv',U',?_,s'⟩;rw[<-g'];unfold Lu;simp only[↓rP,rA,AE,AF,AD,↓g1,↓e2,↓s3,ad,↓g4,↓g5,↓AT q5a,hk9,↓g6,↓g7]
    | false=>
     simp only[]at g6 p6 h6 ⊢;obtain⟨U7,g7,p7,f7⟩:=hI (BS.mk 7 23727827094750532) p6;have h7:=h6.goe (er:=er2) p7 f7;have q7:=q6.frx f7 p6.ht ap.a;have b7:=f7.at_ b6 p6.ht (by omega);have f07:=f06.trans f7 (λ_ _ h => .inl (.inl h));have le7:=f7.le;generalize CP (BS.mk 7 23727827094750532) l3=i7 at g7 p7 h7 ⊢;obtain⟨b7',l4⟩:=i7;cases b7' with
     | false=>
      simp only[]at g7 p7 h7 ⊢;obtain⟨fv',U',g',s'⟩:=fin ⟨w,i,false,false,0,0,[],g⟩ .nils true U7 _ _ h7 q7 b7 (D0.nil0 _) (.inl rfl) (λ_ h=>h.elim) f07 (by omega);refine⟨C,fv',U',?_,s'⟩;rw[<-g'];unfold Lu;simp only[↓rP,rA,AE,AF,AD,↓g1,↓e2,↓s3,ad,↓g4,↓g5,↓AT q5a,hk9,↓g6,↓g7]
     | true=>
      simp only[]at g7 p7 h7 ⊢;obtain⟨U8,g8,a8,f8⟩:=Jo (n:=1) (o:=3) (v := .bool true) (l':=C5.c ⟨w,i,false,true,0,0,[],g⟩ .nils) p7.ht b7 rfl rfl;have h8:=h7.fr f8 (by omega) (λb j e=>by have:=llt b j;omega) dlt4 (λb _ e => .inl (.inr e));have q8:=q7.fr f8 p7.ht (by omega) (λb j e=>by have:=lif b j;omega) (λb j e=>by have:=lff b j;omega);have f08:=f07.trans f8 (λb j e=>by omega);have le8:=f8.le;obtain⟨v,U9,g9,p9,hs9,sv,nv,f9⟩:=hV h8.p;have er8:((((R.wd C).e er2).e er2).e er2).er=er2:=rfl;rw[er8]at g9 p9 hs9;have h9:=h8.goe p9 f9;have q9:=q8.frx f9 h8.p.ht ap.a;have b9:=f9.at_ a8 h8.p.ht (by omega);have f09:=f08.trans f9 (λ_ _ h => .inl (.inl h));have le9:=f9.le;generalize Ks l4 er2=i9 at g9 p9 hs9 h9 ⊢;obtain⟨bk,x9,l9,er9⟩:=i9;obtain⟨dk,dn,db⟩:=x9;simp only[]at g9 p9 hs9 h9 ⊢;unfold dR.c at g9;simp only[]at g9;have vo:=hs9.one;obtain⟨Ua,ga,aa,fa⟩:=Jo (n:=6) (o:=4) (v := .agg [.int .i64 (AA dk),.int .i64 dn,v,.nils,.int .i64 (AA 0),.nils]) (l':=C5.c ⟨w,i,false,true,dk,dn,db,g⟩ v) p9.ht b9 (by
       show (Ax 6 6&&Ac (AN 4 6) 11&&BM [.int .i64 (AA dk),.int .i64 dn,v,.nils,.int .i64 (AA 0),.nils])=true;simp only[BW,Bg,Ed,FR,vo,Au];rfl) rfl
      have ha:=h9.fr fa (by omega) (λb j e=>by have:=llt b j;omega) dlt4 (λb _ e => .inl (.inr e));have qa:=q9.fr fa p9.ht (by omega) (λb j e=>by have:=lif b j;omega) (λb j e=>by have:=lff b j;omega);obtain⟨fv',U',g',s'⟩:=fin ⟨w,i,false,true,dk,dn,db,g⟩ v bk Ua _ _ ha qa aa (hs9.fr fa p9.ht (λb j e=>by have:=nv b j;omega)) sv (λb j=>by have:=nv b j;omega) (f09.trans fa (λb j e=>by omega)) (by have:=fa.le;omega);refine⟨C,fv',U',?_,s'⟩;rw[<-g'];unfold Lu;simp only[↓rP,rA,AE,AF,AD,↓g1,↓e2,↓s3,ad,↓g4,↓g5,↓AT q5a,hk9,↓g6,↓g7,↓g8,↓g9,↓ga]
end
end
end Go.Proofs.YtnpcmeaplmfdlaaGreatDoor
