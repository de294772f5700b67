/- What the last text leans on, part 7 of 10: merged out of smaller texts. No condition. -/
import Derived.Shelf.LaysC
import Derived.Test.YtnpcmeaplmfdlaaGreatDoorV5
open Int renaming ofNat -> AA
open Nat renaming reduceLeDiff -> AD,reduceEqDiff -> AE,reduceLT -> AF,le_refl -> AL,add -> AN,le_trans -> AU,ble -> Ac,ble_eq -> Ag,lt_or_ge -> Av,beq -> Ax,zero_le -> BF,zero_add -> BQ,lt_of_lt_of_le -> Cj,le_succ -> C9,mul_one -> DO,succ_ne_zero -> Df,beq_refl -> GC,le_add_right -> HQ,succ_pos -> Ih,eq_zero_or_pos -> SV
open Bool renaming and_eq_true -> AI,and_true -> Au,true_and -> BX,false_and -> BY,or_eq_true -> B5,false_or -> C7,or_false -> EW,and_false -> EX,or_true -> xU
open List renaming length_cons -> AK,length_append -> AY,length_nil -> Aa,getElem?_eq_none -> Ae,mem_cons_of_mem -> Ar,mem_cons_self -> As,mem_cons -> BK,mem_singleton -> B0,append_assoc -> CK,append_nil -> CZ,getElem?_append_right -> Ck,getElem?_append_left -> Cu,length_map -> DD,drop_zero -> Dv,mem_append -> Dw,not_mem_nil -> D7,take_of_length_le -> HM,nil_append -> IW,map_append -> IX,any_cons -> P0,length_pos_iff -> tn
open Eq renaming trans -> j1
set_option linter.all false
set_option maxRecDepth 100000
namespace Go.Proofs.YtnpcmeaplmfdlaaGreatDoor
open Go Go.Og
noncomputable section
def Nf(l:List Ad)(er:Er):Fu × List Ad × Er:=match Dz 2 l er with
 | (w,d,er1)=>match Ew (BS.mk 1 40) d er1 with
  | (false,a)=>(⟨w,0,false⟩,a,er1)
  | (true,a)=>match J1 a er1 with
   | (n,c,b)=>match CG (BS.mk 1 41) c b with
    | (l4,er4)=>(⟨w,n,true⟩,l4,er4)
def OR(s:IS)(l:List Ad)(er:Er):IS × List Ad × Er:=
 match (match decide (0<s.1.length) && !s.2.1 with | true=>Ew (BS.mk 3 3026478) l er | false=>(false,l))with
 | (true,b)=>((s.1,true,s.1.length),b,er)
 | (false,b)=>match Nf b er with
  | (x,c,a)=>((s.1++[x],s.2.1,s.2.2),c,a)
def jP(s:IS):IS:=(s.1,s.2.1,match s.2.1 with | true=>s.2.2 | false=>s.1.length)
def MW:Nat->IS->List Ad->Er->IS × List Ad × Er
 | 0,s,l,er=>(s,l,FU er 5 0)
 | n+1,s,l,er=>match decide (er.1=0)with
  | false=>(jP s,l,er)
  | true=>match OR s l er with
   | (b,c,er1)=>match Ew (BS.mk 1 44) c er1 with
    | (true,a)=>MW n b a er1
    | (false,a)=>(jP b,a,er1)
@[irreducible] def Q9(s:IS)(l:List Ad)(er:Er):IS × List Ad × Er:=MW fu s l er
theorem Dl s (l:List Ad)(er:Er):(Ew s l er).2.length<=l.length:=by
 unfold Ew;cases decide (er.1=0)with
 | true=>exact DY s l | false=>exact AL _
theorem DJ s (l:List Ad)(er:Er):(CG s l er).1.length<=l.length:=by
 unfold CG;cases decide (er.1=0)with
 | false=>exact AL _ | true=>
  cases FE s l with
  | true=>exact JW l | false=>exact AL _
theorem Lb k (l:List Ad)(er:Er):(Dz k l er).2.1.length<=l.length:=by
 unfold Dz;cases decide (er.1=0)&&decide ((BJ l).1=k)with
 | true=>exact JW l | false=>exact AL _
theorem P5(l:List Ad) er:(J1 l er).2.1.length<=l.length:=by
 have:=Lb 3 l er;unfold J1;generalize Dz 3 l er=i at this ⊢;obtain⟨w,e,er1⟩:=i;exact this
theorem cy(l:List Ad) er:(Nf l er).2.1.length<=l.length:=by
 have g:=Lb 2 l er;unfold Nf;generalize Dz 2 l er=t at g ⊢;obtain⟨w,p,er1⟩:=t;have i:=Dl (BS.mk 1 40) p er1;simp only[]at g ⊢;generalize Ew (BS.mk 1 40) p er1=q at i ⊢;obtain⟨b,o⟩:=q;cases b with
 | false=>exact AU i g | true=>
  have m:=P5 o er1;simp only[]at i ⊢;generalize J1 o er1=r at m ⊢;obtain⟨n,u,k⟩:=r;have s:=DJ (BS.mk 1 41) u k;simp only[]at m ⊢;exact AU s (AU m (AU i g))
theorem Ps.isR_lt{U f i}{ts l:List Ad}{R}(h:Ps U f i ts l R){s}{er:Er}{l':List Ad}(e:Ew s l er=(true,l')):l'.length+1<=l.length:=by
 unfold Ew at e;cases d:decide (er.1=0)with
 | true=>rw[d]at e;exact h.isS_lt e | false=>rw[d]at e;cases e
def V2(F:List V->H->AH):Prop:=∀{U a c ts l}{R:Rp}{nb}{nd:AM}{iv fv},Ps U a c ts l R->Nq U nb nd iv fv->Ap a c nb iv fv->nd.items=[] ->
 ∃b U',F [.ptr a 0,.ptr nb 0] U=some (.tup [],U')/\GK U U' a c ts (Q9 nd.is l R.er).2.1 (R.e (Q9 nd.is l R.er).2.2) nb (nd.wi (Q9 nd.is l R.er).1) iv b fv
def jF(D:Am)(c:Nat)(K:Nat->H->AH)(U:H):AH:=
 BT (D 12 [.ptr c 0,.int .i64 (AA 2)] U) λf a=>JM f λj=>
 Cg 3 (H.next a) 0 (V.agg [.str j,.int .i64 (AA 0),.bool false]) (B9 a (.cells [.str ⟨0,0⟩,.int .i64 (AA 0),.bool false])) λh=>
 BT (D 14 [.ptr c 0,.str (BS.mk 1 40)] h) λe b=>CN e λp=>AG p (
  BT (D 33 [.ptr c 0] b) λi n=>BZ .i64 i λl=>
  Cg 1 (H.next a) 2 (V.bool true) n λm=>Cg 1 (H.next a) 1 (V.int .i64 l) m λk=>
  BT (D 13 [.ptr c 0,.str (BS.mk 1 41)] k) λg o=>HV g λd=>BD d (K (H.next a) o)) (K (H.next a) b)
section
variable {E:EB}{D:Am}{N:Nat}
theorem jI{U:H}{nb A}{l:List V}{v k m s n c p0}(p:CI U)(J:DQ U nb l)(L:l[11]? = some v)(Q:DQ U A [.str s,.int .i64 n,.bool c])(M:ES U 3 k v m)(hk:k<=9000)(ab:nb≠A)(G:¬AS v nb)(ni:¬AS v A):
    ∃P u U',AZ E D Tw PV [(0,p0),(1,.ptr nb 0),(4,.ptr A 0)] U=some (P,U')/\Go.Og.look P 0=some p0/\Go.Og.look P 1=some (.ptr nb 0)/\DQ U' nb (Gj l 11 [u])/\ES U' 3 (k+1) u (m++[.str s,.int .i64 n,.bool c])/\(∀b,AS u b->AS v b\/U.next<=b)/\¬AS u nb/\Fr (λb=>b=nb\/AS v b) U U':=by
  have fw:Fr Af U ⟨U.next+11,U.bl⟩:=(Cn (E:=E) p).fr;have lb:=J.lt p;have li:=Q.lt p;obtain⟨z,r⟩:∃z,z=(⟨U.next+11,(U.next+6,.cells [.str s,.int .i64 n,.bool c])::U.bl⟩:H):=⟨_,rfl⟩;have C:Fr Af U z:=by
    rw[r];refine⟨λb q=>?_,HQ _ _,λb q hn=>?_⟩
    · have q:U.next+11<=b:=q
      show CB ((U.next+6,_)::U.bl) b=none;rw[Bb,if_neg (by simp only[];omega)];exact p b (by omega)
    · show CB ((U.next+6,_)::U.bl) b=_
      rw[Bb,if_neg (by simp only[];omega)]
  have aa:DQ z (U.next+6) [.str s,.int .i64 n,.bool c]:=by
    rw[r];show CB ((U.next+6,_)::U.bl) _=_;rw[Bb,if_pos rfl]
  have xs:D0 z 3 1 (V.sl (U.next+6) 0 1 (.ex 1)) [.str s,.int .i64 n,.bool c] := .inr ⟨_,_,_,_,rfl,aa,AL _,rfl⟩;have Z:BM [.str s,.int .i64 n,.bool c]=true:=by simp only[BW,Bg,FF,Ed,GP,FR,Au]
  obtain⟨u,K,g2,O,W,B⟩:=Fa (bytes:=32) (M.fr C p (λ_ _ h=>h)) C.tidy xs Z (by unfold CX;simp only[AI,Ag];omega);have na:z.next=U.next+11:=by rw[r]
  have vl:∀b,AS v b->b<U.next:=λb q=>M.lt p q;have a2:DQ K nb l:=B.at_ (C.at_ J p (λh=>h)) C.tidy G;obtain⟨o1,o2⟩:=E3 O.one;have st:∃U3,FW E D (.store 1 (.tmp 58) (.tmp 56)) [(58,.ptr nb 11),(56,u)] K=some (.dead,U3)/\Fr (λk=>k=nb) K U3/\DQ U3 nb (Gj l 11 [u]):=by
    obtain⟨U3,Y,q2,q3⟩:=Fj (D:=D) (n:=1) (x := .tmp 58) (y := .tmp 56) (e:=[(58,.ptr nb 11),(56,u)]) B.tidy a2 rfl (show (Cv [(58,.ptr nb 11),(56,u)] (.tmp 56)).cells=[u] from o2) (by
      have:11<l.length:=by
        rcases Av 11 l.length with h|h
        · exact h
        · rw[Ae h]at L;cases L
      simp only[BW,Bg,O.one,Au,AK,Aa,BQ,GC,BX,Ag];omega)
    exact⟨U3,Y,q2,q3⟩
  obtain⟨U3,g3,N,c3⟩:=st;have X:¬AS u nb:=λh=>(W nb h).elim G λh=>by omega
  have vb:V.beq v v=true:=by
    rcases M with h|⟨b,rfl,_⟩
    · rcases h with ⟨_,rfl,_⟩ | ⟨_,rfl,_⟩<;>exact Bz _ rfl
    · exact Bz _ rfl
  have go:Ha (Ml E U 11 PV _ U3) E D U 11 0 Tw PV ⟨[(0,p0),(1,.ptr nb 0),(4,.ptr A 0)],U.next+11,[U.bl],[],0,[]⟩:=
    DC (.ptr nb 0) rfl rfl <|
    DC (.ptr nb 0) rfl rfl <|
    DC (.ptr nb 0) rfl rfl <|
    DC (.ptr nb 11) rfl rfl <|
    Lg v (Cn (S:=AS v) p) rfl (FG (b:=nb) (off:=11) rfl J L p G vb) λr1=>
    Lg (.agg [.str s,.int .i64 n,.bool c]) r1 rfl (KV (b:=A) (off:=0) rfl Q rfl rfl p ni (Bz _ rfl)) λr2=>
    TC (.sl (U.next+6) 0 1 (.ex 1)) (.cells [.str s,.int .i64 n,.bool c]) 64 r2 rfl (by decide) (by decide) rfl λ_ T=>
    TA u (by rw[<-r]at T;exact T) rfl (by decide) (S':=AS v) B (λ_ _ h=>h) (λb h h1 _=>by have:=vl b h;omega) (MN rfl rfl g2) λ_ _ r4=>
    DC (.ptr nb 0) rfl rfl <|
    DC (.ptr nb 11) rfl rfl <|
    QB .dead r4 rfl (by decide) N (λb h h1 _=>by omega) g3 (λx R=>by
      simp only[BK,D7,or_false]at R;rcases R with rfl|rfl
      · show IQ PV 5 [10,7] []=false
        decide
      · show IQ PV 4 [10,7] []=false
        decide)
  have d:=Lh (ops:=Tw) go;refine⟨_,u,U3,d,rfl,rfl,c3,O.fr N B.tidy (λb q e=>X (e ▸ q)),λb q=>(W b q).elim .inl (λh => .inr (by omega)),X,?_⟩;exact((C.mono (λ_ _ h=>h.elim):Fr (λb=>b=nb\/AS v b) U z).trans B (λ_ _ h => .inr h)).trans N (λ_ _ h => .inl h)
theorem ZM{U:H}{nb I}{l:List V}{v k m s n c z C B A}{x:V}(q:CI U)(O:DQ U nb l)(N:l[12]? = some v)(hi:DQ U I [.str s,.int .i64 n,.bool c,.bool A,.int .i64 C,.int .i64 B,x,.nils,.int .i64 (AA 0),.nils,.int .i64 z])(Q:ES U 11 k v m)(hk:k<=9000)(ab:nb≠I)(P:¬AS v nb)(ni:¬AS v I)(J:x = .nils\/∃b o k c,x = .sl b o k c):
    ∃e' u U',AZ E D Tu PU [(1,.ptr nb 0),(8,.ptr I 0)] U=some (e',U')/\DQ U' nb (Gj l 12 [u])/\ES U' 11 (k+1) u (m++[.str s,.int .i64 n,.bool c,.bool A,.int .i64 C,.int .i64 B,x,.nils,.int .i64 (AA 0),.nils,.int .i64 z])/\(∀b,AS u b->AS v b\/U.next<=b)/\¬AS u nb/\Fr (λb=>b=nb\/AS v b) U U':=by
  have fw:=(Cn (E:=E) (n:=11) (S:=Af) q).fr;have xo:x.one=true:=by rcases J with rfl | ⟨b,o,k,c,rfl⟩<;>rfl
  have xb:V.inn (λ_=>true) x=true:=by rcases J with rfl | ⟨b,o,k,c,rfl⟩<;>simp[V.inn]
  have lb:=O.lt q;have li:=hi.lt q;obtain⟨F,t⟩:∃F,F=(⟨U.next+11,(U.next+6,.cells [.str s,.int .i64 n,.bool c,.bool A,.int .i64 C,.int .i64 B,x,.nils,.int .i64 (AA 0),.nils,.int .i64 z])::U.bl⟩:H):=⟨_,rfl⟩;have K:Fr Af U F:=by
    rw[t];refine⟨λb r=>?_,HQ _ _,λb r hn=>?_⟩
    · have r:U.next+11<=b:=r
      show CB ((U.next+6,_)::U.bl) b=none;rw[Bb,if_neg (by simp only[];omega)];exact q b (by omega)
    · show CB ((U.next+6,_)::U.bl) b=_
      rw[Bb,if_neg (by simp only[];omega)]
  have aa:DQ F (U.next+6) [.str s,.int .i64 n,.bool c,.bool A,.int .i64 C,.int .i64 B,x,.nils,.int .i64 (AA 0),.nils,.int .i64 z]:=by
    rw[t];show CB ((U.next+6,_)::U.bl) _=_;rw[Bb,if_pos rfl]
  have xs:D0 F 11 1 (V.sl (U.next+6) 0 1 (.ex 1)) [.str s,.int .i64 n,.bool c,.bool A,.int .i64 C,.int .i64 B,x,.nils,.int .i64 (AA 0),.nils,.int .i64 z] := .inr ⟨_,_,_,_,rfl,aa,AL _,rfl⟩;have ho:BM [.str s,.int .i64 n,.bool c,.bool A,.int .i64 C,.int .i64 B,x,.nils,.int .i64 (AA 0),.nils,.int .i64 z]=true:=by simp only[BW,Bg,FF,Ed,GP,FR,xo,Au]
  obtain⟨u,W,g2,X,m2,L⟩:=Fa (bytes:=136) (Q.fr K q (λ_ _ h=>h)) K.tidy xs ho (by unfold CX;simp only[AI,Ag];omega);have na:F.next=U.next+11:=by rw[t]
  have vl:∀b,AS v b->b<U.next:=λb r=>Q.lt q r;have a2:DQ W nb l:=L.at_ (K.at_ O q (λh=>h)) K.tidy P;obtain⟨o1,o2⟩:=E3 X.one;have st:∃U3,FW E D (.store 1 (.tmp 44) (.tmp 42)) [(44,.ptr nb 12),(42,u)] W=some (.dead,U3)/\Fr (λk=>k=nb) W U3/\DQ U3 nb (Gj l 12 [u]):=by
    obtain⟨U3,q1,q2,q3⟩:=Fj (n:=1) (x := .tmp 44) (y := .tmp 42) (e:=[(44,.ptr nb 12),(42,u)]) L.tidy a2 rfl (show (Cv [(44,.ptr nb 12),(42,u)] (.tmp 42)).cells=[u] from o2) (by
      have:12<l.length:=by
        rcases Av 12 l.length with h|h
        · exact h
        · rw[Ae h]at N;cases N
      simp only[BW,Bg,X.one,Au,AK,Aa,BQ,GC,BX,Ag];omega)
    exact⟨U3,q1,q2,q3⟩
  obtain⟨U3,g3,R,c3⟩:=st;have Y:¬AS u nb:=λh=>(m2 nb h).elim P λh=>by omega
  have vb:V.beq v v=true:=by
    rcases Q with h|⟨b,rfl,_⟩
    · rcases h with ⟨_,rfl,_⟩ | ⟨_,rfl,_⟩<;>exact Bz _ rfl
    · exact Bz _ rfl
  have go:Ha (Ml E U 11 PU _ U3) E D U 11 0 Tu PU ⟨[(1,.ptr nb 0),(8,.ptr I 0)],U.next+11,[U.bl],[],0,[]⟩:=
    DC (.ptr nb 0) rfl rfl <|
    DC (.ptr nb 0) rfl rfl <|
    DC (.ptr nb 0) rfl rfl <|
    DC (.ptr nb 12) rfl rfl <|
    Lg v (Cn (S:=AS v) q) rfl (FG (b:=nb) (off:=12) rfl O N q P vb) λr1=>
    Lg (.agg [.str s,.int .i64 n,.bool c,.bool A,.int .i64 C,.int .i64 B,x,.nils,.int .i64 (AA 0),.nils,.int .i64 z]) r1 rfl (KV (b:=I) (off:=0) rfl hi rfl rfl q ni (Bz _ (S9 xb))) λr2=>
    TC (.sl (U.next+6) 0 1 (.ex 1)) (.cells [.str s,.int .i64 n,.bool c,.bool A,.int .i64 C,.int .i64 B,x,.nils,.int .i64 (AA 0),.nils,.int .i64 z]) 64 r2 rfl (by decide) (by decide) (by rcases J with rfl | ⟨b,o,k,c,rfl⟩<;>rfl) λ_ Z=>
    TA u (by rw[<-t]at Z;exact Z) rfl (by decide) (S':=AS v) L (λ_ _ h=>h) (λb h h1 _=>by have:=vl b h;omega) (MN rfl rfl g2) λ_ _ r4=>
    DC (.ptr nb 0) rfl rfl <|
    DC (.ptr nb 12) rfl rfl <|
    QB .dead r4 rfl (by decide) R (λb h h1 _=>by omega) g3 (λx J=>by
      simp only[BK,D7,or_false]at J;rcases J with rfl|rfl
      · show IQ PU 5 [10,7] []=false
        decide
      · show IQ PU 4 [10,7] []=false
        decide)
  have d:=Lh (ops:=Tu) go;refine⟨_,u,U3,d,c3,X.fr R L.tidy (λb r e=>Y (e ▸ r)),λb r=>(m2 b r).elim .inl (λh => .inr (by omega)),Y,?_⟩;exact((K.mono (λ_ _ h=>h.elim):Fr (λb=>b=nb\/AS v b) U F).trans L (λ_ _ h => .inr h)).trans R (λ_ _ h => .inl h)
theorem AHq(hK:GY (D 12))(hI:Ft (D 14))(hN:JA (D 33))(hM:Di (D 13)){U:H}{t lv ts l}{R:Rp}(h:Ps U t lv ts l R):
  ∃C U',(∀K,jF D t K U=K C U')/\DQ U' C (Nf l R.er).1.c/\U.next<=C/\Ps U' t lv ts (Nf l R.er).2.1 (R.e (Nf l R.er).2.2)/\Fr (λk=>k=t) U U':=by
 have aa:=h.lt;have J:=h.llt;obtain⟨M,y,B,f1⟩:=hK 2 h;unfold Nf;generalize Dz 2 l R.er=i1 at y B ⊢;obtain⟨w,l1,er1⟩:=i1;simp only[]at y B ⊢;have u:=f1.le;obtain⟨U2,W,Z,a2,n2⟩:=Ia B.ht [.str ⟨0,0⟩,.int .i64 (AA 0),.bool false];obtain⟨U3,s3,a3,Q⟩:=Jo (n:=3) (o:=0) (v := .agg [.str (BO w),.int .i64 (AA 0),.bool false]) Z.tidy a2 rfl rfl;have s:=Z.trans Q (λb F e=>by omega);have p3:=B.fr0 s;have L:=f1.trans (s.mono λ_ _ h=>h.elim:Fr (λk=>k=t) M U3) (λ_ _ h=>h);obtain⟨U4,r,p,I⟩:=hI (BS.mk 1 40) p3;have P:=I.at_ a3 Q.tidy (by omega);have O:(R.e er1).er=er1:=rfl;rw[O]at r p;generalize Ew (BS.mk 1 40) l1 er1=i4 at r p ⊢;obtain⟨b,l4⟩:=i4;simp only[]at r p;have m:=L.trans I (λ_ _ h=>h);cases b with
 | false=>
  refine⟨M.next,U4,λK=>?_,P,u,p,m⟩;unfold jF;simp only[↓rP,rS,↓y,↓W,↓s3,↓r]
 | true=>
  obtain⟨U5,z,A,E⟩:=hN p;simp only[]at ⊢;rw[O]at z A;generalize J1 l4 er1=i5 at z A ⊢;obtain⟨n,l5,q⟩:=i5;simp only[]at z A ⊢;have a5:=E.at_ P I.tidy (by omega);obtain⟨U6,s6,a6,Y⟩:=Jo (n:=1) (o:=2) (v := .bool true) E.tidy a5 rfl rfl;obtain⟨U7,s7,a7,X⟩:=Jo (n:=1) (o:=1) (v := .int .i64 n) Y.tidy a6 rfl rfl;have x:=Y.trans X (λ_ _ h=>h);have ab:=m.le;have p7:=A.fr x (by omega) (λb F e=>by have:=J b F;omega);obtain⟨U8,g8,N,S⟩:=hM (BS.mk 1 41) p7;have e5:((R.e er1).e q).er=q:=rfl;rw[e5]at N;have a8:=S.at_ a7 X.tidy (by omega);refine⟨M.next,U8,λK=>?_,a8,u,N,((m.trans E (λ_ _ h=>h)).trans x (λb F e=>by omega)).trans S (λ_ _ h=>h)⟩;unfold jF;simp only[↓rP,rS,↓y,↓W,↓s3,↓r,↓z,↓s6,↓s7,↓g8]
theorem ZI(hK:GY (D 12))(hI:Ft (D 14))(hN:JA (D 33))(hM:Di (D 13)){U m Z}{ts l:List Ad}{R:Rp}{nb}{nd:AM}{iv fv}
  (h:Ps U m Z ts l R) (q:Nq U nb nd iv fv) (A:Ap m Z nb iv fv) (hl:nd.items.length<=8999) (ai:R.er.1=0) :
  ∃ag U',(∀S B,Rc E D (AZ E D) S B (dz E D (AZ E D) B) m 0 nb 0 U=B m 0 nb 0 U') /\
   GK U U' m Z ts (OR nd.is l R.er).2.1 (R.e (OR nd.is l R.er).2.2) nb (nd.wi (OR nd.is l R.er).1) iv ag fv /\
   (OR nd.is l R.er).2.1.length<=l.length/\(OR nd.is l R.er).1.1.length<=nd.items.length+1:=by
 have qa:=q.a;unfold AM.c at qa;have W:decide (R.er.1=0)=true:=decide_eq_true ai;obtain⟨ax,ad,_⟩:=h.ex;unfold II at ad;have sl:∀J:Nat->AH,BV iv J=J nd.items.length:=λJ=>q.i.slen;obtain⟨c,z,o,hc,k1,F,f1,X⟩:∃c z o,(match decide (0<nd.items.length) && !nd.more with|true=>Ew (BS.mk 3 3026478) l R.er|false=>(false,l))=(c,z) /\
   (∀(P:Bool->H->AH),AG (decide (0<nd.items.length) && !nd.more) (BT (D 14 [.ptr m 0,.str (BS.mk 3 3026478)] U) λaj ae=>CN aj λam=>P am ae) (P false U)=P c o)/\Ps o m Z ts z R/\Fr (λk=>k=m) U o/\z.length<=l.length:=by
  cases hq:decide (0<nd.items.length) && !nd.more with
  | false=>exact⟨false,l,U,rfl,λk=>rfl,h,Fr.refl h.ht,AL _⟩ | true=>
   obtain⟨o,g1,F,f1⟩:=hI (BS.mk 3 3026478) h;refine⟨(Ew (BS.mk 3 3026478) l R.er).1,(Ew (BS.mk 3 3026478) l R.er).2,o,rfl,λk=>?_,F,f1,Dl _ _ _⟩;rw[CC,g1];rfl
 have hs:OR nd.is l R.er=(match (c,z)with
  | (true,z)=>((nd.items,true,nd.items.length),z,R.er) | (false,z)=>match Nf z R.er with
   | (x,l2,N)=>((nd.items++[x],nd.more,nd.root),l2,N)):=by
  rw[<-hc];rfl
 rw[hs];have G:=GK.go h.ht q A F f1;have aa:=G.q.a;unfold AM.c at aa;have ab:∀S B K4,Rc E D (AZ E D) S B K4 m 0 nb 0 U=AG c
   (Ee E o nb 11 λu9=>BV u9 λM=>Cg 1 nb 14 (.bool true) o λL=>Cg 1 nb 13 (.int .i64 (AA M)) L λO=>B m 0 nb 0 O)
   (jF D m (λib s=>K4 m 0 nb 0 ib 0 s) o):=by
  intro S B K4;rw[<-k1 λc o=>AG c
   (Ee E o nb 11 λu9=>BV u9 λM=>Cg 1 nb 14 (.bool true) o λL=>Cg 1 nb 13 (.int .i64 (AA M)) L λO=>B m 0 nb 0 O)
   (jF D m (λib s=>K4 m 0 nb 0 ib 0 s) o)]
  unfold Rc jF;cases h0:decide (0<nd.items.length)<;>cases hm:nd.more<;>(rw[hm]at qa;simp only[↓rP,rA,AE,AF,AD,↓AT ad,W,↓AT qa,↓sl,h0,hm])<;>rfl
 cases c with
 | true=>
  obtain⟨U2,g2,f2,q2⟩:=G.q.set (off:=14) (y := .bool true) F.ht (nd.wi (nd.items,true,nd.root)) ⟨rfl,rfl⟩ (by decide) rfl rfl rfl;obtain⟨U3,g3,f3,q3⟩:=q2.set (off:=13) (y := .int .i64 (AA nd.items.length)) f2.tidy (nd.wi (nd.items,true,nd.items.length)) ⟨rfl,rfl⟩ (by decide) rfl rfl rfl;have s3:=G.trans (GK.own F A q3 (f2.trans f3 (λ_ _ h=>h)));refine⟨iv,U3,λS B=>?_,s3,X,C9 _⟩;have af:∀J:Nat->AH,BV iv J=J nd.items.length:=λJ=>G.q.i.slen;rw[ab,CC];simp only[↓rP,rA,AE,AF,AD,↓AT aa,↓af,↓g2,↓g3]
 | false=>
  obtain⟨ib,U4,g4,a4,an,C,f4⟩:=AHq hK hI hN hM F;have s2:=G.trans (GK.go F.ht G.q A C f4);have Q:=cy z R.er;simp only[]at ⊢;generalize Nf z R.er=i2 at a4 C s2 Q ⊢;obtain⟨x,l2,N⟩:=i2;simp only[]at a4 C s2 Q ⊢;have t:=s2.q;have T:=t.a;unfold AM.c at T;unfold Fu.c at a4;have li:∀b,AS iv b->b<o.next:=λb w=>G.q.lt_i F.ht w;have lb:=G.q.a.lt F.ht;obtain⟨e',u,Y,g7,t0,t1,a7,d7,m7,n7,f7⟩:=jI C.ht T rfl a4 t.i (by omega) (by omega) t.ni (λh=>by have:=li _ h;omega);have ll:=C.llt;have lx:=C.lt;have q7:Nq Y nb (nd.wi (nd.items++[x],nd.more,nd.root)) u fv:=⟨a7,by
    have e1:(nd.items++[x]).length=nd.items.length+1:=by simp
    show ES Y 3 (nd.items++[x]).length u (Yo (nd.items++[x]));rw[e1,c8];exact d7,
   t.f.fr f7 C.ht (λb w e=>by
    rcases e with e|e
    ·exact t.nf (e ▸ .inl w)
    ·exact t.d b e (.inl w)),
   t.g.fr f7 C.ht (λv hv b w e=>by
    rcases e with e|e
    ·exact t.nf (e ▸ .inr ⟨v,hv,w⟩)
    ·exact t.d b e (.inr ⟨v,hv,w⟩)),n7,t.nf,λb ak hf=>by
    rcases m7 b ak with h|h
    ·exact t.d b h hf
    ·have:=t.lt_f C.ht hf;omega,t.gd⟩
  have al:GK U4 Y m Z ts l2 (R.e N) nb (nd.wi (nd.items++[x],nd.more,nd.root)) iv u fv:=⟨C.fr f7 (λe=>by
    rcases e with e|e
    ·exact A.x e.symm
    ·exact(A.i _ e).1 rfl) (λb w e=>by
    rcases e with e|e
    ·exact A.l (e ▸ w)
    ·exact(A.i _ e).2 w),q7,⟨A.x,A.l,λb w=>(m7 b w).elim (A.i b) (λh=>⟨by omega,λhn=>by have:=ll b hn;omega⟩),A.f⟩,m7,f7.mono λ_ _ h => .inr h⟩
  refine⟨u,Y,λS B=>?_,s2.trans al,AU Q X,by simp⟩;have gd:∀J:Cb->H->AH,DZ (AZ E D Tw PV [(0,.ptr m 0),(1,.ptr nb 0),(4,.ptr ib 0)] U4) J=J e' Y:=λJ=>by rw[g7];rfl
  have m0:∀J:V->AH,EO e' 0 J=J (.ptr m 0):=λJ=>D4 t0 rfl;have m1:∀J:V->AH,EO e' 1 J=J (.ptr nb 0):=λJ=>D4 t1 rfl;rw[ab,Bx,g4];unfold dz;simp only[↓rP,rS,↓gd,↓m0,↓m1]
theorem cx{U n o ts l R nb}{nd:AM}{iv fv}(h:Ps U n o ts l R)(q:Nq U nb nd iv fv)(t:Ap n o nb iv fv)(z:IS)(r:nd=nd.wi z):
  ∃U',Re E D (AZ E D) nb 0 U=some (.tup [],U')/\GK U U' n o ts l R nb (nd.wi (jP z)) iv iv fv:=by
 have d:=q.a;unfold AM.c at d;have x:∀J,BV iv J=J nd.items.length:=λJ=>q.i.slen;have s:nd.items=z.1:=congrArg AM.items r;have k:nd.more=z.2.1:=congrArg AM.more r;have v:nd.root=z.2.2:=congrArg AM.root r;unfold jP;cases m:z.2.1 with
 | true=>
  rw[k,m]at d;refine⟨U,?_,?_⟩
  ·unfold Re
   simp only[↓rP,rA,AE,AF,AD,↓AT d]
  ·have e:nd.wi (z.1,true,z.2.2)=nd:=by rw[<-s,<-v,<-m,<-k];rfl
   rw[e];exact GK.go h.ht q t h (Fr.refl h.ht)
 | false=>
  rw[k,m]at d;obtain⟨U3,A,w,u⟩:=q.set (off:=13) (y := .int .i64 (AA nd.items.length)) h.ht (nd.wi (nd.items,nd.more,nd.items.length)) ⟨rfl,rfl⟩ (by decide) rfl rfl rfl;refine⟨U3,?_,?_⟩
  ·unfold Re
   simp only[↓rP,rA,AE,AF,AD,↓AT d,↓x,↓A]
  ·rw[s,k,m]at u
   exact GK.own h t u w
theorem my(hK:GY (D 12))(hI:Ft (D 14))(hN:JA (D 33))(hM:Di (D 13))(ad:9002<N):V2 (F67 E D (AZ E D) N):=by
 have I:∀n k {U r C}{ts l:List Ad}{R:Rp}{nb}{nd:AM}{iv fv},Ps U r C ts l R->Nq U nb nd iv fv->Ap r C nb iv fv->nd.items.length+l.length<=9000->l.length<n->l.length<k ->
   ∃p U',X7 E D (AZ E D) N k r 0 nb 0 U=some (.tup [],U')/\GK U U' r C ts (MW n nd.is l R.er).2.1 (R.e (MW n nd.is l R.er).2.2) nb (nd.wi (MW n nd.is l R.er).1) iv p fv:=by
  intro n;induction n with
  | zero=>intro k U r C ts l R nb nd iv fv h q G hl hn;omega | succ n ih=>
   intro k U r C ts l R nb nd iv fv h q G hl hn hk;obtain⟨k,rfl⟩:∃j,k=j+1:=⟨k-1,by omega⟩;have ab:=tn.2 h.ne;unfold MW;obtain⟨ax,K,_⟩:=h.ex;unfold II at K;show ∃p U',Rc E D (AZ E D) (Re E D (AZ E D)) (Rb E D (AZ E D) (Re E D (AZ E D)) (X7 E D (AZ E D) N k)) (dz E D (AZ E D) (Rb E D (AZ E D) (Re E D (AZ E D)) (X7 E D (AZ E D) N k))) r 0 nb 0 U=_/\_;cases W:decide (R.er.1=0)with
   | false=>
    obtain⟨M,O,t⟩:=cx h q G nd.is rfl;refine⟨iv,M,?_,t⟩;have s:∀u K3 Z,Rc E D (AZ E D) u K3 Z r 0 nb 0 U=u nb 0 U:=by
     intro u K3 Z;unfold Rc;simp only[↓rP,rA,AE,AF,AD,↓AT K,W]
    rw[s];exact O
   | true=>
    obtain⟨Q,M,O,t,F,J⟩:=ZI hK hI hN hM h q G (by omega) (of_decide_eq_true W);rw[O];simp only[]at ⊢;generalize OR nd.is l R.er=i1 at t F J ⊢;obtain⟨X,S,er1⟩:=i1;simp only[]at t F J ⊢;obtain⟨U2,A,x,f2⟩:=hI (BS.mk 1 44) t.p;have v:=t.trans (GK.go t.p.ht t.q t.ap x f2);have e1:(R.e er1).er=er1:=rfl;rw[e1]at A x v;have w:∀l',Ew (BS.mk 1 44) S er1=(true,l')->l'.length+1<=S.length:=λl' e=>t.p.isR_lt e;generalize Ew (BS.mk 1 44) S er1=i2 at A x v w ⊢;obtain⟨b2,l2⟩:=i2;cases b2 with
    | true=>
     have w:=w l2 rfl;simp only[]at A x v w ⊢;obtain⟨p,U',T,P⟩:=ih k x v.q v.ap (by show X.1.length+l2.length<=9000;omega) (by omega) (by omega);refine⟨p,U',?_,v.trans P⟩;have s:∀u B,Rb E D (AZ E D) u B r 0 nb 0 M=B r 0 nb 0 U2:=by
      intro u B;unfold Rb;simp only[↓rP,rS,↓A]
     rw[s];exact T
    | false=>
     simp only[]at A x v ⊢;obtain⟨U3,g3,s3⟩:=cx x v.q v.ap X rfl;refine⟨Q,U3,?_,v.trans s3⟩;have s:∀u B,Rb E D (AZ E D) u B r 0 nb 0 M=u nb 0 U2:=by
      intro u B;unfold Rb;simp only[↓rP,rS,↓A]
     rw[s];exact g3
 intro U r C ts l R nb nd iv fv h q G h0;have Y:=h.few;unfold Q9;have ae:=Nk;obtain⟨p,U',T,P⟩:=I fu N h q G (by rw[h0];simp only[Aa];omega) (by omega) (by omega);exact⟨p,U',T,P⟩
end
def MQ (l:List Ad) (er:Er):dR × List Ad × Er:=match decide (er.1=0)with
 | false=>((0,0,[]),l,er)
 | true=>match CP (BS.mk 4 1163219540) l with
  | (true,c)=>((1,1,[]),c,er)
  | (false,c)=>match CP (BS.mk 5 297750249798) c with
   | (true,b)=>((1,0,[]),b,er)
   | (false,b)=>match CP (BS.mk 4 1280070990) b with
    | (true,a)=>((4,0,[]),a,er)
    | (false,a)=>match decide ((BJ l).1=3)with
     | true=>((2,Pt (BJ l).2.1,[]),Fh a,er)
     | false=>match decide ((BJ l).1=2)with
      | true=>((3,0,(BJ l).2.1),Fh a,er)
      | false=>match decide ((BJ l).1=4)with
       | true=>((5,0,JV (BJ l).2.1),Fh a,er)
       | false=>match decide ((BJ l).1=7)with
        | true=>((6,0,(BJ l).2.1),Fh a,er)
        | false=>((0,0,[]),a,FU er 7 (BJ l).2.2)
def Vu(F:List V->H->AH):Prop:=∀{U:H}{a c ts l}{R:Rp},Ps U a c ts l R ->
 ∃v U',F [.ptr a 0] U=some (.agg ((MQ l R.er).1.c v),U')/\Ps U' a c ts (MQ l R.er).2.1 (R.e (MQ l R.er).2.2)/\D0 U' 1 (MQ l R.er).1.2.2.length v (Fe (MQ l R.er).1.2.2)/\SlV v/\(∀b,AS v b->U.next<=b)/\Fr (λk=>k=a) U U'
theorem AHt:∀c:Fin 128,Bk c.val=true->decide (65<=c.val)=false->Ez .u8 (AA c.val) (AA 48)=AA (Ff c.val):=by decide +kernel
theorem AHu:∀c:Fin 128,Bk c.val=true->decide (65<=c.val)=true->BP .u8 (Ez .u8 (AA c.val) (AA 65)) (AA 10)=AA (Ff c.val):=by decide +kernel
theorem AHs:∀x y:Fin 16,Gt .u8 (Eb .u8 (AA x.val) 4) (AA y.val)=AA (x.val*16+y.val):=by decide +kernel
section
variable {E:EB}{D:Am}{W:AJ}{N:Nat}
theorem XB{s i k c g q r v U}(x:HN s k (c::r))(C:i<=k)(A:k<i+2)(p:Bk c=true)(I:g<16)(F:g*16+Ff c=q) J y:
  M6 E D W J (Vn E D W (Vo E D W y)) s v (AA i) (AA g) (AA k) U=y s v (AA i) (AA q) (AA (k+1)) U:=by
 have G:=x.le;have e:=x.ix;have z:BP .i64 (AA i) (AA 2)=AA (i+2):=BB (by omega);have u:BP .i64 (AA k) (AA 1)=AA (k+1):=BB (by omega);have w:decide (k<i+2)=true:=decide_eq_true (by omega);have l:c<128:=by rcases FH p with h | h<;>omega
 have B:=OY p;have n:=AHs ⟨g,I⟩ ⟨Ff c,B⟩;simp only[]at n;rw[F]at n;cases j:decide (65<=c)with
 | true=>
  have m:=AHu ⟨c,l⟩ p j;simp only[]at m;unfold M6 Vn Vo;simp only[↓rP,rA,AE,AF,AD,z,w,↓e,j,m,n,u]
 | false=>
  have m:=AHt ⟨c,l⟩ p j;simp only[]at m;unfold M6 Vn Vo;simp only[↓rP,rA,AE,AF,AD,z,w,↓e,j,m,n,u]
theorem wD{s i a b r v U}(k:HN s i (a::b::r))(n:Bk a=true)(x:Bk b=true) e M:
  Ot E D W N e (M+1+1+1) s v (AA i) (AA 0) (AA i) U=M8 E D W N e s v (AA i) (AA (Ff a*16+Ff b)) U:=by
 have t:=k.le;refine(XB (q:=Ff a) k (AL _) (by omega) n (by decide) (by omega) (M8 E D W N e) (Ot E D W N e (M+1+1))).trans ?_;refine(XB (E:=E) (D:=D) (W:=W) (U:=U) (v:=v) (i:=i) (q:=Ff a*16+Ff b) k.tl (by omega) (by omega) x (OY n) rfl (M8 E D W N e) (Ot E D W N e (M+1))).trans ?_;show M6 E D W (M8 E D W N e) _ s v (AA i) (AA (Ff a*16+Ff b)) (AA (i+1+1)) U=_;have u:BP .i64 (AA i) (AA 2)=AA (i+2):=BB (by omega);have w:decide (i+1+1<i+2)=false:=decide_eq_false (by omega);have h:∀g o,M6 E D W g o s v (AA i) (AA (Ff a*16+Ff b)) (AA (i+1+1)) U=g s v (AA i) (AA (Ff a*16+Ff b)) U:=by
  intro g o;unfold M6;simp only[↓rP,rA,AE,AF,AD,u,w]
 exact h _ _
theorem nK(hN:10001<N):Lx (Zx E D W N):=by
  intro F w Y hx hw;have R:∀n m (r:List Nat) i v (q:List Nat) (U:H),r.length<n->r.length<m->HN (BO w) i r->(∀c∈r,Bk c=true)->ES U 1 q.length v (Fe q)->q.length+r.length<=10000->Fr Af F U->(∀b,AS v b->F.next<=b) ->
      ∃u U',Ou E D W N m (BO w) v (AA i) U=some (u,U')/\ES U' 1 (q++JV r).length u (Fe (q++JV r))/\(∀b,AS u b->F.next<=b)/\Fr Af F U':=by
    intro n;induction n with
    | zero=>intro m r i v q U h;omega | succ n ih=>
      intro m r i v q U O Q B I Z P f0 S;obtain⟨m,rfl⟩:∃j,m=j+1:=⟨m-1,by omega⟩;have J:=B.len;have ae:=B.le;have ai:BP .i64 (AA i) (AA 1)=AA (i+1):=BB (by omega);have X:BP .i64 (AA i) (AA 2)=AA (i+2):=BB (by omega);show ∃u U',Oo E D W (Vr E D W) (Ot E D W N (Ou E D W N m) N) (BO w) v (AA i) U=_/\_;have C:decide (i+1<(BO w).len)=false->∀L,Oo E D W (Vr E D W) L (BO w) v (AA i) U=some (v,U):=by
        intro G L;unfold Oo Vr;simp only[↓rP,rA,AE,AF,AD,ai,G]
      match r,O,Q,B,I,P,J with
      | [],O,Q,B,I,P,J=>
        have G:decide (i+1<(BO w).len)=false:=decide_eq_false (by simp only[Aa]at J;omega);exact⟨v,U,C G _,by rw[show JV []=[] from rfl,CZ];exact Z,S,f0⟩
      | [c],O,Q,B,I,P,J=>
        have G:decide (i+1<(BO w).len)=false:=decide_eq_false (by simp only[AK,Aa]at J;omega);exact⟨v,U,C G _,by rw[show JV [c]=[] from rfl,CZ];exact Z,S,f0⟩
      | a::b::r,O,Q,B,I,P,J=>
        simp only[AK]at J O Q P;have G:decide (i+1<(BO w).len)=true:=decide_eq_true (by omega);have xa:=I a (by simp);have xb:=I b (by simp);have hq:Ff a*16+Ff b<256:=by have:=OY xa;have:=OY xb;omega
        obtain⟨U2,e2,T,a2,n2⟩:=Ia f0.tidy [.int .u8 (AA (Ff a*16+Ff b))];have xs:D0 U2 1 1 (.sl U.next 0 1 (.ex 1)) [.int .u8 (AA (Ff a*16+Ff b))] := .inr ⟨_,_,_,_,rfl,a2,AL _,rfl⟩;have d2:=Z.fr T f0.tidy (λ_ _ h=>h);obtain⟨u,U3,g3,d3,m3,f3⟩:=Fa (E:=E) (bytes:=1) d2 T.tidy xs rfl (by unfold CX;simp only[AI,Ag];omega);have af:=T.le;have ag:=f0.le;have ab:Fr Af F U3:=(f0.trans T (λ_ _ h=>h)).trans f3 (λb hb e=>by have:=S b e;omega);have hu:∀b,AS u b->F.next<=b:=λb hb=>(m3 b hb).elim (S b) (λh=>by omega);have e:q++JV (a::b::r)=(q++[Ff a*16+Ff b])++JV r:=by
          show q++((Ff a*16+Ff b)::JV r)=_;rw[CK];rfl
        have aa:ES U3 1 (q++[Ff a*16+Ff b]).length u (Fe (q++[Ff a*16+Ff b])):=by
          rw[AY,Fe,IX];exact d3
        obtain⟨u',U',g',d',h',f'⟩:=ih m r (i+2) u (q++[Ff a*16+Ff b]) U3 (by omega) (by omega) (B.dr (by simp)) (λc hc=>I c (by simp[hc])) aa (by rw[AY];simp only[AK,Aa];omega) ab hu;refine⟨u',U',?_,by rw[e];exact d',h',f'⟩;have uo:=d3.one;have k2:∀K1 L,Oo E D W K1 L (BO w) v (AA i) U=L (BO w) v (AA i) (AA 0) (AA i) U:=by
          intro K1 L;unfold Oo;simp only[↓rP,rA,AE,AF,AD,ai,G]
        rw[k2];obtain⟨M,hM⟩:∃M,N=M+1+1+1:=⟨N-3,by omega⟩;have tw:=wD (E:=E) (D:=D) (W:=W) (N:=N) (v:=v) (U:=U) B xa xb (Ou E D W N m) M;rw[<-hM]at tw;rw[tw];show Vp E D W (Vq E D W (Ou E D W N m)) (BO w) v (AA i) (AA (Ff a*16+Ff b)) U=_;have k4:∀R2,Vp E D W (Vq E D W R2) (BO w) v (AA i) (AA (Ff a*16+Ff b)) U=R2 (BO w) u (AA (i+2)) U3:=by
          intro R2;unfold Vp Vq;simp only[↓rP,rA,AE,AF,AD,X,↓e2,↓g3,Ec uo]
        rw[k4];exact g'
  have a0:HN (BO w) 0 w:=⟨by
    have:=OM.start (BO w);rw[Dk (λc hc=>by rcases FH (hx c hc)with h | h<;>omega)]at this;exact this,by rw[DR];exact hw⟩
  obtain⟨u,U',g,d,hu,f⟩:=R (w.length+1) N w 0 .nils [] F (by omega) (by omega) a0 hx (ES.nil F 1) (by simp;omega) (Fr.refl Y) (λb h=>h.elim);refine⟨u,U',g,d.src,?_,hu,f⟩;rcases d with h|⟨b,rfl,_⟩
  · rcases h with ⟨_,rfl,_⟩ | ⟨_,rfl,_⟩
    · exact .inl rfl
    · exact .inr ⟨_,_,_,_,rfl⟩
  · exact .inr ⟨_,_,_,_,rfl⟩
theorem AAm(k:Tb (D 64)){U q n ts l R}(h:Ps U q n ts l R)(j:(BJ l).1=3) d:D 64 [.str (BO (BJ l).2.1)] d=some (.int .i64 (Pt (BJ l).2.1),d):=by
 have f:=Nh h;obtain⟨m,o,g,p,e,i⟩:=h.ok.nums _ f j;have b:=h.ok.oct _ f;rw[g];exact k d m o p e (by rw[<-g];exact b.1) i
theorem ZK s l:(CP s l).1=false->(CP s l).2=l:=by
 intro c;unfold CP at c ⊢;cases e:FE s l with
 | true=>rw[e]at c;cases c | false=>rfl
theorem ka(hP:C0 (D 15))(hI:Ft (D 14))(hW:Tb (D 64))(hX:FL (D 31))(hF:Fc (D 16))(hO:Lx (D 107)):Vu (F97 E D W N):=by
 intro U pb lv ts l R h;have w:=hP h;unfold Bu at w;have hm:=Nh h;obtain⟨ax,n,_⟩:=h.ex;unfold II at n;show ∃v U',Lp E D W (dT E D W) pb 0 U=_/\_;unfold MQ;cases m:decide (R.er.1=0)with
 | false=>
  refine⟨.nils,U,?_,h,D0.nil0 _,.inl rfl,λ_ h=>h.elim,Fr.refl h.ht⟩;unfold Lp dT;simp only[↓rP,rA,AE,AF,AD,↓w,↓AT n,m];rfl
 | true=>
  have ir:∀s l,Ew s l R.er=CP s l:=λs l=>by unfold Ew;rw[m]
  obtain⟨U1,q,p1,f1⟩:=hI (BS.mk 4 1163219540) h;rw[ir]at q p1;have s1:=ZK (BS.mk 4 1163219540) l;simp only[]at ⊢;generalize CP (BS.mk 4 1163219540) l=i1 at q p1 s1 ⊢;obtain⟨b1,l1⟩:=i1;cases b1 with
  | true=>
   refine⟨.nils,U1,?_,p1,D0.nil0 _,.inl rfl,λ_ h=>h.elim,f1⟩;unfold Lp;simp only[↓rP,rA,AE,AF,AD,↓w,↓AT n,m,↓q];rfl
  | false=>
   have s1:l1=l:=s1 rfl;subst s1;simp only[]at q p1 ⊢;obtain⟨U2,x,p2,f2⟩:=hI (BS.mk 5 297750249798) p1;rw[ir]at x p2;have f02:=f1.trans f2 (λ_ _ h=>h);have s2:=ZK (BS.mk 5 297750249798) l1;generalize CP (BS.mk 5 297750249798) l1=i2 at x p2 s2 ⊢;obtain⟨b2,l2⟩:=i2;cases b2 with
   | true=>
    refine⟨.nils,U2,?_,p2,D0.nil0 _,.inl rfl,λ_ h=>h.elim,f02⟩;unfold Lp;simp only[↓rP,rA,AE,AF,AD,↓w,↓AT n,m,↓q,↓x];rfl
   | false=>
    have s2:l2=l1:=s2 rfl;subst s2;simp only[]at x p2 ⊢;obtain⟨U3,z,p3,f3⟩:=hI (BS.mk 4 1280070990) p2;rw[ir]at z p3;have f03:=f02.trans f3 (λ_ _ h=>h);have s3:=ZK (BS.mk 4 1280070990) l2;generalize CP (BS.mk 4 1280070990) l2=i3 at z p3 s3 ⊢;obtain⟨b3,p⟩:=i3;cases b3 with
    | true=>
     refine⟨.nils,U3,?_,p3,D0.nil0 _,.inl rfl,λ_ h=>h.elim,f03⟩;unfold Lp;simp only[↓rP,rA,AE,AF,AD,↓w,↓AT n,m,↓q,↓x,↓z];rfl
    | false=>
     have s3:p=l2:=s3 rfl;subst s3;simp only[]at z p3 ⊢;obtain⟨hlen,hbd⟩:=h.ok.oct _ hm;have hhx:=h.ok.hexs _ hm;have le03:=f03.le;have lpb:=h.lt;obtain⟨U4,g4,p4,f4⟩:=hX p3;unfold Bu at g4;have y:=f03.trans f4 (λ_ _ h=>h);have le04:=y.le;obtain⟨U5,e5,f5,a5,n5⟩:=Ia p4.ht (Fe (BJ p).2.1);have p5:=p4.fr0 f5;have eo:=Qt hbd;have f05:Fr (λk=>k=pb) U U5:=y.trans f5 (λ_ _ h=>h.elim);have ll:(BO (BJ p).2.1).len=(BJ p).2.1.length:=DR _;have r:Ac (BJ p).2.1.length 1000000000000=true:=by rw[Ag];omega
     have s5:D0 U5 1 (BJ p).2.1.length (.sl U4.next 0 (BJ p).2.1.length (.op 1)) (Fe (BJ p).2.1) := .inr ⟨_,_,_,_,rfl,a5,by rw[Fe,DD];omega,by rw[Dv,DO,HM (by rw[Fe,DD];exact AL _)]⟩;have v5:SlV (.sl U4.next 0 (BJ p).2.1.length (.op 1)) := .inr ⟨_,_,_,_,rfl⟩;have n5':∀b,AS (.sl U4.next 0 (BJ p).2.1.length (.op 1)) b->U.next<=b:=λb hb=>by cases hb;exact le04
     cases h3:decide ((BJ p).1=3)with
     | true=>
      have gw:=AAm hW p3 (of_decide_eq_true h3) U4;refine⟨.nils,U4,?_,p4,D0.nil0 _,.inl rfl,λ_ h=>h.elim,y⟩;unfold Lp;simp only[↓rP,rA,AE,AF,AD,↓w,↓AT n,m,↓q,↓x,↓z,h3,↓g4,↓gw];rfl
     | false=>
      cases h2:decide ((BJ p).1=2)with
      | true=>
       refine⟨_,U5,?_,p5,s5,v5,n5',f05⟩;unfold Lp;simp only[↓rP,rA,AE,AF,AD,↓w,↓AT n,m,↓q,↓x,↓z,h3,h2,↓g4,ll,r,eo,↓e5];rfl
      | false=>
       cases h4:decide ((BJ p).1=4)with
       | true=>
        obtain⟨v,U6,g6,s6,v6,n6,f6⟩:=hO U4 (BJ p).2.1 p4.ht (hhx (of_decide_eq_true h4)) hlen;have n6':∀b,AS v b->U.next<=b:=λb hb=>by have:=n6 b hb;omega
        have vo:v.one=true:=s6.one;refine⟨v,U6,?_,p4.fr0 f6,s6,v6,n6',y.trans f6 (λ_ _ h=>h.elim)⟩;have fl:∀J:List V->AH,JQ [(0,1,(V.int .i64 (AA 5))),(2,1,v)] [.int .i64 (AA 0),.int .i64 (AA 0),V.nils,V.nils,.int .i64 (AA 0),V.nils] J=J [.int .i64 (AA 5),.int .i64 (AA 0),v,V.nils,.int .i64 (AA 0),V.nils]:=λJ=>by
         rcases v6 with rfl|⟨b,o,k,c,rfl⟩<;>rfl
        unfold Lp;simp only[↓rP,rA,AE,AF,AD,↓w,↓AT n,m,↓q,↓x,↓z,h3,h2,h4,↓g4,↓g6,Ec vo,↓fl,vo];rfl
       | false=>
        cases h7:decide ((BJ p).1=7)with
        | true=>
         refine⟨_,U5,?_,p5,s5,v5,n5',f05⟩;unfold Lp;simp only[↓rP,rA,AE,AF,AD,↓w,↓AT n,m,↓q,↓x,↓z,h3,h2,h4,h7,↓g4,ll,r,eo,↓e5];rfl
        | false=>
         obtain⟨U6,g6,p6,f6⟩:=hF 7 (BJ p) p3;unfold Bu at g6;refine⟨.nils,U6,?_,p6,D0.nil0 _,.inl rfl,λ_ h=>h.elim,f03.trans f6 (λ_ _ h=>h)⟩;unfold Lp dT;simp only[↓rP,rA,AE,AF,AD,↓w,↓AT n,m,↓q,↓x,↓z,h3,h2,h4,h7,↓g6];rfl
end
structure Da where
 lo:Nat
 go0:Nat->List Ad->Er->List AM->Nat × List Ad × Er × List AM
def Da.go(T:Da)(d:Nat)(l:List Ad)(er:Er)(a:List AM):Nat × List Ad × Er × List AM:=T.go0 d l er a
abbrev Kk:=AM × List Ad × Er × List AM
def RB(nd:AM)(w:List Nat)(g i:Nat)(l:List Ad)(er:Er):C5 × List Ad × Er:=
 match decide (nd.kind=9)with
 | true=>(⟨w,i,false,false,0,0,[],g⟩,l,er)
 | false=>match Ew (BS.mk 8 5494759122808361039) l er with
  | (true,b)=>(⟨w,i,true,false,0,0,[],g⟩,b,er)
  | (false,b)=>match Ew (BS.mk 7 23727827094750532) b er with
   | (true,l4)=>match MQ l4 er with
    | (v,c,a)=>(⟨w,i,false,true,v.1,v.2.1,v.2.2,g⟩,c,a)
   | (false,l4)=>(⟨w,i,false,false,0,0,[],g⟩,l4,er)
def E4(T:Da)(d g:Nat)(nd:AM)(l:List Ad)(er:Er)(e:List AM):Kk:=match Dz 2 l er with
 | (w,h,er1)=>match T.go (d+1) h er1 e with
  | (i,j,a,b)=>match RB nd w g i j a with
   | (x,f,c)=>(nd.af x,f,c,b)
def Fs(T:Da)(F:List V->H->AH):Prop:=∀{U:H}{e f ts l}{R:Rp}{c Q d},Pn U e f ts l R c Q->(∀b,Q b->b<U.next)->(T.lo<=d/\d<=1000) ->
 ∃a U',F [.ptr e 0,.int .i64 (AA d)] U=some (.int .i64 (AA (T.go d l R.er c).1),U')/\Pn U' e f ts (T.go d l R.er c).2.1 ((R.wd a).e (T.go d l R.er c).2.2.1) (T.go d l R.er c).2.2.2 Q/\Fr (PB e R.dv) U U'/\(∀b,AS a b->AS R.dv b\/U.next<=b)
def KM(T:Da)(F:List V->H->AH):Prop:=∀{U:H}{c h ts l}{R:Rp}{a Q nb}{nd:AM}{iv fv d g},
 Pn U c h ts l R a (λb=>Q b\/LB nb iv fv b)->(∀b,Q b->b<U.next)->Nq U nb nd iv fv->Aq c h R.dv nb iv fv->nd.fields.length<=9000->(T.lo<=d+1/\d<=900)->g<=9000 ->
 ∃f e U',F [.ptr c 0,.ptr nb 0,.int .i64 (AA d),.int .i64 (AA g)] U=some (.tup [],U') /\
  BG U U' c h ts (E4 T d g nd l R.er a).2.1 R (E4 T d g nd l R.er a).2.2.1 (E4 T d g nd l R.er a).2.2.2 Q nb (E4 T d g nd l R.er a).1 iv fv e f
section
variable {E:EB}{D:Am}{N:Nat}
theorem XE{T:Da}(hK:GY (D 12))(hI:Ft (D 14))(hV:Vu (D 97))(hT:Fs T (D 17)):KM T (F81 E D (AZ E D) N):=by
 intro U pb lv ts l R ns Q nb nd iv fv d g h hQ q ap hfl hd hg;obtain⟨U1,g1,p1,f1⟩:=hK 2 h.p;have s1:=BG.go h q ap p1 f1;show ∃B fv' U',TS E D (AZ E D) (dY E D (AZ E D)) (.ptr pb 0) nb 0 (AA d) (AA g) U=_/\_;unfold E4;generalize Dz 2 l R.er=i1 at g1 p1 s1 ⊢;obtain⟨w,l1,er1⟩:=i1;simp only[]at g1 p1 s1 ⊢;obtain⟨U2,e2,f2,a2,n2⟩:=Ia p1.ht [.str ⟨0,0⟩,.int .i64 (AA 0),.bool false,.bool false,.int .i64 (AA 0),.int .i64 (AA 0),.nils,.nils,.int .i64 (AA 0),.nils,.int .i64 (AA 0)];obtain⟨U3,s3,a3,f3⟩:=Jo (n:=11) (o:=0) (v := .agg [.str (BO w),.int .i64 (AA 0),.bool false,.bool false,.int .i64 (AA 0),.int .i64 (AA 0),.nils,.nils,.int .i64 (AA 0),.nils,.int .i64 (AA g)]) f2.tidy a2 rfl rfl;have h1:=s1.p;have q1:=s1.q;have f13:=f2.trans f3 (λb m e=>by omega);have le1:=f1.le;have le3:=f13.le;have lfb:U1.next<U3.next:=a3.lt f3.tidy;have h3:Pn U3 pb lv ts l1 (R.e er1) ns (λb=>(Q b\/LB nb iv fv b)\/b=U1.next):=(h1.ext λb m=>m.elim .inl λe => .inr (by omega)).fr f13 (λh=>h) (λ_ _ h=>h) (λ_ _ h=>h) (λ_ _ h=>h.elim);have q3:=q1.fr f13 p1.ht (λh=>h) (λ_ _ h=>h) (λ_ _ h=>h);have lnb:=q1.a.lt p1.ht;have lif:∀b,AS iv b->b<U1.next:=λb m=>q1.lt_i p1.ht m;have lff:∀b,NF fv b->b<U1.next:=λb m=>q1.lt_f p1.ht m;obtain⟨B,U4,g4,h4,f4,m4⟩:=hT (d:=d+1) h3 (λb m=>by
  rcases m with (m|m|m|m)|m
  ·have:=hQ b m;omega
  ·omega
  ·have:=lif b m;omega
  ·have:=lff b m;omega
  ·omega) (by omega)
 have er:(R.e er1).er=er1:=rfl;rw[er]at g4 h4;have xlt:=p1.lt;have dlt:∀b,AS R.dv b->b<U1.next:=λb m=>h1.dlt m;have b4:=f4.at_ a3 f3.tidy (λe=>by
  rcases e with e|e
  ·omega
  ·have:=dlt _ e;omega)
 have q4:=q3.frq f4 f3.tidy ap;have ap4:Aq pb lv B nb iv fv:=ap.ndv q3 f3.tidy m4;have le4:=f4.le;have ad:BP .i64 (AA d) (AA 1)=AA (d+1):=BB (by omega)
 have dlt4:∀b,AS B b->b≠U1.next:=λb m e=>by
  rcases m4 b m with h|h
  ·have:=dlt b h;omega
  ·omega
 have llt:∀b,AS lv b->b<U1.next:=λb m=>p1.llt b m
 try simp only[]
 obtain⟨i4,hi4⟩:∃r,T.go (d+1) l1 er1 ns=r:=⟨_,rfl⟩
 rw[hi4]at g4 h4 ⊢
 clear hi4
 obtain⟨i,l2,F,ns2⟩:=i4
 simp only[]at g4 h4 ⊢
 obtain⟨U5,g5,a5,f5⟩:=Jo (n:=1) (o:=1) (v := .int .i64 (AA i)) (l':=C5.c ⟨w,i,false,false,0,0,[],g⟩ .nils) h4.p.ht b4 rfl rfl
 have h5:=h4.fr f5 (by omega) (λb m e=>by have:=llt b m;omega) dlt4 (λb _ e => .inr e)
 have q5:=q4.fr f5 h4.p.ht (by omega) (λb m e=>by have:=lif b m;omega) (λb m e=>by have:=lff b m;omega)
 have q5a:=q5.a
 unfold AM.c at q5a
 have f05:Fr (λb=>PB pb R.dv b\/b=nb\/NF fv b) U U5:=(((f1.mono (λ_ _ h => .inl (.inl h)):Fr (λb=>PB pb R.dv b\/b=nb\/NF fv b) U U1).trans f13 (λ_ _ h=>h.elim)).trans f4 (λ_ _ h => .inl h)).trans f5 (λb m e=>by omega)
 have le5:=f5.le
 have mdv:∀b,AS B b->AS R.dv b\/U.next<=b:=λb m=>(m4 b m).imp id λh=>by omega
 have er5:((R.wd B).e F).er=F:=rfl
 have l5:=h5.p.lt
 have fin:∀(x:C5) (v:V) (U6:H) (l6:List Ad) (er6:Er),Pn U6 pb lv ts l6 ((R.wd B).e er6) ns2 (λb=>((Q b\/LB nb iv fv b)\/b=U1.next)\/U5.next<=b)->Nq U6 nb nd iv fv->DQ U6 U1.next (x.c v)->D0 U6 1 x.db.length v (Fe x.db)->SlV v->(∀b,AS v b->U5.next<=b) ->
   Fr (λb=>PB pb R.dv b\/b=nb\/NF fv b) U U6->U5.next<=U6.next ->
   ∃fv' U',dY E D (AZ E D) nb 0 U1.next 0 U6=some (.tup [],U')/\BG U U' pb lv ts l6 R er6 ns2 Q nb (nd.af x) iv fv fv' B:=by
  intro x v U6 l6 er6 p6 q6 b6 hv sv nv f06 le56
  have q6a:=q6.a
  unfold AM.c at q6a
  unfold C5.c at b6
  obtain⟨e',u,U7,g7,a7,d7,m7,n7,f7⟩:=ZM (E:=E) (D:=D) (v:=fv.1) p6.p.ht q6a rfl b6 q6.f (by omega) (by omega) (λh=>q6.nf (.inl h)) (λh=>by have:=lff _ (.inl h);omega) sv
  have le6:=f06.le
  have vlt:∀b,AS v b->b<U6.next:=λb m=>hv.lt p6.p.ht m
  have nu:∀b,NF (u,fv.2++[v]) b->NF fv b\/U5.next<=b:=λb m=>by
   rcases m with m|⟨y,hy,m⟩
   ·exact(m7 b m).elim (λh => .inl (.inl h)) (λh => .inr (by omega))
   ·rcases Dw.1 hy with hy|hy
    ·exact .inl (.inr ⟨y,hy,m⟩)
    ·rw[B0]at hy
     subst hy
     exact .inr (nv b m)
  have g7':j8 U7 (nd.fields++[x]) (fv.2++[v]):=by
   have g0:=q6.g.fr f7 p6.p.ht (λy hy b m e=>by
    rcases e with e|e
    ·exact q6.nf (e ▸ .inr ⟨y,hy,m⟩)
    ·exact q6.gd y hy b m e)
   refine⟨by rw[AY,AY,g0.1];rfl,λk y z hy hz=>?_⟩
   rcases Av k nd.fields.length with hk|hk
   ·rw[Cu hk]at hy
    rw[Cu (by rw[g0.1];exact hk)]at hz
    exact g0.2 k y z hy hz
   ·rw[Ck hk]at hy
    rw[Ck (by rw[g0.1];exact hk),g0.1]at hz
    have hk0:k-nd.fields.length=0:=by
     rcases SV (k-nd.fields.length)with h|h
     ·exact h
     ·rw[Ae (by simp only[AK,Aa];omega)]at hy;cases hy
    rw[hk0]at hy hz
    cases hy
    cases hz
    exact hv.fr f7 p6.p.ht (λb m e=>by
     have:=nv b m
     rcases e with e|e
     ·omega
     ·have:=lff b (.inl e);omega)
  have q7:Nq U7 nb (nd.af x) iv (u,fv.2++[v]):=⟨a7,q6.i.fr f7 p6.p.ht (λb m e=>by
    rcases e with e|e
    ·exact q6.ni (e ▸ m)
    ·exact q6.d b m (.inl e)),by
    have e1:(nd.fields++[x]).length=nd.fields.length+1:=by simp
    show ES U7 11 (nd.fields++[x]).length u (WS (nd.fields++[x]) (fv.2++[v]))
    rw[e1,VV _ _ _ _ q6.g.1];exact d7,g7',q6.ni,λe=>(nu _ e).elim q6.nf (λh=>by omega),λb m hu=>by
    rcases nu b hu with h|h
    ·exact q6.d b m h
    ·have:=lif b m;omega,λy hy b m e=>by
    rcases Dw.1 hy with hy|hy
    ·rcases m7 b e with h|h
     ·exact q6.gd y hy b m h
     ·have:=lff b (.inr ⟨y,hy,m⟩);omega
    ·rw[B0]at hy
     subst hy
     have:=nv b m
     have:=vlt b m
     rcases m7 b e with h|h
     ·have:=lff b (.inl h);omega
     ·omega⟩
  have dl5:∀b,AS B b->b<U5.next:=λb m=>h5.dlt m
  have h7:=p6.fr f7 (λe=>by
    rcases e with e|e
    ·exact ap.a.x e.symm
    ·exact(ap.a.f _ (.inl e)).1 rfl) (λb m e=>by
    rcases e with e|e
    ·exact ap.a.l (e ▸ m)
    ·exact(ap.a.f _ (.inl e)).2 m) (λb m e=>by
    rcases e with e|e
    ·exact ap4.d (e ▸ m)
    ·exact ap4.f _ (.inl e) m) (λb _ e => .inl (.inl (.inr (e.elim .inl λe => .inr (.inr (.inl e))))))
  have s7:BG U U7 pb lv ts l6 R er6 ns2 Q nb (nd.af x) iv fv (u,fv.2++[v]) B:=by
   refine⟨h7.ext λb m => .inl ?_,q7,⟨⟨ap.a.x,ap.a.l,ap.a.i,λb m=>?_⟩,ap4.d,ap4.i,λb m=>?_⟩,λb m=>(nu b m).elim .inl (λh => .inr (by omega)),mdv,f06.trans f7 (λb _ e => .inr (e.elim .inl λe => .inr (.inl e)))⟩
   ·rcases m with m|m|m|m
    ·exact .inl (.inl (.inl m))
    ·exact .inl (.inl (.inr (.inl m)))
    ·exact .inl (.inl (.inr (.inr (.inl m))))
    ·rcases nu b m with h|h
     ·exact .inl (.inl (.inr (.inr (.inr h))))
     ·exact .inr h
   ·rcases nu b m with h|h
    ·exact ap.a.f b h
    ·exact⟨by omega,λhn=>by have:=llt b hn;omega⟩
   ·rcases nu b m with h|h
    ·exact ap4.f b h
    ·exact λhn=>by have:=dl5 b hn;omega
  refine⟨_,U7,?_,s7⟩
  have gd:∀J:Cb->H->AH,DZ (AZ E D Tu PU [(1,.ptr nb 0),(8,.ptr U1.next 0)] U6) J=J e' U7:=λJ=>by rw[g7];rfl
  unfold dY
  simp only[↓rP,rS,↓gd]
 have h5':Pn U5 pb lv ts l2 ((R.wd B).e F) ns2 (λb=>((Q b\/LB nb iv fv b)\/b=U1.next)\/U5.next<=b):=h5.ext λb m=>m
 unfold RB
 cases hk9:decide (nd.kind=9)with
 | true=>
  try simp only[]
  obtain⟨fv',U',g',s'⟩:=fin ⟨w,i,false,false,0,0,[],g⟩ .nils U5 _ _ h5' q5 a5 (D0.nil0 _) (.inl rfl) (λ_ h=>h.elim) f05 (AL _)
  refine⟨B,fv',U',?_,s'⟩
  rw[<-g']
  unfold TS
  simp only[↓rP,rA,AE,AF,AD,↓g1,↓e2,↓s3,ad,↓g4,↓g5,↓AT q5a,hk9]
 | false=>
  try simp only[]
  obtain⟨U6,g6,p6,f6⟩:=hI (BS.mk 8 5494759122808361039) h5.p
  rw[show (((R.e er1).wd B).e F).er=F from rfl]at g6 p6
  have h6:=h5'.goe (er:=F) p6 f6
  have q6:=q5.frx f6 h5.p.ht ap.a
  have b6:=f6.at_ a5 h5.p.ht (by omega)
  have f06:=f05.trans f6 (λ_ _ h => .inl (.inl h))
  have le6:=f6.le
  generalize Ew (BS.mk 8 5494759122808361039) l2 F=i6 at g6 p6 h6 ⊢
  obtain⟨b6',l3⟩:=i6
  cases b6' with
  | true=>
   obtain⟨U7,g7,a7,f7⟩:=Jo (n:=1) (o:=2) (v := .bool true) (l':=C5.c ⟨w,i,true,false,0,0,[],g⟩ .nils) p6.ht b6 rfl rfl
   have h7:=h6.fr f7 (by omega) (λb m e=>by have:=llt b m;omega) dlt4 (λb _ e => .inl (.inr e))
   have q7:=q6.fr f7 p6.ht (by omega) (λb m e=>by have:=lif b m;omega) (λb m e=>by have:=lff b m;omega)
   obtain⟨fv',U',g',s'⟩:=fin ⟨w,i,true,false,0,0,[],g⟩ .nils U7 _ _ h7 q7 a7 (D0.nil0 _) (.inl rfl) (λ_ h=>h.elim) (f06.trans f7 (λb m e=>by omega)) (by have:=f7.le;omega)
   refine⟨B,fv',U',?_,s'⟩
   rw[<-g']
   unfold TS
   simp only[↓rP,rA,AE,AF,AD,↓g1,↓e2,↓s3,ad,↓g4,↓g5,↓AT q5a,hk9,↓g6,↓g7]
  | false=>
   simp only[]at g6 p6 h6 ⊢
   obtain⟨U7,g7,p7,f7⟩:=hI (BS.mk 7 23727827094750532) p6
   rw[show (((R.e er1).wd B).e F).er=F from rfl]at g7 p7
   have h7:=h6.goe (er:=F) p7 f7
   have q7:=q6.frx f7 p6.ht ap.a
   have b7:=f7.at_ b6 p6.ht (by omega)
   have f07:=f06.trans f7 (λ_ _ h => .inl (.inl h))
   have le7:=f7.le
   generalize Ew (BS.mk 7 23727827094750532) l3 F=i7 at g7 p7 h7 ⊢
   obtain⟨b7',l4⟩:=i7
   cases b7' with
   | false=>
    simp only[]at g7 p7 h7 ⊢
    obtain⟨fv',U',g',s'⟩:=fin ⟨w,i,false,false,0,0,[],g⟩ .nils U7 _ _ h7 q7 b7 (D0.nil0 _) (.inl rfl) (λ_ h=>h.elim) f07 (by omega)
    refine⟨B,fv',U',?_,s'⟩
    rw[<-g']
    unfold TS
    simp only[↓rP,rA,AE,AF,AD,↓g1,↓e2,↓s3,ad,↓g4,↓g5,↓AT q5a,hk9,↓g6,↓g7]
   | true=>
    simp only[]at g7 p7 h7 ⊢
    obtain⟨v,U9,g9,p9,hs9,sv,nv,f9⟩:=hV h7.p
    have er8:((((R.wd B).e F).e F).e F).er=F:=rfl
    rw[er8]at g9 p9 hs9
    have h9:=h7.goe p9 f9
    have q9:=q7.frx f9 h7.p.ht ap.a
    have b9:=f9.at_ b7 h7.p.ht (by omega)
    have f09:=f07.trans f9 (λ_ _ h => .inl (.inl h))
    have le9:=f9.le
    generalize MQ l4 F=i9 at g9 p9 hs9 h9 ⊢
    obtain⟨x9,l9,er9⟩:=i9
    obtain⟨dk,dn,db⟩:=x9
    simp only[]at g9 p9 hs9 h9 ⊢
    unfold dR.c at g9
    simp only[]at g9
    have vo:=hs9.one
    obtain⟨U8,g8,a8,f8⟩:=Jo (n:=1) (o:=3) (v := .bool true) (l':=C5.c ⟨w,i,false,true,0,0,[],g⟩ .nils) p9.ht b9 rfl rfl
    obtain⟨Ua,ga,aa,fa'⟩:=Jo (n:=6) (o:=4) (v := .agg [.int .i64 (AA dk),.int .i64 dn,v,.nils,.int .i64 (AA 0),.nils]) (l':=C5.c ⟨w,i,false,true,dk,dn,db,g⟩ v) f8.tidy a8 (by
     show (Ax 6 6&&Ac (AN 4 6) 11&&BM [.int .i64 (AA dk),.int .i64 dn,v,.nils,.int .i64 (AA 0),.nils])=true
     simp only[BW,Bg,Ed,FR,vo,Au];rfl) rfl
    have fa:=f8.trans fa' (λ_ _ h=>h)
    have ha:=h9.fr fa (by omega) (λb m e=>by have:=llt b m;omega) dlt4 (λb _ e => .inl (.inr e))
    have qa:=q9.fr fa p9.ht (by omega) (λb m e=>by have:=lif b m;omega) (λb m e=>by have:=lff b m;omega)
    obtain⟨fv',U',g',s'⟩:=fin ⟨w,i,false,true,dk,dn,db,g⟩ v Ua _ _ ha qa aa (hs9.fr fa p9.ht (λb m e=>by have:=nv b m;omega)) sv (λb m=>by have:=nv b m;omega) (f09.trans fa (λb m e=>by omega)) (by have:=fa.le;omega)
    refine⟨B,fv',U',?_,s'⟩
    rw[<-g']
    unfold TS
    simp only[↓rP,rA,AE,AF,AD,↓g1,↓e2,↓s3,ad,↓g4,↓g5,↓AT q5a,hk9,↓g6,↓g7,↓g9,↓g8,↓ga]
end
def clB(nd:AM)(l:List Ad)(er:Er)(b:List AM):Kk:=match CG (BS.mk 2 23901) l er with
 | (a,er1)=>(nd,a,er1,b)
def RS(T:Da)(d g:Nat):Nat->AM->List Ad->Er->List AM->Kk
 | 0,nd,l,er,c=>(nd,l,FU er 5 0,c)
 | n+1,nd,l,er,c=>match decide (er.1=0)with
  | false=>clB nd l er c
  | true=>match E4 T d g nd l er c with
   | (b,f,er1,a)=>match Ew (BS.mk 1 44) f er1 with
    | (true,e)=>RS T d g n b e er1 a
    | (false,e)=>clB b e er1 a
@[irreducible] def brR(T:Da)(d g:Nat)(nd:AM)(l:List Ad)(er:Er)(b:List AM):Kk:=RS T d g 9001 nd l er b
def Yp(nd:AM)(l:List Ad)(er:Er)(b:List AM):Kk:=match CG (BS.mk 1 125) l er with
 | (a,er1)=>(match nd.more with | true=>nd | false=>nd.mr nd.more nd.fields.length,a,er1,b)
def Ku(T:Da)(d g:Nat)(nd:AM)(l:List Ad)(er:Er)(c:List AM):Nat × Kk:=
 match (match nd.more with | true=>(false,l) | false=>Ew (BS.mk 3 3026478) l er)with
 | (true,a)=>(g,nd.mr true nd.fields.length,a,er,c)
 | (false,a)=>match (match nd.more with | true=>Ew (BS.mk 2 23387) a er | false=>(false,a))with
  | (true,b)=>(g+1,brR T d (g+1) nd b er c)
  | (false,b)=>(g,E4 T d 0 nd b er c)
def J5(T:Da)(d:Nat):Nat->Nat->AM->List Ad->Er->List AM->Kk
 | 0,_,nd,l,er,e=>(nd,l,FU er 5 0,e)
 | n+1,g,nd,l,er,e=>match decide (er.1=0)with
  | false=>Yp nd l er e
  | true=>match Ku T d g nd l er e with
   | (h,c,f,a,b)=>match Ew (BS.mk 1 44) f a with
    | (true,l4)=>J5 T d n h c l4 a b
    | (false,l4)=>Yp c l4 a b
@[irreducible] def wG(T:Da)(d:Nat)(nd:AM)(l:List Ad)(er:Er)(b:List AM):Kk:=J5 T d 9001 0 nd l er b
def D5(T:Da)(d:Nat)(nd:AM)(l:List Ad)(er:Er)(b:List AM):Kk:=match Ew (BS.mk 1 125) l er with
 | (true,a)=>(nd,a,er,b)
 | (false,a)=>wG T d nd a er b
structure Py(T:Da):Prop where
 le:∀d l er ns,(T.go d l er ns).2.1.length<=l.length
 n:∀d l er ns,ns.length<=(T.go d l er ns).2.2.2.length
 st:∀d l er ns,er.1≠0->T.go d l er ns=(0,l,er,ns)
theorem uh(l:List Ad)(er:Er):(MQ l er).2.1.length<=l.length:=by
 unfold MQ;cases decide (er.1=0)with
 | false=>exact AL _ | true=>
  have h:=DY (BS.mk 4 1163219540) l;simp only[]at ⊢;generalize CP (BS.mk 4 1163219540) l=p at h ⊢;obtain⟨s,n⟩:=p;cases s with
  | true=>exact h | false=>
   have j:=DY (BS.mk 5 297750249798) n;simp only[]at h ⊢;generalize CP (BS.mk 5 297750249798) n=q at j ⊢;obtain⟨v,m⟩:=q;cases v with
   | true=>exact AU j h | false=>
    have o:=DY (BS.mk 4 1280070990) m;simp only[]at j ⊢;generalize CP (BS.mk 4 1280070990) m=u at o ⊢;obtain⟨r,t⟩:=u;have k:=JW t;have d:=AU o (AU j h);simp only[]at d;cases r with
    | true=>exact d | false=>
     cases decide ((BJ l).1=3)with
     | true=>exact AU k d | false=>
      cases decide ((BJ l).1=2)with
      | true=>exact AU k d | false=>
       cases decide ((BJ l).1=4)with
       | true=>exact AU k d | false=>
        cases decide ((BJ l).1=7)with
        | true=>exact AU k d | false=>exact d
theorem HC{er:Er} s l (h:er.1≠0):Ew s l er=(false,l):=by
 unfold Ew;rw[decide_eq_false h]
theorem C3{er:Er} s l (h:er.1≠0):CG s l er=(l,er):=by
 unfold CG;rw[decide_eq_false h]
theorem nU{er:Er} e a (h:er.1≠0):FU er e a=er:=by
 unfold FU;rw[decide_eq_false h]
theorem mq{er:Er} k l (h:er.1≠0):Dz k l er=([],l,er):=by
 unfold Dz;rw[decide_eq_false h,BY,nU _ _ h]
theorem vZ{er:Er} l (h:er.1≠0):J1 l er=(0,l,er):=by
 unfold J1;rw[mq 3 l h];rfl
theorem ug{er:Er} l (h:er.1≠0):MQ l er=((0,0,[]),l,er):=by
 unfold MQ;rw[decide_eq_false h]
theorem nQ(nd:AM) w g i (l:List Ad)(er:Er):(RB nd w g i l er).2.1.length<=l.length/\(er.1≠0->(RB nd w g i l er).2.2=er):=by
 unfold RB;cases decide (nd.kind=9)with
 | true=>exact⟨AL _,λ_=>rfl⟩ | false=>
  have j:=Dl (BS.mk 8 5494759122808361039) l er;have s:=λh=>HC (er:=er) (BS.mk 8 5494759122808361039) l h;simp only[]at ⊢;generalize Ew (BS.mk 8 5494759122808361039) l er=x at j s ⊢;obtain⟨A,r⟩:=x;cases A with
  | true=>exact⟨j,λ_=>rfl⟩ | false=>
   have n:=Dl (BS.mk 7 23727827094750532) r er;simp only[]at j ⊢;generalize Ew (BS.mk 7 23727827094750532) r er=y at n ⊢;obtain⟨t,o⟩:=y;cases t with
   | false=>exact⟨AU n j,λ_=>rfl⟩ | true=>
    have p:=uh o er;have q:=λh=>ug (er:=er) o h;simp only[]at n ⊢;generalize MQ o er=z at p q ⊢;obtain⟨v,B,u⟩:=z;refine⟨AU p (AU n j),λh=>?_⟩;have:=q h;simp only[Prod.mk.injEq]at this;exact this.2.2
theorem XD{T:Da}(I:Py T) d g (nd:AM)(l:List Ad)(er:Er) p:(E4 T d g nd l er p).2.1.length<=l.length/\(E4 T d g nd l er p).1.fields.length=nd.fields.length+1/\((E4 T d g nd l er p).2.2.1.1=0->er.1=0/\(BJ l).1=2/\(E4 T d g nd l er p).2.1.length<=(Fh l).length):=by
 unfold E4;have z:=Lb 2 l er;have s:(Dz 2 l er).2.2.1=0->er.1=0/\(BJ l).1=2/\(Dz 2 l er).2.1=Fh l:=by
  unfold Dz;cases B:decide (er.1=0)&&decide ((BJ l).1=2)with
  | true=>
   rw[AI,decide_eq_true_eq,decide_eq_true_eq]at B;exact λ_=>⟨B.1,B.2,rfl⟩
  | false=>
   intro h;have h:=h;unfold FU at h;cases C:decide (er.1=0)with
   | true=>rw[C]at h;cases h | false=>rw[C]at h;exact absurd h (of_decide_eq_false C)
 generalize Dz 2 l er=S at z s ⊢;obtain⟨w,F,er1⟩:=S;have v:=I.le (d+1) F er1 p;have K:=I.st (d+1) F er1 p;simp only[]at z s ⊢;obtain⟨U,q⟩:∃r,T.go (d+1) F er1 p=r:=⟨_,rfl⟩;rw[q]at v K ⊢;clear q;obtain⟨i,G,o,P⟩:=U;obtain⟨y,A⟩:=nQ nd w g i G o;simp only[]at v ⊢;generalize RB nd w g i G o=O at y A ⊢;obtain⟨x,W,M⟩:=O;simp only[]at y A ⊢;refine⟨AU y (AU v z),by show (nd.fields++[x]).length=_;simp,λL=>?_⟩;have J:o.1=0:=by
  by_cases e:o.1=0
  ·exact e
  ·rw[A e]at L;exact absurd L e
 have N:er1.1=0:=by
  by_cases e:er1.1=0
  ·exact e
  ·have:=K e
   simp only[Prod.mk.injEq]at this;rw[this.2.2.1]at J;exact absurd J e
 obtain⟨Q,s,R⟩:=s N;exact⟨Q,s,R ▸ AU y v⟩
structure FlR(r:Kk)(U U':H)(pb:Nat)(lv:V)(ts l:List Ad)(R:Rp)(Q:Nat->Prop)(nb:Nat)(nd:AM)(iv:V)(fv fv':FV)(dv':V):Prop where
 s:BG U U' pb lv ts r.2.1 R r.2.2.1 r.2.2.2 Q nb r.1 iv fv fv' dv'
 le:r.2.1.length<=l.length
 me:r.2.2.1.1=0->R.er.1=0/\r.1.fields.length+r.2.1.length<=nd.fields.length+l.length
def MO(T:Da)(F:List V->H->AH):Prop:=∀{U:H}{c g ts l}{R:Rp}{a Q nb}{nd:AM}{iv fv d},
 Pn U c g ts l R a (λb=>Q b\/LB nb iv fv b)->(∀b,Q b->b<U.next)->Nq U nb nd iv fv->Aq c g R.dv nb iv fv->nd.fields=[]->(T.lo<=d+1/\d<=900) ->
 ∃f e U',F [.ptr c 0,.ptr nb 0,.int .i64 (AA d)] U=some (.tup [],U')/\BG U U' c g ts (D5 T d nd l R.er a).2.1 R (D5 T d nd l R.er a).2.2.1 (D5 T d nd l R.er a).2.2.2 Q nb (D5 T d nd l R.er a).1 iv fv e f
theorem nE{s l l'}{er:Er}(h:Ew s l er=(true,l')):er.1=0:=by
 unfold Ew at h;cases d:decide (er.1=0)with
 | true=>exact of_decide_eq_true d | false=>rw[d]at h;cases h
section
variable {E:EB}{D:Am}{N:Nat}
theorem VS{T:Da}(w:Py T)(v:KM T (D 81)){U:H}{i n}{ts l:List Ad}{R:Rp}{o Q nb}{nd:AM}{iv fv d g}
  (h:Pn U i n ts l R o (λb=>Q b\/LB nb iv fv b)) (B:∀b,Q b->b<U.next) (q:Nq U nb nd iv fv) (p:Aq i n R.dv nb iv fv) (G:nd.fields.length+l.length<=9000) (A:(T.lo<=d+1/\d<=900)) (z:g<=9000) :
  ∃e c U',D 81 [.ptr i 0,.ptr nb 0,.int .i64 (AA d),.int .i64 (AA g)] U=some (.tup [],U')/\FlR (E4 T d g nd l R.er o) U U' i n ts l R Q nb nd iv fv c e:=by
 obtain⟨e,c,U',y,s⟩:=v h B q p (by omega) A z;obtain⟨u,F,x⟩:=XD w d g nd l R.er o;refine⟨e,c,U',y,⟨s,u,λr=>?_⟩⟩;obtain⟨t,k,C⟩:=x r;have:=h.p.less (by rw[k];decide);exact⟨t,by omega⟩
theorem yj(B:Di (D 13)) v {U n s ts l}{R:Rp}{u Q nb nd iv fv} d g
  (h:Pn U n s ts l R u (λb=>Q b\/LB nb iv fv b)) (q:Nq U nb nd iv fv) (z:Aq n s R.dv nb iv fv) :
  ∃U',dw E D (AZ E D) v n 0 nb 0 d g U=v n 0 nb 0 d g U'/\FlR (clB nd l R.er u) U U' n s ts l R Q nb nd iv fv fv R.dv:=by
 obtain⟨y,C,w,f1⟩:=B (BS.mk 2 23901) h.p;have t:=BG.go h q z w f1;have p:=DJ (BS.mk 2 23901) l R.er;have x:=λh=>C3 (er:=R.er) (BS.mk 2 23901) l h;unfold clB;generalize CG (BS.mk 2 23901) l R.er=F at w t p x ⊢;obtain⟨G,er1⟩:=F;refine⟨y,?_,t,p,λA=>⟨?_,by simp only[]at p ⊢;omega⟩⟩
 ·unfold dw
  simp only[↓rP,rS,↓C]
 ·by_cases e:R.er.1=0
  ·exact e
  ·have:=x e
   simp only[Prod.mk.injEq]at this;rw[<-this.2];exact A
theorem AII{T:Da}(hT:Py T)(hI:Ft (D 14))(hM:Di (D 13))(hF:KM T (D 81)) L {s lv ts Q nb iv d g}(hd:(T.lo<=d+1/\d<=900))(hg:g<=9000):
  ∀(n k:Nat) {U:H}{l:List Ad}{R:Rp}{Y:List AM}{nd:AM}{fv:FV},Pn U s lv ts l R Y (λb=>Q b\/LB nb iv fv b)->(∀b,Q b->b<U.next)->Nq U nb nd iv fv->Aq s lv R.dv nb iv fv->(R.er.1=0->nd.fields.length+l.length<=9000)->l.length<n->l.length<k ->
   ∃y F U',Th E D (AZ E D) N L k s 0 nb 0 (AA d) (AA g) U=PS E D (AZ E D) N L s 0 nb 0 (AA d) (AA g) U'/\FlR (RS T d g n nd l R.er Y) U U' s lv ts l R Q nb nd iv fv F y:=by
 intro n;induction n with
 | zero=>intro k U l R Y nd fv h hQ q ap Z hn;omega | succ n ih=>
  intro k U l R Y nd fv h hQ q ap Z hn hk;obtain⟨k,rfl⟩:∃j,k=j+1:=⟨k-1,by omega⟩;obtain⟨ax,A,_⟩:=h.p.ex;unfold II at A;unfold RS;show ∃y F U',PH E D (AZ E D) (dw E D (AZ E D) (PS E D (AZ E D) N L)) (Th E D (AZ E D) N L k) s 0 nb 0 (AA d) (AA g) U=_/\_;cases z:decide (R.er.1=0)with
  | false=>
   obtain⟨U1,g1,v⟩:=yj hM (PS E D (AZ E D) N L) (AA d) (AA g) h q ap;refine⟨R.dv,fv,U1,?_,v⟩;rw[<-g1];have u:∀w C,PH E D (AZ E D) w C s 0 nb 0 (AA d) (AA g) U=w s 0 nb 0 (AA d) (AA g) U:=by
    intro w C;unfold PH;simp only[↓rP,rA,AE,AF,AD,↓AT A,z]
   exact u _ _
  | true=>
   have Z:=Z (of_decide_eq_true z);obtain⟨G,M,U1,g1,v,P,t⟩:=VS hT hF h hQ q ap Z hd hg;simp only[]at ⊢;generalize E4 T d g nd l R.er Y=i1 at v P t ⊢;obtain⟨nd1,l1,er1,ac⟩:=i1;simp only[]at v P t ⊢;obtain⟨U2,W,p2,f2⟩:=hI (BS.mk 1 44) v.p.p;rw[show ((R.wd G).e er1).er=er1 from rfl]at W p2;have x:=v.trans (BG.go v.p v.q v.ap p2 f2);have O:=Dl (BS.mk 1 44) l1 er1;have K:∀l',Ew (BS.mk 1 44) l1 er1=(true,l')->l'.length+1<=l1.length/\er1.1=0:=λl' e=>⟨v.p.p.isR_lt e,nE e⟩;have lex:=x.f.le;generalize Ew (BS.mk 1 44) l1 er1=i2 at W p2 x O K ⊢;obtain⟨b2,l2⟩:=i2;simp only[]at W p2 x O ⊢;have S:Pn U2 s lv ts l2 ((R.wd G).e er1) ac (λb=>Q b\/LB nb iv M b):=x.p;cases b2 with
   | true=>
    obtain⟨K,e1⟩:=K l2 rfl;obtain⟨ab,t⟩:=t e1;have u:∀w C,PH E D (AZ E D) w C s 0 nb 0 (AA d) (AA g) U=C s 0 nb 0 (AA d) (AA g) U2:=by
     intro w C;unfold PH;simp only[↓rP,rA,AE,AF,AD,↓AT A,z,↓g1,↓W]
    obtain⟨y,F,U',g',s',aa,ae⟩:=ih k S (λb X=>by have:=hQ b X;omega) x.q x.ap (λ_=>by omega) (by omega) (by omega);rw[u];exact⟨y,F,U',g',x.trans s',AU aa (by omega),λX=>⟨ab,AU (ae X).2 (by omega)⟩⟩
   | false=>
    obtain⟨U3,g3,s3,ad,af⟩:=yj hM (PS E D (AZ E D) N L) (AA d) (AA g) S x.q x.ap;refine⟨G,M,U3,?_,x.trans s3,AU ad (by omega),λX=>?_⟩
    ·rw[<-g3]
     have u:∀w C,PH E D (AZ E D) w C s 0 nb 0 (AA d) (AA g) U=w s 0 nb 0 (AA d) (AA g) U2:=by
      intro w C;unfold PH;simp only[↓rP,rA,AE,AF,AD,↓AT A,z,↓g1,↓W]
     exact u _ _
    ·obtain⟨m0,m1⟩:=af X
     obtain⟨k0,k1⟩:=t m0;exact⟨k0,AU m1 (by omega)⟩
theorem yi(u:Di (D 13)){U n p ts l}{R:Rp}{j Q nb}{nd:AM}{iv}{fv:FV}
  (h:Pn U n p ts l R j (λb=>Q b\/LB nb iv fv b)) (q:Nq U nb nd iv fv) (B:Aq n p R.dv nb iv fv) :
  ∃U',N0 E D (AZ E D) n 0 nb 0 U=some (.tup [],U')/\BG U U' n p ts (Yp nd l R.er j).2.1 R (Yp nd l R.er j).2.2.1 (Yp nd l R.er j).2.2.2 Q nb (Yp nd l R.er j).1 iv fv fv R.dv:=by
 obtain⟨w,r,m,f1⟩:=u (BS.mk 1 125) h.p;have d:=BG.go h q B m f1;unfold Yp;generalize CG (BS.mk 1 125) l R.er=v at m d ⊢;obtain⟨G,er1⟩:=v;simp only[]at m d ⊢;have k:=d.q.a;unfold AM.c at k;have x:∀J,BV fv.1 J=J nd.fields.length:=λJ=>d.q.f.slen;cases s:nd.more with
 | true=>
  rw[s]at k;refine⟨w,?_,d⟩;unfold N0;simp only[↓rP,rS,↓r,↓AT k]
 | false=>
  obtain⟨z,C,A,t⟩:=d.q.set (off:=13) (y := .int .i64 (AA nd.fields.length)) m.ht (nd.mr nd.more nd.fields.length) ⟨rfl,rfl⟩ (by decide) rfl rfl rfl;rw[s]at k t;refine⟨z,?_,d.trans (BG.own d.p d.ap t A)⟩;unfold N0;simp only[↓rP,rS,↓r,↓AT k,↓x,↓C]
theorem TH{T}(hT:Py T)(hI:Ft (D 14))(hM:Di (D 13))(hF:KM T (D 81))(hN:9003<N):MO T (F68 E D (AZ E D) N):=by
 intro U v lv ts l R M Q nb nd iv fv d h hQ q ap h0 hd;have loop:∀(n k g:Nat) {U:H}{l:List Ad}{R:Rp}{M:List AM}{nd:AM}{fv:FV},Pn U v lv ts l R M (λb=>Q b\/LB nb iv fv b)->(∀b,Q b->b<U.next)->Nq U nb nd iv fv->Aq v lv R.dv nb iv fv->(R.er.1=0->nd.fields.length+l.length<=9000)->l.length<n->l.length<k->g+l.length<=9000 ->
   ∃O G U',Mj E D (AZ E D) N k v 0 nb 0 (AA d) (AA g) U=some (.tup [],U')/\BG U U' v lv ts (J5 T d n g nd l R.er M).2.1 R (J5 T d n g nd l R.er M).2.2.1 (J5 T d n g nd l R.er M).2.2.2 Q nb (J5 T d n g nd l R.er M).1 iv fv G O:=by
  intro n;induction n with
  | zero=>intro k g U l R M nd fv h hQ q ap hl hn;omega | succ n ih=>
   intro k g U l R M nd fv h hQ q ap hl hn hk hg;obtain⟨k,rfl⟩:∃j,k=j+1:=⟨k-1,by omega⟩;obtain⟨ax,S,_⟩:=h.p.ex;unfold II at S;unfold J5;show ∃O G U',KG E D (AZ E D) (N0 E D (AZ E D)) (PI E D (AZ E D) (N0 E D (AZ E D)) (Mj E D (AZ E D) N k)) (Th E D (AZ E D) N (Mj E D (AZ E D) N k) N) v 0 nb 0 (AA d) (AA g) U=_/\_;cases L:decide (R.er.1=0)with
   | false=>
    obtain⟨U1,F,t⟩:=yi hM h q ap;refine⟨R.dv,fv,U1,?_,t⟩;rw[<-F];have u:∀z A I,KG E D (AZ E D) z A I v 0 nb 0 (AA d) (AA g) U=z v 0 nb 0 U:=by
     intro z A I;unfold KG;simp only[↓rP,rA,AE,AF,AD,↓AT S,L]
    exact u _ _ _
   | true=>
    have hl:=hl (of_decide_eq_true L);have hpos:0<l.length:=tn.2 h.p.ne;have ag:BP .i64 (AA g) (AA 1)=AA (g+1):=BB (by omega);have qa:=q.a;unfold AM.c at qa;have sl:∀J:Nat->AH,BV fv.1 J=J nd.fields.length:=λJ=>q.f.slen;obtain⟨ac,fv3,U3,K,X⟩:∃ac fv3 U3,KG E D (AZ E D) (N0 E D (AZ E D)) (PI E D (AZ E D) (N0 E D (AZ E D)) (Mj E D (AZ E D) N k)) (Th E D (AZ E D) N (Mj E D (AZ E D) N k) N) v 0 nb 0 (AA d) (AA g) U=PI E D (AZ E D) (N0 E D (AZ E D)) (Mj E D (AZ E D) N k) v 0 nb 0 (AA d) (AA (Ku T d g nd l R.er M).1) U3/\FlR (Ku T d g nd l R.er M).2 U U3 v lv ts l R Q nb nd iv fv fv3 ac:=by
     unfold Ku;have er0:R.er.1=0:=of_decide_eq_true L;cases hm:nd.more with
     | true=>
      rw[hm]at qa;obtain⟨U1,F,W,f1⟩:=hI (BS.mk 2 23387) h.p;have t:=BG.go h q ap W f1;have w:=Dl (BS.mk 2 23387) l R.er;simp only[]at ⊢;have lt1:∀l',Ew (BS.mk 2 23387) l R.er=(true,l')->l'.length+1<=l.length:=λl' e=>h.p.isR_lt e;generalize Ew (BS.mk 2 23387) l R.er=i1 at F W t w lt1 ⊢;obtain⟨b1,l1⟩:=i1;simp only[]at F W t w ⊢;have lex:=t.f.le;have P:Pn U1 v lv ts l1 R M (λb=>Q b\/LB nb iv fv b):=t.p;cases b1 with
      | true=>
       have lt1:=lt1 l1 rfl;obtain⟨Y,Z,U2,g2,s2,ab,aa⟩:=AII (N:=N) hT hI hM hF (Mj E D (AZ E D) N k) (g:=g+1) hd (by omega) 9001 N P (λb C=>by have:=hQ b C;omega) t.q t.ap (λ_=>by omega) (by omega) (by omega);refine⟨Y,Z,U2,?_,?_⟩
       ·refine j1 ?_ g2
        have u:∀z A I,KG E D (AZ E D) z A I v 0 nb 0 (AA d) (AA g) U=I v 0 nb 0 (AA d) (AA (g+1)) U1:=by
         intro z A I;unfold KG;simp only[↓rP,rA,AE,AF,AD,↓AT S,L,↓AT qa,↓F,ag]
        exact u _ _ _
       ·unfold brR
        exact⟨t.trans s2,AU ab w,λC=>⟨er0,AU (aa C).2 (by omega)⟩⟩
      | false=>
       obtain⟨Y,Z,U2,g2,s2,ab,aa⟩:=VS (g:=0) hT hF P (λb C=>by have:=hQ b C;omega) t.q t.ap (by omega) hd (by omega);refine⟨Y,Z,U2,?_,⟨t.trans s2,AU ab w,λC=>⟨er0,AU (aa C).2 (by omega)⟩⟩⟩;have u:∀z A I,KG E D (AZ E D) z A I v 0 nb 0 (AA d) (AA g) U=A v 0 nb 0 (AA d) (AA g) U2:=by
        intro z A I;unfold KG;simp only[↓rP,rA,AE,AF,AD,↓AT S,L,↓AT qa,↓F,↓g2]
       exact u _ _ _
     | false=>
      rw[hm]at qa;obtain⟨U1,F,W,f1⟩:=hI (BS.mk 3 3026478) h.p;have t:=BG.go (er1:=R.er) h q ap W f1;have w:=Dl (BS.mk 3 3026478) l R.er;simp only[]at ⊢;generalize Ew (BS.mk 3 3026478) l R.er=i1 at F W t w ⊢;obtain⟨b1,l1⟩:=i1;simp only[]at F W t w ⊢;have lex:=t.f.le;have P:Pn U1 v lv ts l1 R M (λb=>Q b\/LB nb iv fv b):=t.p;have ad:=t.q.a;unfold AM.c at ad;rw[hm]at ad;have sl1:∀J:Nat->AH,BV fv.1 J=J nd.fields.length:=λJ=>t.q.f.slen;cases b1 with
      | true=>
       obtain⟨U2,g2,f2,q2⟩:=t.q.set (off:=14) (y := .bool true) W.ht (nd.mr true nd.root) ⟨rfl,rfl⟩ (by decide) rfl rfl rfl;obtain⟨U3,g3,f3,q3⟩:=q2.set (off:=13) (y := .int .i64 (AA nd.fields.length)) f2.tidy (nd.mr true nd.fields.length) ⟨rfl,rfl⟩ (by decide) rfl rfl rfl;have X:=t.trans (BG.own t.p t.ap q3 (f2.trans f3 (λ_ _ h=>h)));refine⟨_,fv,U3,?_,⟨X,w,λC=>⟨er0,by show nd.fields.length+l1.length<=_;omega⟩⟩⟩;have u:∀z A I,KG E D (AZ E D) z A I v 0 nb 0 (AA d) (AA g) U=A v 0 nb 0 (AA d) (AA g) U3:=by
        intro z A I;unfold KG;simp only[↓rP,rA,AE,AF,AD,↓AT S,L,↓AT qa,↓F,↓AT ad,↓sl1,↓g2,↓g3]
       exact u _ _ _
      | false=>
       obtain⟨Y,Z,U2,g2,s2,ab,aa⟩:=VS (g:=0) hT hF P (λb C=>by have:=hQ b C;omega) t.q t.ap (by omega) hd (by omega);refine⟨Y,Z,U2,?_,⟨t.trans s2,AU ab w,λC=>⟨er0,AU (aa C).2 (by omega)⟩⟩⟩;have u:∀z A I,KG E D (AZ E D) z A I v 0 nb 0 (AA d) (AA g) U=A v 0 nb 0 (AA d) (AA g) U2:=by
        intro z A I;unfold KG;simp only[↓rP,rA,AE,AF,AD,↓AT S,L,↓AT qa,↓F,↓AT ad,↓g2]
       exact u _ _ _
    have hgs:(Ku T d g nd l R.er M).1<=g+1:=by
     unfold Ku;split
     ·exact C9 _
     ·split
      ·exact AL _
      ·exact C9 _
    rw[K];obtain⟨X,le3,me3⟩:=X;simp only[]at ⊢;generalize Ku T d g nd l R.er M=i3 at X le3 me3 hgs ⊢;obtain⟨g',nd3,l3,B,ns3⟩:=i3;simp only[]at X le3 me3 hgs ⊢;obtain⟨U4,g4,p4,f4⟩:=hI (BS.mk 1 44) X.p.p;rw[show ((R.wd ac).e B).er=B from rfl]at g4 p4;have s4:=X.trans (BG.go (er1:=B) X.p X.q X.ap p4 f4);have le4:=Dl (BS.mk 1 44) l3 B;have lt4:∀l',Ew (BS.mk 1 44) l3 B=(true,l')->l'.length+1<=l3.length/\B.1=0:=λl' e=>⟨X.p.p.isR_lt e,nE e⟩;have lex4:=s4.f.le;generalize Ew (BS.mk 1 44) l3 B=i4 at g4 p4 s4 le4 lt4 ⊢;obtain⟨b4,l4⟩:=i4;simp only[]at g4 p4 s4 le4 ⊢;have s4p:Pn U4 v lv ts l4 ((R.wd ac).e B) ns3 (λb=>Q b\/LB nb iv fv3 b):=s4.p;cases b4 with
    | true=>
     obtain⟨lt4,e4⟩:=lt4 l4 rfl;have me3:=(me3 e4).2;obtain⟨O,G,U',g5,s5⟩:=ih k g' s4p (λb C=>by have:=hQ b C;omega) s4.q s4.ap (λ_=>by omega) (by omega) (by omega) (by omega);refine⟨O,G,U',?_,s4.trans s5⟩;refine j1 ?_ g5;have u:∀z R2,PI E D (AZ E D) z R2 v 0 nb 0 (AA d) (AA g') U3=R2 v 0 nb 0 (AA d) (AA g') U4:=by
      intro z R2;unfold PI;simp only[↓rP,rS,↓g4]
     exact u _ _
    | false=>
     obtain⟨U5,g5,s5⟩:=yi (E:=E) hM s4p s4.q s4.ap;refine⟨ac,fv3,U5,?_,s4.trans s5⟩;refine j1 ?_ g5;have u:∀z R2,PI E D (AZ E D) z R2 v 0 nb 0 (AA d) (AA g') U3=z v 0 nb 0 U4:=by
      intro z R2;unfold PI;simp only[↓rP,rS,↓g4]
     exact u _ _
 obtain⟨U1,F,W,f1⟩:=hI (BS.mk 1 125) h.p;have t:=BG.go (er1:=R.er) h q ap W f1;have w:=Dl (BS.mk 1 125) l R.er;have hfew:=h.p.few;have lex:=f1.le;show ∃O G U',dy E D (AZ E D) (Mj E D (AZ E D) N N) v 0 nb 0 (AA d) U=_/\_;unfold D5;generalize Ew (BS.mk 1 125) l R.er=i1 at F W t w ⊢;obtain⟨b1,l1⟩:=i1;simp only[]at F W t w ⊢;have P:Pn U1 v lv ts l1 R M (λb=>Q b\/LB nb iv fv b):=t.p;cases b1 with
 | true=>
  refine⟨_,fv,U1,?_,t⟩;unfold dy;simp only[↓rP,rS,↓F]
 | false=>
  obtain⟨O,G,U',g',s'⟩:=loop 9001 N 0 P (λb C=>by have:=hQ b C;omega) t.q t.ap (λ_=>by rw[h0];simp only[Aa];omega) (by omega) (by omega) (by omega);unfold wG;refine⟨O,G,U',?_,t.trans s'⟩;refine j1 ?_ g';unfold dy;simp only[↓rP,rS,↓F]
end
def nF(nd:AM)(l:List Ad)(er:Er)(e:List AM):Kk:=match Ew (BS.mk 1 40) l er with
 | (false,d)=>(nd,d,er,e)
 | (true,d)=>match Jb d er with
  | (c,g,b)=>match CG (BS.mk 1 41) g b with
   | (f,a)=>(nd.cn c,f,a,e)
def Wp(nd:AM)(l:List Ad)(er:Er)(b:List AM):Kk:=match CG (BS.mk 6 78401563153491) l er with
 | (d,er1)=>match Ix d er1 with
  | (c,e,a)=>((nd.kd 5).cn c,e,a,b)
def szR(nd:AM)(l:List Ad)(er:Er)(b:List AM):Kk:=match Ix l er with
 | (c,d,a)=>(nd.cn c,d,a,b)
def enR(nd:AM)(l:List Ad)(er:Er)(c:List AM):Kk:=match CG (BS.mk 1 123) l er with
 | (d,er1)=>match Q9 nd.is d er1 with
  | (s,f,a)=>match CG (BS.mk 1 125) f a with
   | (e,b)=>(nd.wi s,e,b,c)
def j6(T:Da)(d:Nat)(nd:AM)(l:List Ad)(er:Er)(b:List AM):Kk:=match CG (BS.mk 1 123) l er with
 | (a,er1)=>D5 T d nd a er1 b
def Ux(T:Da)(d:Nat)(nd:AM)(l:List Ad)(er:Er)(f:List AM):Kk:=match Ew (BS.mk 1 123) l er with
 | (true,e)=>D5 T d (nd.kd 7) e er f
 | (false,e)=>match Ix e er with
  | (c,h,b)=>match CG (BS.mk 2 17999) h b with
   | (g,a)=>match T.go (d+1) g a f with
    | (i,l4,er4,ns4)=>(((nd.kd 10).cn c).lo i,l4,er4,ns4)
def Na(T:Da)(d:Nat)(nd:AM)(t:Ad)(l:List Ad)(er:Er)(a:List AM):Nat->Kk
 | 0=>match decide (t.1=1)with
  | true=>(nd.rf t.2.1,Fh l,er,a)
  | false=>(nd,l,FU er 7 t.2.2,a)
 | 2=>nF (nd.kd 2) l er a
 | 3=>enR (nd.kd 3) l er a
 | 5=>Wp nd l er a
 | 6=>szR (nd.kd 6) l er a
 | 7=>Ux T d nd l er a
 | 8=>j6 T d (nd.kd 8) l er a
 | 9=>j6 T d (nd.kd 9) l er a
 | k=>(nd.kd k,l,er,a)
def XT(T:Da)(d:Nat)(nd:AM)(l:List Ad)(er:Er)(a:List AM):Kk:=match decide (er.1=0)with
 | false=>(nd,l,er,a)
 | true=>match LD WX l with
  | (k,b)=>Na T d nd (BJ l) b er a k
def QP(T:Da)(F:List V->H->AH):Prop:=∀{U:H}{c g ts l}{R:Rp}{a Q nb}{nd:AM}{iv fv d},
 Pn U c g ts l R a (λb=>Q b\/LB nb iv fv b)->(∀b,Q b->b<U.next)->Nq U nb nd iv fv->Aq c g R.dv nb iv fv->nd.items=[]->nd.fields=[]->(T.lo<=d+1/\d<=900) ->
 ∃e h f U',F [.ptr c 0,.ptr nb 0,.int .i64 (AA d)] U=some (.tup [],U')/\L6 U U' c g ts (XT T d nd l R.er a).2.1 R (XT T d nd l R.er a).2.2.1 (XT T d nd l R.er a).2.2.2 Q nb (XT T d nd l R.er a).1 iv fv e h f
section
variable {T:Da}{d:Nat}{nd:AM}{t:Ad}{l:List Ad}{er:Er}{ns:List AM}
theorem kr0:Na T d nd t l er ns 0=(match decide (t.1=1)with | true=>(nd.rf t.2.1,Fh l,er,ns) | false=>(nd,l,FU er 7 t.2.2,ns)):=rfl
theorem kr1:Na T d nd t l er ns 1=(nd.kd 1,l,er,ns):=rfl
theorem kr2:Na T d nd t l er ns 2=nF (nd.kd 2) l er ns:=rfl
theorem kr3:Na T d nd t l er ns 3=enR (nd.kd 3) l er ns:=rfl
theorem kr4:Na T d nd t l er ns 4=(nd.kd 4,l,er,ns):=rfl
theorem kr5:Na T d nd t l er ns 5=Wp nd l er ns:=rfl
theorem kr6:Na T d nd t l er ns 6=szR (nd.kd 6) l er ns:=rfl
theorem kr7:Na T d nd t l er ns 7=Ux T d nd l er ns:=rfl
theorem kr8:Na T d nd t l er ns 8=j6 T d (nd.kd 8) l er ns:=rfl
theorem kr9:Na T d nd t l er ns 9=j6 T d (nd.kd 9) l er ns:=rfl
end
section
variable {E:EB}{D:Am}{N:Nat}
theorem lR{U:H}{nb i}{nd:AM}{iv fv}{t:Ad}(c:CI U)(o:DQ U nb (nd.c iv fv))(r:DQ U i (Bu t))(F:i≠nb) m:
  ∃U' z,AZ E D Tx YQ [(0,.ptr m 0),(1,.ptr nb 0),(6,.ptr i 0)] U=some (z,U')/\Go.Og.look z 0=some (.ptr m 0)/\(∀{d:FV},d.1=fv->Nq U nb nd iv d->Nq U' nb (nd.rf t.2.1) iv d)/\Fr (λk=>k=nb) U U':=by
 have d:=(Cn (E:=E) (n:=10) (S:=Af) c).fr;obtain⟨Q,N,f1,A⟩:=Fj (n:=1) (x := .tmp 144) (y := .con (.int .i64 (AA 11))) (e:=[(144,.ptr nb 0)]) d.tidy (d.at_ o c (λh=>h)) rfl rfl rfl;obtain⟨w,G,K,B⟩:=Fj (n:=1) (x := .tmp 146) (y := .tmp 142) (e:=[(146,.ptr nb 1),(142,.str (BO t.2.1))]) f1.tidy A rfl rfl rfl;have L:ID E D U 10 0 (λk=>k=nb) Tx YQ ⟨[(0,.ptr m 0),(1,.ptr nb 0),(6,.ptr i 0)],U.next+10,[U.bl],[],0,[]⟩ _ w:=
  EI (.ptr nb 0) rfl rfl <|
  EI (.ptr nb 0) rfl rfl <|
  EI (.ptr i 1) rfl rfl <|
  RA (.str (BO t.2.1)) (Cn c) rfl (FG rfl r rfl c F (Bz _ rfl)) λ_ C=>
  EI (.ptr nb 0) rfl rfl <|
  EI (.ptr nb 0) rfl rfl <|
  OZ .dead C rfl (by decide) f1 (λ_ _ h=>h) (λb h J _=>by have:=o.lt c;omega) N λ_ _ _ P=>
  EI (.ptr nb 0) rfl rfl <|
  EI (.ptr nb 1) rfl rfl <|
  OZ .dead P rfl (by decide) K (λ_ _ h=>h) (λb h J _=>by have:=o.lt c;omega) G λ_ _ _ O=>
  Li O
 obtain⟨I,j⟩:=JP (ops:=Tx) L;refine⟨w,_,I,rfl,λ{d} u q=>?_,j⟩;subst u;exact⟨B,q.i.fr j c (λb g e=>q.ni (e ▸ g)),q.f.fr j c (λb g e=>q.nf (e ▸ .inl g)),q.g.fr j c (λv M b g e=>q.nf (e ▸ .inr ⟨v,M,g⟩)),q.ni,q.nf,q.d,q.gd⟩
theorem dK{T:Da}(hP:C0 (D 15))(hX:FL (D 31))(hI:Ft (D 14))(hFl:Fc (D 16))(hM:Di (D 13))(hZ:Vx (D 65))(hB:SB (D 66))(hIt:V2 (D 67))(hF:MO T (D 68))(hT:Fs T (D 17)):QP T (F34 E D (AZ E D) N):=by
 intro U pb lv ts l R ns Q nb nd iv fv d h hQ q ap hi0 hf0 hd;have g0:=hP h.p;unfold Bu at g0;obtain⟨U1,e1,f1,a1,n1⟩:=Ia h.p.ht [.int .i64 (AA 0),.str ⟨0,0⟩,.int .i64 (AA 0)];obtain⟨U2,s2,a2,f2⟩:=Jo (n:=3) (o:=0) (v := .agg (Bu (BJ l))) f1.tidy a1 rfl rfl;unfold Bu at s2;have f02:Fr Af U U2:=f1.trans f2 (λb hb e=>by omega);have h2:=h.fr f02 (λh=>h) (λ_ _ h=>h) (λ_ _ h=>h) (λ_ _ h=>h.elim);have q2:=q.fr f02 h.p.ht (λh=>h) (λ_ _ h=>h) (λ_ _ h=>h);have lpb:=h.p.lt;have lnb:=q.a.lt h.p.ht;have le2:=f02.le;have ltb:U.next<U2.next:=a2.lt f2.tidy;have t2:BG U U2 pb lv ts l R R.er ns Q nb nd iv fv fv R.dv:=⟨h2,q2,ap,λ_ h => .inl h,λ_ h => .inl h,f02.mono λ_ _ h=>h.elim⟩;obtain⟨ax,ax2,_⟩:=h2.p.ex;unfold II at ax2;show ∃iv' fv' dv' U',IU E D (AZ E D) pb 0 nb 0 (AA d) U=_/\_;unfold XT;cases hok:decide (R.er.1=0)with
 | false=>
  refine⟨_,_,_,_,?_,t2.base⟩;unfold IU;simp only[↓rP,rA,AE,AF,AD,↓g0,↓e1,↓s2,↓AT ax2,hok]
 | true=>
  have ir:∀s l,Ew s l R.er=CP s l:=λs l=>by unfold Ew;rw[hok]
  have word:∀{U':H}{l':List Ad} (s:BS),BG U U' pb lv ts l' R R.er ns Q nb nd iv fv fv R.dv->DQ U' U.next (Bu (BJ l))->∃w,D 14 [.ptr pb 0,.str s] U'=some (.bool (CP s l').1,w)/\BG U w pb lv ts (CP s l').2 R R.er ns Q nb nd iv fv fv R.dv/\DQ w U.next (Bu (BJ l)):=by
   intro U' l' s st at_;obtain⟨w,g,p,f⟩:=hI s st.p.p;have g:D 14 [.ptr pb 0,.str s] U'=some (.bool (Ew s l' R.er).1,w):=g;have p:Ps w pb lv ts (Ew s l' R.er).2 ((R.wd R.dv).e R.er):=p;rw[ir]at g p;exact⟨w,g,st.trans (BG.go (er1:=R.er) st.p st.q st.ap p f),f.at_ at_ st.p.p.ht (by omega)⟩
  have isq:∀{U':H}{l':List Ad}{nd1:AM}{er1:Er} (s:BS),BG U U' pb lv ts l' R er1 ns Q nb nd1 iv fv fv R.dv->∃w,D 14 [.ptr pb 0,.str s] U'=some (.bool (Ew s l' er1).1,w)/\BG U w pb lv ts (Ew s l' er1).2 R er1 ns Q nb nd1 iv fv fv R.dv:=by
   intro U' l' nd1 er1 s st;obtain⟨w,g,p,f⟩:=hI s st.p.p;exact⟨w,g,st.trans (BG.go (er1:=er1) st.p st.q st.ap p f)⟩
  have mst:∀{U':H}{l':List Ad}{nd1:AM}{er1:Er} (s:BS),BG U U' pb lv ts l' R er1 ns Q nb nd1 iv fv fv R.dv->∃w,D 13 [.ptr pb 0,.str s] U'=some (.tup [],w)/\BG U w pb lv ts (CG s l' er1).1 R (CG s l' er1).2 ns Q nb nd1 iv fv fv R.dv:=by
   intro U' l' nd1 er1 s st;obtain⟨w,g,p,f⟩:=hM s st.p.p;exact⟨w,g,st.trans (BG.go st.p st.q st.ap p f)⟩
  have kind:∀{U':H}{l':List Ad}{nd1:AM}{er1:Er} (k:Nat),BG U U' pb lv ts l' R er1 ns Q nb nd1 iv fv fv R.dv->∃w,(∀J:H->AH,Cg 1 nb 0 (.int .i64 (AA k)) U' J=J w)/\BG U w pb lv ts l' R er1 ns Q nb (nd1.kd k) iv fv fv R.dv:=by
   intro U' l' nd1 er1 k st;obtain⟨w,g,f,q'⟩:=st.q.set (off:=0) (y := .int .i64 (AA k)) st.p.p.ht (nd1.kd k) ⟨rfl,rfl⟩ (by decide) rfl rfl rfl;exact⟨w,g,st.trans (BG.own st.p st.ap q' f)⟩
  have con:∀{U' w:H}{l' l'':List Ad}{nd1:AM}{er1 er2:Er} (c:FB),BG U U' pb lv ts l' R er1 ns Q nb nd1 iv fv fv R.dv->Ps w pb lv ts l'' (((R.wd R.dv).e er1).e er2)->Fr (λk=>k=pb) U' w->∃U3,(∀J:H->AH,Cg 6 nb 5 (.agg c.v) w J=J U3)/\BG U U3 pb lv ts l'' R er2 ns Q nb (nd1.cn c) iv fv fv R.dv:=by
   intro U' w l' l'' nd1 er1 er2 c st p f;have st2:=st.trans (BG.go st.p st.q st.ap p f);obtain⟨U3,g3,a3,f3⟩:=Jo (n:=6) (o:=5) (v := .agg c.v) (l':=(nd1.cn c).c iv fv.1) p.ht st2.q.a rfl rfl;have st2p:Pn w pb lv ts l'' (R.e er2) ns (λb=>Q b\/LB nb iv fv b):=st2.p;have p3:Ps U3 pb lv ts l'' ((R.e er2).e er2):=p.fr f3 (λe=>ap.a.x e.symm) (λb hb e=>ap.a.l (e ▸ hb));exact⟨U3,g3,st2.trans (BG.cel st2p st2.q st2.ap p3 a3 rfl rfl (f3.mono λ_ _ e => .inr e))⟩
  have siz:∀{U':H}{l':List Ad}{nd1:AM}{er1:Er},BG U U' pb lv ts l' R er1 ns Q nb nd1 iv fv fv R.dv->∃w U3,D 65 [.ptr pb 0] U'=some (.agg (Ix l' er1).1.v,w)/\(∀J:H->AH,Cg 6 nb 5 (.agg (Ix l' er1).1.v) w J=J U3)/\BG U U3 pb lv ts (Ix l' er1).2.1 R (Ix l' er1).2.2 ns Q nb (nd1.cn (Ix l' er1).1) iv fv fv R.dv:=by
   intro U' l' nd1 er1 st;obtain⟨w,g,p,f⟩:=hZ st.p.p;obtain⟨U3,g3,t3⟩:=con (Ix l' er1).1 st p f;exact⟨w,U3,g,g3,t3⟩
  have Ip:∀{U':H}{l':List Ad}{nd1:AM}{er1:Er},BG U U' pb lv ts l' R er1 ns Q nb nd1 iv fv fv R.dv->∃w U3,D 66 [.ptr pb 0] U'=some (.agg (Jb l' er1).1.v,w)/\(∀J:H->AH,Cg 6 nb 5 (.agg (Jb l' er1).1.v) w J=J U3)/\BG U U3 pb lv ts (Jb l' er1).2.1 R (Jb l' er1).2.2 ns Q nb (nd1.cn (Jb l' er1).1) iv fv fv R.dv:=by
   intro U' l' nd1 er1 st;obtain⟨w,g,p,f⟩:=hB st.p.p;obtain⟨U3,g3,t3⟩:=con (Jb l' er1).1 st p f;exact⟨w,U3,g,g3,t3⟩
  have fds:∀{U':H}{l':List Ad}{nd1:AM}{er1:Er},BG U U' pb lv ts l' R er1 ns Q nb nd1 iv fv fv R.dv->nd1.fields=[]->∃dv9 fv9 w,D 68 [.ptr pb 0,.ptr nb 0,.int .i64 (AA d)] U'=some (.tup [],w)/\BG U w pb lv ts (D5 T d nd1 l' er1 ns).2.1 R (D5 T d nd1 l' er1 ns).2.2.1 (D5 T d nd1 l' er1 ns).2.2.2 Q nb (D5 T d nd1 l' er1 ns).1 iv fv fv9 dv9:=by
   intro U' l' nd1 er1 st h0;have le:=st.f.le;obtain⟨dv9,fv9,w,g,s⟩:=hF st.p (λb hb=>Cj (hQ b hb) le) st.q st.ap h0 hd;exact⟨dv9,fv9,w,g,st.trans s⟩
  have mstB:∀{U':H}{l':List Ad}{nd1:AM}{er1:Er}{ns1:List AM}{iv1:V}{fv1:FV}{dv1:V} (s:BS),L6 U U' pb lv ts l' R er1 ns1 Q nb nd1 iv fv iv1 fv1 dv1->∃w,D 13 [.ptr pb 0,.str s] U'=some (.tup [],w)/\L6 U w pb lv ts (CG s l' er1).1 R (CG s l' er1).2 ns1 Q nb nd1 iv fv iv1 fv1 dv1:=by
   intro U' l' nd1 er1 ns1 iv1 fv1 dv1 s st;obtain⟨w,g,p,f⟩:=hM s st.p.p;have k:=BG.go st.p st.q st.ap p f;have le:=st.f.le;exact⟨w,g,⟨k.p,k.q,k.ap,st.mi,st.mf,st.md,st.f.trans f (λ_ _ e => .inl (.inl e))⟩⟩
  simp only[]at ⊢;obtain⟨UA,gA,tA,aA⟩:=word (BS.mk 7 22026814072246082) t2 a2;rw[kV];generalize CP (BS.mk 7 22026814072246082) l=iA at gA tA ⊢;obtain⟨bA,lA⟩:=iA;cases bA with
  | true=>
   simp only[]at gA tA ⊢;rw[kr1];obtain⟨Uk,gk,tk⟩:=kind 1 tA;refine⟨_,_,_,_,?_,tk.base⟩;unfold IU;simp only[↓rP,rA,AE,AF,AD,↓g0,↓e1,↓s2,↓AT ax2,hok,↓gA,↓gk]
  | false=>
  simp only[]at gA tA ⊢;obtain⟨UB,gB,tB,aB⟩:=word (BS.mk 4 1280070990) tA aA;rw[kU];generalize CP (BS.mk 4 1280070990) lA=iB at gB tB ⊢;obtain⟨bB,lB⟩:=iB;cases bB with
  | true=>
   simp only[]at gB tB ⊢;rw[kr4];obtain⟨Uk,gk,tk⟩:=kind 4 tB;refine⟨_,_,_,_,?_,tk.base⟩;unfold IU;simp only[↓rP,rA,AE,AF,AD,↓g0,↓e1,↓s2,↓AT ax2,hok,↓gA,↓gB,↓gk]
  | false=>
  simp only[]at gB tB ⊢;obtain⟨UC,gC,tC,aC⟩:=word (BS.mk 10 488440487847103610377301) tB aB;rw[kT];generalize CP (BS.mk 10 488440487847103610377301) lB=iC at gC tC ⊢;obtain⟨bC,lC⟩:=iC;cases bC with
  | true=>
   simp only[]at gC tC ⊢;rw[kr6];obtain⟨Uk,gk,tk⟩:=kind 6 tC;obtain⟨Uz,Uc,gz,gc,tc⟩:=siz tk;unfold szR;generalize Ix lC R.er=iz at gz gc tc ⊢;obtain⟨c,lz,erz⟩:=iz;simp only[]at gz gc tc ⊢;unfold FB.v at gz gc;refine⟨_,_,_,_,?_,tc.base⟩;unfold IU;simp only[↓rP,rA,AE,AF,AD,↓g0,↓e1,↓s2,↓AT ax2,hok,↓gA,↓gB,↓gC,↓gk,↓gz,↓gc]
  | false=>
  simp only[]at gC tC ⊢;obtain⟨UD,gD,tD,aD⟩:=word (BS.mk 7 23157120498421321) tC aC;rw[kS];generalize CP (BS.mk 7 23157120498421321) lC=iD at gD tD ⊢;obtain⟨bD,lD⟩:=iD;cases bD with
  | true=>
   simp only[]at gD tD ⊢;rw[kr2];obtain⟨Uk,gk,tk⟩:=kind 2 tD;obtain⟨Uy,gy,ty⟩:=isq (BS.mk 1 40) tk;unfold nF;generalize Ew (BS.mk 1 40) lD R.er=iy at gy ty ⊢;obtain⟨by_,ly⟩:=iy;cases by_ with
   | false=>
    simp only[]at gy ty ⊢;refine⟨_,_,_,_,?_,ty.base⟩;unfold IU;simp only[↓rP,rA,AE,AF,AD,↓g0,↓e1,↓s2,↓AT ax2,hok,↓gA,↓gB,↓gC,↓gD,↓gk,↓gy]
   | true=>
    simp only[]at gy ty ⊢;obtain⟨Uz,Uc,gz,gc,tc⟩:=Ip ty;generalize Jb ly R.er=iz at gz gc tc ⊢;obtain⟨c,lz,erz⟩:=iz;simp only[]at gz gc tc ⊢;obtain⟨Um,gm,tm⟩:=mst (BS.mk 1 41) tc;generalize CG (BS.mk 1 41) lz erz=im at tm ⊢;obtain⟨lm,erm⟩:=im;simp only[]at tm ⊢;unfold FB.v at gz gc;refine⟨_,_,_,_,?_,tm.base⟩;unfold IU;simp only[↓rP,rA,AE,AF,AD,↓g0,↓e1,↓s2,↓AT ax2,hok,↓gA,↓gB,↓gC,↓gD,↓gk,↓gy,↓gz,↓gc,↓gm]
  | false=>
  simp only[]at gD tD ⊢;obtain⟨UE,gE,tE,aE⟩:=word (BS.mk 5 361940403023) tD aD;rw[kR];generalize CP (BS.mk 5 361940403023) lD=iE at gE tE ⊢;obtain⟨bE,lE⟩:=iE;cases bE with
  | true=>
   simp only[]at gE tE ⊢;rw[kr5];obtain⟨Um,gm,tm⟩:=mst (BS.mk 6 78401563153491) tE;unfold Wp;generalize CG (BS.mk 6 78401563153491) lE R.er=im at tm ⊢;obtain⟨lm,erm⟩:=im;simp only[]at tm ⊢;obtain⟨Uk,gk,tk⟩:=kind 5 tm;obtain⟨Uz,Uc,gz,gc,tc⟩:=siz tk;generalize Ix lm erm=iz at gz gc tc ⊢;obtain⟨c,lz,erz⟩:=iz;simp only[]at gz gc tc ⊢;unfold FB.v at gz gc;refine⟨_,_,_,_,?_,tc.base⟩;unfold IU;simp only[↓rP,rA,AE,AF,AD,↓g0,↓e1,↓s2,↓AT ax2,hok,↓gA,↓gB,↓gC,↓gD,↓gE,↓gm,↓gk,↓gz,↓gc]
  | false=>
  simp only[]at gE tE ⊢;obtain⟨UF,gF,tF,aF⟩:=word (BS.mk 10 322399817400452109389381) tE aE;rw[kQ];generalize CP (BS.mk 10 322399817400452109389381) lE=iF at gF tF ⊢;obtain⟨bF,lF⟩:=iF;cases bF with
  | true=>
   simp only[]at gF tF ⊢;rw[kr3];obtain⟨Uk,gk,tk⟩:=kind 3 tF;obtain⟨Um,gm,tm⟩:=mst (BS.mk 1 123) tk;unfold enR;generalize CG (BS.mk 1 123) lF R.er=im at tm ⊢;obtain⟨lm,erm⟩:=im;simp only[]at tm ⊢;have tmp:Pn Um pb lv ts lm (R.e erm) ns (λb=>Q b\/LB nb iv fv b):=tm.p;obtain⟨iv',Uz,gz,sz⟩:=hIt tmp.p tm.q tm.ap.a hi0;rw[show (R.e erm).er=erm from rfl]at sz;have bz:=tm.tb (c7 tmp tm.ap sz);generalize Q9 (nd.kd 3).is lm erm=iz at bz ⊢;obtain⟨s,lz,erz⟩:=iz;simp only[]at bz ⊢;obtain⟨Uy,gy,ty⟩:=mstB (BS.mk 1 125) bz;generalize CG (BS.mk 1 125) lz erz=iy at ty ⊢;obtain⟨ly,ery⟩:=iy;simp only[]at ty ⊢;refine⟨_,_,_,_,?_,ty⟩;unfold IU;simp only[↓rP,rA,AE,AF,AD,↓g0,↓e1,↓s2,↓AT ax2,hok,↓gA,↓gB,↓gC,↓gD,↓gE,↓gF,↓gk,↓gm,↓gz,↓gy]
  | false=>
  simp only[]at gF tF ⊢;obtain⟨UG,gG,tG,aG⟩:=word (BS.mk 3 5522771) tF aF;rw[kP];generalize CP (BS.mk 3 5522771) lF=iG at gG tG ⊢;obtain⟨bG,lG⟩:=iG;cases bG with
  | true=>
   simp only[]at gG tG ⊢;rw[kr8];obtain⟨Uk,gk,tk⟩:=kind 8 tG;obtain⟨Um,gm,tm⟩:=mst (BS.mk 1 123) tk;unfold j6;generalize CG (BS.mk 1 123) lG R.er=im at tm ⊢;obtain⟨lm,erm⟩:=im;simp only[]at tm ⊢;obtain⟨dv9,fv9,Uz,gz,sz⟩:=fds tm hf0;refine⟨_,_,_,_,?_,sz.base⟩;unfold IU;simp only[↓rP,rA,AE,AF,AD,↓g0,↓e1,↓s2,↓AT ax2,hok,↓gA,↓gB,↓gC,↓gD,↓gE,↓gF,↓gG,↓gk,↓gm,↓gz]
  | false=>
  simp only[]at gG tG ⊢;obtain⟨UH,gH,tH,aH⟩:=word (BS.mk 6 76155295057987) tG aG;rw[kO];generalize CP (BS.mk 6 76155295057987) lG=iH at gH tH ⊢;obtain⟨bH,lH⟩:=iH;cases bH with
  | true=>
   simp only[]at gH tH ⊢;rw[kr9];obtain⟨Uk,gk,tk⟩:=kind 9 tH;obtain⟨Um,gm,tm⟩:=mst (BS.mk 1 123) tk;unfold j6;generalize CG (BS.mk 1 123) lH R.er=im at tm ⊢;obtain⟨lm,erm⟩:=im;simp only[]at tm ⊢;obtain⟨dv9,fv9,Uz,gz,sz⟩:=fds tm hf0;refine⟨_,_,_,_,?_,sz.base⟩;unfold IU;simp only[↓rP,rA,AE,AF,AD,↓g0,↓e1,↓s2,↓AT ax2,hok,↓gA,↓gB,↓gC,↓gD,↓gE,↓gF,↓gG,↓gH,↓gk,↓gm,↓gz]
  | false=>
  simp only[]at gH tH ⊢;obtain⟨UI,gI,tI,aI⟩:=word (BS.mk 8 4990918871747741011) tH aH;rw[kN];generalize CP (BS.mk 8 4990918871747741011) lH=iI at gI tI ⊢;obtain⟨bI,lI⟩:=iI;cases bI with
  | true=>
   simp only[]at gI tI ⊢;rw[kr7];obtain⟨Uy,gy,ty⟩:=isq (BS.mk 1 123) tI;unfold Ux;generalize Ew (BS.mk 1 123) lI R.er=iy at gy ty ⊢;obtain⟨by_,ly⟩:=iy;cases by_ with
   | true=>
    simp only[]at gy ty ⊢;obtain⟨Uk,gk,tk⟩:=kind 7 ty;obtain⟨dv9,fv9,Uz,gz,sz⟩:=fds tk hf0;refine⟨_,_,_,_,?_,sz.base⟩;unfold IU;simp only[↓rP,rA,AE,AF,AD,↓g0,↓e1,↓s2,↓AT ax2,hok,↓gA,↓gB,↓gC,↓gD,↓gE,↓gF,↓gG,↓gH,↓gI,↓gy,↓gk,↓gz]
   | false=>
    simp only[]at gy ty ⊢;obtain⟨Uk,gk,tk⟩:=kind 10 ty;obtain⟨Uz,Uc,gz,gc,tc⟩:=siz tk;generalize Ix ly R.er=iz at gz gc tc ⊢;obtain⟨c,lz,erz⟩:=iz;simp only[]at gz gc tc ⊢;obtain⟨Um,gm,tm⟩:=mst (BS.mk 2 17999) tc;generalize CG (BS.mk 2 17999) lz erz=im at tm ⊢;obtain⟨lm,erm⟩:=im;simp only[]at tm ⊢;have tmp:Pn Um pb lv ts lm (R.e erm) ns (λb=>Q b\/LB nb iv fv b):=tm.p;have tma:Aq pb lv R.dv nb iv fv:=tm.ap;have ad:BP .i64 (AA d) (AA 1)=AA (d+1):=BB (by omega);have lem:=tm.f.le;obtain⟨dv6,U6,g6,h6,f6,m6⟩:=hT (d:=d+1) tmp (yT tm.q tmp.p.ht λb hb=>by have:=hQ b hb;omega) (by omega);rw[show (R.e erm).er=erm from rfl]at g6 h6;have f6:Fr (PB pb R.dv) Um U6:=f6;have m6:∀b,AS dv6 b->AS R.dv b\/Um.next<=b:=m6;have q6:=tm.q.frq f6 tmp.p.ht tma;have ap6:Aq pb lv dv6 nb iv fv:=tma.ndv tm.q tmp.p.ht m6;obtain⟨i6,hi6⟩:∃r,T.go (d+1) lm erm ns=r:=⟨_,rfl⟩;rw[hi6]at g6 h6 ⊢;clear hi6;obtain⟨i,l6,er6',ns6⟩:=i6;simp only[]at g6 h6 ⊢;have h6:Pn U6 pb lv ts l6 ((R.wd dv6).e er6') ns6 (λb=>Q b\/LB nb iv fv b):=h6;obtain⟨U7,g7,f7,q7⟩:=q6.set (off:=15) (y := .int .i64 (AA i)) h6.p.ht (((nd.kd 10).cn c).lo i) ⟨rfl,rfl⟩ (by decide) rfl rfl rfl;have s6:BG Um U6 pb lv ts l6 (R.e erm) er6' ns6 Q nb ((nd.kd 10).cn c) iv fv fv dv6:=⟨h6,q6,ap6,λ_ h => .inl h,m6,f6.mono λ_ _ e => .inl e⟩;have s6':=tm.trans s6;have s7:=s6'.trans (BG.own s6'.p s6'.ap q7 f7);unfold FB.v at gz gc;refine⟨_,_,_,_,?_,s7.base⟩;unfold IU;simp only[↓rP,rA,AE,AF,AD,↓g0,↓e1,↓s2,↓AT ax2,hok,↓gA,↓gB,↓gC,↓gD,↓gE,↓gF,↓gG,↓gH,↓gI,↓gy,↓gk,↓gz,↓gc,↓gm,ad,↓g6,↓g7]
  | false=>
  simp only[]at gI tI ⊢;rw[show LD [] lI=(0,lI)from rfl];simp only[]at ⊢;rw[kr0];cases hk:decide ((BJ l).1=1)with
  | true=>
   obtain⟨U8,e',g8,m0,a8,f8⟩:=lR (E:=E) (D:=D) (nd:=nd) tI.p.p.ht tI.q.a aI (by omega) pb;have t8:=tI.trans (BG.own tI.p tI.ap (a8 rfl tI.q) f8);obtain⟨U9,g9,p9,f9⟩:=hX t8.p.p;have t9:=t8.trans (BG.go (er1:=R.er) t8.p t8.q t8.ap p9 f9);have gd:∀J:Cb->H->AH,DZ (AZ E D Tx YQ [(0,.ptr pb 0),(1,.ptr nb 0),(6,.ptr U.next 0)] UI) J=J e' U8:=λJ=>by rw[g8];rfl
   have m0':∀J:V->AH,EO e' 0 J=J (.ptr pb 0):=λJ=>D4 m0 rfl;unfold Bu at g9 aI;refine⟨_,_,_,_,?_,t9.base⟩;unfold IU;simp only[↓rP,rA,AE,AF,AD,↓g0,↓e1,↓s2,↓AT ax2,hok,↓gA,↓gB,↓gC,↓gD,↓gE,↓gF,↓gG,↓gH,↓gI,↓AT aI,hk,↓gd,↓m0',↓g9]
  | false=>
   obtain⟨Uz,gz,pz,fz⟩:=hFl 7 (BJ l) tI.p.p;rw[show ((R.wd R.dv).e R.er).er=R.er from rfl]at pz;have tz:=tI.trans (BG.go tI.p tI.q tI.ap pz fz);have l3:∀J:List V->AH,Dt E UI U.next 0 3 J=J (Bu (BJ l)):=λJ=>(Ev aI).trans rfl;unfold Bu at gz l3 aI;refine⟨_,_,_,_,?_,tz.base⟩;unfold IU;simp only[↓rP,rA,AE,AF,AD,↓g0,↓e1,↓s2,↓AT ax2,hok,↓gA,↓gB,↓gC,↓gD,↓gE,↓gF,↓gG,↓gH,↓gI,↓AT aI,hk,↓l3,↓gz]
end
def VA(er:Er)(v:Int)(a:Nat):Er:=match decide (er.1=0)&&(Cw v (AA 0) || Cw (AA 268435456) v)with
 | true=>FU er 12 a
 | false=>er
def OV(l:List Ad)(er:Er):(Bool × Int × Nat) × List Ad × Er:=match Ew (BS.mk 1 91) l er with
 | (false,a)=>((false,0,0),a,er)
 | (true,a)=>match J1 a er with
  | (v,e,b)=>match CG (BS.mk 1 93) e (VA b v (BJ a).2.2)with
   | (l4,er4)=>match Ew (BS.mk 8 6073459554577832005) l4 er4 with
    | (true,d)=>((true,v,1),d,er4)
    | (false,d)=>match Ew (BS.mk 8 6073459554577829193) d er4 with
     | (true,c)=>((true,v,2),c,er4)
     | (false,c)=>((true,v,0),c,er4)
def JL(T:Da)(d:Nat)(l:List Ad)(er:Er)(b:List AM):Nat × List Ad × Er × List AM:=match decide (er.1=0)with
 | false=>(0,l,er,b)
 | true=>match oQ (BJ l)with
  | false=>(0,l,FU er 7 (BJ l).2.2,b)
  | true=>match decide (16<d) || decide (300<=b.length)with
   | true=>(0,l,FU er 5 (BJ l).2.2,b)
   | false=>match OV l er with
    | (m,f,er1)=>match XT T d (CA m) f er1 (b++[Iz])with
     | (nd,e,a,c)=>match decide (a.1=0)with
      | false=>(0,e,a,c)
      | true=>(b.length,e,a,c.set b.length nd)
def O3(T:Da):Da:=⟨T.lo-1,JL T⟩
def Jn:Nat->Da
 | 0=>⟨18,λ_ l er a=>match decide (er.1=0)with | true=>(0,l,FU er 7 (BJ l).2.2,a) | false=>(0,l,er,a)⟩
 | q+1=>O3 (Jn q)
theorem AAq{T:Da}(h:Py T):∀d l er a,(T.go d l er a).2.1.length<=l.length:=h.le
theorem xu{T:Da}(h:Py T):∀d l er a,a.length<=(T.go d l er a).2.2.2.length:=h.n
section
variable {T:Da} (hT:Py T)
include hT
theorem TJ(d g nd l er a):FM l (E4 T d g nd l er a).2.1 a (E4 T d g nd l er a).2.2.2:=by
 have:=(XD hT d g nd l er a).1;grind [E4,xu,En]
theorem wQ(d g n):∀nd l er c,FM l (RS T d g n nd l er c).2.1 c (RS T d g n nd l er c).2.2.2:=by
 induction n with grind [RS,clB,TJ,En,Dl,DJ]
theorem ABe(d g nd l er c):FM l (brR T d g nd l er c).2.1 c (brR T d g nd l er c).2.2.2:=by unfold brR;exact wQ hT ..
theorem uv(d g nd l er b):FM l (Ku T d g nd l er b).2.2.1 b (Ku T d g nd l er b).2.2.2.2:=by
 grind [Ku,ABe,TJ,En,Dl]
theorem wF(d n):∀g nd l er c,FM l (J5 T d n g nd l er c).2.1 c (J5 T d n g nd l er c).2.2.2:=by
 induction n with grind [J5,Yp,uv,En,Dl,DJ]
theorem ABR(d nd l er c):FM l (wG T d nd l er c).2.1 c (wG T d nd l er c).2.2.2:=by unfold wG;exact wF hT ..
theorem RF(d nd l er b):FM l (D5 T d nd l er b).2.1 b (D5 T d nd l er b).2.2.2:=by
 grind [D5,ABR,En,Dl]
theorem nP(d nd l er b):FM l (j6 T d nd l er b).2.1 b (j6 T d nd l er b).2.2.2:=by
 grind [j6,RF,En,DJ]
omit hT in
theorem dJ(l:List Ad)(er:Er):(Jb l er).2.1.length<=l.length:=by
 have h1:∀l er,(LY l er).2.1.length<=l.length:=by grind [LY,Dl,P5]
 have h2:∀c l er,(HW c l er).2.1.length<=l.length:=by grind [HW,Dl,P5]
 have h3:∀c l er,(Kp c l er).2.1.length<=l.length:=by grind [Kp,Dl,DJ]
 grind [Jb]
omit hT in
theorem Uv(l:List Ad)(er:Er):(Ix l er).2.1.length<=l.length:=by
 grind [Ix,Dl,DJ,dJ]
omit hT in
theorem v7(n):∀s l er,(MW n s l er).2.1.length<=l.length:=by
 have h:∀s l er,(OR s l er).2.1.length<=l.length:=by grind [OR,Dl,cy]
 induction n with grind [MW,Dl]
theorem vB(d nd l er b):FM l (Ux T d nd l er b).2.1 b (Ux T d nd l er b).2.2.2:=by
 grind [Ux,RF,Uv,DJ,Dl,AAq,xu,En]
theorem oI(d nd l er i):FM l (XT T d nd l er i).2.1 i (XT T d nd l er i).2.2.2:=by
 unfold XT;cases decide (er.1=0)with
 | false=>exact FM.refl _ _ | true=>
  have t:=kW WX l;simp only[]at ⊢;generalize LD WX l=z at t ⊢;obtain⟨k,j⟩:=z;refine(FM.of t).trans ?_;simp only[]at ⊢;match k with
  | 0=>rw[kr0];grind [JW,En] | 2=>rw[kr2];grind [nF,Dl,dJ,DJ,En] | 3=>
   rw[kr3];unfold enR Q9;have o:=DJ (BS.mk 1 123) j er;generalize CG (BS.mk 1 123) j er=y at o ⊢;obtain⟨w,m⟩:=y;have v:=v7 fu (nd.kd 3).is w m;simp only[]at o ⊢;generalize MW fu (nd.kd 3).is w m=A at v ⊢;obtain⟨s,x,r⟩:=A;exact FM.of (AU (DJ (BS.mk 1 125) x r) (AU v o))
  | 5=>rw[kr5];grind [Wp,Uv,DJ,En] | 6=>exact FM.of (Uv j er) | 7=>exact vB hT d nd j er i | 8=>exact nP hT d (nd.kd 8) j er i | 9=>exact nP hT d (nd.kd 9) j er i | 1 | 4 | k+10=>exact FM.refl _ _
omit hT in
theorem vh(l:List Ad)(er:Er):(OV l er).2.1.length<=l.length:=by
 grind [OV,Dl,P5,DJ]
theorem kf:Py (O3 T):=by
 have b:∀d l er a,FM l (JL T d l er a).2.1 a (JL T d l er a).2.2.2:=by
  grind [JL,oI,vh,En]
 refine⟨λd l er a=>(b d l er a).l,λd l er a=>(b d l er a).n,λd l er a h=>?_⟩;show JL T d l er a=_;unfold JL;rw[decide_eq_false h]
end
theorem GM:∀q,Py (Jn q)
 | 0=>by constructor<;>intro d l er g<;>simp only[Jn,Da.go]<;>grind
 | q+1=>kf (GM q)
section
variable {E:EB}{D:Am}{W:AJ}{N:Nat}
def ZC(E:EB)(D:Am)(W:AJ)(d nb:Nat)(i:Nat->Nat->Int->Int->Nat->Nat->H->AH)(c n:Int)(U:H):AH:=
 BT (D 14 [.ptr d 0,.str (BS.mk 1 91)] U) λv f=>CN v λr=>AG r (
 BT (D 15 [.ptr d 0] f) λl F=>Cl l λp=>F0 .i64 p λz t=>NA t λy s=>F0 .i64 s λj w=>BD w (
 BT (D 33 [.ptr d 0] F) λx a=>BZ .i64 x λb=>Ee E a d 7 λC=>BZ .i64 C λB=>
 Ab (λq h=>AG q (
  BT (D 16 [.ptr d 0,.int .i64 (AA 12),.agg [.int .i64 z,.str y,.int .i64 j]] h) λu o=>HV u λA=>BD A (N6 E D W i d 0 c n nb 0 b o)) (N6 E D W i d 0 c n nb 0 b h)) λe=>
 AG (Cc B (AA 0)) (Ab (λm k=>e m k) λg=>AG (Cw b (AA 0)) (g true a) (g (Cw (AA 268435456) b) a)) (e false a))) (i d 0 c n nb 0 f)
theorem ABD(hP:C0 (D 15))(hFl:Fc (D 16))(hI:Ft (D 14))(hN:JA (D 33))(hM:Di (D 13)){U}{p:Nat}{s:V}{ts l:List Ad}{R:Rp}{x:List AM}{Q:Nat->Prop}{nb:Nat}{iv:V}{fv:FV}(c n:Int)
  (h:Pn U p s ts l R x (λb=>Q b\/LB nb iv fv b)) (q:Nq U nb Iz iv fv) (ap:Aq p s R.dv nb iv fv) :
  ∃U',(∀u,ZC E D W p nb u c n U=u p 0 c n nb 0 U')/\BG U U' p s ts (OV l R.er).2.1 R (OV l R.er).2.2 x Q nb (CA (OV l R.er).1) iv fv fv R.dv:=by
 obtain⟨U1,g1,p1,f1⟩:=hI (BS.mk 1 91) h.p;have B:=BG.go h q ap p1 f1;unfold OV;generalize Ew (BS.mk 1 91) l R.er=i1 at g1 p1 B ⊢;obtain⟨b1,l1⟩:=i1;simp only[]at g1 p1 B;cases b1 with
 | false=>
  refine⟨U1,λu=>?_,B⟩;unfold ZC
  simp only[↓rP,rS,↓g1]
 | true=>
  have g2:=hP p1
  unfold Bu at g2
  obtain⟨U3,g3,p3,f3⟩:=hN p1
  have C:=B.trans (BG.go B.p B.q B.ap p3 f3)
  simp only[]at ⊢
  generalize J1 l1 R.er=i3 at g3 p3 C ⊢
  obtain⟨v,l3,r⟩:=i3
  simp only[]at g3 p3 C ⊢
  obtain⟨a3,t,_⟩:=p3.ex
  unfold II at t
  have t:∀J:V->AH,Ee E U3 p 7 J=J (.int .i64 (AA r.1)):=λJ=>(AT t).trans rfl
  have s3p:Pn U3 p s ts l3 (R.e r) x (λb=>Q b\/LB nb iv fv b):=C.p
  have s3a:Aq p s R.dv nb iv fv:=C.ap
  obtain⟨er4,U4,he4,k4,M⟩:∃er4 U4,VA r v (BJ l1).2.2=er4 /\
    (∀u,ZC E D W p nb u c n U=N6 E D W u p 0 c n nb 0 v U4)/\BG U U4 p s ts l3 R er4 x Q nb Iz iv fv fv R.dv:=by
   unfold VA
   cases hr:decide (r.1=0)&&(Cw v (AA 0) || Cw (AA 268435456) v)with
   | false=>
    refine⟨r,U3,rfl,λu=>?_,C⟩
    unfold ZC
    cases h0:decide (r.1=0)<;>cases h1:Cw v (AA 0)<;>cases h2:Cw (AA 268435456) v<;>rw[h0,h1,h2]at hr <;>
     first
     | (exact absurd hr (by decide))
     | simp only[↓rP,rS,QG,↓g1,↓g2,↓g3,↓t,h0,h1,h2]
   | true=>
    obtain⟨U4,g4,p4,f4⟩:=hFl 12 (BJ l1) s3p.p
    unfold Bu at g4
    have M:=C.trans (BG.go s3p C.q s3a p4 f4)
    refine⟨_,U4,rfl,λu=>?_,M⟩
    unfold ZC
    cases h0:decide (r.1=0)<;>cases h1:Cw v (AA 0)<;>cases h2:Cw (AA 268435456) v<;>rw[h0,h1,h2]at hr <;>
     first
     | (exact absurd hr (by decide))
     | simp only[↓rP,rS,QG,↓g1,↓g2,↓g3,↓t,h0,h1,h2,↓g4]
  rw[he4]
  simp only[k4]
  have s4p:Pn U4 p s ts l3 (R.e er4) x (λb=>Q b\/LB nb iv fv b):=M.p
  obtain⟨U5,g5,L,f5⟩:=hM (BS.mk 1 93) s4p.p
  have z:=M.trans (BG.go s4p M.q M.ap L f5)
  rw[show (R.e er4).er=er4 from rfl]at L z
  generalize CG (BS.mk 1 93) l3 er4=i5 at L z ⊢
  obtain⟨l5,m⟩:=i5
  simp only[]at L z ⊢
  obtain⟨U6,g6,a6,f6⟩:=Jo (n:=3) (o:=2) (v := .agg [.bool true,.int .i64 v,.int .i64 (AA 0)]) (l':=(CA (true,v,0)).c iv fv.1) L.ht z.q.a rfl rfl
  have s5p:Pn U5 p s ts l5 (R.e m) x (λb=>Q b\/LB nb iv fv b):=z.p
  have s5a:Aq p s R.dv nb iv fv:=z.ap
  have p6:Ps U6 p s ts l5 ((R.e m).e m):=L.fr f6 (λe=>ap.a.x e.symm) (λb hb e=>ap.a.l (e ▸ hb))
  have s6:=z.trans (BG.cel s5p z.q s5a p6 a6 rfl rfl (f6.mono λ_ _ e => .inr e))
  have s6p:Pn U6 p s ts l5 (R.e m) x (λb=>Q b\/LB nb iv fv b):=s6.p
  obtain⟨U7,g7,p7,f7⟩:=hI (BS.mk 8 6073459554577832005) s6p.p
  have w:=s6.trans (BG.go (er1:=m) s6p s6.q s6.ap p7 f7)
  rw[show (R.e m).er=m from rfl]at g7 p7 w
  generalize Ew (BS.mk 8 6073459554577832005) l5 m=i7 at g7 p7 w ⊢
  obtain⟨b7,l7⟩:=i7
  simp only[]at g7 p7 w
  have K:Pn U7 p s ts l7 (R.e m) x (λb=>Q b\/LB nb iv fv b):=w.p
  cases b7 with
  | true=>
   obtain⟨U8,F,f8,q8⟩:=w.q.set (off:=4) (y := .int .i64 (AA 1)) p7.ht (CA (true,v,1)) ⟨rfl,rfl⟩ (by decide) rfl rfl rfl
   refine⟨U8,λu=>?_,w.trans (BG.own K w.ap q8 f8)⟩
   unfold N6
   simp only[↓rP,rS,↓g5,↓g6,↓g7,↓F]
  | false=>
   obtain⟨U8,F,p8,f8⟩:=hI (BS.mk 8 6073459554577829193) K.p
   have A:=w.trans (BG.go (er1:=m) K w.q w.ap p8 f8)
   rw[show (R.e m).er=m from rfl]at F p8 A
   simp only[]at ⊢
   generalize Ew (BS.mk 8 6073459554577829193) l7 m=i8 at F p8 A ⊢
   obtain⟨b8,l8⟩:=i8
   simp only[]at F p8 A
   have s8p:Pn U8 p s ts l8 (R.e m) x (λb=>Q b\/LB nb iv fv b):=A.p
   cases b8 with
   | true=>
    obtain⟨U9,g9,f9,q9⟩:=A.q.set (off:=4) (y := .int .i64 (AA 2)) p8.ht (CA (true,v,2)) ⟨rfl,rfl⟩ (by decide) rfl rfl rfl
    refine⟨U9,λu=>?_,A.trans (BG.own s8p A.ap q9 f9)⟩
    unfold N6
    simp only[↓rP,rS,↓g5,↓g6,↓g7,↓F,↓g9]
   | false=>
    refine⟨U8,λu=>?_,A⟩
    unfold N6
    simp only[↓rP,rS,↓g5,↓g6,↓g7,↓F]
theorem Uh{T:Da}(hG:Py T)(hP:C0 (D 15))(hBe:V3 (D 32))(hFl:Fc (D 16))(hI:Ft (D 14))(hN:JA (D 33))(hM:Di (D 13))(hB:T.lo<=17->QP T (D 34)):Fs (O3 T) (F17 E D W N):=by
 intro U y lv ts l R B Q d h hQ hd;obtain⟨a,ha,_⟩:=h.p.ex;unfold II at ha;have hd1:T.lo-1<=d:=hd.1;have g1:=hP h.p;unfold Bu at g1;show ∃w U',PJ E D W (TY E D W) (N6 E D W (TY E D W)) y 0 (AA d) U=some (V.int .i64 (AA (JL T d l R.er B).1),U')/\Pn U' y lv ts (JL T d l R.er B).2.1 ((R.wd w).e (JL T d l R.er B).2.2.1) (JL T d l R.er B).2.2.2 Q/\_;unfold JL;cases hok:decide (R.er.1=0)with
 | false=>
  refine⟨R.dv,U,?_,h,Fr.refl h.p.ht,λ_ h => .inl h⟩;unfold PJ;simp only[↓rP,rA,AE,AF,AD,↓AT ha,hok]
 | true=>
  obtain⟨U1,g2,f2⟩:=hBe U (BJ l) h.p.ht;unfold Bu at g2;have h1:=h.fr f2 (λh=>h) (λ_ _ h=>h) (λ_ _ h=>h) (λ_ _ h=>h.elim);obtain⟨a1,ha1,_⟩:=h1.p.ex;unfold II at ha1;have g3:=hP h1.p;unfold Bu at g3;have le2:=f2.le;have sl:∀J:Nat->AH,BV R.dv J=J B.length:=λJ=>by
   obtain⟨ws,k1,_⟩:=h1.w;exact k1.slen
  cases p:oQ (BJ l)with
  | false=>
   rw[p]at g2;obtain⟨U3,g4,p3,f3⟩:=hFl 7 (BJ l) h1.p;unfold Bu at g4;refine⟨R.dv,U3,?_,h1.goe p3 f3,(f2.mono λ_ _ h=>h.elim:Fr (PB y R.dv) U U1).trans f3 (λ_ _ e => .inl e),λ_ h => .inl h⟩;unfold PJ;simp only[↓rP,rA,AE,AF,AD,↓AT ha,hok,↓g1,↓g2,↓g3,↓g4]
  | true=>
   rw[p]at g2;obtain⟨U3,g4,p3,f3⟩:=hFl 5 (BJ l) h1.p;unfold Bu at g4;cases c1:decide (16<d)with
   | true=>
    refine⟨R.dv,U3,?_,h1.goe p3 f3,(f2.mono λ_ _ h=>h.elim:Fr (PB y R.dv) U U1).trans f3 (λ_ _ e => .inl e),λ_ h => .inl h⟩;unfold PJ;simp only[↓rP,rA,AE,AF,AD,↓AT ha,hok,↓g1,↓g2,c1,↓g3,↓g4]
   | false=>
    cases c2:decide (300<=B.length)with
    | true=>
     refine⟨R.dv,U3,?_,h1.goe p3 f3,(f2.mono λ_ _ h=>h.elim:Fr (PB y R.dv) U U1).trans f3 (λ_ _ e => .inl e),λ_ h => .inl h⟩;unfold PJ;simp only[↓rP,rA,AE,AF,AD,↓AT ha,hok,↓g1,↓g2,c1,↓AT ha1,↓sl,c2,↓g3,↓g4]
    | false=>
     have hd16:¬16<d:=of_decide_eq_false c1;have hl:B.length<300:=by have:=of_decide_eq_false c2;omega
     simp only[EW]at ⊢;obtain⟨u,U4,U5,U6,e4,g5,uo,g6,h6,f6,m6⟩:=Pn.push (E:=E) h1 (λb p=>by have:=hQ b p;omega) hl;have le6:=f6.le;unfold zC at e4;have yQ:=h6.p.lt;have ll6:=h6.p.llt;have ld6:∀b,AS u b->b<U6.next:=λb p=>h6.dlt p;obtain⟨U7,e7,f7,a7,n7⟩:=Ia h6.p.ht zC;obtain⟨U8,s8,a8,f8⟩:=u1 (iv := .nils) (fv := .nils) f7.tidy a7 rfl rfl rfl;have f68:Fr Af U6 U8:=f7.trans f8 (λb p e=>by omega);have le8:=f68.le;have h8:=(h6.ext (Q':=λb=>Q b\/LB U6.next .nils (.nils,[]) b) λb p=>by
      rcases p with p|p|p|p|⟨v,hv,_⟩
      ·exact .inl p
      ·exact .inr (by omega)
      ·exact p.elim
      ·exact p.elim
      ·cases hv).fr f68 (λh=>h) (λ_ _ h=>h) (λ_ _ h=>h) (λ_ _ h=>h.elim)
     have nf0:∀b,¬NF ((.nils,[]):FV) b:=λb h=>by
      rcases h with h|⟨v,hv,_⟩
      ·exact h.elim
      ·cases hv
     have q8:Nq U8 U6.next Iz .nils (.nils,[]):=⟨a8,ES.nil _ _,ES.nil _ _,⟨rfl,λk x v hx=>(by cases hx)⟩,λh=>h.elim,nf0 _,λb h=>h.elim,λv hv=>(by cases hv)⟩;have ap8:Aq y lv u U6.next .nils (.nils,[]):=⟨⟨by omega,λhn=>by have:=ll6 _ hn;omega,λb h=>h.elim,λb h=>(nf0 b h).elim⟩,λhn=>by have:=ld6 _ hn;omega,λb h=>h.elim,λb h=>(nf0 b h).elim⟩;have hQ8:∀b,Q b->b<U8.next:=λb p=>by have:=hQ b p;omega
     unfold zC at e7;obtain⟨U9,k9,s9⟩:=ABD (E:=E) (W:=W) hP hFl hI hN hM (R:=R.wd u) (AA d) (AA B.length) h8 q8 ap8;rw[show (R.wd u).er=R.er from rfl]at s9;have s8:∀J:H->AH,Cg 16 U6.next 0 (.agg [.int .i64 (AA 0),.str (BS.mk 0 0),.bool false,.int .i64 (AA 0),.int .i64 (AA 0),.bool false,.bool false,.bool false,.bool false,.int .i64 (AA 0),.int .i64 (AA 0),.nils,.nils,.int .i64 (AA 0),.bool false,.int .i64 (AA 0)]) U7 J=J U8:=s8;have key:∀K1,PJ E D W K1 (N6 E D W K1) y 0 (AA d) U=ZC E D W y U6.next K1 (AA d) (AA B.length) U8:=by
      intro K1;unfold PJ ZC;simp only[↓rP,rA,AE,AF,AD,↓AT ha,hok,↓g1,↓g2,c1,↓AT ha1,↓sl,c2,↓e4,↓g5,Ec uo,↓g6,↓e7,↓s8]
     rw[key,k9];generalize OV l R.er=i9 at s9 ⊢;obtain⟨m,l9,er9⟩:=i9;simp only[]at s9 ⊢;have s9p:Pn U9 y lv ts l9 ((R.wd u).e er9) (B++[Iz]) (λb=>Q b\/LB U6.next .nils (.nils,[]) b):=s9.p;have s9a:Aq y lv u U6.next .nils (.nils,[]):=s9.ap;have le9:=s9.f.le;obtain⟨iv',fv',w,Ua,ga,z⟩:=hB (by omega) (d:=d) s9p (λb p=>by have:=hQ8 b p;omega) s9.q s9a rfl rfl (by omega);rw[show ((R.wd u).e er9).er=er9 from rfl]at z;have gr:=(oI hG d (CA m) l9 er9 (B++[Iz])).n;generalize XT T d (CA m) l9 er9 (B++[Iz])=ia at z gr ⊢;obtain⟨nd,la,era,nsa⟩:=ia;simp only[]at z gr ⊢;rw[AY]at gr;simp only[AK,Aa]at gr;have iF:∀b,AS iv' b->U9.next<=b:=λb p=>(z.mi b p).elim (λh=>h.elim) id;have fF:∀b,NF fv' b->U9.next<=b:=λb p=>(z.mf b p).elim (λh=>(nf0 b h).elim) id;have mda:∀b,AS w b->AS u b\/U9.next<=b:=z.md;have md:∀b,AS w b->AS R.dv b\/U.next<=b:=λb p=>(mda b p).elim (λe=>(m6 b e).imp id (λe=>by omega)) (λe => .inr (by omega));have pa:Pn Ua y lv ts la ((R.wd w).e era) nsa Q:=z.p.ext λb p => .inl (.inl p);have fa:Fr (PB y R.dv) U Ua:=by
      have e1:Fr (PB y R.dv) U U6:=(f2.mono λ_ _ h=>h.elim:Fr (PB y R.dv) U U1).trans f6 (λ_ _ e=>e);have e2:=e1.trans f68 (λ_ _ h=>h.elim);have e3:=e2.trans s9.f (λb p e=>by
       rcases e with e|e|e
       ·rcases e with e|e
        ·exact .inl e
        ·exact(m6 b e).elim .inr (λe=>by omega)
       ·omega
       ·exact(nf0 b e).elim)
      refine e3.trans z.f (λb p e=>?_);rcases e with e|e|e|e
      ·rcases e with e|e
       ·exact .inl e
       ·exact(m6 b e).elim .inr (λe=>by omega)
      ·omega
      ·exact e.elim
      ·exact(nf0 b e).elim
     obtain⟨aa,haa,_⟩:=pa.p.ex;unfold II at haa;have r7:∀J:V->AH,Ee E Ua y 7 J=J (.int .i64 (AA era.1)):=λJ=>(AT haa).trans rfl;have r6:∀J:V->AH,Ee E Ua y 6 J=J w:=λJ=>(AT haa).trans rfl;show ∃w U',TY E D W y 0 (AA d) (AA B.length) U6.next 0 U9=_/\_;cases hea:decide (era.1=0)with
     | false=>
      refine⟨w,Ua,?_,?_,fa,md⟩
      ·simp only[hea]
       unfold TY;simp only[↓rP,rA,AE,AF,AD,↓ga,↓r7,hea]
      ·simp only[hea]
       exact pa
     | true=>
      have nda:qt Ua y w Q nd (iv',fv'):=⟨z.q.i.src,z.q.f.src,z.q.g,λb p=>⟨p.elim (λe=>(z.ap.a.i b e).1) (λe=>(z.ap.a.f b e).1),p.elim (z.ap.i b) (z.ap.f b),λq=>by
       have:=hQ8 b q;exact p.elim (λe=>by have:=iF b e;omega) (λe=>by have:=fF b e;omega)⟩⟩
      obtain⟨bb,Ub,ib,gb,hbp,fb⟩:=Pn.put pa nda (i:=B.length) (by omega);have ib:∀J:Nat->Nat->AH,Bl 16 w (AA B.length) J=J bb (B.length*16):=ib;have io:iv'.one=true:=z.q.i.one;have fo:fv'.1.one=true:=z.q.f.one;have l16:=vv (E:=E) z.q.a;unfold AM.c at gb l16;refine⟨w,Ub,?_,?_,fa.trans fb (λb p e=>(md b e).elim .inr (λe=>by omega)),md⟩
      ·simp only[hea]
       unfold TY;simp only[↓rP,rA,AE,AF,AD,↓ga,↓r7,hea,↓r6,↓l16,io,fo,↓ib,↓gb]
      ·simp only[hea]
       exact hbp
end
def LW(er:Er)(k a:Nat):Er:=match decide (er.1=0)&&decide (40<=k)with
 | true=>FU er 5 a
 | false=>er
def Kv(T:Da)(z:NT)(l:List Ad)(er:Er)(d:List AM):NT × List Ad × Er × List AM:=match Dz 1 l er with
 | (w,b,er1)=>match CG (BS.mk 3 4012602) b (LW er1 z.1.length (BJ l).2.2)with
  | (c,a)=>match T.go 0 c a d with
   | (k,l4,er4,ns4)=>((z.1++[w],z.2++[k]),l4,er4,ns4)
def HX(T:Da):Nat->NT->List Ad->Er->List AM->NT × List Ad × Er × List AM
 | 0,z,l,er,a=>(z,l,FU er 5 0,a)
 | n+1,z,l,er,a=>match decide (er.1=0)with
  | false=>(z,l,er,a)
  | true=>match Ew (BS.mk 3 4476485) l er with
   | (true,d)=>(z,d,er,a)
   | (false,d)=>match Kv T z d er a with
    | (e,f,b,c)=>HX T n e f b c
@[irreducible] def Om(T:Da)(l:List Ad)(er:Er):NT × List Ad × Er × List AM:=HX T (fu+2) ([],[]) l er []
def NI(l:List Ad)(er:Er):Int × List Ad × Er:=match Ew (BS.mk 8 6073459554577832005) l er with
 | (true,e)=>match CG (BS.mk 4 1397178708) e er with
  | (a,c)=>(0,a,c)
 | (false,e)=>match Ew (BS.mk 8 6073459554577829193) e er with
  | (true,a)=>match CG (BS.mk 4 1397178708) a er with
   | (b,d)=>(1,b,d)
  | (false,a)=>match Ew (BS.mk 9 1241215773001651606849) a er with
   | (true,b)=>match CG (BS.mk 4 1397178708) b er with
    | (l4,er4)=>(2,l4,er4)
   | (false,b)=>(0,b,er)
def LX(l:List Ad)(er:Er):Er:=match decide (er.1=0) && !decide ((BJ l).1=0)with
 | true=>FU er 7 (BJ l).2.2
 | false=>er
def Wz(T:Da)(l:List Ad)(er:Er):WT × Er:=match Dz 1 l er with
 | (w,j,er1)=>match CG (BS.mk 11 100710650190388740279911748) j er1 with
  | (k,a)=>match NI k a with
   | (e,g,c)=>match CG (BS.mk 3 4012602) g c with
    | (l4,er4)=>match CG (BS.mk 5 336236856642) l4 er4 with
     | (f,d)=>match Om T f d with
      | (z,i,b,h)=>((w,e,z,h),LX i b)
theorem ur(l:List Ad) er:(NI l er).2.1.length<=l.length:=by
 unfold NI;have e:=Dl (BS.mk 8 6073459554577832005) l er;generalize Ew (BS.mk 8 6073459554577832005) l er=p at e ⊢;obtain⟨o,k⟩:=p;cases o with
 | true=>exact AU (DJ (BS.mk 4 1397178708) k er) e | false=>
  have h:=Dl (BS.mk 8 6073459554577829193) k er;simp only[]at e ⊢;generalize Ew (BS.mk 8 6073459554577829193) k er=t at h ⊢;obtain⟨n,j⟩:=t;cases n with
  | true=>exact AU (DJ (BS.mk 4 1397178708) j er) (AU h e) | false=>
   have m:=Dl (BS.mk 9 1241215773001651606849) j er;simp only[]at h ⊢;generalize Ew (BS.mk 9 1241215773001651606849) j er=r at m ⊢;obtain⟨q,s⟩:=r;cases q with
   | true=>exact AU (DJ (BS.mk 4 1397178708) s er) (AU m (AU h e)) | false=>exact AU m (AU h e)
section
variable {E:EB}{D:Am}{W:AJ}{N:Nat}{U U':H}{pb:Nat}{lv:V}{ts l:List Ad}{R:Rp}{ns:List AM}{z:NT}
theorem Pm.addN(h:Pm U pb lv ts l R ns z) w (hl:z.1.length<=4000):∃u s D U3,B9 U (.cells [.str (BO w)])=s/\(∀J,Gv E 1 16 R.nv (.sl U.next 0 1 (.ex 1)) s J=J u D)/\u.one=true/\(∀J,Cg 1 pb 4 u D J=J U3) /\
  WA U U3 pb lv ts l R ⟨R.nm,R.tg,u,R.tv,R.dv,R.er⟩ R.er ns (z.1++[w],z.2):=by
 have o:=h.p.p.ht;obtain⟨a,X,L⟩:=h.p.p.ex;obtain⟨s,e1,f1,a1,n1⟩:=Ia o [.str (BO w)];have xs:D0 s 1 1 (V.sl U.next 0 1 (.ex 1)) [.str (BO w)] := .inr ⟨_,_,_,_,rfl,a1,AL _,rfl⟩;obtain⟨u,D,g2,I,m2,B⟩:=Fa (bytes:=16) (h.n.fr f1 o (λ_ _ h=>h)) f1.tidy xs rfl (by unfold CX;simp only[AI,Ag];omega);have ab:=f1.le;have ac:=B.le;have hx:=h.p.p.lt;have S:=h.q;have M:=B.at_ (f1.at_ X o (λh=>h)) f1.tidy (λe=>(h.nx pb e).1 rfl);obtain⟨aa,A⟩:=E3 I.one;obtain⟨U3,g3,Z,N⟩:=Jo (l':=II lv a ⟨R.nm,R.tg,u,R.tv,R.dv,R.er⟩) B.tidy M (by
  rw[A];show (Ax 1 1&&Ac (AN 4 1) 9&&BM [u])=true;simp only[BW,Bg,I.one,Au];rfl) (by rw[A];rfl)
 have t:∀b,AS u b->AS R.nv b\/U.next<=b:=λb d=>(m2 b d).imp id λh=>by omega
 have P:=λb d=>(t b d).elim (λe=>(h.nx b e).1) (λe=>by omega);have j:=((f1.mono λ_ _ h=>h.elim:Fr (λb=>b=pb\/AS R.nv b) U s).trans B (λ_ _ e => .inr e)).trans N (λ_ _ e => .inl e);have ll:=λb d=>h.p.p.llt b d;have dl:∀b,AS R.dv b->b<U.next:=λb d=>h.p.dlt d;have tl:=λb d=>S b (.inr d);have T:Ps U3 pb lv ts l ⟨R.nm,R.tg,u,R.tv,R.dv,R.er⟩:=⟨⟨a,Z,L⟩,h.p.p.src.fr j o (λb d e=>e.elim (h.p.p.nx b d) (λe=>(h.nx b e).2.1 d)),h.p.p.ne,h.p.p.nx,h.p.p.ok,j.tidy⟩;obtain⟨ws,Y,k2,k3⟩:=h.p.w;have W:Pn U3 pb lv ts l ⟨R.nm,R.tg,u,R.tv,R.dv,R.er⟩ ns (λb=>(AS u b\/AS R.tv b)\/b<pb):=by
  refine⟨T,⟨ws,Y.fr j o λb d e=>e.elim (h.p.dx b d).1 (λe=>(h.nx b e).2.2.1 d),k2,λk nd v p hv=>?_⟩,h.p.dx⟩;have n:=k3 k nd v p hv;have K:=n.fr j o λx d e=>e.elim (n.n x d).1 (λe=>(n.n x d).2.2 (.inl (.inl e)));exact⟨K.i,K.f,K.g,λx d=>⟨(n.n x d).1,(n.n x d).2.1,λq=>by
   have lx:=n.lt o d;rcases q with (q|q)|q
   ·exact(t x q).elim (λe=>(n.n x d).2.2 (.inl (.inl e))) (λe=>by omega)
   ·exact(n.n x d).2.2 (.inl (.inr q))
   ·exact(n.n x d).2.2 (.inr q)⟩⟩
 refine⟨u,s,D,U3,e1,g2,I.one,g3,⟨W,?_,h.t.fr j o (λb d e=>e.elim (h.tx b d).1 (λe=>(h.nx b e).2.2.2 d)),λb d=>?_,h.tx⟩,rfl,rfl,rfl,λb d=>?_,j.mono λb _ e=>e.imp id λe => .inr (.inl e)⟩
 ·show ES U3 1 (z.1++[w]).length u (j4 (z.1++[w]))
  rw[AY,j4,IX];exact I.fr N B.tidy (λb d e=>P b d e)
 ·refine⟨P b d,?_,?_,?_⟩
  ·exact(t b d).elim (λe=>(h.nx b e).2.1) (λe p=>by have:=ll b p;omega)
  ·exact(t b d).elim (λe=>(h.nx b e).2.2.1) (λe p=>by have:=dl b p;omega)
  ·exact(t b d).elim (λe=>(h.nx b e).2.2.2) (λe p=>by have:=tl b p;omega)
 ·rcases d with d|d|d
  ·exact .inl (.inl d)
  ·exact(t b d).imp (λe => .inr (.inl e)) id
  ·exact .inl (.inr (.inr d))
theorem Pm.addT(h:Pm U pb lv ts l R ns z) i (hl:z.2.length<=4000):∃u s D U3,B9 U (.cells [.int .i64 (AA i)])=s/\(∀J,Gv E 1 8 R.tv (.sl U.next 0 1 (.ex 1)) s J=J u D)/\u.one=true/\(∀J,Cg 1 pb 5 u D J=J U3) /\
  WA U U3 pb lv ts l R ⟨R.nm,R.tg,R.nv,u,R.dv,R.er⟩ R.er ns (z.1,z.2++[i]):=by
 have p:=h.p.p.ht;obtain⟨a,ha,L⟩:=h.p.p.ex;obtain⟨s,T,f1,a1,n1⟩:=Ia p [.int .i64 (AA i)];have xs:D0 s 1 1 (V.sl U.next 0 1 (.ex 1)) [.int .i64 (AA i)] := .inr ⟨_,_,_,_,rfl,a1,AL _,rfl⟩;obtain⟨u,D,g2,I,m2,C⟩:=Fa (bytes:=8) (h.t.fr f1 p (λ_ _ h=>h)) f1.tidy xs rfl (by unfold CX;simp only[AI,Ag];omega);have aa:=f1.le;have X:=C.le;have hx:=h.p.p.lt;have S:=h.q;have M:=C.at_ (f1.at_ ha p (λh=>h)) f1.tidy (λe=>(h.tx pb e).1 rfl);obtain⟨ab,A⟩:=E3 I.one;obtain⟨U3,Z,a3,N⟩:=Jo (l':=II lv a ⟨R.nm,R.tg,R.nv,u,R.dv,R.er⟩) C.tidy M (by
  rw[A];show (Ax 1 1&&Ac (AN 5 1) 9&&BM [u])=true;simp only[BW,Bg,I.one,Au];rfl) (by rw[A];rfl)
 have t:∀b,AS u b->AS R.tv b\/U.next<=b:=λb c=>(m2 b c).imp id λh=>by omega
 have P:=λb c=>(t b c).elim (λe=>(h.tx b e).1) (λe=>by omega);have m:=((f1.mono λ_ _ h=>h.elim:Fr (λb=>b=pb\/AS R.tv b) U s).trans C (λ_ _ e => .inr e)).trans N (λ_ _ e => .inl e);have ll:=λb c=>h.p.p.llt b c;have dl:∀b,AS R.dv b->b<U.next:=λb c=>h.p.dlt c;have nl:=λb c=>S b (.inl c);have p3:Ps U3 pb lv ts l ⟨R.nm,R.tg,R.nv,u,R.dv,R.er⟩:=⟨⟨a,a3,L⟩,h.p.p.src.fr m p (λb c e=>e.elim (h.p.p.nx b c) (λe=>(h.tx b e).2.1 c)),h.p.p.ne,h.p.p.nx,h.p.p.ok,m.tidy⟩;obtain⟨Y,k1,k2,k3⟩:=h.p.w;have hP:Pn U3 pb lv ts l ⟨R.nm,R.tg,R.nv,u,R.dv,R.er⟩ ns (λb=>(AS R.nv b\/AS u b)\/b<pb):=by
  refine⟨p3,⟨Y,k1.fr m p λb c e=>e.elim (h.p.dx b c).1 (λe=>(h.tx b e).2.2 c),k2,λk nd v w W=>?_⟩,h.p.dx⟩;have o:=k3 k nd v w W;have K:=o.fr m p λx c e=>e.elim (o.n x c).1 (λe=>(o.n x c).2.2 (.inl (.inr e)));exact⟨K.i,K.f,K.g,λx c=>⟨(o.n x c).1,(o.n x c).2.1,λq=>by
   have lx:=o.lt p c;rcases q with (q|q)|q
   ·exact(o.n x c).2.2 (.inl (.inl q))
   ·exact(t x q).elim (λe=>(o.n x c).2.2 (.inl (.inr e))) (λe=>by omega)
   ·exact(o.n x c).2.2 (.inr q)⟩⟩
 refine⟨u,s,D,U3,T,g2,I.one,Z,⟨hP,h.n.fr m p (λb c e=>e.elim (h.nx b c).1 (λe=>(h.nx b c).2.2.2 e)),?_,λb c=>?_,λb c=>?_⟩,rfl,rfl,rfl,λb c=>?_,m.mono λb _ e=>e.imp id λe => .inr (.inr e)⟩
 ·show ES U3 1 (z.2++[i]).length u (j5 (z.2++[i]))
  rw[AY,j5,IX];exact I.fr N C.tidy (λb c e=>P b c e)
 ·obtain⟨h1,h2,h3,h4⟩:=h.nx b c
  exact⟨h1,h2,h3,λe=>(t b e).elim h4 (λe=>by have:=nl b c;omega)⟩
 ·refine⟨P b c,?_,?_⟩
  ·exact(t b c).elim (λe=>(h.tx b e).2.1) (λe w=>by have:=ll b w;omega)
  ·exact(t b c).elim (λe=>(h.tx b e).2.2) (λe w=>by have:=dl b w;omega)
 ·rcases c with c|c|c
  ·exact .inl (.inl c)
  ·exact .inl (.inr (.inl c))
  ·exact(t b c).imp (λe => .inr (.inr e)) id
theorem AIX{T:Da}(hP:C0 (D 15))(hK:GY (D 12))(hFl:Fc (D 16))(hM:Di (D 13))(hT:Fs T (D 17))(hT0:T.lo=0)(h:Pm U pb lv ts l R ns z)(hz1:z.1.length<=4000)(hz2:z.2.length<=4000)(hok:R.er.1=0) rb {Ui}{li:List Ad}(gi:D 14 [.ptr pb 0,.str (BS.mk 3 4476485)] Ui=some (.bool false,U)){a:Nat}(y:DQ Ui pb (II lv a (R.e R.er)))(R3:Nat->Nat->Nat->Nat->H->AH):
  ∃R' U',(∀A,RZ E D W A (wv E D W R3) rb 0 pb 0 Ui=R3 rb 0 pb 0 U')/\WA U U' pb lv ts (Kv T z l R.er ns).2.1 R R' (Kv T z l R.er ns).2.2.1 (Kv T z l R.er ns).2.2.2 (Kv T z l R.er ns).1:=by
 unfold II at y;have o:decide (R.er.1=0)=true:=decide_eq_true hok;have g1:=hP h.p.p;unfold Bu at g1;obtain⟨U2,g2,p2,f2⟩:=hK 1 h.p.p;have s2:=h.go p2 f2;unfold Kv;generalize Dz 1 l R.er=i2 at g2 p2 s2 ⊢;obtain⟨w,l2,n⟩:=i2;simp only[]at g2 p2 s2 ⊢;have s:Pm U2 pb lv ts l2 (R.e n) ns z:=s2.p;obtain⟨a2,I,_⟩:=s.p.p.ex;unfold II at I;have r7:∀J:V->AH,Ee E U2 pb 7 J=J (.int .i64 (AA n.1)):=λJ=>(AT I).trans rfl;have r4:∀J:V->AH,Ee E U2 pb 4 J=J R.nv:=λJ=>(AT I).trans rfl;have sl:∀J:Nat->AH,BV R.nv J=J z.1.length:=λJ=>s.n.slen;obtain⟨U3,k3,s3⟩:∃U3,(∀A K4,RZ E D W A K4 rb 0 pb 0 Ui=K4 rb 0 pb 0 (BO w) U3)/\WA U U3 pb lv ts l2 R (R.e (LW n z.1.length (BJ l).2.2)) (LW n z.1.length (BJ l).2.2) ns z:=by
  unfold LW;cases h0:decide (n.1=0)with
  | false=>
   refine⟨U2,λA K4=>?_,s2⟩;unfold RZ;simp only[↓rP,rA,AE,AF,AD,↓AT y,Rp.e,o,↓gi,↓g1,↓g2,↓r7,h0]
  | true=>
   cases h40:decide (40<=z.1.length)with
   | false=>
    refine⟨U2,λA K4=>?_,s2⟩;unfold RZ;simp only[↓rP,rA,AE,AF,AD,↓AT y,Rp.e,o,↓gi,↓g1,↓g2,↓r7,h0,↓r4,↓sl,h40]
   | true=>
    obtain⟨U3,g3,p3,f3⟩:=hFl 5 (BJ l) s.p.p;unfold Bu at g3;refine⟨U3,λA K4=>?_,s2.trans (s.go p3 f3)⟩;unfold RZ;simp only[↓rP,rA,AE,AF,AD,↓AT y,Rp.e,o,↓gi,↓g1,↓g2,↓r7,h0,↓r4,↓sl,h40,↓g3]
 generalize LW n z.1.length (BJ l).2.2=p at s3 ⊢;have s3p:Pm U3 pb lv ts l2 (R.e p) ns z:=s3.p;obtain⟨U4,g4,p4,f4⟩:=hM (BS.mk 3 4012602) s3p.p.p;have s4:=s3.trans (s3p.go p4 f4);rw[show (R.e p).er=p from rfl]at p4 s4;generalize CG (BS.mk 3 4012602) l2 p=i4 at p4 s4 ⊢;obtain⟨l4,er4⟩:=i4;simp only[]at p4 s4 ⊢;have s4p:Pm U4 pb lv ts l4 (R.e er4) ns z:=s4.p;have lp:=h.p.p.lt;have le4:=s4.f.le;obtain⟨K,U5,g5,B,f5,m5⟩:=hT (d:=0) s4p.p (λb hb=>by
  rcases hb with hb|hb
  ·exact s4p.q b hb
  ·omega) (by omega)
 rw[show (R.e er4).er=er4 from rfl]at g5 B;obtain⟨i5,hi5⟩:∃r,T.go 0 l4 er4 ns=r:=⟨_,rfl⟩;rw[hi5]at g5 B ⊢;clear hi5;obtain⟨k,l5,q,F⟩:=i5;simp only[]at g5 B ⊢;have B:Pn U5 pb lv ts l5 ((R.wd K).e q) F (λb=>(AS R.nv b\/AS R.tv b)\/b<pb):=B;have s5:WA U4 U5 pb lv ts l5 (R.e er4) ((R.wd K).e q) q F z:=s4p.typ B f5 m5;have s05:=s4.trans s5;obtain⟨u,U6,U7,U8,e6,g7,uo,g8,s8⟩:=Pm.addN s5.p w hz1;have s8p:Pm U8 pb lv ts l5 ⟨R.nm,R.tg,u,R.tv,K,q⟩ F (z.1++[w],z.2):=s8.p;obtain⟨v,U9,Ua,Ub,e9,ga,vo,gb,sb⟩:=Pm.addT s8p k hz2;obtain⟨a5,ha5,_⟩:=B.p.ex;unfold II at ha5;have q4:∀J:V->AH,Ee E U5 pb 4 J=J R.nv:=λJ=>(AT ha5).trans rfl;obtain⟨a8,ha8,_⟩:=s8p.p.p.ex;unfold II at ha8;have q5:∀J:V->AH,Ee E U8 pb 5 J=J R.tv:=λJ=>(AT ha8).trans rfl;have g7:∀J:V->H->AH,Gv E 1 16 R.nv (.sl U5.next 0 1 (.ex 1)) U6 J=J u U7:=g7;have ga:∀J:V->H->AH,Gv E 1 8 R.tv (.sl U8.next 0 1 (.ex 1)) U9 J=J v Ua:=ga;have g5:D 17 [.ptr pb 0,.int .i64 (AA 0)] U4=some (.int .i64 (AA k),U5):=g5;refine⟨_,Ub,λA=>?_,(s05.trans s8).trans sb⟩;rw[k3];unfold wv;simp only[↓rP,rA,AE,AF,AD,↓g4,↓g5,↓q4,↓e6,↓g7,Ec uo,↓g8,↓q5,↓e9,↓ga,Ec vo,↓gb]
end
theorem ABn{T:Da}(G:Py T)(z:NT)(l:List Ad)(er:Er) q:(Kv T z l er q).1.1.length=z.1.length+1/\(Kv T z l er q).1.2.length=z.2.length+1/\(Kv T z l er q).2.1.length<=l.length /\
  ((Kv T z l er q).2.2.1.1=0->z.1.length<40/\(BJ l).1=1/\(Kv T z l er q).2.1.length<=(Fh l).length):=by
 unfold Kv;have B:=Lb 1 l er;have C:(Dz 1 l er).2.2.1=0->er.1=0/\(BJ l).1=1/\(Dz 1 l er).2.1=Fh l:=by
  unfold Dz;cases p:decide (er.1=0)&&decide ((BJ l).1=1)with
  | true=>
   rw[AI,decide_eq_true_eq,decide_eq_true_eq]at p;exact λ_=>⟨p.1,p.2,rfl⟩
  | false=>
   intro h;have h:=h;unfold FU at h;cases y:decide (er.1=0)with
   | true=>rw[y]at h;cases h | false=>rw[y]at h;exact absurd h (of_decide_eq_false y)
 generalize Dz 1 l er=S at B C ⊢;obtain⟨w,F,er1⟩:=S;simp only[]at B C ⊢;have v:=DJ (BS.mk 3 4012602) F (LW er1 z.1.length (BJ l).2.2);have M:=λh=>C3 (er:=LW er1 z.1.length (BJ l).2.2) (BS.mk 3 4012602) F h;generalize CG (BS.mk 3 4012602) F (LW er1 z.1.length (BJ l).2.2)=N at v M ⊢;obtain⟨x,n⟩:=N;have t:=G.le 0 x n q;have K:=G.st 0 x n q;simp only[]at v ⊢;obtain⟨O,s⟩:∃r,T.go 0 x n q=r:=⟨_,rfl⟩;rw[s]at t K ⊢;clear s;obtain⟨k,W,U,R⟩:=O;simp only[]at t ⊢;refine⟨by simp,by simp,AU t (AU v B),λL=>?_⟩;have I:n.1=0:=by
  by_cases e:n.1=0
  ·exact e
  ·have:=K e
   simp only[Prod.mk.injEq]at this;rw[this.2.2.1]at L;exact absurd L e
 have m:(LW er1 z.1.length (BJ l).2.2).1=0:=by
  by_cases e:(LW er1 z.1.length (BJ l).2.2).1=0
  ·exact e
  ·have:=M e
   simp only[Prod.mk.injEq]at this;rw[this.2]at I;exact absurd I e
 have J:er1.1=0/\z.1.length<40:=by
  unfold LW at m;cases p:decide (er1.1=0)&&decide (40<=z.1.length)with
  | true=>
   rw[p]at m;rw[AI,decide_eq_true_eq]at p;have m:=m;unfold FU at m;rw[decide_eq_true p.1]at m;cases m
  | false=>
   rw[p]at m;have m:=m;rw[decide_eq_true m,BX]at p;have:=of_decide_eq_false p;exact⟨m,by omega⟩
 obtain⟨_,Q,P⟩:=C J.1;exact⟨J.2,Q,P ▸ AU t v⟩
@[irreducible] def JN:Da:=Jn 18
def KU(M:Nat)(s:BS):Except (Nat × Nat) WT:=match IK M s with
 | .error e => .error e
 | .ok ts=>match Wz JN ts (0,0)with
  | (m,er)=>match decide (er.1=0)with
   | true => .ok m
   | false => .error (er.2,er.1)
def Lw(E:EB)(M:Nat)(F:List V->H->AH):Prop:=∀(U:H) s,CI U->KF E U ->
 match KU M s with
 | .ok m=>∃a c d U',F [.str s] U=some (.tup [.agg (Ym m a c d),.int .i64 (AA 0),.int .i64 (AA 0)],U')/\zA U' m a c d/\(∀b,AS a b\/AS c b\/AS d b->U.next<=b)/\Fr Af U U'
 | .error e=>∃U',F [.str s] U=some (.tup [.agg [.str (BS.mk 0 0),.int .i64 (AA 0),.nils,.nils,.nils],.int .i64 (AA e.1),.int .i64 (AA e.2)],U')/\Fr Af U U'
theorem AH0{u a b c d e f g h:V}(l:u.one=true) J:JQ [(0,1,u)] [.nils,a,b,c,d,e,f,g,h] J=J [u,a,b,c,d,e,f,g,h]:=by
 obtain⟨n,o⟩:=E3 l;unfold JQ I3;rw[o];simp only[BW,Bg,l,Au,AK,Aa,BQ,GC,n];rfl
section
variable {E:EB}{D:Am}{W:AJ}{N M:Nat}
theorem ABk{T:Da}(M:Py T)(hP:C0 (D 15))(hK:GY (D 12))(hI:Ft (D 14))(S:Fc (D 16))(hM:Di (D 13))(hT:Fs T (D 17))(J:T.lo=0) rb {r Y ts}:∀n k {U}{l:List Ad}{R:Rp}{q}{z:NT},Pm U r Y ts l R q z ->
  (R.er.1=0->z.1.length<=40/\l.length+2<=n/\l.length+2<=k)->z.1.length=z.2.length->1<=n->1<=k ->
  ∃R' U',Zk E D W N k rb 0 r 0 U=Zl E D W N rb 0 r 0 U'/\WA U U' r Y ts (HX T n z l R.er q).2.1 R R' (HX T n z l R.er q).2.2.1 (HX T n z l R.er q).2.2.2 (HX T n z l R.er q).1:=by
 intro n;induction n with
 | zero=>intro k U l R q z h h1 hz hn;omega | succ n ih=>
  intro k U l R q z h h1 hz hn hk;obtain⟨k,rfl⟩:∃j,k=j+1:=⟨k-1,by omega⟩;obtain⟨a,G,_⟩:=h.p.p.ex;have X:=G;unfold II at G;show ∃R' U',RZ E D W (Zl E D W N) (wv E D W (Zk E D W N k)) rb 0 r 0 U=_/\_;unfold HX;cases u:decide (R.er.1=0)with
  | false=>
   refine⟨R,U,?_,⟨h,rfl,rfl,rfl,λ_ h => .inl h,Fr.refl h.p.p.ht⟩⟩;have t:∀w B,RZ E D W w B rb 0 r 0 U=w rb 0 r 0 U:=by
    intro w B;unfold RZ;simp only[↓rP,rA,AE,AF,AD,↓AT G,u]
   exact t _ _
  | true=>
   have A:R.er.1=0:=of_decide_eq_true u;obtain⟨h11,h13,h14⟩:=h1 A;obtain⟨O,I,K,f1⟩:=hI (BS.mk 3 4476485) h.p.p;have y:=h.go K f1;have C:=Dl (BS.mk 3 4476485) l R.er;simp only[]at ⊢;generalize Ew (BS.mk 3 4476485) l R.er=i1 at I K y C ⊢;obtain⟨b1,P⟩:=i1;simp only[]at I K y C;cases b1 with
   | true=>
    refine⟨R,O,?_,y⟩;have t:∀w B,RZ E D W w B rb 0 r 0 U=w rb 0 r 0 O:=by
     intro w B;unfold RZ;simp only[↓rP,rA,AE,AF,AD,↓AT G,u,↓I]
    exact t _ _
   | false=>
    have F:Pm O r Y ts P R q z:=y.p;obtain⟨R2,U2,g2,x⟩:=AIX hP hK S hM hT J F (by omega) (by omega) A rb (li:=l) I X (Zk E D W N k);obtain⟨Z,a2,a3,L⟩:=ABn M z P R.er q;simp only[]at ⊢;generalize Kv T z P R.er q=i2 at x Z a2 a3 L ⊢;obtain⟨z2,l2,er2,ns2⟩:=i2;simp only[]at x Z a2 a3 L ⊢;obtain⟨R3,U3,g3,s3⟩:=ih k x.p (λe=>by
     rw[x.er]at e;obtain⟨b1,b2,b3⟩:=L e;have:=F.p.p.less (by rw[b2];decide);exact⟨by omega,by omega,by omega⟩) (by omega) (by omega) (by omega)
    rw[x.er]at s3;refine⟨R3,U3,?_,(y.trans x).trans s3⟩;rw[g2];exact g3
theorem AG2(hI:Ft (D 14))(hM:Di (D 13)){U f rb s ts l}{R:Rp}{t z}(h:Pm U f s ts l R t z)(E:R.tg=0)(L:Nat->Nat->Nat->Nat->H->AH):
  ∃R' U',(BT (D 14 [.ptr f 0,.str (BS.mk 8 6073459554577832005)] U) λai K=>CN ai λah=>AG ah (
   BT (D 13 [.ptr f 0,.str (BS.mk 4 1397178708)] K) λak S=>HV ak λan=>BD an (L rb 0 f 0 S)) (
   BT (D 14 [.ptr f 0,.str (BS.mk 8 6073459554577829193)] K) λam B=>CN am λad=>AG ad (
    Cg 1 f 3 (V.int .i64 (AA 1)) B λaa=>BT (D 13 [.ptr f 0,.str (BS.mk 4 1397178708)] aa) λao X=>HV ao λY=>BD Y (L rb 0 f 0 X)) (
    BT (D 14 [.ptr f 0,.str (BS.mk 9 1241215773001651606849)] B) λac I=>CN ac λab=>AG ab (
     Cg 1 f 3 (V.int .i64 (AA 2)) I λaf=>BT (D 13 [.ptr f 0,.str (BS.mk 4 1397178708)] af) λaj al=>HV aj λae=>BD ae (L rb 0 f 0 al)) (L rb 0 f 0 I))))=L rb 0 f 0 U' /\
   Pm U' f s ts (NI l R.er).2.1 R' t z/\R'=⟨R.nm,(NI l R.er).1,R.nv,R.tv,R.dv,(NI l R.er).2.2⟩/\Fr (λb=>b=f) U U':=by
 have M:∀{w n} i,Pm w f s ts n R t z->∃v U3,(∀J,Cg 1 f 3 (V.int .i64 (AA i)) w J=J v)/\D 13 [.ptr f 0,.str (BS.mk 4 1397178708)] v=some (.tup [],U3) /\
   Pm U3 f s ts (CG (BS.mk 4 1397178708) n R.er).1 ⟨R.nm,AA i,R.nv,R.tv,R.dv,(CG (BS.mk 4 1397178708) n R.er).2⟩ t z/\Fr (λb=>b=f) w U3:=by
  intro w n i h1;obtain⟨v,r,u,N⟩:=h1.cel (off:=3) R.nm (AA i) ⟨rfl,rfl⟩ (by decide) (λ_=>rfl);obtain⟨U3,k,q,o⟩:=hM (BS.mk 4 1397178708) u.p.p;exact⟨v,U3,r,k,(u.go q o).p,N.trans o (λ_ _ h=>h)⟩
 obtain⟨w,y,W,f1⟩:=hI (BS.mk 8 6073459554577832005) h.p.p;have s1:=h.go W f1;unfold NI;generalize Ew (BS.mk 8 6073459554577832005) l R.er=i1 at y W s1 ⊢;obtain⟨b1,n⟩:=i1;simp only[]at y W s1;have m:Pm w f s ts n R t z:=s1.p;cases b1 with
 | true=>
  obtain⟨U3,k,q,o⟩:=hM (BS.mk 4 1397178708) m.p.p;have x:=m.go q o;simp only[]at ⊢;generalize CG (BS.mk 4 1397178708) n R.er=A at x ⊢;obtain⟨O,ag⟩:=A;refine⟨_,U3,?_,x.p,by rw[<-E];rfl,f1.trans o (λ_ _ h=>h)⟩;simp only[↓rP,rS,↓y,↓k]
 | false=>
  obtain⟨v,r,u,N⟩:=hI (BS.mk 8 6073459554577829193) m.p.p;have s2:=m.go u N;have G:=f1.trans N (λ_ _ h=>h);simp only[]at ⊢;generalize Ew (BS.mk 8 6073459554577829193) n R.er=i2 at r u s2 ⊢;obtain⟨b2,Q⟩:=i2;simp only[]at r u s2;have p:Pm v f s ts Q R t z:=s2.p;cases b2 with
  | true=>
   obtain⟨U3,U4,k,g4,p4,f4⟩:=M 1 p;simp only[]at ⊢;generalize CG (BS.mk 4 1397178708) Q R.er=A at p4 ⊢;obtain⟨O,ag⟩:=A;refine⟨_,U4,?_,p4,rfl,G.trans f4 (λ_ _ h=>h)⟩;simp only[↓rP,rS,↓y,↓r,↓k,↓g4]
  | false=>
   obtain⟨U3,k,q,o⟩:=hI (BS.mk 9 1241215773001651606849) p.p.p;have x:=p.go q o;have F:=G.trans o (λ_ _ h=>h);simp only[]at ⊢;generalize Ew (BS.mk 9 1241215773001651606849) Q R.er=A at k q x ⊢;obtain⟨b3,O⟩:=A;simp only[]at k q x;have C:Pm U3 f s ts O R t z:=x.p;cases b3 with
   | true=>
    obtain⟨U4,U5,g4,g5,p5,f5⟩:=M 2 C;simp only[]at ⊢;generalize CG (BS.mk 4 1397178708) O R.er=i4 at p5 ⊢;obtain⟨l4,er4⟩:=i4;refine⟨_,U5,?_,p5,rfl,F.trans f5 (λ_ _ h=>h)⟩;simp only[↓rP,rS,↓y,↓r,↓k,↓g4,↓g5]
   | false=>
    refine⟨_,U3,?_,C,by rw[<-E],F⟩;simp only[↓rP,rS,↓y,↓r,↓k]
end
section
variable {E:EB}{D:Am}{N M:Nat}
theorem lq{U:H}{rb c a w}{R:Rp}(f:CI U)(p:DQ U c (II w a R))(o:DQ U rb zM)(q:rb≠c):
  ∃g U',AZ E D jo si [(2,.ptr rb 0),(8,.ptr c 0)] U=some (g,U')/\Go.Og.look g 2=some (.ptr rb 0)/\Go.Og.look g 3=some (.int .i64 (AA R.er.2))/\Go.Og.look g 4=some (.int .i64 (AA R.er.1))/\DQ U' rb zM/\Fr (λk=>k=rb) U U':=by
 have m:=(Cn (E:=E) (n:=12) (S:=Af) f).fr;have F:=o.lt f;obtain⟨U3,A,r,z⟩:=Fj (n:=5) (x := .tmp 2) (y := .tmp 140) (e:=[(2,.ptr rb 0),(140,.agg zM)]) m.tidy (m.at_ o f (λh=>h)) rfl rfl rfl;have C:ID E D U 12 0 (λk=>k=rb) jo si ⟨[(2,.ptr rb 0),(8,.ptr c 0)],U.next+12,[U.bl],[],0,[]⟩ _ U3:=
  EI (.agg zM) rfl rfl <|
  EI (.ptr c 0) rfl rfl <|
  EI (.ptr c 0) rfl rfl <|
  EI (.ptr c 8) rfl rfl <|
  RA (.int .i64 (AA R.er.2)) (Cn f) rfl (FG rfl p rfl f (λe=>q e.symm) (Bz _ rfl)) λ_ t=>
  EI (.ptr c 0) rfl rfl <|
  EI (.ptr c 0) rfl rfl <|
  EI (.ptr c 7) rfl rfl <|
  RA (.int .i64 (AA R.er.1)) t rfl (FG rfl p rfl f (λe=>q e.symm) (Bz _ rfl)) λ_ s=>
  OZ .dead s rfl (by decide) r (λ_ _ h=>h) (λb h G _=>by omega) A λ_ _ _ B=>
  EI (.int .i64 (AA R.er.2)) rfl rfl <|
  EI (.int .i64 (AA R.er.1)) rfl rfl <|
  Li B
 obtain⟨v,u⟩:=JP (ops:=jo) C;exact⟨_,U3,v,rfl,rfl,rfl,z,u⟩
theorem AHj(y:C0 (D 15))(q:Fc (D 16)) rb {U e u ts l}{R:Rp}{x z}(h:Pm U e u ts l R x z):
  ∃U',Zl E D (AZ E D) N rb 0 e 0 U=Zc E D (AZ E D) rb 0 e 0 U'/\Pm U' e u ts l (R.e (LX l R.er)) x z/\Fr (λb=>b=e) U U':=by
 obtain⟨a,o,_⟩:=h.p.p.ex;unfold II at o;have r:=y h.p.p;unfold Bu at r;show ∃U',Xe E D (AZ E D) (Zc E D (AZ E D)) rb 0 e 0 U=_/\_;unfold LX;cases p:decide (R.er.1=0)with
 | false=>
  refine⟨U,?_,h,Fr.refl h.p.p.ht⟩;have f:∀K,Xe E D (AZ E D) K rb 0 e 0 U=K rb 0 e 0 U:=by
   intro K;unfold Xe;simp only[↓rP,rA,AE,AF,AD,↓AT o,p]
  exact f _
 | true=>
  cases t:decide ((BJ l).1=0)with
  | true=>
   refine⟨U,?_,h,Fr.refl h.p.p.ht⟩;have f:∀K,Xe E D (AZ E D) K rb 0 e 0 U=K rb 0 e 0 U:=by
    intro K;unfold Xe;simp only[↓rP,rA,AE,AF,AD,↓AT o,p,↓r,t]
   exact f _
  | false=>
   obtain⟨s,v,A,w⟩:=q 7 (BJ l) h.p.p;unfold Bu at v;refine⟨s,?_,(h.go A w).p,w⟩;have f:∀K,Xe E D (AZ E D) K rb 0 e 0 U=K rb 0 e 0 s:=by
    intro K;unfold Xe;simp only[↓rP,rA,AE,AF,AD,↓AT o,p,↓r,t,↓v]
   exact f _
theorem vj{T l k o g l4 f m er er1 a b er4 c d w h z j}(s:Dz 1 l er=(w,k,er1))(r:CG (BS.mk 11 100710650190388740279911748) k er1=(o,a))(u:NI o a=(h,g,b))(p:CG (BS.mk 3 4012602) g b=(l4,er4))(t:CG (BS.mk 5 336236856642) l4 er4=(f,c))(q:Om T f c=(z,m,d,j)):
  Wz T l er=((w,h,z,j),LX m d):=by
 unfold Wz;simp only[s,r,u,p,t,q]
theorem Wl{s e}(b:IK M s = .error e):KU M s = .error e:=by
 unfold KU;rw[b]
theorem ZB{s ts m}{er:Er}(f:IK M s = .ok ts)(e:Wz JN ts (0,0)=(m,er)):KU M s=(match decide (er.1=0)with | true => .ok m | false => .error (er.2,er.1)):=by
 unfold KU;rw[f];simp only[e]<;>(cases decide (er.1=0)<;>rfl)
theorem AIZ{T:Da}(e:Py T)(k:C0 (D 15))(n:GY (D 12))(o:Ft (D 14))(f:Fc (D 16))(m:Di (D 13))(p:Fs T (D 17))(g:T.lo=0)(s:9010<N) rb {U b i ts l}{R:Rp}(h:Pm U b i ts l R [] ([],[])):
  ∃r U',Zk E D (AZ E D) N N rb 0 b 0 U=Zl E D (AZ E D) N rb 0 b 0 U'/\WA U U' b i ts (Om T l R.er).2.1 R r (Om T l R.er).2.2.1 (Om T l R.er).2.2.2 (Om T l R.er).1:=by
 have j:=h.p.p.few;have q:=Nk;unfold Om;exact ABk e k n o f m p g rb (fu+2) N h (λ_=>⟨BF _,by omega,by omega⟩) rfl (by omega) (by omega)
theorem Wk{T:Da}(hTk:Py T)(hTe:T=JN)(hL:N8 E M (D 9))(hP:C0 (D 15))(hK:GY (D 12))(hI:Ft (D 14))(hFl:Fc (D 16))(hM:Di (D 13))(hT:Fs T (D 17))(hT0:T.lo=0)(hN:9010<N):Lw E M (F7 E D (AZ E D) N):=by
 intro U s ht hu;obtain⟨U0,e0,f0,a0,n0⟩:=Ia ht zM;have u0:KF E U0:=hu.fr f0 (λ_ h=>h.elim);have hl:=hL U0 s f0.tidy u0;have hlr:=@Kb M s;have hle:=@W2 M s;unfold zM at e0 a0;cases hx:IK M s with
 | error e=>
  rw[Wl hx];rw[hx]at hl;obtain⟨x,g1,f1⟩:=hl;have he:=hle hx;have d1:decide (e.2=0)=false:=decide_eq_false he;have a1:=f1.at_ a0 f0.tidy (λh=>h);have le1:=f1.le;obtain⟨U2,g2,a2,f2⟩:=Jo (n:=5) (o:=0) (v := .agg zM) (l':=zM) f1.tidy a1 rfl rfl;unfold zM at g2 a2;have l2:=ld5 (E:=E) a2;show ∃U',Zd E D (AZ E D) (YK E D (AZ E D) N) s U=_/\_;refine⟨U2,?_,(f0.trans f1 (λ_ _ h=>h)).trans f2 (λb B e=>by omega)⟩;have Y:∀K,Zd E D (AZ E D) K s U=some (.tup [.agg [.str (BS.mk 0 0),.int .i64 (AA 0),.nils,.nils,.nils],.int .i64 (AA e.1),.int .i64 (AA e.2)],U2):=by
   intro K;unfold Zd;simp only[↓rP,rA,AE,AF,AD,↓e0,↓g1,d1,↓g2,↓l2]
  exact Y _
 | ok ts=>
  rw[hx]at hl;obtain⟨v,x,g1,dv1,nv1,f1⟩:=hl;obtain⟨hts,_⟩:=hlr hx;have le1:=f1.le;have vl:∀b,AS v b->b<x.next:=λb B=>dv1.lt f1.tidy B;obtain⟨U2,e2,f2,a2,n2⟩:=Ia f1.tidy (II v 0 R0);have vo:v.one=true:=dv1.one;have fl:=λJ=>AH0 (a := .int .i64 (AA 0)) (b := .str ⟨0,0⟩) (c := .int .i64 (AA 0)) (d := .nils) (e := .nils) (f := .nils) (g := .int .i64 (AA 0)) (h := .int .i64 (AA 0)) dv1.one J;have hp:Pm U2 x.next v ts ts R0 [] ([],[]):=by
   refine⟨⟨⟨⟨0,a2,rfl⟩,dv1.src.fr f2 f1.tidy (λ_ _ h=>h),?_,λb B=>by have:=vl b B;omega,hts,f2.tidy⟩,⟨[],ES.nil _ _,rfl,λk nd u hn=>by cases hn⟩,λb h=>h.elim⟩,ES.nil _ _,ES.nil _ _,λb h=>h.elim,λb h=>h.elim⟩;obtain⟨p,e,rfl,_⟩:=hts.fin;simp
  have nm0:∀b,¬MB R0 b:=λb h=>by rcases h with h | h | h<;>exact h.elim
  have e2:B9 x (.cells [v,.int .i64 (AA 0),.str ⟨0,0⟩,.int .i64 (AA 0),.nils,.nils,.nils,.int .i64 (AA 0),.int .i64 (AA 0)])=U2:=e2;have hfew:=hp.p.p.few;obtain⟨U3,g3,p3,f3⟩:=hK 1 hp.p.p;have s3:=hp.go p3 f3;have le3:=Lb 1 ts (0,0);rw[show R0.er=(0,0)from rfl]at g3 p3 s3;obtain⟨i3,hi3⟩:∃r,Dz 1 ts (0,0)=r:=⟨_,rfl⟩;rw[hi3]at g3 p3 s3 le3;obtain⟨w,l3,Z⟩:=i3;simp only[]at g3 p3 s3 le3;obtain⟨U4,g4,h4,f4⟩:=s3.p.cel (off:=2) (y := .str (BO w)) (BO w) R0.tg ⟨rfl,rfl⟩ (by decide) (λ_=>rfl);have h4:Pm U4 x.next v ts l3 ⟨BO w,0,.nils,.nils,.nils,Z⟩ [] ([],[]):=h4;obtain⟨U5,g5,p5,f5⟩:=hM (BS.mk 11 100710650190388740279911748) h4.p.p;have s5:=h4.go p5 f5;have le5:=DJ (BS.mk 11 100710650190388740279911748) l3 Z;rw[show (⟨BO w,0,.nils,.nils,.nils,Z⟩:Rp).er=Z from rfl]at p5 s5;obtain⟨i5,hi5⟩:∃r,CG (BS.mk 11 100710650190388740279911748) l3 Z=r:=⟨_,rfl⟩;rw[hi5]at p5 s5 le5;obtain⟨l5,R⟩:=i5;simp only[]at p5 s5 le5;have h5:Pm U5 x.next v ts l5 ⟨BO w,0,.nils,.nils,.nils,R⟩ [] ([],[]):=s5.p;obtain⟨R6,U6,g6,h6,hR6,f6⟩:=AG2 (rb:=U.next) hI hM h5 rfl (YK E D (AZ E D) N);have le6:=ur l5 R;rw[show (⟨BO w,0,.nils,.nils,.nils,R⟩:Rp).er=R from rfl]at h6 hR6;obtain⟨i6,hi6⟩:∃r,NI l5 R=r:=⟨_,rfl⟩;rw[hi6]at h6 hR6 le6;obtain⟨W,l6,er6⟩:=i6;simp only[]at h6 hR6 le6;subst hR6;have K0:Zd E D (AZ E D) (YK E D (AZ E D) N) s U=YK E D (AZ E D) N U.next 0 x.next 0 U6:=by
   have Y:∀K1,Zd E D (AZ E D) K1 s U=(BT (D 14 [.ptr x.next 0,.str (BS.mk 8 6073459554577832005)] U5) λu47 s48=>CN u47 λx49=>AG x49 (
     BT (D 13 [.ptr x.next 0,.str (BS.mk 4 1397178708)] s48) λu50 s51=>HV u50 λl52=>BD l52 (K1 U.next 0 x.next 0 s51)) (
     BT (D 14 [.ptr x.next 0,.str (BS.mk 8 6073459554577829193)] s48) λu53 s54=>CN u53 λx55=>AG x55 (
      Cg 1 x.next 3 (V.int .i64 (AA 1)) s54 λs56=>BT (D 13 [.ptr x.next 0,.str (BS.mk 4 1397178708)] s56) λu57 s58=>HV u57 λl59=>BD l59 (K1 U.next 0 x.next 0 s58)) (
      BT (D 14 [.ptr x.next 0,.str (BS.mk 9 1241215773001651606849)] s54) λu60 s61=>CN u60 λx62=>AG x62 (
       Cg 1 x.next 3 (V.int .i64 (AA 2)) s61 λs63=>BT (D 13 [.ptr x.next 0,.str (BS.mk 4 1397178708)] s63) λu64 s65=>HV u64 λl66=>BD l66 (K1 U.next 0 x.next 0 s65)) (K1 U.next 0 x.next 0 s61)))):=by
    intro K1;unfold Zd OU;simp only[↓rP,rA,AE,AF,AD,↓e0,↓g1,↓fl,↓e2,↓g3,↓g4,↓g5,vo]
   rw[Y];exact g6
  obtain⟨U7,g7,p7,f7⟩:=hM (BS.mk 3 4012602) h6.p.p;have s7:=h6.go p7 f7;have le7:=DJ (BS.mk 3 4012602) l6 er6;rw[show (⟨BO w,W,.nils,.nils,.nils,er6⟩:Rp).er=er6 from rfl]at p7 s7;obtain⟨i7,hi7⟩:∃r,CG (BS.mk 3 4012602) l6 er6=r:=⟨_,rfl⟩;rw[hi7]at p7 s7 le7;obtain⟨l7,S⟩:=i7;simp only[]at p7 s7 le7;have h7:Pm U7 x.next v ts l7 ⟨BO w,W,.nils,.nils,.nils,S⟩ [] ([],[]):=s7.p;obtain⟨U8,g8,p8,f8⟩:=hM (BS.mk 5 336236856642) h7.p.p;have s8:=h7.go p8 f8;have le8:=DJ (BS.mk 5 336236856642) l7 S;rw[show (⟨BO w,W,.nils,.nils,.nils,S⟩:Rp).er=S from rfl]at p8 s8;obtain⟨i8,hi8⟩:∃r,CG (BS.mk 5 336236856642) l7 S=r:=⟨_,rfl⟩;rw[hi8]at p8 s8 le8;obtain⟨l8,er8⟩:=i8;simp only[]at p8 s8 le8;have h8:Pm U8 x.next v ts l8 ⟨BO w,W,.nils,.nils,.nils,er8⟩ [] ([],[]):=s8.p;obtain⟨C,U9,g9,s9⟩:=AIZ (E:=E) (N:=N) hTk hP hK hI hFl hM hT hT0 hN U.next h8;rw[show (⟨BO w,W,.nils,.nils,.nils,er8⟩:Rp).er=er8 from rfl]at s9;obtain⟨i9,hi9⟩:∃r,Om T l8 er8=r:=⟨_,rfl⟩;rw[hi9]at s9;obtain⟨z,l9,X,Q⟩:=i9;simp only[]at s9;have hmod:Wz JN ts (0,0)=((w,W,z,Q),LX l9 X):=by
   rw[<-hTe];exact vj hi3 hi5 hi6 hi7 hi8 hi9
  have P:∀b,MB C b->U8.next<=b:=λb B=>(s9.m b B).elim (λe=>by rcases e with e | e | e<;>exact e.elim) id;obtain⟨Ua,ga,A,fa⟩:=AHj (E:=E) (N:=N) hP hFl U.next s9.p;rw[s9.er]at A;have K1:YK E D (AZ E D) N U.next 0 x.next 0 U6=Zc E D (AZ E D) U.next 0 x.next 0 Ua:=by
   have Y:∀K3,wx E D (AZ E D) K3 U.next 0 x.next 0 U6=K3 U.next 0 x.next 0 U8:=by
    intro K3;unfold wx;simp only[↓rP,rS,↓g7,↓g8]
   show wx E D (AZ E D) (Zk E D (AZ E D) N N) U.next 0 x.next 0 U6=_;rw[Y,g9,ga]
  have le2:=f2.le;have f28:Fr (λb=>b=x.next) U2 U8:=((((f3.trans f4 (λ_ _ h=>h)).trans f5 (λ_ _ h=>h)).trans f6 (λ_ _ h=>h)).trans f7 (λ_ _ h=>h)).trans f8 (λ_ _ h=>h);have f29:Fr (λb=>b=x.next) U2 U9:=f28.trans s9.f (λb B e=>by
   rcases e with e|e|e|e
   ·exact e
   ·exact e.elim
   ·exact e.elim
   ·exact e.elim)
  have f2a:=f29.trans fa (λ_ _ h=>h);have lea:=f28.le;have a3:DQ Ua U.next [.str (BS.mk 0 0),.int .i64 (AA 0),.nils,.nils,.nils]:=f2a.at_ (f2.at_ (f1.at_ a0 f0.tidy (λh=>h)) f1.tidy (λh=>h)) f2.tidy (by omega);have f0a:Fr Af U Ua:=((f0.trans f1 (λ_ _ h=>h)).trans f2 (λ_ _ h=>h)).trans f2a (λb B e=>by omega);obtain⟨a,ha,_⟩:=A.p.p.ex;have r7:∀J:V->AH,Ee E Ua x.next 7 J=J (.int .i64 (AA (LX l9 X).1)):=λJ=>by
   have h:=ha;unfold II at h;exact(AT h).trans rfl
  have goal0:F7 E D (AZ E D) N [.str s] U=Zc E D (AZ E D) U.next 0 x.next 0 Ua:=K0.trans K1;rw[goal0];rw[ZB hx hmod];cases hok:decide ((LX l9 X).1=0)with
  | false=>
   show ∃U',_;obtain⟨e',U4',g4',t2,t3,t4,a4,L⟩:=lq (E:=E) (D:=D) A.p.p.ht ha a3 (by omega);unfold zM at a4;have l4:=ld5 (E:=E) a4;refine⟨U4',?_,f0a.trans L (λb B e=>by omega)⟩;have gd:∀J:Cb->H->AH,DZ (AZ E D jo si [(2,.ptr U.next 0),(8,.ptr x.next 0)] Ua) J=J e' U4':=λJ=>by rw[g4'];rfl
   have m2:∀J:V->AH,EO e' 2 J=J (.ptr U.next 0):=λJ=>D4 t2 rfl;have m3:∀J:V->AH,EO e' 3 J=J (.int .i64 (AA (LX l9 X).2)):=λJ=>D4 t3 rfl;have m4:∀J:V->AH,EO e' 4 J=J (.int .i64 (AA (LX l9 X).1)):=λJ=>D4 t4 rfl;unfold Zc;simp only[↓rP,rA,AE,AF,AD,↓r7,hok,↓gd,↓m2,↓m3,↓m4,↓l4]
  | true=>
   show ∃nv tv dv U',_;have no:=A.n.one;have to:=A.t.one;have dn:∃ws:List (V × FV),ES Ua 16 Q.length C.dv (HO Q ws)/\ws.length=Q.length/\∀(k:Nat) (nd:AM) (u:V × FV),Q[k]? = some nd->ws[k]? = some u->qt Ua x.next C.dv (λb=>(AS C.nv b\/AS C.tv b)\/b<x.next) nd u:=A.p.w;obtain⟨ws,k1,k2,k3⟩:=dn;have do_:=k1.one;have q1:C.nm=BO w:=s9.nm;have q2:C.tg=W:=s9.tg;obtain⟨U4',g4',a4,L⟩:=Jo (n:=5) (o:=0) (v := .agg [.str (BO w),.int .i64 W,C.nv,C.tv,C.dv]) (l':=[.str (BO w),.int .i64 W,C.nv,C.tv,C.dv]) A.p.p.ht a3 (by
    show (Ax 5 5&&Ac (AN 0 5) 5&&BM [.str (BO w),.int .i64 W,C.nv,C.tv,C.dv])=true;simp only[BW,Bg,Ed,FF,no,to,do_,Au];rw[show C.nv.one=true from no,show C.tv.one=true from to];rfl) rfl
   have l4:=ld5 (E:=E) a4;have l3':∀J:List V->AH,Dt E Ua x.next 2 5 J=J [.str (BO w),.int .i64 W,C.nv,C.tv,C.dv]:=λJ=>by
    rw[Ev ha,<-q1,<-q2];rfl
   refine⟨C.nv,C.tv,C.dv,U4',?_,⟨A.n.fr L A.p.p.ht (λb B e=>by have:=P b (.inr (.inl B));omega),A.t.src.fr L A.p.p.ht (λb B e=>by have:=P b (.inr (.inr B));omega),⟨ws,k1.src.fr L A.p.p.ht (λb B e=>by have:=P b (.inl B);omega),k2,λk nd u hn hw=>?_⟩⟩,λb B=>?_,f0a.trans L (λb B e=>by omega)⟩
   ·unfold Ym
    unfold Zc;simp only[↓rP,rA,AE,AF,AD,↓r7,hok,↓l3',↓g4',↓l4]
   ·have hN:=k3 k nd u hn hw
    have hM:=hN.fr L A.p.p.ht λb B e=>(hN.n b B).2.2 (.inr (by omega));exact⟨hM.i,hM.f,hM.g⟩
   ·rcases B with B|B|B
    ·have:=P b (.inr (.inl B));omega
    ·have:=P b (.inr (.inr B));omega
    ·have:=P b (.inl B);omega
end
def sw(e:Er):Er:=(e.2,e.1)
theorem CU{e:Er}(h:e.2≠0):(sw e).1≠0:=h
def TkZ(t:Ad):Prop:=(t.1=5->Em (t.2.1.headD 0)=true)/\(t.1=6->Em (t.2.1.headD 0)=false)/\∀c∈t.2.1,c<256
structure Zt(l:List Ad):Prop where
 fin:∃p e,l=p++[e]/\e.1=0/\∀t∈p,t.1≠0
 z:∀t∈l,TkZ t
theorem Zt.nx{l:List Ad}(h:Zt l)(r:(BJ l).1≠0):Zt (Fh l)/\(Fh l).length+1<=l.length:=by
 obtain⟨p,e,b,n,o⟩:=h.fin;cases p with
 | nil=>rw[IW]at b;subst b;exact absurd n r | cons t p=>
  have b:=b;have q:Fh l=p++[e]:=by
   rw[b];cases p with
   | nil=>rfl | cons u p=>rfl
  rw[q];refine⟨⟨⟨p,e,rfl,n,λt j=>o t (Ar _ j)⟩,λt j=>h.z t ?_⟩,by rw[b];simp⟩;rw[b];exact Ar _ j
theorem G6{s l}(h:FE s l=true):(BJ l).1=5\/(BJ l).1=6:=by
 unfold FE at h;rw[AI,B5,decide_eq_true_eq,decide_eq_true_eq]at h;exact h.1
theorem H3 s l:Ew s l (0,0)=CP s l:=rfl
theorem D3{l:List Ad}(h:Zt l) s:(∃l',CP s l=(true,l')/\Zt l'/\l'.length+1<=l.length)\/CP s l=(false,l):=by
 unfold CP;cases j:FE s l with
 | true=>
  obtain⟨g,i⟩:=h.nx (by rcases G6 j with e|e<;>rw[e]<;>decide);exact .inl ⟨_,rfl,g,i⟩
 | false=>exact .inr rfl
theorem DT{l:List Ad}(h:Zt l) s:(∃l',(∀b,Ao (s::b) l (0,0)=Ao b l' (0,0))/\CG s l (0,0)=(l',(0,0))/\Zt l'/\l'.length+1<=l.length) \/
  (∃n er m,(∀b,Ao (s::b) l (0,0)=(false,n,er))/\CG s l (0,0)=(m,sw er)/\er.2≠0):=by
 cases c:FE s l with
 | true=>
  obtain⟨j,k⟩:=h.nx (by rcases G6 c with e|e<;>rw[e]<;>decide);refine .inl ⟨Fh l,λb=>?_,?_,j,k⟩
  ·show (match FE s l with | true=>_ | false=>_)=_
   rw[c]
  ·show (match FE s l with | true=>_ | false=>_:List Ad × Er)=_
   rw[c]
 | false=>
  refine .inr ⟨l,((BJ l).2.2,7),l,λb=>?_,?_,by show 7≠0;decide⟩
  ·show (match FE s l with | true=>_ | false=>_)=_
   rw[c];rfl
  ·show (match FE s l with | true=>_ | false=>_:List Ad × Er)=_
   rw[c];rfl
theorem P9{l:List Ad}(h:Zt l){k}(j:k≠0):(∃l',Jk k l (0,0)=(true,l',(0,0))/\Dz k l (0,0)=((BJ l).2.1,l',(0,0))/\Zt l'/\l'.length+1<=l.length) \/
  (∃o er i,Jk k l (0,0)=(false,o,er)/\Dz k l (0,0)=([],i,sw er)/\er.2≠0):=by
 cases c:decide ((BJ l).1=k)with
 | true=>
  obtain⟨n,m⟩:=h.nx (by rw[of_decide_eq_true c];exact j);refine .inl ⟨Fh l,?_,?_,n,m⟩
  ·unfold Jk;rw[c]
  ·show (match true&&decide ((BJ l).1=k)with | true=>_ | false=>_:List Nat × List Ad × Er)=_
   rw[c];rfl
 | false=>
  refine .inr ⟨l,((BJ l).2.2,7),l,?_,?_,by show 7≠0;decide⟩
  ·unfold Jk;rw[c];rfl
  ·show (match true&&decide ((BJ l).1=k)with | true=>_ | false=>_:List Nat × List Ad × Er)=_
   rw[c];rfl
theorem VJ{l:List Ad}(h:Zt l):(∃n l',Fl l (0,0)=(true,n,l',(0,0))/\J1 l (0,0)=(n,l',(0,0))/\Zt l'/\l'.length+1<=l.length) \/
  (∃n s er m r,Fl l (0,0)=(false,n,s,er)/\J1 l (0,0)=(m,r,sw er)/\er.2≠0):=by
 unfold Fl J1;rcases P9 h (k:=3) (by decide)with ⟨l',a,q,p⟩|⟨s,er,r,a,q,p⟩
 ·rw[q]
  unfold Jk at a;cases i:decide ((BJ l).1=3)with
  | true=>
   rw[i]at a;simp only[Prod.mk.injEq,true_and]at a;exact .inl ⟨_,l',by rw[<-a.1],rfl,p⟩
  | false=>rw[i]at a;simp only[Prod.mk.injEq]at a;exact absurd a.1 (by decide)
 ·rw[q]
  unfold Jk at a;cases i:decide ((BJ l).1=3)with
  | true=>rw[i]at a;simp only[Prod.mk.injEq]at a;exact absurd a.1 (by decide) | false=>
   rw[i]at a;simp only[Prod.mk.injEq,true_and]at a;obtain⟨rfl,a⟩:=a;exact .inr ⟨0,l,er,_,r,by rw[<-a],rfl,p⟩
theorem wn l er:Ao [] l er=(true,l,er):=rfl
theorem ABE{l:List Ad}(h:Zt l):(∃c l',MV ⟨true,false,false,false,0,0⟩ l (0,0)=(true,c,l',(0,0))/\LY l (0,0)=(c,l',(0,0))/\(c.hasHigh=false/\c.high=0/\(c.hasLow=false->c.low=0))/\Zt l'/\l'.length<=l.length) \/
  (∃c q er x r,MV ⟨true,false,false,false,0,0⟩ l (0,0)=(false,c,q,er)/\LY l (0,0)=(x,r,sw er)/\er.2≠0):=by
 unfold MV LY;rw[H3];rcases D3 h (BS.mk 3 5130573)with ⟨q,o,t,v⟩|o
 ·simp only[o]
  exact .inl ⟨_,_,rfl,rfl,⟨rfl,rfl,λ_=>rfl⟩,t,by omega⟩
 ·simp only[o]
  rcases VJ h with ⟨n,l',p,j,u,w⟩|⟨n,q,er,m,r,p,j,s⟩
  ·simp only[p,j]
   exact .inl ⟨_,_,rfl,rfl,⟨rfl,rfl,λe=>by cases e⟩,u,by omega⟩
  ·simp only[p,j]
   exact .inr ⟨_,_,_,_,_,rfl,rfl,s⟩
theorem wC{l:List Ad}(h:Zt l){c:FB}(x:c.hasHigh=false/\c.high=0/\(c.hasLow=false->c.low=0)):(∃j l',IT c l (0,0)=(true,j,l',(0,0))/\HW c l (0,0)=(j,l',(0,0))/\Zt l'/\l'.length<=l.length) \/
  (∃j u er w t,IT c l (0,0)=(false,j,u,er)/\HW c l (0,0)=(w,t,sw er)/\er.2≠0):=by
 unfold IT HW;rw[H3];rcases D3 h (BS.mk 2 11822)with ⟨u,o,v,z⟩|o
 ·simp only[o,H3]
  rcases D3 v (BS.mk 3 5783885)with ⟨t,q,y,B⟩|q
  ·simp only[q]
   exact .inl ⟨_,_,rfl,rfl,y,by omega⟩
  ·simp only[q]
   rcases VJ v with ⟨n,l',r,s,C,D⟩|⟨n,I,er,m,l4,r,s,F⟩
   ·simp only[r,s]
    exact .inl ⟨_,_,rfl,rfl,C,by omega⟩
   ·simp only[r,s]
    exact .inr ⟨_,_,_,_,_,rfl,rfl,F⟩
 ·simp only[o]
  obtain⟨c0,A,w,G,K,J⟩:=c;obtain⟨rfl,rfl,i⟩:=x;simp only[]at i ⊢;cases A with
  | true=>exact .inl ⟨_,_,rfl,rfl,h,AL _⟩ | false=>exact .inl ⟨_,_,rfl,by rw[i rfl],h,AL _⟩
theorem wJ{l:List Ad}(h:Zt l) c:(∃g l',JR c l (0,0)=(true,g,l',(0,0))/\Kp c l (0,0)=(g,l',(0,0))/\Zt l'/\l'.length<=l.length) \/
  (∃g n er u t,JR c l (0,0)=(false,g,n,er)/\Kp c l (0,0)=(u,t,sw er)/\er.2≠0):=by
 unfold JR Kp;rw[H3];rcases D3 h (BS.mk 1 44)with ⟨n,k,o,s⟩|k
 ·simp only[k]
  rcases DT o (BS.mk 3 3026478)with ⟨l',j,m,r,p⟩|⟨v,er,l4,j,m,q⟩
  ·simp only[j,m,wn]
   exact .inl ⟨_,_,rfl,rfl,r,by omega⟩
  ·simp only[j,m]
   exact .inr ⟨_,_,_,_,_,rfl,rfl,q⟩
 ·simp only[k]
  exact .inl ⟨_,_,rfl,rfl,h,AL _⟩
theorem XA{er:Er}(c:FB) l (h:er.1≠0):∃g,HW c l er=(g,l,er):=by
 unfold HW;rw[HC _ _ h];simp only[];cases c.hasLow<;>exact⟨_,rfl⟩
theorem RK{er:Er} c l (h:er.1≠0):Kp c l er=(c,l,er):=by
 unfold Kp;rw[HC _ _ h]
theorem oK{l:List Ad}(h:Zt l):(∃c l',Dc Of l (0,0)=(true,c,l',(0,0))/\Jb l (0,0)=(c,l',(0,0))/\Zt l'/\l'.length<=l.length) \/
  (∃c j er m i,Dc Of l (0,0)=(false,c,j,er)/\Jb l (0,0)=(m,i,sw er)/\er.2≠0):=by
 have e:Dc Of l (0,0)=(match MV ⟨true,false,false,false,0,0⟩ l (0,0)with
  | (false,o,j,er1)=>(false,o,j,er1) | (true,o,j,er1)=>match IT o j er1 with
   | (false,m,i,k)=>(false,m,i,k) | (true,m,i,k)=>JR m i k):=rfl
 rw[e];unfold Jb;rcases ABE h with ⟨o,j,v,w,G,I,B⟩|⟨o,j,er,m,i,v,w,g⟩
 ·simp only[v,w]
  rcases wC I G with ⟨t,D,n,s,A,C⟩|⟨t,D,er,M,l4,n,s,g⟩
  ·simp only[n,s]
   rcases wJ A t with ⟨z,E,u,x,F,y⟩|⟨z,E,er,K,L,u,x,g⟩
   ·exact .inl ⟨_,_,u,x,F,by omega⟩
   ·exact .inr ⟨_,_,_,_,_,u,x,g⟩
  ·simp only[n,s,RK _ _ (CU g)]
   exact .inr ⟨_,_,_,_,_,rfl,rfl,g⟩
 ·obtain⟨t,n⟩:=XA m i (CU g)
  simp only[v,w,n,RK _ _ (CU g)];exact .inr ⟨_,_,_,_,_,rfl,rfl,g⟩
theorem dI{er:Er} l (h:er.1≠0):∃c,Jb l er=(c,l,er):=by
 unfold Jb LY;simp only[HC _ _ h,vZ _ h];obtain⟨i,g⟩:=XA ⟨true,true,false,false,0,0⟩ l h;simp only[g];exact⟨_,RK _ _ h⟩
theorem Y4{l:List Ad}(h:Zt l):(∃c l',Ea Of l (0,0)=(true,c,l',(0,0))/\Ix l (0,0)=(c,l',(0,0))/\Zt l'/\l'.length<=l.length) \/
  (∃c x er y k,Ea Of l (0,0)=(false,c,x,er)/\Ix l (0,0)=(y,k,sw er)/\er.2≠0):=by
 unfold Ea Ix;rw[H3];rcases D3 h (BS.mk 1 40)with ⟨x,u,B,G⟩|u
 ·simp only[u]
  rcases DT B (BS.mk 4 1163544915)with ⟨k,v,t,L,D⟩|⟨k,er,I,v,t,f⟩
  ·simp only[v,t,wn]
   rcases DT L (BS.mk 1 40)with ⟨l4,s,r,C,E⟩|⟨l4,er,M,s,r,f⟩
   ·simp only[s,r,wn]
    rcases oK C with ⟨c,N,i,p,A,Q⟩|⟨c,N,er,y,S,i,p,f⟩
    ·simp only[i,p]
     rcases DT A (BS.mk 1 41)with ⟨O,m,n,J,z⟩|⟨O,er,T,m,n,f⟩
     ·simp only[m,n,wn]
      rcases DT J (BS.mk 1 41)with ⟨F,o,q,K,P⟩|⟨F,er,U,o,q,f⟩
      ·simp only[o,q,wn]
       exact .inl ⟨_,_,rfl,rfl,K,by omega⟩
      ·simp only[o,q]
       exact .inr ⟨_,_,_,_,_,rfl,rfl,f⟩
     ·simp only[m,n,C3 _ _ (CU f)]
      exact .inr ⟨_,_,_,_,_,rfl,rfl,f⟩
    ·simp only[i,p,C3 _ _ (CU f)]
     exact .inr ⟨_,_,_,_,_,rfl,rfl,f⟩
   ·obtain⟨c,i⟩:=dI M (CU f)
    simp only[s,r,i,C3 _ _ (CU f)];exact .inr ⟨_,_,_,_,_,rfl,rfl,f⟩
  ·obtain⟨c,i⟩:=dI I (CU f)
   simp only[v,t,i,C3 _ _ (CU f)];exact .inr ⟨_,_,_,_,_,rfl,rfl,f⟩
 ·simp only[u]
  exact .inl ⟨_,_,rfl,rfl,h,AL _⟩
theorem u4{er:Er} l (h:er.1≠0):∃c,Ix l er=(c,l,er):=by
 unfold Ix;rw[HC _ _ h];exact⟨_,rfl⟩
theorem ABJ{l:List Ad}(h:Zt l):(∃x l',Fo l (0,0)=(true,x,l',(0,0))/\Nf l (0,0)=(x,l',(0,0))/\Zt l'/\l'.length+1<=l.length) \/
  (∃x u er A v,Fo l (0,0)=(false,x,u,er)/\Nf l (0,0)=(A,v,sw er)/\er.2≠0):=by
 unfold Fo Nf;rcases P9 h (k:=2) (by decide)with ⟨u,j,t,w,p⟩|⟨u,er,v,j,t,e⟩
 ·simp only[j,t,H3]
  rcases D3 w (BS.mk 1 40)with ⟨G,r,E,F⟩|r
  ·simp only[r]
   rcases VJ E with ⟨n,l4,g,q,C,z⟩|⟨n,l4,er,m,J,g,q,e⟩
   ·simp only[g,q,Dj]
    rcases DT C (BS.mk 1 41)with ⟨y,i,o,D,B⟩|⟨y,er,I,i,o,e⟩
    ·simp only[i,o,wn]
     exact .inl ⟨_,_,rfl,rfl,D,by omega⟩
    ·simp only[i,o]
     exact .inr ⟨_,_,_,_,_,rfl,rfl,e⟩
   ·simp only[g,q,Dj,C3 _ _ (CU e)]
    exact .inr ⟨_,_,_,_,_,rfl,rfl,e⟩
  ·simp only[r]
   exact .inl ⟨_,_,rfl,rfl,w,p⟩
 ·simp only[j,t,HC _ _ (CU e)]
  exact .inr ⟨_,_,_,_,_,rfl,rfl,e⟩
theorem AAt{l:List Ad}(h:Zt l)(s:IS):(∃n l',GN s l (0,0)=(true,n,l',(0,0))/\OR s l (0,0)=(n,l',(0,0))/\Zt l'/\l'.length+1<=l.length) \/
  (∃w j er t c,GN s l (0,0)=(false,w,j,er)/\OR s l (0,0)=(t,c,sw er)/\er.2≠0):=by
 unfold GN OR;have m:∀i,Zt i->i.length<=l.length->(∃n l',(match Fo i (0,0)with | (false,_,c,a)=>(false,s,c,a) | (true,x,c,a)=>(true,(s.1++[x],s.2.1,s.2.2),c,a):Bool × IS × List Ad × Er)=(true,n,l',(0,0))/\(match Nf i (0,0)with | (x,c,a)=>((s.1++[x],s.2.1,s.2.2),c,a):IS × List Ad × Er)=(n,l',(0,0))/\Zt l'/\l'.length+1<=l.length) \/
   (∃w j er t c,(match Fo i (0,0)with | (false,_,c,a)=>(false,s,c,a) | (true,x,c,a)=>(true,(s.1++[x],s.2.1,s.2.2),c,a):Bool × IS × List Ad × Er)=(false,w,j,er)/\(match Nf i (0,0)with | (x,c,a)=>((s.1++[x],s.2.1,s.2.2),c,a):IS × List Ad × Er)=(t,c,sw er)/\er.2≠0):=by
  intro i y A;rcases ABJ y with ⟨x,j,g,v,q,k⟩|⟨x,j,er,B,c,g,v,z⟩
  ·simp only[g,v]
   exact .inl ⟨_,_,rfl,rfl,q,by omega⟩
  ·simp only[g,v]
   exact .inr ⟨_,_,_,_,_,rfl,rfl,z⟩
 cases C:decide (0<s.1.length) && !s.2.1 with
 | true=>
  simp only[H3];rcases D3 h (BS.mk 3 3026478)with ⟨j,g,q,k⟩|g
  ·simp only[g]
   exact .inl ⟨_,_,rfl,rfl,q,k⟩
  ·simp only[g]
   exact m l h (AL _)
 | false=>exact m l h (AL _)
theorem ABI:∀n m {l:List Ad} s,Zt l->l.length<n->l.length<m ->
  (∃E l' r,GG n s l (0,0)=(true,E,l',(0,0))/\MW m s l (0,0)=(E,r,(0,0))/\CG (BS.mk 1 125) r (0,0)=(l',(0,0))/\Zt l'/\l'.length<=l.length) \/
  (∃w F er G y u I,GG n s l (0,0)=(false,w,F,er)/\MW m s l (0,0)=(G,y,u)/\CG (BS.mk 1 125) y u=(I,sw er)/\er.2≠0):=by
 intro n;induction n with
 | zero=>intro m l s h M;omega | succ n P=>
  intro m l s h M hm;obtain⟨m,rfl⟩:∃j,m=j+1:=⟨m-1,by omega⟩;unfold GG MW;simp only[decide_true];rcases AAt h s with ⟨w,F,C,D,J,T⟩|⟨w,F,er,G,y,C,D,v⟩
  ·simp only[C,D,H3]
   rcases D3 J (BS.mk 1 44)with ⟨I,z,N,W⟩|z
   ·simp only[z]
    rcases P m w N (by omega) (by omega)with ⟨E,l',r,a,b,c,d,e⟩|⟨a1,Z,a3,Y,a5,a6,a7,S,U,Q,X⟩
    ·exact .inl ⟨_,_,_,a,b,c,d,by omega⟩
    ·exact .inr ⟨_,_,_,_,_,_,_,S,U,Q,X⟩
   ·simp only[z]
    unfold jQ jP;rcases DT J (BS.mk 1 125)with ⟨l4,B,A,R,O⟩|⟨l4,er,l5,B,A,v⟩
    ·simp only[B,wn]
     exact .inl ⟨_,_,_,rfl,rfl,A,R,by omega⟩
    ·simp only[B]
     exact .inr ⟨_,_,_,_,_,_,_,rfl,rfl,A,v⟩
  ·simp only[C,D,HC _ _ (CU v)]
   exact .inr ⟨_,_,_,_,_,_,_,rfl,rfl,C3 _ _ (CU v),v⟩
theorem AAn{l:List Ad}(h:Zt l):(∃v l',Ks l (0,0)=(true,v,l',(0,0))/\MQ l (0,0)=(v,l',(0,0))/\Zt l'/\l'.length<=l.length) \/
  (∃v r er x y,Ks l (0,0)=(false,v,r,er)/\MQ l (0,0)=(x,y,sw er)/\er.2≠0):=by
 unfold Ks MQ;simp only[decide_true];rcases D3 h (BS.mk 4 1163219540)with ⟨r,u,m,k⟩|u
 ·simp only[u]
  exact .inl ⟨_,_,rfl,rfl,m,by omega⟩
 simp only[u];rcases D3 h (BS.mk 5 297750249798)with ⟨r,t,m,k⟩|t
 ·simp only[t]
  exact .inl ⟨_,_,rfl,rfl,m,by omega⟩
 simp only[t];rcases D3 h (BS.mk 4 1280070990)with ⟨r,w,m,k⟩|w
 ·simp only[w]
  exact .inl ⟨_,_,rfl,rfl,m,by omega⟩
 simp only[w];have q:(BJ l).1≠0->Zt (Fh l)/\(Fh l).length<=l.length:=λe=>⟨(h.nx e).1,by have:=(h.nx e).2;omega⟩;by_cases j:(BJ l).1=3
 ·have e:Fl l (0,0)=(true,Pt (BJ l).2.1,Fh l,(0,0)):=by unfold Fl;rw[decide_eq_true j]
  simp only[decide_eq_true j,e];exact .inl ⟨_,_,rfl,rfl,q (by rw[j];decide)⟩
 ·by_cases n:(BJ l).1=2
  ·simp only[decide_eq_false j,decide_eq_true n]
   exact .inl ⟨_,_,rfl,rfl,q (by rw[n];decide)⟩
  ·by_cases o:(BJ l).1=7
   ·simp only[decide_eq_false j,decide_eq_false n,decide_eq_true o,decide_eq_false (show ¬(BJ l).1=4 by omega)]
    exact .inl ⟨_,_,rfl,rfl,q (by rw[o];decide)⟩
   ·by_cases s:(BJ l).1=4
    ·simp only[decide_eq_false j,decide_eq_false n,decide_eq_false o,decide_eq_true s]
     exact .inl ⟨_,_,rfl,rfl,q (by rw[s];decide)⟩
    ·simp only[decide_eq_false j,decide_eq_false n,decide_eq_false o,decide_eq_false s]
     exact .inr ⟨_,_,_,_,_,rfl,rfl,by show 7≠0;decide⟩
theorem dA{er:Er} nd w g i l (h:er.1≠0):∃x l',RB nd w g i l er=(x,l',er):=by
 have d:=(nQ nd w g i l er).2 h;generalize RB nd w g i l er=r at d ⊢;obtain⟨x,l',e⟩:=r;exact⟨x,l',by rw[show e=er from d]⟩
theorem ABO{l:List Ad}(h:Zt l)(nd:AM) w g i:(∃x l',Pv nd w g i l (0,0)=(true,x,l',(0,0))/\RB nd w g i l (0,0)=(x,l',(0,0))/\Zt l'/\l'.length<=l.length) \/
  (∃x q er s p,Pv nd w g i l (0,0)=(false,x,q,er)/\RB nd w g i l (0,0)=(s,p,sw er)/\er.2≠0):=by
 unfold Pv RB;cases decide (nd.kind=9)with
 | true=>exact .inl ⟨_,_,rfl,rfl,h,AL _⟩ | false=>
  simp only[H3];rcases D3 h (BS.mk 8 5494759122808361039)with ⟨q,j,u,t⟩|j
  ·simp only[j]
   exact .inl ⟨_,_,rfl,rfl,u,by omega⟩
  ·simp only[j,H3]
   rcases D3 h (BS.mk 7 23727827094750532)with ⟨p,o,B,r⟩|o
   ·simp only[o]
    rcases AAn B with ⟨v,C,k,n,z,A⟩|⟨v,C,er,D,l4,k,n,y⟩
    ·simp only[k,n]
     exact .inl ⟨_,_,rfl,rfl,z,by omega⟩
    ·simp only[k,n]
     exact .inr ⟨_,_,_,_,_,rfl,rfl,y⟩
   ·simp only[o]
    exact .inl ⟨_,_,rfl,rfl,h,AL _⟩
def oZ(T:DA)(T':Da):Prop:=∀d (l:List Ad) b,Zt l->l.length<=9000 ->
 (∃i l' a,T.go d l (0,0) b=(true,i,l',(0,0),a)/\T'.go d l (0,0) b=(i,l',(0,0),a)/\Zt l'/\l'.length<=l.length) \/
 (∃i g er e j f c,T.go d l (0,0) b=(false,i,g,er,e)/\T'.go d l (0,0) b=(j,f,sw er,c)/\er.2≠0)
section
variable {T:DA}{T':Da} (hA:oZ T T') (hT:Py T')
include hA hT
theorem RG d g (nd:AM){l:List Ad} p (h:Zt l)(Q:l.length<=9000):
  (∃x l' r,Ci T d g nd l (0,0) p=(true,nd.af x,l',(0,0),r)/\E4 T' d g nd l (0,0) p=(nd.af x,l',(0,0),r)/\Zt l'/\l'.length+1<=l.length) \/
  (∃I t er y J s A,Ci T d g nd l (0,0) p=(false,I,t,er,y)/\E4 T' d g nd l (0,0) p=(J,s,sw er,A)/\er.2≠0):=by
 unfold Ci E4;rcases P9 h (k:=2) (by decide)with ⟨t,B,v,M,N⟩|⟨t,er,s,B,v,m⟩
 ·simp only[B,v]
  rcases hA (d+1) t p M (by omega)with ⟨i,G,D,q,w,K,L⟩|⟨i,G,er,D,j,l4,ns4,q,w,m⟩
  ·simp only[q,w]
   rcases ABO K nd (BJ l).2.1 g i with ⟨x,C,o,z,E,F⟩|⟨x,C,er,O,S,o,z,m⟩
   ·simp only[o,z]
    exact .inl ⟨_,_,_,rfl,rfl,E,by omega⟩
   ·simp only[o,z]
    exact .inr ⟨_,_,_,_,_,_,_,rfl,rfl,m⟩
  ·obtain⟨x,C,o⟩:=dA nd (BJ l).2.1 g j l4 (CU m)
   simp only[q,w,o];exact .inr ⟨_,_,_,_,_,_,_,rfl,rfl,m⟩
 ·have q:=hT.st (d+1) s (sw er) p (CU m)
  obtain⟨x,C,o⟩:=dA nd [] g 0 s (CU m);simp only[B,v,q,o];exact .inr ⟨_,_,_,_,_,_,_,rfl,rfl,m⟩
theorem AIF d g:∀n m (nd:AM) {l:List Ad} v,Zt l->l.length<=9000->l.length<n->l.length<m ->
  (∃t l' y,Yq T d g n nd l (0,0) v=(true,t,l',(0,0),y)/\RS T' d g m nd l (0,0) v=(t,l',(0,0),y)/\Zt l'/\l'.length+1<=l.length/\t.more=nd.more) \/
  (∃J E er s M O w,Yq T d g n nd l (0,0) v=(false,J,E,er,s)/\RS T' d g m nd l (0,0) v=(M,O,sw er,w)/\er.2≠0):=by
 intro n;induction n with
 | zero=>intro m nd l v h L U;omega | succ n Y=>
  intro m nd l v h L U hm;obtain⟨m,rfl⟩:∃j,m=j+1:=⟨m-1,by omega⟩;unfold Yq RS;simp only[decide_true];rcases RG hA hT d g nd v h L with ⟨x,E,s,B,D,N,P⟩|⟨J,E,er,s,M,O,w,B,D,z⟩
  ·simp only[B,D,H3]
   rcases D3 N (BS.mk 1 44)with ⟨l3,F,Q,aa⟩|F
   ·simp only[F]
    rcases Y m (nd.af x) s Q (by omega) (by omega) (by omega)with ⟨a,b,c,S,X,e3,e4,Z⟩|e
    ·exact .inl ⟨_,_,_,S,X,e3,by omega,Z⟩
    ·exact .inr e
   ·simp only[F]
    unfold clB;rcases DT N (BS.mk 2 23901)with ⟨l4,C,G,R,W⟩|⟨l4,er,l5,C,G,z⟩
    ·simp only[C,G,wn]
     exact .inl ⟨_,_,_,rfl,rfl,R,by omega,rfl⟩
    ·simp only[C,G]
     exact .inr ⟨_,_,_,_,_,_,_,rfl,rfl,z⟩
  ·simp only[B,D,HC _ _ (CU z),clB,C3 _ _ (CU z)]
   exact .inr ⟨_,_,_,_,_,_,_,rfl,rfl,z⟩
end
def yq(T:DA)(d n g:Nat)(nd:AM)(l:List Ad)(er:Er)(j:List AM):V8:=match Px T d n g nd l er j with
 | (b,e,k,c,f)=>match Dj b [BS.mk 1 125] k c with
  | (i,h,a)=>(i,e,h,a,f)
def Md(T':Da)(d n g:Nat)(nd:AM)(l:List Ad)(er:Er)(a:List AM):Kk:=match Ew (BS.mk 1 44) l er with
 | (true,l4)=>J5 T' d n g nd l4 er a
 | (false,l4)=>Yp nd l4 er a
theorem TF T' d n g nd l a:J5 T' d (n+1) g nd l (0,0) a=Md T' d n (Ku T' d g nd l (0,0) a).1 (Ku T' d g nd l (0,0) a).2.1 (Ku T' d g nd l (0,0) a).2.2.1 (Ku T' d g nd l (0,0) a).2.2.2.1 (Ku T' d g nd l (0,0) a).2.2.2.2:=rfl
theorem RL{T'}{er:Er} d n g nd l i (h:er.1≠0):∃b,Md T' d n g nd l er i=(b,l,er,i):=by
 unfold Md Yp;simp only[HC _ _ h,C3 _ _ h];exact⟨_,rfl⟩
section
variable {T:DA}{T':Da} (hA:oZ T T') (hT:Py T')
include hA hT
theorem AId d:∀n m g (nd:AM) {l:List Ad} t,Zt l->nd.more=true->l.length<=9000->l.length<n->l.length<m ->
  (∃nd' l' ns',yq T d n g nd l (0,0) t=(true,nd',l',(0,0),ns')/\Md T' d m g nd l (0,0) t=(nd',l',(0,0),ns')/\Zt l'/\l'.length<=l.length) \/
  (∃n1 B er ns1 n2 w z,yq T d n g nd l (0,0) t=(false,n1,B,er,ns1)/\Md T' d m g nd l (0,0) t=(n2,w,sw er,z)/\er.2≠0):=by
 intro n;induction n with
 | zero=>intro m g nd l t h hm hl hn;omega | succ n ih=>
  intro m g nd l t h y hl hn hm;obtain⟨m,rfl⟩:∃j,m=j+1:=⟨m-1,by omega⟩;rcases D3 h (BS.mk 1 44)with ⟨B,h1,z1,le1⟩|h1
  ·have eS:yq T d (n+1) g nd l (0,0) t=(match (match CP (BS.mk 2 23387) B with
    | (true,w)=>match XU T d (g+1) nd w (0,0) t with
     | (false,o,s,i,k)=>(false,o,s,i,k) | (true,o,s,i,k)=>Px T d n (g+1) o s i k
    | (false,w)=>match Ci T d 0 nd w (0,0) t with
     | (false,o,s,i,k)=>(false,o,s,i,k) | (true,o,s,i,k)=>Px T d n g o s i k:V8)with
    | (b,nd2,w,er2,z)=>match Dj b [BS.mk 1 125] w er2 with
     | (ok,s,i)=>(ok,nd2,s,i,z)):=by
    unfold yq;rw[show Px T d (n+1) g nd l (0,0) t=(match CP (BS.mk 1 44) l with
     | (false,B)=>(true,nd,B,(0,0),t) | (true,B)=>match CP (BS.mk 2 23387) B with
      | (true,w)=>match XU T d (g+1) nd w (0,0) t with
       | (false,o,s,i,k)=>(false,o,s,i,k) | (true,o,s,i,k)=>Px T d n (g+1) o s i k
      | (false,w)=>match Ci T d 0 nd w (0,0) t with
       | (false,o,s,i,k)=>(false,o,s,i,k) | (true,o,s,i,k)=>Px T d n g o s i k)from rfl,h1]
   have eR:Md T' d (m+1) g nd l (0,0) t=J5 T' d (m+1) g nd B (0,0) t:=by
    unfold Md;rw[H3,h1]
   rw[eS,eR,TF];unfold Ku;rw[y];simp only[H3];rcases D3 z1 (BS.mk 2 23387)with ⟨w,h2,z2,le2⟩|h2
   ·simp only[h2]
    have e1:XU T d (g+1) nd w (0,0) t=Yq T d (g+1) 9001 nd w (0,0) t:=by unfold XU;rfl
    have e2:brR T' d (g+1) nd w (0,0) t=RS T' d (g+1) 9001 nd w (0,0) t:=by unfold brR;rfl
    rw[e1,e2];rcases AIF hA hT d (g+1) 9001 9001 nd t z2 (by omega) (by omega) (by omega)with ⟨o,s,k,h3,h4,z3,le3,mo⟩|⟨n1,s,er,ns1,n2,l4,z,h3,h4,he⟩
    ·simp only[h3,h4]
     rcases ih m (g+1) o k z3 (by rw[mo];exact y) (by omega) (by omega) (by omega)with ⟨a,b,c,f1,f2,f3,f4⟩|e
     ·exact .inl ⟨_,_,_,f1,f2,f3,by omega⟩
     ·exact .inr e
    ·obtain⟨nd',h5⟩:=RL (T':=T') d m (g+1) n2 l4 z (CU he)
     simp only[h3,h4,h5,Dj];exact .inr ⟨_,_,_,_,_,_,_,rfl,rfl,he⟩
   ·simp only[h2]
    rcases RG hA hT d 0 nd t z1 (by omega)with ⟨x,s,k,h3,h4,z3,le3⟩|⟨n1,s,er,ns1,n2,l4,z,h3,h4,he⟩
    ·simp only[h3,h4]
     rcases ih m g (nd.af x) k z3 y (by omega) (by omega) (by omega)with ⟨a,b,c,f1,f2,f3,f4⟩|e
     ·exact .inl ⟨_,_,_,f1,f2,f3,by omega⟩
     ·exact .inr e
    ·obtain⟨nd',h5⟩:=RL (T':=T') d m g n2 l4 z (CU he)
     simp only[h3,h4,h5,Dj];exact .inr ⟨_,_,_,_,_,_,_,rfl,rfl,he⟩
  ·have eS:yq T d (n+1) g nd l (0,0) t=(match Dj true [BS.mk 1 125] l (0,0)with
    | (ok,s,i)=>(ok,nd,s,i,t)):=by
    unfold yq;rw[show Px T d (n+1) g nd l (0,0) t=(match CP (BS.mk 1 44) l with
     | (false,B)=>(true,nd,B,(0,0),t) | (true,B)=>match CP (BS.mk 2 23387) B with
      | (true,w)=>match XU T d (g+1) nd w (0,0) t with
       | (false,o,s,i,k)=>(false,o,s,i,k) | (true,o,s,i,k)=>Px T d n (g+1) o s i k
      | (false,w)=>match Ci T d 0 nd w (0,0) t with
       | (false,o,s,i,k)=>(false,o,s,i,k) | (true,o,s,i,k)=>Px T d n g o s i k)from rfl,h1]
   have eR:Md T' d (m+1) g nd l (0,0) t=Yp nd l (0,0) t:=by
    unfold Md;rw[H3,h1]
   rw[eS,eR];unfold Yp Dj;rw[y];rcases DT h (BS.mk 1 125)with ⟨l4,h4,h5,z4,le4⟩|⟨l4,er,l5,h4,h5,he⟩
   ·simp only[h4,h5,wn]
    exact .inl ⟨_,_,_,rfl,rfl,z4,by omega⟩
   ·simp only[h4,h5]
    exact .inr ⟨_,_,_,_,_,_,_,rfl,rfl,he⟩
theorem AHz d:∀n m (nd:AM) {l:List Ad} t,Zt l->nd.more=false->l.length<=9000->l.length+1<n->l.length<m ->
  (∃D l' I,QC T d n true nd l (0,0) t=(true,D,l',(0,0),I)/\J5 T' d m 0 nd l (0,0) t=(D,l',(0,0),I)/\Zt l'/\l'.length<=l.length) \/
  (∃W y er G O A q,QC T d n true nd l (0,0) t=(false,W,y,er,G)/\J5 T' d m 0 nd l (0,0) t=(O,A,sw er,q)/\er.2≠0):=by
 intro n;induction n with
 | zero=>intro m nd l t h hm hl hn;omega | succ n ih=>
  intro m nd l t h r hl hn hm;obtain⟨m,rfl⟩:∃j,m=j+1:=⟨m-1,by omega⟩;rw[TF];unfold Ku;rw[r];simp only[H3];have eS:QC T d (n+1) true nd l (0,0) t=(match CP (BS.mk 3 3026478) l with
   | (true,y)=>match Zb T d (nd.mr true nd.fields.length) y (0,0) t with
    | (b,v,A,u,q)=>match Dj b [BS.mk 1 125] A u with
     | (ok,B,N)=>(ok,v,B,N,q)
   | (false,y)=>match Ci T d 0 nd y (0,0) t with
    | (false,v,A,u,q)=>(false,v,A,u,q) | (true,v,A,u,q)=>match CP (BS.mk 1 44) A with
     | (m,B)=>QC T d n m v B u q):=rfl
  rw[eS];rcases D3 h (BS.mk 3 3026478)with ⟨y,P,z1,le1⟩|P
  ·simp only[P]
   have e1:Zb T d (nd.mr true nd.fields.length) y (0,0) t=Px T d 9001 0 (nd.mr true nd.fields.length) y (0,0) t:=by unfold Zb;rfl
   rw[e1];rcases AId hA hT d 9001 m 0 (nd.mr true nd.fields.length) t z1 rfl (by omega) (by omega) (by omega)with ⟨a,b,c,f1,J,F,f4⟩|⟨a1,a2,a3,a4,a5,a6,a7,f1,J,F⟩
   ·unfold yq at f1
    exact .inl ⟨_,_,_,f1,J,F,by omega⟩
   ·unfold yq at f1
    exact .inr ⟨_,_,_,_,_,_,_,f1,J,F⟩
  ·simp only[P]
   rcases RG hA hT d 0 nd t h (by omega)with ⟨x,B,z,R,S,z3,le3⟩|⟨W,B,er,G,O,l4,q,R,S,L⟩
   ·simp only[R,S]
    unfold Md;rw[H3];rcases D3 z3 (BS.mk 1 44)with ⟨l5,K,z5,le5⟩|K
    ·simp only[K]
     rcases ih m (nd.af x) z z5 r (by omega) (by omega) (by omega)with ⟨a,b,c,f1,J,F,f4⟩|e
     ·exact .inl ⟨_,_,_,f1,J,F,by omega⟩
     ·exact .inr e
    ·simp only[K]
     obtain⟨n,rfl⟩:∃j,n=j+1:=⟨n-1,by omega⟩;have e2:QC T d (n+1) false (nd.af x) B (0,0) z=(match Ao [BS.mk 1 125] B (0,0)with
      | (b,y,er1)=>(b,(nd.af x).mr (nd.af x).more (nd.af x).fields.length,y,er1,z)):=rfl
     rw[e2];unfold Yp;rw[show (nd.af x).more=false from r];rcases DT z3 (BS.mk 1 125)with ⟨l6,Q,M,z6,le6⟩|⟨l6,er,l7,Q,M,L⟩
     ·simp only[Q,M,wn]
      exact .inl ⟨_,_,_,rfl,rfl,z6,by omega⟩
     ·simp only[Q,M]
      exact .inr ⟨_,_,_,_,_,_,_,rfl,rfl,L⟩
   ·obtain⟨D,K⟩:=RL (T':=T') d m 0 O l4 q (CU L)
    simp only[R,S,K];exact .inr ⟨_,_,_,_,_,_,_,rfl,rfl,L⟩
theorem yW d (nd:AM){l:List Ad} c (h:Zt l)(G:nd.more=false)(D:nd.fields=[])(E:nd.root=0)(M:l.length<=9000):
  (∃o l' p,dC T d (!FE (BS.mk 1 125) l) nd l (0,0) c=(true,o,l',(0,0),p)/\D5 T' d nd l (0,0) c=(o,l',(0,0),p)/\Zt l'/\l'.length<=l.length) \/
  (∃F C er v N P B,dC T d (!FE (BS.mk 1 125) l) nd l (0,0) c=(false,F,C,er,v)/\D5 T' d nd l (0,0) c=(N,P,sw er,B)/\er.2≠0):=by
 have L:∀f,dC T d f nd l (0,0) c=QC T d 9002 f nd l (0,0) c:=λf=>by unfold dC;rfl
 rw[L];unfold D5;rw[H3];cases s:FE (BS.mk 1 125) l with
 | true=>
  obtain⟨I,K⟩:=h.nx (by rcases G6 s with e|e<;>rw[e]<;>decide);have y:CP (BS.mk 1 125) l=(true,Fh l):=by unfold CP;rw[s]
  have u:QC T d 9002 (!true) nd l (0,0) c=(match Ao [BS.mk 1 125] l (0,0)with
   | (b,C,er1)=>(b,nd.mr nd.more nd.fields.length,C,er1,c)):=rfl
  rw[u];have O:Ao [BS.mk 1 125] l (0,0)=(true,Fh l,(0,0)):=by
   show (match FE (BS.mk 1 125) l with | true=>_ | false=>_)=_;rw[s];rfl
  simp only[y,O];refine .inl ⟨_,_,_,rfl,?_,I,by omega⟩;have:nd.mr nd.more nd.fields.length=nd:=by
   obtain⟨k,nm,Z,Q,U,co,Y,R,rt,S,J⟩:=nd;simp only[]at D E;subst D E;rfl
  rw[this]
 | false=>
  have y:CP (BS.mk 1 125) l=(false,l):=by unfold CP;rw[s]
  have u:wG T' d nd l (0,0) c=J5 T' d 9001 0 nd l (0,0) c:=by unfold wG;rfl
  simp only[y,u];exact AHz hA hT d 9002 9001 nd c h G M (by omega) (by omega)
theorem ya d (nd:AM){l:List Ad} i (h:Zt l)(N:nd.more=false)(K:nd.fields=[])(L:nd.root=0)(X:l.length<=9000):
  (∃q l' t,DK T d nd l (0,0) i=(true,q,l',(0,0),t)/\j6 T' d nd l (0,0) i=(q,l',(0,0),t)/\Zt l'/\l'.length<=l.length) \/
  (∃J B er z I m C,DK T d nd l (0,0) i=(false,J,B,er,z)/\j6 T' d nd l (0,0) i=(I,m,sw er,C)/\er.2≠0):=by
 unfold DK j6;rcases DT h (BS.mk 1 123)with ⟨B,w,A,M,E⟩|⟨B,er,m,w,A,u⟩
 ·simp only[w,A,wn]
  rcases yW hA hT d nd i M N K L (by omega)with ⟨a,b,c,f1,F,G,U⟩|e
  ·exact .inl ⟨_,_,_,f1,F,G,by omega⟩
  ·exact .inr e
 ·have y:∃x,D5 T' d nd m (sw er) i=(x,m,sw er,i):=by
   have Q:wG T' d nd m (sw er) i=J5 T' d 9001 0 nd m (sw er) i:=by unfold wG;rfl
   have R:J5 T' d (9000+1) 0 nd m (sw er) i=(match decide ((sw er).1=0)with
    | false=>Yp nd m (sw er) i | true=>match Ku T' d 0 nd m (sw er) i with
     | (O,r,P,p,s)=>match Ew (BS.mk 1 44) P p with
      | (true,l4)=>J5 T' d 9000 O r l4 p s | (false,l4)=>Yp r l4 p s):=rfl
   unfold D5;rw[HC _ _ (CU u)];simp only[];rw[Q];show ∃x,J5 T' d (9000+1) 0 nd m (sw er) i=_;rw[R,decide_eq_false (CU u)];simp only[Yp,C3 _ _ (CU u)];exact⟨_,rfl⟩
  obtain⟨x,y⟩:=y;simp only[w,A,y];exact .inr ⟨_,_,_,_,_,_,_,rfl,rfl,u⟩
theorem AAw d (nd:AM){l:List Ad} q (h:Zt l)(hm:nd.more=false)(hf:nd.fields=[])(hr:nd.root=0)(hc:nd.con=Of)(hl:l.length<=9000):
  (∃r l' s,Ju T d nd l (0,0) q=(true,r,l',(0,0),s)/\Ux T' d nd l (0,0) q=(r,l',(0,0),s)/\Zt l'/\l'.length<=l.length) \/
  (∃n1 B er J n2 M w,Ju T d nd l (0,0) q=(false,n1,B,er,J)/\Ux T' d nd l (0,0) q=(n2,M,sw er,w)/\er.2≠0):=by
 unfold Ju Ux;rw[H3];cases u:FE (BS.mk 1 123) l with
 | true=>
  obtain⟨I,E⟩:=h.nx (by rcases G6 u with e|e<;>rw[e]<;>decide);have F:CP (BS.mk 1 123) l=(true,Fh l):=by unfold CP;rw[u]
  have e3:Ao [BS.mk 1 123] l (0,0)=(true,Fh l,(0,0)):=by
   show (match FE (BS.mk 1 123) l with | true=>_ | false=>_)=_;rw[u];rfl
  unfold DK;simp only[F,e3];rcases yW hA hT d (nd.kd 7) q I hm hf hr (by omega)with ⟨a,b,c,f1,f2,f3,f4⟩|e
  ·exact .inl ⟨_,_,_,f1,f2,f3,by omega⟩
  ·exact .inr e
 | false=>
  have F:CP (BS.mk 1 123) l=(false,l):=by unfold CP;rw[u]
  rw[hc];simp only[F];rcases Y4 h with ⟨c,B,G,A,I,E⟩|⟨c,B,er,c2,M,G,A,p⟩
  ·simp only[G,A]
   rcases DT I (BS.mk 2 17999)with ⟨L,z,K,z3,le3⟩|⟨L,er,l4,z,K,p⟩
   ·simp only[z,K,wn]
    rcases hA (d+1) L q z3 (by omega)with ⟨i,l5,D,x,C,z5,le5⟩|⟨i,l5,er,D,j,l6,ns6,x,C,p⟩
    ·simp only[x,C]
     exact .inl ⟨_,_,_,rfl,rfl,z5,by omega⟩
    ·simp only[x,C]
     exact .inr ⟨_,_,_,_,_,_,_,rfl,rfl,p⟩
   ·simp only[z,K,hT.st _ _ _ _ (CU p)]
    exact .inr ⟨_,_,_,_,_,_,_,rfl,rfl,p⟩
  ·simp only[G,A,C3 _ _ (CU p),hT.st _ _ _ _ (CU p)]
   exact .inr ⟨_,_,_,_,_,_,_,rfl,rfl,p⟩
end
theorem vk{l:List Ad}(h:Zt l):(∃m l',H0 l (0,0)=(true,m,l',(0,0))/\OV l (0,0)=(m,l',(0,0))/\Zt l'/\l'.length<=l.length) \/
  (∃m i er C k,H0 l (0,0)=(false,m,i,er)/\OV l (0,0)=(C,k,sw er)/\er.2≠0):=by
 unfold H0 OV;rw[H3];rcases D3 h (BS.mk 1 91)with ⟨i,v,E,G⟩|v
 ·simp only[v]
  rcases VJ E with ⟨n,k,x,u,L,I⟩|⟨n,k,er,m,y,x,u,g⟩
  ·simp only[x,u]
   cases A:Cw n (AA 0) || Cw (AA 268435456) n with
   | true=>
    have j:VA (0,0) n (BJ i).2.2=sw ((BJ i).2.2,12):=by
     unfold VA;rw[A];rfl
    have z:(sw ((BJ i).2.2,12)).1≠0:=by show 12≠0;decide
    simp only[j,C3 _ _ z,HC _ _ z];exact .inr ⟨_,_,_,_,_,rfl,rfl,by show 12≠0;decide⟩
   | false=>
    have j:VA (0,0) n (BJ i).2.2=(0,0):=by
     unfold VA;rw[A];rfl
    simp only[j];rcases DT L (BS.mk 1 93)with ⟨y,s,r,w,K⟩|⟨y,er,l4,s,r,g⟩
    ·simp only[s,r,wn,H3]
     rcases D3 w (BS.mk 8 6073459554577832005)with ⟨M,p,J,F⟩|p
     ·simp only[p]
      exact .inl ⟨_,_,rfl,rfl,J,by omega⟩
     ·simp only[p,H3]
      rcases D3 w (BS.mk 8 6073459554577829193)with ⟨N,o,D,B⟩|o
      ·simp only[o]
       exact .inl ⟨_,_,rfl,rfl,D,by omega⟩
      ·simp only[o]
       exact .inl ⟨_,_,rfl,rfl,w,by omega⟩
    ·simp only[s,r,HC _ _ (CU g)]
     exact .inr ⟨_,_,_,_,_,rfl,rfl,g⟩
  ·have j:VA (sw er) m (BJ i).2.2=sw er:=by
    unfold VA;rw[decide_eq_false (CU g),BY]
   simp only[x,u,j,C3 _ _ (CU g),HC _ _ (CU g)];exact .inr ⟨_,_,_,_,_,rfl,rfl,g⟩
 ·simp only[v]
  exact .inl ⟨_,_,rfl,rfl,h,AL _⟩
theorem xn:∀w {l:List Ad},(∀p∈w,1<=p.2/\p.2<=9)->Zt l->∃k l',LD w l=(k,l')/\Zt l'/\l'.length<=l.length/\k<=9/\(k=0->l'=l)
 | [],l,i,h=>⟨0,l,rfl,h,AL _,BF _,λ_=>rfl⟩ | (s,k)::w,l,i,h=>by
  have e:LD ((s,k)::w) l=(match CP s l with | (true,g)=>(k,g) | (false,g)=>LD w g):=rfl;rw[e];have m:=i (s,k) (As ..);simp only[]at m;rcases D3 h s with ⟨g,j,o,q⟩|j
  ·simp only[j]
   exact⟨_,_,rfl,o,by omega,m.2,λe=>by omega⟩
  ·simp only[j]
   exact xn w (λp n=>i p (Ar _ n)) h
theorem AGo w {l}(h:(BJ l).1=1):LD w l=(0,l):=by
 induction w with
 | nil=>rfl | cons p w j=>
  obtain⟨s,k⟩:=p;have e:LD ((s,k)::w) l=(match CP s l with | (true,i)=>(k,i) | (false,i)=>LD w i):=rfl;have m:CP s l=(false,l):=by
   unfold CP;cases o:FE s l with
   | true=>rcases G6 o with e | e<;>rw[h]at e<;>cases e | false=>rfl
  rw[e,m];exact j
section
variable {T:DA}{T':Da} (hA:oZ T T') (hT:Py T')
include hA hT
omit hA hT in
theorem vz{n:Nat}{er:Er}(s:IS)(l:List Ad)(hn:0<n)(h:er.1≠0):MW n s l er=(jP s,l,er):=by
 cases n with
 | zero=>cases hn
 | succ n=>unfold MW;rw[decide_eq_false h]
theorem ABG d m t {l:List Ad} A (h:Zt l)(hl:l.length<=9000):∀k,k<=9->k≠0 ->
  (∃B l' E,J4 T d (CA m) l (0,0) A k=(true,B,l',(0,0),E)/\Na T' d (CA m) t l (0,0) A k=(B,l',(0,0),E)/\Zt l'/\l'.length<=l.length) \/
  (∃n1 x er ns1 n2 w ns2,J4 T d (CA m) l (0,0) A k=(false,n1,x,er,ns1)/\Na T' d (CA m) t l (0,0) A k=(n2,w,sw er,ns2)/\er.2≠0)
 | 0,_,h0=>absurd rfl h0 | 1,_,_ => .inl ⟨_,_,_,rfl,rfl,h,AL _⟩ | 2,_,_=>by
  rw[kn2,kr2];unfold W8 nF;rw[H3];rcases D3 h (BS.mk 1 40)with ⟨x,u,D,C⟩|u
  ·simp only[u,show ((CA m).kd 2).con=Of from rfl]
   rcases oK D with ⟨c,w,s,r,z2,le2⟩|⟨c,w,er,c2,l3,s,r,q⟩
   ·simp only[s,r]
    rcases DT z2 (BS.mk 1 41)with ⟨l4,v,h5,z4,le4⟩|⟨l4,er,l5,v,h5,q⟩
    ·simp only[Dj,v,h5,wn]
     exact .inl ⟨_,_,_,rfl,rfl,z4,by omega⟩
    ·simp only[Dj,v,h5]
     exact .inr ⟨_,_,_,_,_,_,_,rfl,rfl,q⟩
   ·simp only[s,r,Dj,C3 _ _ (CU q)]
    exact .inr ⟨_,_,_,_,_,_,_,rfl,rfl,q⟩
  ·simp only[u]
   exact .inl ⟨_,_,_,rfl,rfl,h,AL _⟩
 | 3,_,_=>by
  rw[kn3,kr3];unfold ye enR HB;rcases DT h (BS.mk 1 123)with ⟨x,u,s,D,C⟩|⟨x,er,w,u,s,q⟩
  ·have e1:Q9 ((CA m).kd 3).is x (0,0)=MW fu ((CA m).kd 3).is x (0,0):=by unfold Q9;rfl
   simp only[u,s,wn,e1];have hfu:=Nk;rcases ABI fu fu ((CA m).kd 3).is D (by omega) (by omega)with ⟨s',l',l'',a,b,c,z,e⟩|⟨a1,a2,a3,a4,a5,a6,a7,b1,b2,b3,b4⟩
   ·simp only[a,b,c]
    exact .inl ⟨_,_,_,rfl,rfl,z,by omega⟩
   ·simp only[b1,b2,b3]
    exact .inr ⟨_,_,_,_,_,_,_,rfl,rfl,b4⟩
  ·have e1:Q9 ((CA m).kd 3).is w (sw er)=MW fu ((CA m).kd 3).is w (sw er):=by unfold Q9;rfl
   have e2:=vz (n:=fu) ((CA m).kd 3).is w (by have:=Nk;omega) (CU q);simp only[u,s,e1,e2,C3 _ _ (CU q)];exact .inr ⟨_,_,_,_,_,_,_,rfl,rfl,q⟩
 | 4,_,_ => .inl ⟨_,_,_,rfl,rfl,h,AL _⟩ | 5,_,_=>by
  rw[kn5,kr5];unfold O5 Wp;rcases DT h (BS.mk 6 78401563153491)with ⟨x,u,s,D,C⟩|⟨x,er,w,u,s,q⟩
  ·simp only[u,s,wn,show ((CA m).kd 5).con=Of from rfl]
   rcases Y4 D with ⟨c,l3,r,v,z3,le3⟩|⟨c,l3,er,c2,l4,r,v,q⟩
   ·simp only[r,v]
    exact .inl ⟨_,_,_,rfl,rfl,z3,by omega⟩
   ·simp only[r,v]
    exact .inr ⟨_,_,_,_,_,_,_,rfl,rfl,q⟩
  ·obtain⟨c,r⟩:=u4 w (CU q)
   simp only[u,s,r];exact .inr ⟨_,_,_,_,_,_,_,rfl,rfl,q⟩
 | 6,_,_=>by
  rw[kn6,kr6];unfold xz szR;simp only[show ((CA m).kd 6).con=Of from rfl];rcases Y4 h with ⟨c,l3,r,v,z3,le3⟩|⟨c,l3,er,c2,l4,r,v,q⟩
  ·simp only[r,v]
   exact .inl ⟨_,_,_,rfl,rfl,z3,by omega⟩
  ·simp only[r,v]
   exact .inr ⟨_,_,_,_,_,_,_,rfl,rfl,q⟩
 | 7,_,_=>by
  rw[kn7,kr7];exact AAw hA hT d (CA m) A h rfl rfl rfl rfl hl
 | 8,_,_=>by
  rw[kn8,kr8];exact ya hA hT d ((CA m).kd 8) A h rfl rfl rfl hl
 | 9,_,_=>by
  rw[kn9,kr9];exact ya hA hT d ((CA m).kd 9) A h rfl rfl rfl hl
 | k+10,hk,_=>by omega
omit hA hT in
theorem ABc{er:Er}(d:Nat)(nd:AM)(l:List Ad)(ns:List AM)(h:er.1≠0):XT T' d nd l er ns=(nd,l,er,ns):=by
 unfold XT
 rw[decide_eq_false h]
theorem va d {l:List Ad} q (h:Zt l)(hl:l.length<=9000):
  (∃w l' z m j er1,Gm T d l (0,0) q=(true,w,l',(0,0),z)/\OV l (0,0)=(m,j,er1)/\XT T' d (CA m) j er1 q=(w,l',(0,0),z)/\Zt l'/\l'.length<=l.length) \/
  (∃X j er M Y t B m S y,Gm T d l (0,0) q=(false,X,j,er,M)/\OV l (0,0)=(m,S,y)/\XT T' d (CA m) S y q=(Y,t,sw er,B)/\er.2≠0):=by
 unfold Gm;rcases vk h with ⟨m,j,K,v,R,W⟩|⟨m,j,er,Z,t,K,v,P⟩
 ·simp only[K]
  cases G:decide ((BJ j).1=1)with
  | true=>
   have x:=of_decide_eq_true G;obtain⟨J,F⟩:=R.nx (by rw[x];decide);refine .inl ⟨_,_,_,m,j,(0,0),rfl,v,?_,J,by omega⟩;unfold XT;simp only[decide_true,AGo WX x,kr0,G]
  | false=>
   unfold Wr;obtain⟨k,t,Q,J,F,A,L⟩:=xn WX (by decide) R;simp only[Q];have E:XT T' d (CA m) j (0,0) q=Na T' d (CA m) (BJ j) t (0,0) q k:=by
    unfold XT;simp only[decide_true,Q]
   by_cases O:k=0
   ·subst O
    have:=L rfl;subst this;rw[kn0];refine .inr ⟨_,_,_,_,CA m,t,q,m,t,(0,0),rfl,v,?_,by show 7≠0;decide⟩;rw[E,kr0,G];rfl
   ·rcases ABG hA hT d m (BJ j) q J (by omega) k A O with ⟨a,b,c,C,I,D,e4⟩|⟨a1,a2,a3,a4,a5,a6,a7,C,I,D⟩
    ·exact .inl ⟨_,_,_,_,_,_,C,v,E.trans I,D,by omega⟩
    ·exact .inr ⟨_,_,_,_,_,_,_,_,_,_,C,v,E.trans I,D⟩
 ·simp only[K]
  exact .inr ⟨_,_,_,_,_,_,_,_,_,_,rfl,v,ABc d _ t q (CU P),P⟩
omit hA hT in
theorem wU{t:Ad}(h:TkZ t):oQ t=XW t:=by
 obtain⟨h5,h6,hb⟩:=h
 unfold oQ XW
 have hbeq:∀x:BS,x.beq (BO t.2.1)=decide (x.nats=t.2.1):=λx=>by rw[BS.beq_nats,Dk hb]
 have hbeq':∀x:BS,(BO t.2.1).beq x=decide (x.nats=t.2.1):=λx=>by
  rw[BS.beq_nats,Dk hb]
  by_cases e:x.nats=t.2.1
  ·rw[decide_eq_true e,decide_eq_true e.symm]
  ·rw[decide_eq_false e,decide_eq_false (λe'=>e e'.symm)]
 by_cases k1:t.1=1
 ·rw[if_pos k1,decide_eq_true k1,xU]
 ·rw[if_neg k1,decide_eq_false k1,EW]
  by_cases k6:t.1=6
  ·rw[if_pos k6]
   have h6:=h6 k6
   have ne:∀x:BS,Em (x.nats.headD 0)=true->decide (x.nats=t.2.1)=false:=λx hx=>decide_eq_false λe=>by
    rw[e,h6]at hx;cases hx
   simp only[k6,decide_true,xU,Au,hbeq,hbeq']
   unfold Si
   simp only[P0,List.any_nil]
   rw[ne (BS.mk 7 22026814072246082) (by decide +kernel),ne (BS.mk 4 1280070990) (by decide +kernel),ne (BS.mk 10 488440487847103610377301) (by decide +kernel),ne (BS.mk 7 23157120498421321) (by decide +kernel),ne (BS.mk 5 361940403023) (by decide +kernel),ne (BS.mk 10 322399817400452109389381) (by decide +kernel),ne (BS.mk 3 5522771) (by decide +kernel),ne (BS.mk 6 76155295057987) (by decide +kernel),ne (BS.mk 8 4990918871747741011) (by decide +kernel)]
   simp only[EW]
  ·rw[if_neg k6]
   by_cases k5:t.1=5
   ·rw[if_pos k5]
    have h5:=h5 k5
    have ne:decide ((BS.mk 1 91).nats=t.2.1)=false:=decide_eq_false λe=>by
     rw[<-e]at h5
     exact absurd h5 (by decide +kernel)
    simp only[k5,decide_true,Bool.true_or,Au,hbeq,hbeq']
    unfold Si tyW
    simp only[P0,List.any_nil]
    rw[ne]
    simp only[C7,EW]
    simp only[Bool.or_comm,Bool.or_left_comm,Bool.or_assoc]
   ·rw[if_neg k5]
    simp only[decide_eq_false k5,decide_eq_false k6,Bool.or_self,EX]
    rw[List.any_eq_false]
    intro x _ e
    cases e
theorem AAo:oZ (Sa T) (O3 T'):=by
 intro d l k h E;show (∃i l' g,Kt T d l (0,0) k=(true,i,l',(0,0),g)/\JL T' d l (0,0) k=(i,l',(0,0),g)/\_)\/(∃i y er n j C o,Kt T d l (0,0) k=(false,i,y,er,n)/\JL T' d l (0,0) k=(j,C,sw er,o)/\_);unfold Kt JL;have I:TkZ (BJ l):=by
  obtain⟨p,e,v,_⟩:=h.fin;cases l with
  | nil=>simp at v | cons t l=>exact h.z t (As ..)
 simp only[decide_true,wU I];cases XW (BJ l)with
 | false=>exact .inr ⟨_,_,_,_,_,_,_,rfl,rfl,by show 7≠0;decide⟩ | true=>
  cases decide (16<d) || decide (300<=k.length)with
  | true=>exact .inr ⟨_,_,_,_,_,_,_,rfl,rfl,by show 5≠0;decide⟩ | false=>
   simp only[];rcases va hA hT d (k++[Iz]) h E with ⟨D,l',g,m,y,er1,w,x,u,z,F⟩|⟨K,y,er,n,O,C,o,m,L,J,w,x,u,B⟩
   ·simp only[w,x,u,decide_true]
    exact .inl ⟨_,_,_,rfl,rfl,z,F⟩
   ·simp only[w,x,u,decide_eq_false (CU B)]
    exact .inr ⟨_,_,_,_,_,_,_,rfl,rfl,B⟩
end
theorem Uj:∀q,oZ (NG q) (Jn q)
 | 0=>λd l b h a => .inr ⟨_,_,_,_,_,_,_,rfl,rfl,by show 7≠0;decide⟩ | q+1=>AAo (Uj q) (GM q)
theorem AG0{c}{r:List Nat}(D:∀x∈c::r,x<256)(d:(Hc (c::r)).1≠0):((Hc (c::r)).1=5->Em ((Hc (c::r)).2.1.headD 0)=true)/\((Hc (c::r)).1=6->Em ((Hc (c::r)).2.1.headD 0)=false):=by
 have e:Hc (c::r)=if Em c=true then NU c r else if(Ai c || (decide (c=45)&&Ai (r.headD 0)))=true then Kw (c::r)else if c=39 then Kx (c::r)else if c=34 then OL (c::r)else Ql (c::r):=rfl;rw[e]at d ⊢;by_cases q:Em c=true
 ·rw[if_pos q]at d ⊢
  have y:OT c r=true:=by unfold OT;rw[q];rfl
  have N:1<=Fm (c::r):=by unfold Fm;rw[y];exact Ih _
  obtain⟨j,L⟩:∃j,Fm (c::r)=j+1:=⟨Fm (c::r)-1,by omega⟩;unfold NU at d ⊢;rw[L]at d ⊢;cases D:Ma ((c::r).take (j+1))with
  | true=>rw[D]at d;exact absurd rfl d | false=>
   refine⟨λ_=>q,λe=>?_⟩;have e:(if kY (BO ((c::r).take (j+1)))=true then 5 else if c<=90 then 1 else 2)=6:=e;split at e
   ·cases e
   ·split at e<;>cases e
 ·rw[if_neg q]at d ⊢
  by_cases z:(Ai c || (decide (c=45)&&Ai (r.headD 0)))=true
  ·rw[if_pos z]at d ⊢
   obtain⟨k,_,_,_,F,_⟩:=Wx (c::r) d;exact⟨λe=>(by rw[F]at e;cases e),λe=>(by rw[F]at e;cases e)⟩
  ·rw[if_neg z]at d ⊢
   by_cases A:c=39
   ·rw[if_pos A]at d ⊢
    have B:(Kx (c::r)).1=4:=by
     unfold Kx at d ⊢;simp only[]at d ⊢;split at d
     ·rename_i y;rw[if_pos y]
     ·exact absurd rfl d
    exact⟨λe=>(by rw[B]at e;cases e),λe=>(by rw[B]at e;cases e)⟩
   ·rw[if_neg A]at d ⊢
    by_cases w:c=34
    ·rw[if_pos w]at d ⊢
     subst w;have C:(OL (34::r)).1=7:=by
      have e:OL (34::r)=GF [] r:=rfl;rw[e]at d ⊢;unfold GF at d ⊢;cases I:quo r with
      | none=>rw[I]at d;exact absurd rfl d | some p=>
       rw[I]at d;simp only[]at d ⊢;cases J:CR ([]++p.1)with
       | true=>rfl | false=>rw[J]at d;exact absurd rfl d
     exact⟨λe=>(by rw[C]at e;cases e),λe=>(by rw[C]at e;cases e)⟩
    ·rw[if_neg w]at d ⊢
     unfold Ql at d ⊢;cases K:IY Cp (c::r)with
     | zero=>rw[K]at d;exact absurd rfl d | succ n=>
      refine⟨λe=>(by cases e),λ_=>?_⟩;show Em c=false;cases M:Em c with
      | true=>exact absurd M q | false=>rfl
theorem mb{M len}:∀k r ts,(∀c∈r,c<256)->HA M len k r = .ok ts->∀t∈ts,TkZ t
 | 0,r,ts,_,h=>(by cases h) | k+1,[],ts,_,h=>by
  cases h;intro t f;rw[B0]at f;subst f;exact⟨λe=>(by cases e),λe=>(by cases e),λc C=>(by cases C)⟩
 | k+1,c::r,ts,o,h=>by
  have z:=xy o;have A:=λx B=>o x (z.rs x (L7 M _ x B));unfold HA at h;cases n:(Hc (c::r)).1 with
  | zero=>rw[n]at h;cases h | succ D=>
   have y:=AG0 o (by rw[n];exact Df _);rw[n]at h;cases s:HA M len k (HS M (Hc (c::r)).2.2)with
   | error e=>simp only[s]at h;cases h | ok u=>
    simp only[s]at h;cases h;intro t f;rcases BK.1 f with rfl|f
    ·rw[<-n]
     exact⟨y.1,y.2,z.bd⟩
    ·exact mb k _ u A s t f
theorem mZ{M}{s:BS}{ts}(h:IK M s = .ok ts):Zt ts:=by
 refine⟨(Kb h).1.fin,?_⟩;unfold IK at h;cases l:decide (8000<s.len)with
 | true=>rw[l]at h;cases h | false=>
  rw[l]at h;cases k:HA M s.len (s.len+1) (HS M s.nats)with
  | error e=>simp only[k]at h;cases h | ok m=>
   simp only[k]at h;cases h;exact mb _ _ _ (λc o=>s.nats_lt c (L7 M _ c o)) k
section
variable {T:DA}{T':Da} (hA:oZ T T') (hT:Py T')
include hA hT
theorem ABm(z:NT){l:List Ad} m (h:Zt l)(E:(BJ l).1=1)(S:l.length<=9000):
  (∃F l' k,Jd T z l (0,0) m=(true,F,l',(0,0),k)/\Kv T' z l (0,0) m=(F,l',(0,0),k)/\Zt l'/\l'.length+1<=l.length) \/
  (∃t O er A B n C,Jd T z l (0,0) m=(false,t,O,er,A)/\Kv T' z l (0,0) m=(B,n,sw er,C)/\er.2≠0):=by
 obtain⟨t,P⟩:=h.nx (by rw[E];decide);have M:Dz 1 l (0,0)=((BJ l).2.1,Fh l,(0,0)):=by
  show (match true&&decide ((BJ l).1=1)with | true=>_ | false=>_:List Nat × List Ad × Er)=_;rw[decide_eq_true E];rfl
 unfold Jd Kv;simp only[M];cases g:decide (40<=z.1.length)with
 | true=>
  have u:LW (0,0) z.1.length (BJ l).2.2=sw ((BJ l).2.2,5):=by
   unfold LW;rw[g];rfl
  have D:(sw ((BJ l).2.2,5)).1≠0:=by show 5≠0;decide
  simp only[u,C3 _ _ D,hT.st _ _ _ _ D];exact .inr ⟨_,_,_,_,_,_,_,rfl,rfl,by show 5≠0;decide⟩
 | false=>
  have u:LW (0,0) z.1.length (BJ l).2.2=(0,0):=by
   unfold LW;rw[g];rfl
  simp only[u];rcases DT t (BS.mk 3 4012602)with ⟨n,x,r,B,G⟩|⟨n,er,Q,x,r,o⟩
  ·simp only[x,r,wn]
   rcases hA 0 n m B (by omega)with ⟨i,I,y,s,w,L,K⟩|⟨i,I,er,y,j,R,J,s,w,o⟩
   ·simp only[s,w]
    exact .inl ⟨_,_,_,rfl,rfl,L,by omega⟩
   ·simp only[s,w]
    exact .inr ⟨_,_,_,_,_,_,_,rfl,rfl,o⟩
  ·simp only[x,r,hT.st _ _ _ _ (CU o)]
   exact .inr ⟨_,_,_,_,_,_,_,rfl,rfl,o⟩
theorem wg:∀n m (z:NT) {l:List Ad} u,Zt l->l.length<=9000->l.length<n->l.length+1<m ->
  (∃v l' t E,Kh T n z l (0,0) u=(true,v,l',(0,0),t)/\HX T' m z l (0,0) u=(v,E,(0,0),t)/\LX E (0,0)=(0,0)) \/
  (∃G B er J z2 P C N,Kh T n z l (0,0) u=(false,G,B,er,J)/\HX T' m z l (0,0) u=(z2,P,C,N)/\LX P C=sw er/\er.2≠0):=by
 intro n;induction n with
 | zero=>intro m z l u h hl hn;omega | succ n ih=>
  intro m z l u h hl hn hm;obtain⟨m,rfl⟩:∃j,m=j+1:=⟨m-1,by omega⟩;unfold Kh HX;simp only[decide_true,H3];have p:∀(l:List Ad) {er:Er},er.1≠0->LX l er=er:=λl er h=>by
   unfold LX;rw[decide_eq_false h,BY]
  cases K:decide ((BJ l).1=1)with
  | true=>
   have w:=of_decide_eq_true K;have hs:CP (BS.mk 3 4476485) l=(false,l):=by
    unfold CP;cases A:FE (BS.mk 3 4476485) l with
    | true=>rcases G6 A with e | e<;>rw[w]at e<;>cases e | false=>rfl
   simp only[hs];rcases ABm hA hT z u h w hl with ⟨v,l',t,i,L,G,M⟩|⟨za,la,er,nsa,zb,S,D,i,L,I⟩
   ·simp only[i,L]
    exact ih m v t G (by omega) (by omega) (by omega)
   ·obtain⟨m,rfl⟩:∃j,m=j+1:=⟨m-1,by omega⟩
    have e1:HX T' (m+1) zb S (sw er) D=(zb,S,sw er,D):=by
     unfold HX;rw[decide_eq_false (CU I)]
    simp only[i,L,e1];exact .inr ⟨_,_,_,_,_,_,_,_,rfl,rfl,p _ (CU I),I⟩
  | false=>
   have w:=of_decide_eq_false K;rcases D3 h (BS.mk 3 4476485)with ⟨B,i,G,M⟩|i
   ·have x:Ao [BS.mk 3 4476485] l (0,0)=(true,B,(0,0)):=by
     unfold CP at i;show (match FE (BS.mk 3 4476485) l with | true=>Ao [] (Fh l) (0,0) | false=>(false,l,EJ (0,0) (BJ l).2.2 7))=_;cases A:FE (BS.mk 3 4476485) l with
     | true=>
      rw[A]at i;simp only[Prod.mk.injEq,true_and]at i;subst i;rfl
     | false=>rw[A]at i;simp only[Prod.mk.injEq]at i;exact absurd i.1 (by decide)
    simp only[i,x];unfold Jk;cases Q:decide ((BJ B).1=0)with
    | true=>
     refine .inl ⟨_,_,_,B,rfl,rfl,?_⟩;unfold LX;rw[Q];rfl
    | false=>
     refine .inr ⟨_,_,_,_,_,B,(0,0),_,rfl,rfl,?_,by show 7≠0;decide⟩;unfold LX;rw[Q];rfl
   ·have x:Ao [BS.mk 3 4476485] l (0,0)=(false,l,((BJ l).2.2,7)):=by
     unfold CP at i;show (match FE (BS.mk 3 4476485) l with | true=>Ao [] (Fh l) (0,0) | false=>(false,l,EJ (0,0) (BJ l).2.2 7))=_;cases A:FE (BS.mk 3 4476485) l with
     | true=>rw[A]at i;simp only[Prod.mk.injEq]at i;exact absurd i.1 (by decide) | false=>rfl
    have ek:Dz 1 l (0,0)=([],l,sw ((BJ l).2.2,7)):=by
     show (match true&&decide ((BJ l).1=1)with | true=>_ | false=>_:List Nat × List Ad × Er)=_;rw[K];rfl
    have F:(sw ((BJ l).2.2,7)).1≠0:=by show 7≠0;decide
    have em:LW (sw ((BJ l).2.2,7)) z.1.length (BJ l).2.2=sw ((BJ l).2.2,7):=by
     unfold LW;rw[decide_eq_false F,BY]
    obtain⟨m,rfl⟩:∃j,m=j+1:=⟨m-1,by omega⟩;have e3:∀v,HX T' (m+1) v l (sw ((BJ l).2.2,7)) u=(v,l,sw ((BJ l).2.2,7),u):=λv=>by
     unfold HX;rw[decide_eq_false F]
    simp only[i,x,Kv,ek,em,C3 _ _ F,hT.st _ _ _ _ F,e3];exact .inr ⟨_,_,_,_,_,_,_,_,rfl,rfl,p _ F,by show 7≠0;decide⟩
end
theorem AG1{l:List Ad}(h:Zt l):(∃A l',Uq NH 0 0 l (0,0)=(true,A,l',(0,0))/\NI l (0,0)=(A,l',(0,0))/\Zt l'/\l'.length<=l.length) \/
  (∃A C er B o,Uq NH 0 0 l (0,0)=(false,A,C,er)/\NI l (0,0)=(B,o,sw er)/\er.2≠0):=by
 have step:∀w E i,Uq (w::E) i 0 l (0,0)=(match FE w l with
  | false=>Uq E (i+1) 0 l (0,0) | true=>match Ao [w,BS.mk 4 1397178708] l (0,0)with
   | (b,C,er1)=>(b,AA i,C,er1)):=λ_ _ _=>rfl
 have q:∀w,FE w l=true->Ao [w,BS.mk 4 1397178708] l (0,0)=Ao [BS.mk 4 1397178708] (Fh l) (0,0):=λw I=>by
  show (match FE w l with | true=>_ | false=>_)=_;rw[I]
 have p:∀w,CP w l=(match FE w l with | true=>(true,Fh l) | false=>(false,l)):=λw=>rfl;unfold NI;unfold NH;rw[step,H3,p];cases G:FE (BS.mk 8 6073459554577832005) l with
 | true=>
  obtain⟨x,y⟩:=h.nx (by rcases G6 G with e|e<;>rw[e]<;>decide);simp only[q _ G];rcases DT x (BS.mk 4 1397178708)with ⟨o,t,m,z,v⟩|⟨o,er,F,t,m,u⟩
  ·simp only[t,m,wn]
   exact .inl ⟨_,_,rfl,rfl,z,by omega⟩
  ·simp only[t,m]
   exact .inr ⟨_,_,_,_,_,rfl,rfl,u⟩
 | false=>
  rw[step];simp only[H3,p];cases t:FE (BS.mk 8 6073459554577829193) l with
  | true=>
   obtain⟨x,y⟩:=h.nx (by rcases G6 t with e|e<;>rw[e]<;>decide);simp only[q _ t];rcases DT x (BS.mk 4 1397178708)with ⟨o,m,r,z,v⟩|⟨o,er,F,m,r,u⟩
   ·simp only[m,r,wn]
    exact .inl ⟨_,_,rfl,rfl,z,by omega⟩
   ·simp only[m,r]
    exact .inr ⟨_,_,_,_,_,rfl,rfl,u⟩
  | false=>
   rw[step];simp only[H3,p];cases m:FE (BS.mk 9 1241215773001651606849) l with
   | true=>
    obtain⟨x,y⟩:=h.nx (by rcases G6 m with e|e<;>rw[e]<;>decide);simp only[q _ m];rcases DT x (BS.mk 4 1397178708)with ⟨o,r,D,z,v⟩|⟨o,er,F,r,D,u⟩
    ·simp only[r,D,wn]
     exact .inl ⟨_,_,rfl,rfl,z,by omega⟩
    ·simp only[r,D]
     exact .inr ⟨_,_,_,_,_,rfl,rfl,u⟩
   | false=>exact .inl ⟨_,_,rfl,rfl,h,AL _⟩
theorem bf{er:Er} l (h:er.1≠0):∃e,NI l er=(e,l,er):=by
 unfold NI;simp only[HC _ _ h];exact⟨_,rfl⟩
theorem Nu{T'}{er:Er} l (h:er.1≠0):∃z i,Om T' l er=(z,l,er,i):=by
 have g:Om T' l er=HX T' ((fu+1)+1) ([],[]) l er []:=by unfold Om;rfl
 have f:HX T' ((fu+1)+1) ([],[]) l er []=(match decide (er.1=0)with
  | false=>(([],[]),l,er,[]) | true=>match Ew (BS.mk 3 4476485) l er with
   | (true,e)=>(([],[]),e,er,[]) | (false,e)=>match Kv T' ([],[]) e er []with
    | (j,k,c,d)=>HX T' (fu+1) j k c d):=rfl
 rw[decide_eq_false h]at f;exact⟨_,_,g.trans f⟩
theorem NX{er:Er} l (h:er.1≠0):LX l er=er:=by
 unfold LX;rw[decide_eq_false h,BY]
theorem mQ{T T'}(U:oZ T T')(X:Py T'){l:List Ad}(h:Zt l)(hl:l.length<=9000):
  (∃m,KY T l (0,0)=(true,m,(0,0))/\Wz T' l (0,0)=(m,(0,0))) \/
  (∃m1 er O,KY T l (0,0)=(false,m1,er)/\Wz T' l (0,0)=(O,sw er)/\er.2≠0):=by
 unfold KY Wz;rcases P9 h (k:=1) (by decide)with ⟨l1,A,u,z1,ac⟩|⟨l1,er,G,A,u,f⟩
 ·simp only[A,u]
  rcases DT z1 (BS.mk 11 100710650190388740279911748)with ⟨K,t,r,z3,ad⟩|⟨K,er,l4,t,r,f⟩
  ·simp only[t,r,wn]
   rcases AG1 z3 with ⟨D,Q,C,v,J,aa⟩|⟨D,Q,er,S,W,C,v,f⟩
   ·simp only[C,v]
    rcases DT J (BS.mk 3 4012602)with ⟨R,q,p,Y,ae⟩|⟨R,er,L,q,p,f⟩
    ·simp only[q,p]
     rcases DT Y (BS.mk 5 336236856642)with ⟨n,s,y,z9,I⟩|⟨n,er,F,s,y,f⟩
     ·have j:j7 T n (0,0)=Kh T fu ([],[]) n (0,0) []:=by unfold j7;rfl
      have P:Om T' n (0,0)=HX T' (fu+2) ([],[]) n (0,0) []:=by unfold Om;rfl
      simp only[s,y,wn,j,P];have ag:=Nk;rcases wg U X fu (fu+2) ([],[]) [] z9 (by omega) (by omega) (by omega)with ⟨z',l',af,M,w,B,E⟩|⟨za,F,er,Z,zb,lb,N,ab,w,B,E,f⟩
      ·simp only[w,B,E]
       exact .inl ⟨_,rfl,rfl⟩
      ·simp only[w,B,E]
       exact .inr ⟨_,_,_,rfl,rfl,f⟩
     ·obtain⟨z,o,j⟩:=Nu (T':=T') F (CU f)
      simp only[s,y,j,NX _ (CU f)];exact .inr ⟨_,_,_,rfl,rfl,f⟩
    ·obtain⟨z,o,j⟩:=Nu (T':=T') L (CU f)
     simp only[q,p,C3 _ _ (CU f),j,NX _ (CU f)];exact .inr ⟨_,_,_,rfl,rfl,f⟩
   ·obtain⟨z,o,j⟩:=Nu (T':=T') W (CU f)
    simp only[C,v,C3 _ _ (CU f),j,NX _ (CU f)];exact .inr ⟨_,_,_,rfl,rfl,f⟩
  ·obtain⟨D,x⟩:=bf l4 (CU f)
   obtain⟨z,o,j⟩:=Nu (T':=T') l4 (CU f);simp only[t,r,x,C3 _ _ (CU f),j,NX _ (CU f)];exact .inr ⟨_,_,_,rfl,rfl,f⟩
 ·obtain⟨D,x⟩:=bf G (CU f)
  obtain⟨z,o,j⟩:=Nu (T':=T') G (CU f);simp only[A,u,C3 _ _ (CU f),x,j,NX _ (CU f)];exact .inr ⟨_,_,_,rfl,rfl,f⟩
theorem LS M s:KU M s=Fk M s:=by
 unfold KU Fk;cases k:IK M s with
 | error e=>rfl | ok ts=>
  have p:=mZ k;have l:=(Kb k).1.few;have o:oZ GO JN:=by
   have:=Uj 18;unfold GO JN;exact this
  have q:Py JN:=by
   have:=GM 18;unfold JN;exact this
  rcases mQ o q p l with ⟨m,i,j⟩|⟨t,er,u,i,j,n⟩
  ·simp only[i,j,decide_true]
  ·simp only[i,j,decide_eq_false (CU n)]
   rfl
end
end Go.Proofs.YtnpcmeaplmfdlaaGreatDoor
namespace Go.Proofs.YtnpcmeaplmfdlaaGreatDoor
open Go Go.Og Go.Proofs Go.Shelf
def G4:Go.Shelf.Ren:=⟨fun | 174=>77 | 247=>88 | 245=>89 | 287=>98 | 279=>99 | 280=>100 | 281=>101 | 282=>102 | 321=>108 | 322=>109 | 316=>110 | 171=>112 | 205=>111 | 243=>115 | 246=>117 | 283=>119 | 284=>120 | 285=>121 | 286=>122 | 129=>124 | 317=>123 | 318=>125 | 319=>126 | 320=>127 | 337=>128 | 338=>129 | n=>n,fun | 9=>9 | 3=>3 | 2=>2 | 75=>117 | 85=>118 | 4=>4 | 167=>144 | 5=>5 | 53=>115 | 175=>145 | 46=>36 | 168=>147 | 37=>90 | 0=>0 | 210=>159 | 21=>21 | 127=>163 | 145=>166 | 143=>164 | 171=>168 | 173=>171 | 212=>174 | 51=>175 | 20=>20 | 213=>176 | 232=>180 | 233=>181 | 80=>182 | n=>n,fun | 15=>2 | 16=>3 | 17=>4 | 18=>5 | 19=>6 | n=>n⟩
theorem kl:Go.Proofs.LaysC.n174 Tryz.prog G4:={
  mixed:=by kernel_rfl
  f129:=Tryz.func124.trans (congrArg some (by kernel_rfl))
  f171:=Tryz.func112.trans (congrArg some (by kernel_rfl))
  f174:=Tryz.func77.trans (congrArg some (by kernel_rfl))
  f205:=Tryz.func111.trans (congrArg some (by kernel_rfl))
  f243:=Tryz.func115.trans (congrArg some (by kernel_rfl))
  f245:=Tryz.func89.trans (congrArg some (by kernel_rfl))
  f246:=Tryz.func117.trans (congrArg some (by kernel_rfl))
  f247:=Tryz.func88.trans (congrArg some (by kernel_rfl))
  f279:=Tryz.func99.trans (congrArg some (by kernel_rfl))
  f280:=Tryz.func100.trans (congrArg some (by kernel_rfl))
  f281:=Tryz.func101.trans (congrArg some (by kernel_rfl))
  f282:=Tryz.func102.trans (congrArg some (by kernel_rfl))
  f283:=Tryz.func119.trans (congrArg some (by kernel_rfl))
  f284:=Tryz.func120.trans (congrArg some (by kernel_rfl))
  f285:=Tryz.func121.trans (congrArg some (by kernel_rfl))
  f286:=Tryz.func122.trans (congrArg some (by kernel_rfl))
  f287:=Tryz.func98.trans (congrArg some (by kernel_rfl))
  f316:=Tryz.func110.trans (congrArg some (by kernel_rfl))
  f317:=Tryz.func123.trans (congrArg some (by kernel_rfl))
  f318:=Tryz.func125.trans (congrArg some (by kernel_rfl))
  f319:=Tryz.func126.trans (congrArg some (by kernel_rfl))
  f320:=Tryz.func127.trans (congrArg some (by kernel_rfl))
  f321:=Tryz.func108.trans (congrArg some (by kernel_rfl))
  f322:=Tryz.func109.trans (congrArg some (by kernel_rfl))
  f337:=Tryz.func128.trans (congrArg some (by kernel_rfl))
  f338:=Tryz.func129.trans (congrArg some (by kernel_rfl))
  t0:=Tryz.underlying0
  a0:=Tryz.isAgg0
  z0:=Tryz.sizeOf0
  v0:=Tryz.zeroValue0
  t2:=Tryz.underlying2
  a2:=Tryz.isAgg2
  z2:=Tryz.sizeOf2
  v2:=Tryz.zeroValue2
  t3:=Tryz.underlying3
  a3:=Tryz.isAgg3
  z3:=Tryz.sizeOf3
  v3:=Tryz.zeroValue3
  t4:=Tryz.underlying4
  a4:=Tryz.isAgg4
  z4:=Tryz.sizeOf4
  v4:=Tryz.zeroValue4
  t5:=Tryz.underlying5
  a5:=Tryz.isAgg5
  z5:=Tryz.sizeOf5
  v5:=Tryz.zeroValue5
  t9:=Tryz.underlying9
  a9:=Tryz.isAgg9
  z9:=Tryz.sizeOf9
  v9:=Tryz.zeroValue9
  t20:=Tryz.underlying20
  a20:=Tryz.isAgg20
  z20:=Tryz.sizeOf20
  v20:=Tryz.zeroValue20
  t21:=Tryz.underlying21
  a21:=Tryz.isAgg21
  z21:=Tryz.sizeOf21
  v21:=Tryz.zeroValue21
  t37:=Tryz.underlying90
  a37:=Tryz.isAgg90
  z37:=Tryz.sizeOf90
  v37:=Tryz.zeroValue90
  t46:=Tryz.underlying36
  a46:=Tryz.isAgg36
  z46:=Tryz.sizeOf36
  v46:=Tryz.zeroValue36
  t51:=Tryz.underlying175
  a51:=Tryz.isAgg175
  z51:=Tryz.sizeOf175
  v51:=Tryz.zeroValue175
  t53:=Tryz.underlying115
  a53:=Tryz.isAgg115
  z53:=Tryz.sizeOf115
  v53:=Tryz.zeroValue115
  t75:=Tryz.underlying117
  a75:=Tryz.isAgg117
  z75:=Tryz.sizeOf117
  v75:=Tryz.zeroValue117
  t85:=Tryz.underlying118
  a85:=Tryz.isAgg118
  z85:=Tryz.sizeOf118
  v85:=Tryz.zeroValue118
  t127:=Tryz.underlying163
  a127:=Tryz.isAgg163
  z127:=Tryz.sizeOf163
  v127:=Tryz.zeroValue163
  t143:=Tryz.underlying164
  a143:=Tryz.isAgg164
  z143:=Tryz.sizeOf164
  v143:=Tryz.zeroValue164
  t145:=Tryz.underlying166
  a145:=Tryz.isAgg166
  z145:=Tryz.sizeOf166
  v145:=Tryz.zeroValue166
  t167:=Tryz.underlying144
  a167:=Tryz.isAgg144
  z167:=Tryz.sizeOf144
  v167:=Tryz.zeroValue144
  t168:=Tryz.underlying147
  a168:=Tryz.isAgg147
  z168:=Tryz.sizeOf147
  v168:=Tryz.zeroValue147
  t171:=Tryz.underlying168
  a171:=Tryz.isAgg168
  z171:=Tryz.sizeOf168
  v171:=Tryz.zeroValue168
  t173:=Tryz.underlying171
  a173:=Tryz.isAgg171
  z173:=Tryz.sizeOf171
  v173:=Tryz.zeroValue171
  t175:=Tryz.underlying145
  a175:=Tryz.isAgg145
  z175:=Tryz.sizeOf145
  v175:=Tryz.zeroValue145
  t210:=Tryz.underlying159
  a210:=Tryz.isAgg159
  z210:=Tryz.sizeOf159
  v210:=Tryz.zeroValue159
  t212:=Tryz.underlying174
  a212:=Tryz.isAgg174
  z212:=Tryz.sizeOf174
  v212:=Tryz.zeroValue174
  t213:=Tryz.underlying176
  a213:=Tryz.isAgg176
  z213:=Tryz.sizeOf176
  t232:=Tryz.underlying180
  a232:=Tryz.isAgg180
  z232:=Tryz.sizeOf180
  v232:=Tryz.zeroValue180
  t233:=Tryz.underlying181
  a233:=Tryz.isAgg181
  z233:=Tryz.sizeOf181
  v233:=Tryz.zeroValue181
  g15:=by kernel_rfl
  g16:=by kernel_rfl
  g17:=by kernel_rfl
  g18:=by kernel_rfl
  g19:=by kernel_rfl
  t80:=Tryz.underlying182
  a80:=Tryz.isAgg182
  z80:=Tryz.sizeOf182
  v80:=Tryz.zeroValue182
  i0:=by kernel_rfl
  i2:=by kernel_rfl
  i3:=by kernel_rfl
  i4:=by kernel_rfl
  i5:=by kernel_rfl
  i9:=by kernel_rfl
  i20:=by kernel_rfl
  i21:=by kernel_rfl
  i37:=by kernel_rfl
  i46:=by kernel_rfl
  i51:=by kernel_rfl
  i53:=by kernel_rfl
  i75:=by kernel_rfl
  i80:=by kernel_rfl
  i85:=by kernel_rfl
  i127:=by kernel_rfl
  i143:=by kernel_rfl
  i145:=by kernel_rfl
  i167:=by kernel_rfl
  i168:=by kernel_rfl
  i171:=by kernel_rfl
  i173:=by kernel_rfl
  i175:=by kernel_rfl
  i210:=by kernel_rfl
  i212:=by kernel_rfl
  i232:=by kernel_rfl
  i233:=by kernel_rfl
  m15:=by kernel_rfl
  m16:=by kernel_rfl
  m17:=by kernel_rfl
  m18:=by kernel_rfl
  m19:=by kernel_rfl
  c0:=by kernel_rfl
  c2:=by kernel_rfl
  c3:=by kernel_rfl
  c4:=by kernel_rfl
  c5:=by kernel_rfl
  c9:=by kernel_rfl
  c20:=by kernel_rfl
  c21:=by kernel_rfl
  c37:=by kernel_rfl
  c46:=by kernel_rfl
  c51:=by kernel_rfl
  c53:=by kernel_rfl
  c75:=by kernel_rfl
  c80:=by kernel_rfl
  c85:=by kernel_rfl
  c127:=by kernel_rfl
  c143:=by kernel_rfl
  c145:=by kernel_rfl
  c167:=by kernel_rfl
  c168:=by kernel_rfl
  c171:=by kernel_rfl
  c173:=by kernel_rfl
  c175:=by kernel_rfl
  c210:=by kernel_rfl
  c212:=by kernel_rfl
  c213:=by kernel_rfl
  c232:=by kernel_rfl
  c233:=by kernel_rfl }
theorem ABZ:G4.f 174=77:=by kernel_rfl
theorem ABY:G4.t 168=147:=by kernel_rfl
theorem oC:G4.g 16=3:=by kernel_rfl
theorem wM:Ln Tryz.prog (G4.f 174)=true:=by kernel_rfl
theorem S5{E:EB}{ti u}(d:Go.Og.look E 3=some (.cells [.ifc ti u])):DB Tryz.prog E glob 77 (MU 147):=by
 have:=AA5 (G:=glob) kl (by rw[oC];decide) (by rw[oC];exact d) wM;rw[ABZ,ABY]at this;exact this
end Go.Proofs.YtnpcmeaplmfdlaaGreatDoor
