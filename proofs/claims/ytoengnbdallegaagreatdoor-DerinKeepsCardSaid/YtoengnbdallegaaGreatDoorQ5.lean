/- What the last text leans on, part 6 of 7: merged out of smaller texts. No condition. -/
import Derived.Test.YtoengnbdallegaaGreatDoorQ4
open Int renaming ofNat -> AA,negSucc -> BQ,reducePow -> Et,natCast_nonneg -> Po,natCast_pow -> iD
open Nat renaming reduceLeDiff -> AB,reduceEqDiff -> AD,reduceLT -> AF,le_refl -> AL,beq_eq -> AS,beq -> AW,ble -> Ag,add -> Ap,ble_eq -> BF,le_trans -> BP,zero_add -> BZ,mod_eq_of_lt -> Bp,mul_one -> CG,not_lt_zero -> DL,lt_irrefl -> DM,min -> Ds,le_succ -> EI,reduceSub -> Ep,reduceMul -> Er,add_sub_cancel_left -> FC,add_assoc -> F0,lt_of_lt_of_le -> Ga,min_eq_left -> G3,zero_le -> HE,sub_self -> HF,le_add_right -> IU,zero_mul -> MZ,sub_zero -> Ma,add_zero -> Mb,add_mul -> Ps,pow_le_pow_right -> ZB,mod_lt -> wj
open Bool renaming and_eq_true -> AJ,or_eq_false_iff -> BJ,or_eq_true -> BN,not_true -> Bt,false_or -> DN,not_false -> Dj,true_and -> Eu,eq_iff_iff -> G5,not_eq_true -> IX,and_true -> Jb
open Option renaming map_some -> B2
open List renaming length_append -> AQ,replicate -> AY,mem_cons -> Ae,getElem?_eq_getElem -> Af,mem_cons_self -> Av,length_cons -> Ay,getElem?_eq_some_iff -> A0,getElem?_append_right -> BB,getElem?_append_left -> Bh,all_cons -> Bj,eq_nil_of_length_eq_zero -> Bo,getElem?_map -> B9,append_nil -> CF,length_map -> CY,drop_zero -> Ca,getElem?_drop -> Cc,length_singleton -> Cf,nil_append -> Ch,mem_of_getElem? -> Ct,mem_cons_of_mem -> Cu,take_of_length_le -> Cy,take_length -> DU,length_take -> D1,mem_map -> EF,getElem?_take_of_lt -> Es,flatten_cons -> FD,append_assoc -> FE,replicate_succ -> FV,mem_of_mem_drop -> HH,ext_getElem? -> HI,flatten_append -> IL,drop_drop -> IV,getElem?_take -> JN,length_replicate -> KF,length_drop -> Md,map_map -> lg,take_zero -> wk,length_eraseIdx_of_lt -> wm,drop_take -> wq
open BitVec renaming ofInt -> BA
set_option linter.all false
set_option maxRecDepth 100000
namespace Go.Proofs.YtoengnbdallegaaGreatDoor
open Go Go.Og
noncomputable section
theorem Ih {Z:H} (ht:Aj Z) (z:List V):∃Z1,Br Z (.cells z)=Z1/\Fr AG Z Z1/\CB Z1 Z.next z/\Z1.next=Z.next+1:=⟨_,rfl,Fr.new ht _,Hn _,rfl⟩
theorem yw (k d:Nat):Gz (some (.int .i64 (AA k))) d=some k:=by
 show (if(0:Int)<=AA k then some (AA k).toNat else none)=_
 exact if_pos (Po k)
abbrev Ix (L:List Nat):Prop:=∀c∈L,c<256
def oC (L:List Nat):List V:=Ho (nI L)
theorem Mn (L:List Nat):(oC L).length=L.length:=by unfold oC nI;rw[HS,CY]
theorem iy (L:List Nat) (k:Nat):(oC L).drop k=oC (L.drop k):=by unfold oC Ho nI;rw[List.map_drop,List.map_drop]
theorem ix (L:List Nat) (k:Nat):(oC L).take k=oC (L.take k):=by unfold oC Ho nI;rw[List.map_take,List.map_take]
theorem aN {L:List Nat} {k c:Nat} (h:L[k]? = some c):(oC L)[k]? = some (.int .u8 (AA c)):=by unfold oC Ho nI;rw[B9,B9,h];rfl
def Emt (z:V):Prop:=z = .nils\/∃b o k,z = .sle b o k 1
theorem Emt.p {z:V} (h:Emt z):z.one=true/\V.beq z z=true/\(∀J:Nat->AH,A2 z J=J 0)/\(∀(E:EB) (Z:H) (J:Nat->List V->AH),srcK E Z 1 z J=J 0 [])/\(∀(E:EB) (Z:H),CQ E Z 1 z=some (0,[]))/\(∀b,¬Al z b):=by
 rcases h with rfl|⟨b,o,k,rfl⟩
 ·exact⟨rfl,rfl,fun _=>rfl,fun _ _ _=>rfl,fun _ _=>rfl,fun _ e=>e⟩
 ·exact⟨rfl,by simp[V.beq],fun _=>rfl,fun _ _ _=>rfl,fun _ _=>rfl,fun _ e=>e⟩
theorem Wc:Emt .nils := .inl rfl
theorem jU (b o k:Nat):Emt (.sle b o k 1) := .inr ⟨b,o,k,rfl⟩
def Oc (Z:H) (v:V) (L:List Nat):Prop:=(L=[]/\Emt v)\/∃b o c M,v = .sl b o L.length c/\(c = .op 1\/∃k,c = .ex k/\L.length<=k)/\CB Z b M/\o+L.length<=M.length/\(M.drop o).take L.length=oC L
section
variable {E:EB} {Z Z':H} {v:V} {L:List Nat} {S:Nat->Prop}
theorem Oc.one (h:Oc Z v L):v.one=true:=by
 rcases h with ⟨_,h⟩|⟨b,o,c,M,rfl,_⟩
 ·exact h.p.1
 ·rfl
theorem Oc.beq (h:Oc Z v L):V.beq v v=true:=by
 rcases h with ⟨_,h⟩|⟨b,o,c,M,rfl,hc,_⟩
 ·exact h.p.2.1
 ·rcases hc with rfl|⟨k,rfl,_⟩<;>simp[V.beq]
theorem Oc.slen (h:Oc Z v L) (J:Nat->AH):A2 v J=J L.length:=by
 rcases h with ⟨rfl,h⟩|⟨b,o,c,M,rfl,_⟩
 ·exact h.p.2.2.1 J
 ·rfl
theorem Oc.lt (h:Oc Z v L) (ht:Aj Z):∀b,Al v b->b<Z.next:=by
 intro b hb
 rcases h with ⟨_,h⟩|⟨b',o,c,M,rfl,_,ha,_⟩
 ·exact absurd hb (h.p.2.2.2.2.2 b)
 ·cases hb;exact ha.lt ht
theorem Oc.fr (h:Oc Z v L) (f:Fr S Z Z') (ht:Aj Z) (hn:∀b,Al v b->¬S b):Oc Z' v L:=by
 rcases h with h|⟨b,o,c,M,rfl,hc,ha,h1,h2⟩
 ·exact .inl h
 ·exact .inr ⟨b,o,c,M,rfl,hc,f.at_ ha ht (hn b rfl),h1,h2⟩
theorem Oc.fr0 (h:Oc Z v L) (f:Fr AG Z Z') (ht:Aj Z):Oc Z' v L:=h.fr f ht fun _ _ e=>e
theorem Oc.nil (Z:H):Oc Z .nils [] := .inl ⟨rfl,Wc⟩
theorem Oc.of_dst (h:Hr Z 1 L.length v (oC L)):Oc Z v L:=by
 rcases h with (⟨h0,rfl,hl⟩|⟨b,rfl,ha,h0,hl⟩)|⟨b,rfl,ha,hl⟩
 ·exact .inl ⟨Bo h0,Wc⟩
 ·exact .inr ⟨b,0,_,_,rfl,.inl rfl,ha,by rw[Mn];omega,by rw[Ca,<-Mn,DU]⟩
 ·exact .inr ⟨b,0,_,_,rfl,.inr ⟨_,rfl,AL _⟩,ha,by rw[Mn];omega,by rw[Ca,<-Mn,DU]⟩
theorem Oc.srcK (h:Oc Z v L) (J:Nat->List V->AH):srcK E Z 1 v J=J L.length (oC L):=by
 rcases h with ⟨rfl,h⟩|⟨b,o,c,M,rfl,_,ha,h1,h2⟩
 ·exact h.p.2.2.2.1 E Z J
 ·rw[WA ha (by omega),CG,h2]
theorem Oc.cells (h:Oc Z v L):CQ E Z 1 v=some (L.length,oC L):=by
 rcases h with ⟨rfl,h⟩|⟨b,o,c,M,rfl,_,ha,h1,h2⟩
 ·exact h.p.2.2.2.2.1 E Z
 ·show (Kh E Z b o (L.length*1)).map _=_
  unfold Kh rd
  rw[<-As,show BC Z.bl b=some (.cells M)from ha,CG]
  simp only[]
  rw[show Ag (o+L.length) M.length=true from Gv h1]
  simp only[if_true,B2]
  rw[h2]
theorem Oc.get (h:Oc Z v L) {k c:Nat} (hk:L[k]? = some c) (J:V->AH):AU 1 v (AA k) (fun b o=>Bc E Z b o J)=J (.int .u8 (AA c)):=by
 have hlt:=(A0.1 hk).1
 rcases h with ⟨rfl,_⟩|⟨b,o,c',M,rfl,_,ha,h1,h2⟩
 ·cases hlt
 ·rw[DJ hlt]
  show Bc E Z b (o+k*1) J=_
  rw[CG]
  refine CK ha ?_
  have:=aN hk
  rw[<-h2,Es hlt,Cc]at this
  exact this
theorem Oc.cut (h:Oc Z v L) {lo hi:Nat} (h1:lo<=hi) (h2:hi<=L.length) (hL:0<L.length) (xl xh:Option V) (hl:xl=some (.int .i64 (AA lo))\/(xl=none/\lo=0)) (hh:xh=some (.int .i64 (AA hi))\/(xh=none/\hi=L.length)) :
  ∃z,DI 1 v xl xh none=some z/\Oc Z z ((L.drop lo).take (hi-lo))/\∀b,Al z b->Al v b:=by
 rcases h with ⟨rfl,_⟩|⟨b,o,c,M,rfl,hc,ha,h3,h4⟩
 ·cases hL
 have bl:Gz xl 0=some lo:=by
  rcases hl with rfl|⟨rfl,rfl⟩
  ·exact yw _ _
  ·rfl
 have bh:Gz xh L.length=some hi:=by
  rcases hh with rfl|⟨rfl,rfl⟩
  ·exact yw _ _
  ·rfl
 have len:((L.drop lo).take (hi-lo)).length=hi-lo:=by rw[D1,Md];omega
 have part:∀o' c',(o'=o+lo\/hi-lo=0/\o'<=o+lo)->(c'=Ud.op 1\/∃k,c' = .ex k/\hi-lo<=k)->Oc Z (.sl b o' (hi-lo) c') ((L.drop lo).take (hi-lo)):=by
  intro o' c' ho hc'
  refine .inr ⟨b,o',c',M,by rw[len],by rw[len];exact hc',ha,by rw[len];omega,?_⟩
  rw[len]
  rcases ho with rfl|⟨h0,_⟩
  ·rw[<-ix,<-iy,<-h4,wq,IV,List.take_take,G3 (by omega)]
  ·rw[h0,wk,wk];rfl
 rcases hc with rfl|⟨k,rfl,hk⟩
 ·unfold DI
  simp only[bl,bh]
  rw[if_pos (by simp;omega)]
  by_cases e:lo=L.length
  ·rw[if_pos (by simpa using e)]
   rw[if_neg (by simp;omega)]
   refine⟨_,rfl,.inl ⟨?_,jU _ _ _⟩,fun _ e=>e.elim⟩
   rw[List.drop_eq_nil_of_le (by omega),List.take_nil]
  ·rw[if_neg (by simpa using e)]
   refine⟨_,rfl,?_,fun b' e=>e⟩
   rw[CG]
   exact part _ _ (.inl rfl) (.inl rfl)
 ·unfold DI
  simp only[bl,bh,show Gz none k=some k from rfl]
  rw[if_pos (by simp;omega)]
  refine⟨_,rfl,?_,fun b' e=>e⟩
  by_cases e:k=lo
  ·rw[if_pos (by simpa using e)]
   exact part _ _ (.inr ⟨by omega,by omega⟩) (.inr ⟨_,rfl,by omega⟩)
  ·rw[if_neg (by simpa using e),CG]
   exact part _ _ (.inl rfl) (.inr ⟨_,rfl,by omega⟩)
theorem Oc.from(h:Oc Z v L) {k:Nat} (hk:k<=L.length) (hL:0<L.length):∃z,DI 1 v (some (.int .i64 (AA k))) none none=some z/\Oc Z z (L.drop k)/\∀b,Al z b->Al v b:=by
 obtain⟨z,h1,h2,h3⟩:=h.cut (lo:=k) (hi:=L.length) hk (AL _) hL _ none (.inl rfl) (.inr ⟨rfl,rfl⟩)
 rw[Cy (by rw[Md];omega)]at h2
 exact⟨z,h1,h2,h3⟩
theorem Oc.to (h:Oc Z v L) {k:Nat} (hk:k<=L.length) (hL:0<L.length):∃z,DI 1 v none (some (.int .i64 (AA k))) none=some z/\Oc Z z (L.take k)/\∀b,Al z b->Al v b:=by
 obtain⟨z,h1,h2,h3⟩:=h.cut (lo:=0) (hi:=k) (HE _) hk hL none _ (.inr ⟨rfl,rfl⟩) (.inl rfl)
 rw[Ca,Ma]at h2
 exact⟨z,h1,h2,h3⟩
theorem Oc.copy (h:Oc Z v L) (ht:Aj Z) (hl:L.length<=1000000):∃u Z',(∀J:V->H->AH,DD E 1 1 .nils v Z J=J u Z')/\Hr Z' 1 L.length u (oC L)/\(∀b,Al u b->Z.next<=b)/\Fr AG Z Z':=by
 obtain⟨u,Z',g,d,n,f⟩:=O9 (E:=E) (bytes:=1) (Hr.nil Z 1) ht (fun J=>h.srcK J) h.cells (by rw[Mn,CG]) (Lp _) (by unfold CT;rw[Gv (by omega),Gv (by omega)];rfl)
 rw[BZ,Ch]at d
 exact⟨u,Z',g,d,fun b hb=>(n b hb).elim (fun e=>e.elim) id,f.mono fun _ _ e=>e⟩
end
inductive eR:List Nat->Nat->Nat->Prop
 | short {c:Nat} {r:List Nat}:c % 32<31->eR (c::r) (c % 32) 0
 | one {c d:Nat} {r:List Nat}:c % 32=31->31<=d->d<128->eR (c::d::r) d 1
 | two {c q d:Nat} {r:List Nat}:c % 32=31->1<=q->q<128->d<128->eR (c::(128+q)::d::r) (q*128+d) 2
inductive P3:List Nat->Nat->Nat->Prop
 | short {c:Nat} {r:List Nat}:c<128->P3 (c::r) c 1
 | one {x:Nat} {r:List Nat}:128<=x->P3 (129::x::r) x 2
 | two {x y:Nat} {r:List Nat}:1<=x->P3 (130::x::y::r) (x*256+y) 3
inductive GrP:List Nat->Nat->Nat->Prop
 | one {d:Nat} {r:List Nat}:d<128->GrP (d::r) d 1
 | two {q d:Nat} {r:List Nat}:1<=q->q<128->d<128->GrP ((128+q)::d::r) (q*128+d) 2
def sS (F:List V->H->AH):Prop:=∀{Z:H} {u:V} {L:List Nat} {v n:Nat},Oc Z u L->Ix L->GrP L v n->F [u] Z=some (.tup [.int .u64 (AA v),.int .i64 (AA n),.int .i64 (AA 0)],Z)
def sQ (F:List V->H->AH):Prop:=∀{Z:H} {u:V},(∀x,x<256->Oc Z u [x]->F [u] Z=some (.tup [.int .u64 (AA x),.int .i64 (AA 0)],Z))/\(∀x y,1<=x->x<256->y<256->Oc Z u [x,y]->F [u] Z=some (.tup [.int .u64 (AA (x*256+y)),.int .i64 (AA 0)],Z))
theorem Rz:∀c:Fin 256,Eo .u8 (AA c.val) (AA 127)=AA (c.val % 128):=by decide +kernel
theorem aP:∀c:Fin 256,An .i64 (Ge .u8 (AA c.val) (AA 128))=AA (c.val % 128):=by decide +kernel
theorem aA {a c:Nat} (hc:c<128) (ha:a<65536):Gq .u64 (JV .u64 (AA a) 7) (An .u64 (AA c))=AA (a*128+c):=by
 rw[BV (by rw[Ii];omega),N4,show Ds 7 (IntKind.bits .u64)=7 from rfl,show AA a*2 ^ 7=AA (a*2 ^ 7)from rfl,KI (by rw[Ii];omega),Uo,BitVec.toNat_or,HN,HN,show IntKind.bits .u64=64 from rfl,Bp (show a*2 ^ 7<2 ^ 64 by omega),Bp (show c<2 ^ 64 by omega),aI (show c<2 ^ 7 by omega)]
 exact KI (by rw[Ii];omega)
theorem mV:∀c:Fin 256,Eo .u8 (AA c.val) (AA 31)=AA (c.val % 32):=by decide +kernel
theorem rV:∀c:Fin 256,(AA c.val).fdiv (2 ^ (Ds (AA 6).toNat 8))=AA (c.val / 64)/\IntKind.wrap .u8 (BA 8 (AA c.val) &&& BA 8 (AA 32)).toNat=AA (c.val / 32 % 2*32):=by decide +kernel
def sU (F:List V->H->AH):Prop:=∀{Z:H} {u:V} {L:List Nat} {no n:Nat},Oc Z u L->Ix L->eR L no n->F [u] Z=some (.tup [.int .i64 (AA no),.int .i64 (AA n),.int .i64 (AA 0)],Z)
def dE (F:List V->H->AH):Prop:=∀{Z:H} {u:V} {L:List Nat} {l k:Nat},Oc Z u L->Ix L->P3 L l k->F [u] Z=some (.tup [.int .i64 (AA l),.int .i64 (AA k),.int .i64 (AA 0)],Z)
structure xD (L:List Nat) (c:Nat) (mk:Bool) (no l h:Nat):Prop where
 c:∃x r,L=x::r/\x / 64=c/\(x / 32 % 2=1↔mk=true)
 p:∃n k,eR L no n/\P3 (L.drop (1+n)) l k/\h=1+n+k/\1+n<=L.length/\n<=9/\k<=9
def XO (F:List V->H->AH):Prop:=∀{Z:H} {u:V} {L:List Nat} {c no l h:Nat} {mk:Bool},Aj Z->Oc Z u L->Ix L->xD L c mk no l h ->
 ∃Z',F [u] Z=some (.tup [.agg [.int .i64 (AA c),.int .i64 (AA no)],.bool mk,.int .i64 (AA l),.int .i64 (AA h),.int .i64 (AA 0)],Z')/\Fr AG Z Z'
section
variable {E:EB} {D:Ak} {W:AI} {N:Nat}
theorem AFM (hN:2<N):sS (Y3 E D W N):=by
 intro Z u L v n h hb hg
 obtain⟨N,rfl⟩:∃k,N=k+3:=⟨N-3,by omega⟩
 have sl:=h.slen
 cases hg with
 | @one d r hd=>
  have g:=h.get (E:=E) (k:=0) (c:=v) rfl
  have hd256:v<256:=by omega
  have e1:Eo .u8 (AA v) (AA 127)=AA (v % 128):=Rz ⟨v,hd256⟩
  have e2:v % 128=v:=Bp hd
  have e3:Gq .u64 (JV .u64 (AA 0) 7) (An .u64 (AA v))=AA v:=by
   rw[aA hd (by decide),MZ,BZ]
  have dl:decide (0<(v::r).length)=true:=decide_eq_true (by simp)
  have d1:decide (v<128)=true:=decide_eq_true hd
  have d2:decide (v=128)=false:=decide_eq_false (by omega)
  have z:GB .u64 (AA 0) 57=AA 0:=rfl
  have key:∀K R,J0 E D W K R (AA 0) u (AA (v::r).length) (AA 0) Z=some (.tup [.int .u64 (AA v),.int .i64 (AA 1),.int .i64 (AA 0)],Z):=by
   intro K R
   unfold J0
   simp -implicitDefEqProofs only [↓rP,rA,AD,AF,AB,dl,↓g,decide_true,d2,z,BW,Bt,d1,e1,e2,e3,Bb (show 0+1<=9223372036854775807 by omega)]
   all_goals rfl
  show M4 E D W (Sm E D W (N+3) (N+3)) u Z=_
  unfold M4
  rw[sl]
  exact key _ _
 | @two q d r h1 h2 h3=>
  have g0:=h.get (E:=E) (k:=0) (c:=128+q) rfl
  have g1:=h.get (E:=E) (k:=1) (c:=d) rfl
  have e0:Eo .u8 (AA (128+q)) (AA 127)=AA q:=by
   have:Eo .u8 (AA (128+q)) (AA 127)=AA ((128+q) % 128):=Rz ⟨128+q,by omega⟩
   rw[this];congr 1;omega
  have e1:Eo .u8 (AA d) (AA 127)=AA d:=by
   have:Eo .u8 (AA d) (AA 127)=AA (d % 128):=Rz ⟨d,by omega⟩
   rw[this,Bp h3]
  have p0:Gq .u64 (JV .u64 (AA 0) 7) (An .u64 (AA q))=AA q:=by
   rw[aA h2 (by decide),MZ,BZ]
  have p1:Gq .u64 (JV .u64 (AA q) 7) (An .u64 (AA d))=AA (q*128+d):=aA h3 (by omega)
  have dl0:decide (0<((128+q)::d::r).length)=true:=decide_eq_true (by simp)
  have dl1:decide (1<((128+q)::d::r).length)=true:=decide_eq_true (by simp)
  have d0:decide (128+q<128)=false:=decide_eq_false (by omega)
  have d1:decide (d<128)=true:=decide_eq_true h3
  have d2:decide (128+q=128)=false:=decide_eq_false (by omega)
  have z0:GB .u64 (AA 0) 57=AA 0:=rfl
  have z1:GB .u64 (AA q) 57=AA 0:=by
   rw[Ri (show 57<=64 by decide),Nat.div_eq_of_lt (by omega)]
  have k0:∀K R,J0 E D W K R (AA 0) u (AA ((128+q)::d::r).length) (AA 0) Z=R (AA q) u (AA ((128+q)::d::r).length) (AA 1) Z:=by
   intro K R
   unfold J0
   simp -implicitDefEqProofs only [↓rP,rA,AD,AF,AB,dl0,↓g0,decide_true,d2,z0,BW,Bt,d0,e0,p0,Bb (show 0+1<=9223372036854775807 by omega)]
   all_goals rfl
  have k1:∀K R,J0 E D W K R (AA q) u (AA ((128+q)::d::r).length) (AA 1) Z=some (.tup [.int .u64 (AA (q*128+d)),.int .i64 (AA 2),.int .i64 (AA 0)],Z):=by
   intro K R
   unfold J0
   simp -implicitDefEqProofs only [↓rP,rA,AD,AF,AB,dl1,↓g1,decide_true,z1,BW,Bt,d1,e1,p1,show decide (1=0)=false from rfl,Bb (show 1+1<=9223372036854775807 by omega)]
   all_goals rfl
  show M4 E D W (Sm E D W (N+3) (N+3)) u Z=_
  unfold M4
  rw[sl]
  exact(k0 _ _).trans (k1 _ _)
theorem AFV (hG : sS (D 139)) : sU (Y6 E D W N) := by
 intro Z u L no n h hb hn
 have long : ∀ (c v k : Nat) (r : List Nat), L = c :: r → c % 32 = 31 → GrP r v k → 31 ≤ v → v ≤ 268435456 → 0 < r.length → Y6 E D W N [u] Z = some (.tup [.int .i64 (AA v), .int .i64 (AA k), .int .i64 (AA 0)], Z) := fun c v k r hL hc hg hv hv2 hr => by
  subst hL
  have hc256 : c < 256 := hb c Av
  have g := h.get (E := E) (k := 0) (c := c) rfl
  have e1 : An .i64 (Eo .u8 (AA c) (AA 31)) = AA 31 := by
   have : Eo .u8 (AA c) (AA 31) = AA (c % 32) := mV ⟨c, hc256⟩
   rw [this, hc]; rfl
  obtain ⟨w, gw, ow, _⟩ := h.from (k := 1) (by simp) (by simp)
  have gk : ∀ J : V → AH, gK (DI 1 u (some (.int .i64 (AA 1))) none none) J = J w := fun J => by rw [gw]; rfl
  have g2 := hG ow (fun x hx => hb x (HH hx)) hg
  have d1 : decide (31 < 31) = false := rfl
  have d2 : decide (v < 31) = false := decide_eq_false (by omega)
  have d3 : decide (268435456 < v) = false := decide_eq_false (by omega)
  have wv : An .i64 (AA v) = AA v := BV (show v ≤ 9223372036854775807 by omega)
  show PG E D W u Z = _
  unfold PG
  simp -implicitDefEqProofs only [↓rP, rA, AD, AF, AB, ↓g, e1, d1, ↓gk, ↓g2, BW, decide_true, Bt, d2, d3, wv]
 cases hn with
 | @one c d r h1 h2 h3 => exact long c no 1 (no :: r) rfl h1 (.one h3) h2 (by omega) (by simp)
 | @two c q d r h1 h2 h3 h4 => exact long c (q * 128 + d) 2 ((128 + q) :: d :: r) rfl h1 (.two h2 h3 h4) (by omega) (by omega) (by simp)
 | @short c r hc =>
  have hc256 : c < 256 := hb c Av
  have g := h.get (E := E) (k := 0) (c := c) rfl
  have e1 : An .i64 (Eo .u8 (AA c) (AA 31)) = AA (c % 32) := by
   have : Eo .u8 (AA c) (AA 31) = AA (c % 32) := mV ⟨c, hc256⟩
   rw [this]; exact BV (show c % 32 ≤ 9223372036854775807 by omega)
  have d1 : decide (c % 32 < 31) = true := decide_eq_true hc
  show PG E D W u Z = _
  unfold PG
  simp -implicitDefEqProofs only [↓rP, rA, AD, AF, AB, ↓g, e1, d1]
theorem ym (hU:sQ (D 140)):dE (gD E D W N):=by
 intro Z u L l k h hb hl
 cases hl with
 | @one x r hx=>
  have x256:l<256:=hb l (by simp)
  have g:=h.get (E:=E) (k:=0) (c:=129) rfl
  have sl:=h.slen
  obtain⟨w,gw,ow,_⟩:=h.cut (lo:=1) (hi:=2) (by decide) (by simp) (by simp) (some (.int .i64 (AA 1))) (some (.int .i64 (AA 2))) (.inl rfl) (.inl rfl)
  have gk:∀J:V->AH,gK (DI 1 u (some (.int .i64 (AA 1))) (some (.int .i64 (AA 2))) none) J=J w:=fun J=>by rw[gw];rfl
  have g2:=(hU (Z:=Z) (u:=w)).1 l x256 ow
  have e1:An .i64 (Ge .u8 (AA 129) (AA 128))=AA 1:=aP (129:Fin 256)
  have d0:decide ((129::l::r).length=0)=false:=decide_eq_false (by simp)
  have d1:decide ((129::l::r).length<=1)=false:=decide_eq_false (by simp)
  have d2:decide (l<128)=false:=decide_eq_false (by omega)
  have d3:decide (2147483647<l)=false:=decide_eq_false (by omega)
  have wv:An .i64 (AA l)=AA l:=BV (show l<=9223372036854775807 by omega)
  show LS E D W u Z=_
  unfold LS
  simp -implicitDefEqProofs only [↓rP,rA,AD,AF,AB,↓g,↓sl,e1,d1,d0,BW,show decide (129<128)=false from rfl,show decide (1=0)=false from rfl,show decide (8<1)=false from rfl,Bb (show 1+1<=9223372036854775807 by omega),↓gk,↓g2,decide_true,Bt,d2,d3,wv]
 | @two x y r hx=>
  have x256:x<256:=hb x (by simp)
  have y256:y<256:=hb y (by simp)
  have g:=h.get (E:=E) (k:=0) (c:=130) rfl
  have sl:=h.slen
  obtain⟨w,gw,ow,_⟩:=h.cut (lo:=1) (hi:=3) (by decide) (by simp) (by simp) (some (.int .i64 (AA 1))) (some (.int .i64 (AA 3))) (.inl rfl) (.inl rfl)
  have gk:∀J:V->AH,gK (DI 1 u (some (.int .i64 (AA 1))) (some (.int .i64 (AA 3))) none) J=J w:=fun J=>by rw[gw];rfl
  have g2:=(hU (Z:=Z) (u:=w)).2 x y hx x256 y256 ow
  have e1:An .i64 (Ge .u8 (AA 130) (AA 128))=AA 2:=aP (130:Fin 256)
  have d0:decide ((130::x::y::r).length=0)=false:=decide_eq_false (by simp)
  have d1:decide ((130::x::y::r).length<=2)=false:=decide_eq_false (by simp)
  have d2:decide (x*256+y<128)=false:=decide_eq_false (by omega)
  have d3:decide (2147483647<x*256+y)=false:=decide_eq_false (by omega)
  have wv:An .i64 (AA (x*256+y))=AA (x*256+y):=BV (show x*256+y<=9223372036854775807 by omega)
  show LS E D W u Z=_
  unfold LS
  simp -implicitDefEqProofs only [↓rP,rA,AD,AF,AB,↓g,↓sl,e1,d1,d0,BW,show decide (130<128)=false from rfl,show decide (2=0)=false from rfl,show decide (8<2)=false from rfl,Bb (show 1+2<=9223372036854775807 by omega),↓gk,↓g2,decide_true,Bt,d2,d3,wv]
 | @short c r hc=>
  have g:=h.get (E:=E) (k:=0) (c:=l) rfl
  have sl:=h.slen
  have e1:An .i64 (AA l)=AA l:=BV (show l<=9223372036854775807 by omega)
  have d1:decide (l<128)=true:=decide_eq_true hc
  have d0:decide ((l::r).length=0)=false:=decide_eq_false (by simp)
  show LS E D W u Z=_
  unfold LS
  simp -implicitDefEqProofs only [↓rP,rA,AD,AF,AB,↓g,↓sl,e1,d1,d0]
theorem yG (hN:sU (D 116)) (hL:dE (D 117)):XO (F93 E D (AT E D) N):=by
 intro Z u L c no l h mk ht hu hb hh
 obtain⟨x,r,rfl,rfl,hmk⟩:=hh.c
 obtain⟨n,k,hn,hl,rfl,hle,hn9,hk9⟩:=hh.p
 have hx256:x<256:=hb x Av
 obtain⟨Z1,e1,f1,a1,n1⟩:=Ih ht [.int .i64 (AA 0),.int .i64 (AA 0)]
 have h1:=hu.fr0 f1 ht
 have g1:=hN h1 hb hn
 have sl:=hu.slen
 have d0:decide ((x::r).length=0)=false:=decide_eq_false (by simp)
 have ad:CR .i64 (AA 1) (AA n)=AA (1+n):=Bb (by omega)
 obtain⟨w,gw,sw,_⟩:=h1.from hle (by simp)
 have g2:=hL sw (fun c hc=>hb c (HH hc)) hl
 have gk:∀J:V->AH,gK (DI 1 u (some (.int .i64 (AA (1+n)))) none none) J=J w:=fun J=>by rw[gw];rfl
 obtain⟨b,o,cp,M,hv,ha,hM⟩:∃b o cp M,u = .sl b o (x::r).length cp/\CB Z1 b M/\M[o]? = some (.int .u8 (AA x)):=by
  rcases h1 with ⟨h0,_⟩|⟨b,o,cp,M,hv,_,ha,h2,h3⟩
  ·cases h0
  ·refine⟨b,o,cp,M,hv,ha,?_⟩
   have:=aN (L:=x::r) (k:=0) rfl
   rw[<-h3,Es (by simp),Cc]at this
   exact this
 have ex:=rV ⟨x,hx256⟩
 have ex1:(AA x).fdiv (2 ^ (Ds (AA 6).toNat 8))=AA (x / 64):=ex.1
 have ex2:IntKind.wrap .u8 (BA 8 (AA x) &&& BA 8 (AA 32)).toNat=AA (x / 32 % 2*32):=ex.2
 have fw:Fr AG Z1 ⟨Z1.next+22,Z1.bl⟩:=(CU (E:=E) (n:=22) (S:=AG) f1.tidy).fr
 have bne:b≠Z.next:=fun e=>by
  have:b<Z.next:=hu.lt ht b (by rw[hv];rfl)
  omega
 obtain⟨Z4,g4,f4,a4⟩:∃Z4,Dp E D (.store 2 (.tmp 2) (.tmp 45)) [(2,.ptr Z.next 0),(45,.agg [.int .i64 (AA (x / 64)),.int .i64 (AA no)])] ⟨Z1.next+22,Z1.bl⟩=some (.dead,Z4)/\Fr (fun k=>k=Z.next) ⟨Z1.next+22,Z1.bl⟩ Z4/\CB Z4 Z.next [.int .i64 (AA (x / 64)),.int .i64 (AA no)]:=by
  obtain⟨Z4,q1,q2,q3⟩:=Kv (E:=E) (D:=D) (n:=2) (x := .tmp 2) (y := .tmp 45) (e:=[(2,.ptr Z.next 0),(45,.agg [.int .i64 (AA (x / 64)),.int .i64 (AA no)])]) fw.tidy (fw.at_ a1 f1.tidy (fun h=>h)) rfl (show (CI [(2,.ptr Z.next 0),(45,.agg [.int .i64 (AA (x / 64)),.int .i64 (AA no)])] (.tmp 45)).cells=[.int .i64 (AA (x / 64)),.int .i64 (AA no)] from rfl) rfl
  exact⟨Z4,q1,q2,q3⟩
 have uo:=hu.one
 have a6:CR .i64 (AA (1+n)) (AA k)=AA (1+n+k):=Bb (by omega)
 have w5:=(MQ .i64 (AA 1) (AA n)).symm.trans ad
 have w6:=(MQ .i64 (AA (1+n)) (AA k)).symm.trans a6
 have wc:IntKind.wrap .i64 (AA (x / 64))=AA (x / 64):=by rw[<-DO];exact BV (show x / 64<=9223372036854775807 by omega)
 have bm:Hi .neq .none (.int .u8 (AA (x / 32 % 2*32))) (.int .u8 (AA 0))=some (.bool mk):=by
  rcases(by omega:x / 32 % 2=0\/x / 32 % 2=1)with e|e
  ·have:mk=false:=by cases mk with
    | false=>rfl
    | true=>have:=hmk.2 rfl;omega
   rw[e,this];rfl
  ·rw[e,hmk.1 e];rfl
 have go:H4 (Q9 E Z1 22 Xx _ Z4) E D Z1 22 0 Xy Xx ⟨[(0,u),(2,.ptr Z.next 0),(7,.int .i64 (AA no)),(8,.int .i64 (AA n)),(10,.int .i64 (AA l)),(11,.int .i64 (AA k))],Z1.next+22,[Z1.bl],[],0,[]⟩:=
  C5 u rfl (ER rfl (Be uo)) <|
  C5 (.ptr b (o+0*1)) rfl (Jq hv rfl (by simp)) <|
  Wa (.int .u8 (AA x)) (CU (S:=fun k=>k=Z.next) f1.tidy) rfl (D4 (b:=b) (off:=o+0*1) rfl ha hM f1.tidy bne (CV _ rfl)) fun r1=>
  C5 (.int .u8 (AA (x / 64))) rfl (congrArg (fun z=>some (V.int .u8 z)) ex1) <|
  C5 (.int .i64 (AA (x / 64))) rfl (congrArg (fun z=>some (V.int .i64 z)) wc) <|
  C5 (.int .i64 (AA no)) rfl rfl <|
  C5 (.agg [.int .i64 (AA (x / 64)),.int .i64 (AA no)]) rfl rfl <|
  C5 u rfl (ER rfl (Be uo)) <|
  C5 (.ptr b (o+0*1)) rfl (Jq hv rfl (by simp)) <|
  Wa (.int .u8 (AA x)) r1 rfl (D4 (b:=b) (off:=o+0*1) rfl ha hM f1.tidy bne (CV _ rfl)) fun r2=>
  C5 (.int .u8 (AA (x / 32 % 2*32))) rfl (congrArg (fun z=>some (V.int .u8 z)) ex2) <|
  C5 (.bool mk) rfl bm <|
  C5 (.int .i64 (AA l)) rfl rfl <|
  C5 (.int .i64 (AA n)) rfl rfl <|
  C5 (.int .i64 (AA (1+n))) rfl (congrArg (fun z=>some (V.int .i64 z)) w5) <|
  C5 (.int .i64 (AA k)) rfl rfl <|
  C5 (.int .i64 (AA (1+n+k))) rfl (congrArg (fun z=>some (V.int .i64 z)) w6) <|
  TY .dead r2 rfl (by decide) (S':=fun k=>k=Z.next) f4 (fun _ _ h=>h) (fun b h h1 _=>by omega) g4 fun _ _ r3=>
  C5 (.bool mk) rfl rfl <|
  C5 (.int .i64 (AA l)) rfl rfl <|
  C5 (.int .i64 (AA (1+n+k))) rfl rfl <|
  C5 (.int .i64 (AA 0)) rfl rfl <|
  Wb r3
 have d:=Ot (ops:=Xy) go
 refine⟨Z4,?_,(f1.trans fw (fun _ _ h=>h)).trans f4 (fun b hb e=>by omega)⟩
 show cC E D (AT E D) u Z=_
 unfold cC
 simp -implicitDefEqProofs only [↓rP,rS,BW,decide_true,↓e1,↓sl,d0,↓g1,ad,↓gk,↓g2]
 rw[d]
 show BH E Z4 Z.next 0 2 _=_
 rw[Au a4]
 rfl
end
theorem OT {x:AO} {em:Bz} {v z:V} {lo hi:Option AO} (hx:CI em x=v) (g:DI 1 v (DB em lo) (DB em hi) none=some z):BT (.sliceSl 1 x lo hi none) em=some z:=by
 show DI 1 (CI em x) (DB em lo) (DB em hi) none=_
 rw[hx];exact g
theorem E4 {Z:H} {b n o:Nat} {l:List V} {v:V} (ht:Aj Z) (h:CB Z b l) (hc:(AW v.cells.length n&&Ag (Ap o n) l.length&&allOne v.cells)=true) :
  ∃Z',(∀J:H->AH,FW n b o v Z J=J Z')/\Fr (fun k=>k=b) Z Z'/\CB Z' b (HK l o v.cells)/\Z'.next=Z.next:=
 ⟨_,fun J=>Uj h hc,Fr.set ht (h.lt ht) _,Ub _,rfl⟩
def PI (F:List V->H->AH):Prop:=∀{Z:H} {u:V} {L:List Nat} {c no l h:Nat} {mk:Bool},Aj Z->Oc Z u L->Ix L->xD L c mk no l h->h+l<=L.length->L.length<=1000000 ->
 ∃w Z',F [u] Z=some (.tup [.agg [.int .i64 (AA c),.int .i64 (AA no)],.bool mk,w,.int .i64 (AA (h+l)),.int .i64 (AA 0)],Z')/\Oc Z' w ((L.drop h).take l)/\(∀b,Al w b->Z.next<=b)/\Fr AG Z Z'
section
variable {E:EB} {D:Ak} {N:Nat}
theorem ql (hH:XO (D 93)):PI (F57 E D (AT E D) N):=by
 intro Z u L c no l h mk ht hu hb hh hle hL
 obtain⟨x,r,hLx,_,_⟩:=hh.c
 have hL0:0<L.length:=by rw[hLx];simp
 obtain⟨Z1,e1,f1,a1,n1⟩:=Ih ht [.int .i64 (AA 0),.int .i64 (AA 0)]
 obtain⟨Z2,g2,f2⟩:=hH f1.tidy (hu.fr0 f1 ht) hb hh
 obtain⟨Z3,e3,f3,a3,n3⟩:=Ih f2.tidy [.int .i64 (AA 0),.int .i64 (AA 0)]
 obtain⟨Z4,g4,f4,a4,n4⟩:=E4 (n:=2) (o:=0) (v := .agg [.int .i64 (AA c),.int .i64 (AA no)]) f3.tidy a3 rfl
 have a4:CB Z4 Z2.next [.int .i64 (AA c),.int .i64 (AA no)]:=a4
 have hu4:Oc Z4 u L:=(((hu.fr0 f1 ht).fr0 f2 f1.tidy).fr0 f3 f2.tidy).fr f4 f3.tidy fun b hb e=>by
  have h1:=hu.lt ht b hb
  have h2:=f1.le
  have h3:=f2.le
  omega
 have a14:CB Z4 Z.next [.int .i64 (AA 0),.int .i64 (AA 0)]:=f4.at_ (f3.at_ (f2.at_ a1 f1.tidy (fun h=>h)) f2.tidy (fun h=>h)) f3.tidy (fun e=>by
  have h2:=f2.le
  omega)
 have sl:=hu.slen
 have es:D6 .i64 (AA L.length) (AA h)=AA (L.length-h):=Ia (by omega) (by omega)
 have d1:decide (L.length-h<l)=false:=decide_eq_false (by omega)
 obtain⟨z,gz,oz,nz⟩:=hu4.cut (lo:=h) (hi:=h+l) (by omega) hle hL0 (some (.int .i64 (AA h))) (some (.int .i64 (AA (h+l)))) (.inl rfl) (.inl rfl)
 rw[FC]at oz
 have lz:((L.drop h).take l).length=l:=by rw[D1,Md];omega
 have fw:Fr AG Z4 ⟨Z4.next+17,Z4.bl⟩:=(CU (E:=E) (n:=17) (S:=AG) f4.tidy).fr
 obtain⟨w,Z5,g5,d5,m5,f5⟩:=(oz.fr0 fw f4.tidy).copy (E:=E) fw.tidy (by omega)
 have n12:Z1.next<=Z2.next:=f2.le
 have bne:Z2.next≠Z.next:=fun e=>by omega
 have a15:CB Z5 Z.next [.int .i64 (AA 0),.int .i64 (AA 0)]:=f5.at_ (fw.at_ a14 f4.tidy (fun h=>h)) fw.tidy (fun h=>h)
 obtain⟨Z6,g6,f6,a6⟩:∃Z6,Dp E D (.store 2 (.tmp 2) (.tmp 34)) [(2,.ptr Z.next 0),(34,.agg [.int .i64 (AA c),.int .i64 (AA no)])] Z5=some (.dead,Z6)/\Fr (fun k=>k=Z.next) Z5 Z6/\CB Z6 Z.next [.int .i64 (AA c),.int .i64 (AA no)]:=by
  obtain⟨Z6,q1,q2,q3⟩:=Kv (E:=E) (D:=D) (n:=2) (x := .tmp 2) (y := .tmp 34) (e:=[(2,.ptr Z.next 0),(34,.agg [.int .i64 (AA c),.int .i64 (AA no)])]) f5.tidy a15 rfl (show (CI [(2,.ptr Z.next 0),(34,.agg [.int .i64 (AA c),.int .i64 (AA no)])] (.tmp 34)).cells=[.int .i64 (AA c),.int .i64 (AA no)] from rfl) rfl
  exact⟨Z6,q1,q2,q3⟩
 have uo:=hu.one
 have zo:=oz.one
 have wo:=d5.one
 have ad:Hi .add .none (.int .i64 (AA h)) (.int .i64 (AA l))=some (.int .i64 (AA (h+l))):=congrArg (fun z=>some (V.int .i64 z)) ((MQ .i64 (AA h) (AA l)).symm.trans (Bb (by omega)))
 have m6:Z4.next+17<=Z5.next:=f5.le
 have go:H4 (Q9 E Z4 17 Qz _ Z6) E D Z4 17 0 Q1 Qz ⟨[(0,u),(2,.ptr Z.next 0),(7,.ptr Z2.next 0),(8,.bool mk),(9,.int .i64 (AA l)),(10,.int .i64 (AA h))],Z4.next+17,[Z4.bl],[],0,[]⟩:=
  Wa (.agg [.int .i64 (AA c),.int .i64 (AA no)]) (CU (S:=fun k=>k=Z.next) f4.tidy) rfl (Ei (b:=Z2.next) (off:=0) (c:=[.int .i64 (AA c),.int .i64 (AA no)]) rfl a4 rfl rfl f4.tidy bne (CV _ rfl)) fun r1=>
  C5 (.bool mk) rfl rfl <|
  C5 u rfl (ER rfl (Be uo)) <|
  C5 (.int .i64 (AA h)) rfl rfl <|
  C5 (.int .i64 (AA h)) rfl rfl <|
  C5 (.int .i64 (AA l)) rfl rfl <|
  C5 (.int .i64 (AA (h+l))) rfl ad <|
  C5 z rfl (OT rfl gz) <|
  TY w r1 rfl (by decide) (S':=AG) f5 (fun _ _ h=>h.elim) (fun _ h _ _=>h.elim) (OF rfl rfl g5) fun _ _ r2=>
  C5 (.int .i64 (AA h)) rfl rfl <|
  C5 (.int .i64 (AA l)) rfl rfl <|
  C5 (.int .i64 (AA (h+l))) rfl ad <|
  TY .dead r2 rfl (by decide) (S':=fun k=>k=Z.next) f6 (fun _ _ h=>h) (fun b h h1 _=>by omega) g6 fun _ _ r3=>
  C5 (.bool mk) rfl rfl <|
  C5 w rfl (ER rfl (Be wo)) <|
  C5 (.int .i64 (AA (h+l))) rfl rfl <|
  C5 (.int .i64 (AA 0)) rfl rfl <|
  Wb r3
 obtain⟨ev,d,y2,y3,y4,y5,y6⟩:∃ev,AT E D Q1 Qz [(0,u),(2,.ptr Z.next 0),(7,.ptr Z2.next 0),(8,.bool mk),(9,.int .i64 (AA l)),(10,.int .i64 (AA h))] Z4=some (ev,Z6)/\Go.Og.look ev 2=some (.ptr Z.next 0)/\Go.Og.look ev 3=some (.bool mk)/\Go.Og.look ev 4=some w/\Go.Og.look ev 5=some (.int .i64 (AA (h+l)))/\Go.Og.look ev 6=some (.int .i64 (AA 0)):=⟨_,Ot (ops:=Q1) go,rfl,rfl,rfl,rfl,rfl⟩
 have gd:∀J:Bz->H->AH,Ci (AT E D Q1 Qz [(0,u),(2,.ptr Z.next 0),(7,.ptr Z2.next 0),(8,.bool mk),(9,.int .i64 (AA l)),(10,.int .i64 (AA h))] Z4) J=J ev Z6:=fun J=>by rw[d];rfl
 have z2:∀J:V->AH,BR ev 2 J=J (.ptr Z.next 0):=fun J=>BU y2 rfl
 have z3:∀J:V->AH,BR ev 3 J=J (.bool mk):=fun J=>BU y3 rfl
 have z4:∀J:V->AH,BR ev 4 J=J w:=fun J=>BU y4 (Be wo)
 have z5:∀J:V->AH,BR ev 5 J=J (.int .i64 (AA (h+l))):=fun J=>BU y5 rfl
 have z6:∀J:V->AH,BR ev 6 J=J (.int .i64 (AA 0)):=fun J=>BU y6 rfl
 have nw:∀b,Al w b->Z4.next+17<=b:=m5
 rw[lz]at d5
 have ow:Oc Z6 w ((L.drop h).take l):=(Oc.of_dst (by rw[lz];exact d5)).fr f6 f5.tidy fun b hb e=>by
  have:=nw b hb
  omega
 have F12:Fr AG Z Z2:=f1.trans f2 (fun _ _ h=>h)
 have F3:Fr AG Z Z3:=F12.trans f3 (fun _ _ h=>h)
 have F4:Fr AG Z Z4:=F3.trans f4 (fun b hb e=>by omega)
 have F5:Fr AG Z Z5:=(F4.trans fw (fun _ _ h=>h)).trans f5 (fun _ _ h=>h)
 refine⟨w,Z6,?_,ow,fun b hb=>by have:=nw b hb;omega,F5.trans f6 (fun b hb e=>by omega)⟩
 show cO E D (AT E D) (ey E D (AT E D) N) u Z=_
 have k1:cM E D (AT E D) u Z.next 0 Z2.next 0 mk (AA l) (AA h) (AA 0) Z4=some (.tup [.agg [.int .i64 (AA c),.int .i64 (AA no)],.bool mk,w,.int .i64 (AA (h+l)),.int .i64 (AA 0)],Z6):=by
  unfold cM
  simp -implicitDefEqProofs only [↓rP,rA,AD,AF,AB,BW,decide_true,↓gd,↓z2,↓z3,↓z4,↓z5,↓z6,↓Au a6]
 rw[<-k1]
 unfold cO ey
 simp -implicitDefEqProofs only [↓rP,rA,AD,AF,AB,↓e1,↓g2,↓e3,↓g4,BW,decide_true,↓sl,es,d1]
end
theorem qi {Z:H} (ht:Aj Z) {n i:Nat} (hi:i<n) (c:List V):Fr AG Z ⟨Z.next+n,(Z.next+i,.cells c)::Z.bl⟩/\CB ⟨Z.next+n,(Z.next+i,.cells c)::Z.bl⟩ (Z.next+i) c:=by
 refine⟨⟨fun k hk=>?_,IU _ _,fun k hk _=>?_⟩,?_⟩
 ·have hk:Z.next+n<=k:=hk
  show BC ((Z.next+i,FX.cells c)::Z.bl) k=none
  rw[Az,if_neg (by simp only[];omega)];exact ht k (by omega)
 ·show BC ((Z.next+i,FX.cells c)::Z.bl) k=_
  rw[Az,if_neg (by simp only[];omega)]
 ·show BC ((Z.next+i,FX.cells c)::Z.bl) _=_
  rw[Az,if_pos rfl]
theorem yv (a b c d:Nat) (J:Bool->AH):ZD (.flat [(0,.int),(1,.int)]) (.agg [.int .i64 (AA a),.int .i64 (AA b)]) (.agg [.int .i64 (AA c),.int .i64 (AA d)]) J=J (decide ((a,b)=(c,d))):=by
 have h:Jt (.flat [(0,.int),(1,.int)]) (.agg [.int .i64 (AA a),.int .i64 (AA b)]) (.agg [.int .i64 (AA c),.int .i64 (AA d)])=some (AW a c&&(AW b d&&true)):=rfl
 unfold ZD;rw[h]
 show J _=J _
 have nb:∀x y:Nat,AW x y=decide (x=y):=fun x y=>by rw[G5,AS];simp
 rw[nb,nb]
 congr 1
 by_cases h1:a=c
 ·by_cases h2:b=d
  ·subst h1;subst h2;simp
  ·simp[h1,h2]
 ·simp[h1]
structure gH (e:List Nat) (c no:Nat) (mk:Bool) (body:List Nat) (h:Nat):Prop where
 hd:xD e c mk no body.length h
 len:h+body.length=e.length
 body:e.drop h=body
theorem eR.app {L r:List Nat} {no n:Nat} (h:eR L no n):eR (L++r) no n:=by
 cases h with
 | short h=>exact .short h
 | one a b c=>exact .one a b c
 | two a b c d=>exact .two a b c d
theorem P3.app {L r:List Nat} {l k:Nat} (h:P3 L l k):P3 (L++r) l k:=by
 cases h with
 | short h=>exact .short h
 | one a=>exact .one a
 | two a=>exact .two a
theorem xD.app {L r:List Nat} {c no l h:Nat} {mk:Bool} (hd:xD L c mk no l h):xD (L++r) c mk no l h:=by
 obtain⟨⟨x,t,rfl,h1,h2⟩,n,k,h3,h4,h5,h6,h7⟩:=hd
 refine⟨⟨x,t++r,rfl,h1,h2⟩,n,k,h3.app,?_,h5,by rw[AQ];omega,h7⟩
 rw[List.drop_append_of_le_length h6]
 exact h4.app
def MT (F:List V->H->AH):Prop:=∀{Z:H} {p:Nat} {rest:List V} {u tv:V} {L body:List Nat} {c no h:Nat} {mk:Bool},Aj Z->CB Z p (.bool false::rest)->Oc Z u L->Ix L->gH L c no mk body h->L.length<=1000000->HR Z 2 1 tv [.int .i64 (AA c),.int .i64 (AA no)] ->
 ∃w Z',F [.ptr p 0,tv,u] Z=some (w,Z')/\Oc Z' w body/\(∀b,Al w b->Z.next<=b)/\Fr AG Z Z'
def Uc (Z0 Z:H) (v:V) (EL:List (List Nat)):Prop:=∃pvs:List V,Hr Z 1 EL.length v pvs/\(∀b,Al v b->Z0.next<=b)/\∀(i:Nat) (e:List Nat),EL[i]? = some e->∃u,pvs[i]? = some u/\Oc Z u e/\∀b,Al u b->b<Z0.next
def SV (N:Nat) (F:List V->H->AH):Prop:=∀{Z:H} {p:Nat} {rest:List V} {u:V} {EL:List (List Nat)},Aj Z->CB Z p (.bool false::rest)->Oc Z u EL.flatten->Ix EL.flatten->(∀e∈EL,∃c no mk body h,gH e c no mk body h)->EL.flatten.length<=1000000->EL.length<N->EL.length<=10000 ->
 ∃w Z',F [.ptr p 0,u] Z=some (w,Z')/\Uc Z Z' w EL/\Fr AG Z Z'
theorem yN {Z:H} {tv a b:V} (h:HR Z 2 1 tv [a,b]) (J:List V->AH) {E:EB}:AU 2 tv (AA 0) (fun b o=>BH E Z b o 2 J)=J [a,b]:=by
 rcases h with ⟨h0,_,_⟩|⟨q,o,cp,M,rfl,ha,hl,hm⟩
 ·omega
 ·rw[DJ (by decide)]
  show BH E Z q (o+0*2) 2 J=_
  rw[MZ,Mb,Au ha,show GA M o 2 J=J ((M.drop o).take 2)from Hs (by omega)]
  rw[<-hm]
section
variable {E:EB} {D:Ak} {N:Nat}
theorem ah (hT:PI (D 57)) (hN:2<N):MT (xN E D (AT E D) N):=by
 intro Z p rest u tv L body c no h mk ht hp hu hb hE hL ht2
 obtain⟨w,Z1,g1,o1,n1,f1⟩:=hT ht hu hb hE.hd (by rw[hE.len];omega) hL
 have g1:=g1
 rw[hE.len]at g1
 rw[hE.body,DU]at o1
 refine⟨w,Z1,?_,o1,n1,f1⟩
 obtain⟨N,rfl⟩:∃q,N=q+2:=⟨N-2,by omega⟩
 have sl:=hu.slen
 have st:=fun J=>ht2.slen (J:=J)
 have rd:=fun J=>yN ht2 J (E:=E)
 have k1:∀R,Qf E D (AT E D) (cR E D (AT E D)) R p 0 u tv (AA 1) (AA 0) Z=R p 0 w tv (AA 1) (AA 1) Z1:=by
  intro R
  unfold Qf
  have ek:=yv c no c no
  simp -implicitDefEqProofs only [↓rP,rA,AD,AF,AB,↓rd,↓g1,↓sl,↓ek,BW,decide_true,Bb (show 0+1<=9223372036854775807 by omega),show decide (0<1)=true from rfl]
 have k2:∀R,Qf E D (AT E D) (cR E D (AT E D)) R p 0 w tv (AA 1) (AA 1) Z1=some (w,Z1):=by
  intro R
  unfold Qf
  simp -implicitDefEqProofs only [↓rP,rA,AD,AF,AB,show decide (1<1)=false from rfl]
  rfl
 show UA E D (AT E D) (eW E D (AT E D) (N+2) (N+2)) p 0 tv u Z=_
 have k0:∀K,UA E D (AT E D) K p 0 tv u Z=K p 0 u tv (AA 1) (AA 0) Z:=by
  intro K
  unfold UA
  simp -implicitDefEqProofs only [↓rP,rA,AD,AF,AB,↓st]
 rw[k0]
 exact(k1 _).trans (k2 _)
theorem Uc.nil (Z0 Z:H):Uc Z0 Z .nils []:=⟨[],Hr.nil Z 1,fun _ h=>h.elim,fun i e h=>by simp at h⟩
theorem Uc.one {Z0 Z:H} {v:V} {EL:List (List Nat)} (h:Uc Z0 Z v EL):v.one=true:=by obtain⟨_,h,_⟩:=h;exact h.one
theorem Uc.fr {Z0 Z Z':H} {v:V} {EL:List (List Nat)} (h:Uc Z0 Z v EL) (f0:Fr AG Z0 Z) (f:Fr AG Z Z'):Uc Z0 Z' v EL:=by
 obtain⟨pvs,h1,h2,h3⟩:=h
 exact⟨pvs,h1.fr f f0.tidy (fun _ _ h=>h),h2,fun i e hi=>by
  obtain⟨u,a,b,c⟩:=h3 i e hi
  exact⟨u,a,b.fr0 f f0.tidy,c⟩⟩
theorem Uc.app {Z0 Z:H} {v u:V} {EL:List (List Nat)} {e:List Nat} {xb:Nat} (h:Uc Z0 Z v EL) (f0:Fr AG Z0 Z) (hu:Oc Z u e) (hun:∀b,Al u b->b<Z0.next) (hx:CB Z xb [u]) (hn:EL.length<=10000) :
  ∃v' Z',(∀J:V->H->AH,DD E 1 24 v (.sl xb 0 1 (.ex 1)) Z J=J v' Z')/\Uc Z0 Z' v' (EL++[e])/\Fr AG Z0 Z'/\Fr (Al v) Z Z':=by
 obtain⟨pvs,h1,h2,h3⟩:=h
 obtain⟨Z',g,a,n,f⟩:=O8 (E:=E) (bytes:=24) (n:=1) h1 f0.tidy (x := .sl xb 0 1 (.ex 1)) (m:=[u]) (.inr ⟨xb,0,_,[u],rfl,hx,by simp,rfl⟩) (by decide) (by simp[allOne,hu.one]) (by
  unfold CT
  simp only[AJ,BF];omega)
 have hlen:=h1.length
 have keep:∀w m,Oc Z w m->(∀b,Al w b->b<Z0.next)->Oc Z' w m:=fun w m hw hn=>hw.fr f f0.tidy fun b hb hv=>by
  have:=hn b hb;have:=h2 b hv;omega
 refine⟨_,Z',g,⟨pvs++[u],?_,fun b hb=>by cases hb;exact f0.le,fun i e' hi=>?_⟩,f0.trans f (fun b hb hn=>by have:=h2 b hn;omega),f⟩
 ·rw[AQ]
  exact .inl (.inr ⟨Z.next,rfl,a,by simp,by simp;omega⟩)
 ·by_cases hl:i<EL.length
  ·rw[Bh hl]at hi
   obtain⟨w,w1,w2,w3⟩:=h3 i e' hi
   exact⟨w,by rw[Bh (by omega)];exact w1,keep w _ w2 w3,w3⟩
  ·have hlt:=(A0.1 hi).1
   rw[AQ]at hlt
   simp only[Ay,List.length_nil]at hlt
   have hi':i=EL.length:=by omega
   subst hi'
   rw[BB (AL _)]at hi
   simp at hi
   subst hi
   exact⟨u,by rw[BB (by omega)];simp[hlen],keep u _ hu hun,hun⟩
theorem X3 {Z0 Z : H} {p : Nat} {u d : V} {e r : List Nat} {EL : List (List Nat)} (f0 : Fr AG Z0 Z) (hu : Oc Z u (e ++ r)) (hun : ∀ b, Al u b → b < Z0.next) (he : 0 < e.length) (hd : Uc Z0 Z d EL) (hn : EL.length ≤ 10000) :
  ∃ ev z d' Z', AT E D Q7 UT [(0, .ptr p 0), (1, u), (5, d), (9, .int .i64 (AA e.length))] Z = some (ev, Z') ∧ Go.Og.look ev 0 = some (.ptr p 0) ∧ Go.Og.look ev 1 = some z ∧ Go.Og.look ev 5 = some d' ∧
   Uc Z0 Z' d' (EL ++ [e]) ∧ Oc Z' z r ∧ (∀ b, Al z b → b < Z0.next) ∧ Fr AG Z0 Z' := by
 have ht := f0.tidy
 have len : (e ++ r).length = e.length + r.length := AQ
 obtain ⟨z1, g1, o1, n1⟩ := hu.to (k := e.length) (by omega) (by omega)
 obtain ⟨z2, g2, o2, n2⟩ := hu.from (k := e.length) (by omega) (by omega)
 rw [List.take_left] at o1
 rw [List.drop_left] at o2
 obtain ⟨fb, ab⟩ := qi ht (n := 11) (i := 4) (by decide) [z1]
 obtain ⟨d', Z', g, hd', f0', f'⟩ := (hd.fr f0 fb).app (E := E) (f0.trans fb (fun _ _ h => h)) (o1.fr0 fb ht) (fun b hb => hun b (n1 b hb)) ab hn
 have uo := hu.one
 have o1o := o1.one
 have o2o := o2.one
 have do_ := hd.one
 have nd : ∀ b, Al d b → Z0.next ≤ b := by obtain ⟨_, _, h, _⟩ := hd; exact h
 have ndlt : ∀ b, Al d b → b < Z.next := fun b hb => by obtain ⟨_, h, _, _⟩ := hd; exact h.lt ht hb
 have go : FM E D Z 11 0 (Al d) Q7 UT ⟨[(0, .ptr p 0), (1, u), (5, d), (9, .int .i64 (AA e.length))], Z.next + 11, [Z.bl], [], 0, []⟩ _ Z' :=
  Cn d rfl (ER rfl (Be do_)) <|
  Cn u rfl (ER rfl (Be uo)) <|
  Cn (.int .i64 (AA e.length)) rfl rfl <|
  Cn z1 rfl (OT rfl g1) <|
  YR (.sl (Z.next + 4) 0 1 (.ex 1)) (.cells [z1]) 16 (CU ht) rfl (by decide) rfl (VC rfl o1o) fun _ r1 =>
  Js d' r1 rfl (by decide) f' (fun _ _ h => h) (fun b h h1 _ => by have := ndlt b h; omega) (OF rfl rfl g) fun _ _ _ r2 =>
  Cn u rfl (ER rfl (Be uo)) <|
  Cn (.int .i64 (AA e.length)) rfl rfl <|
  Cn z2 rfl (OT rfl g2) <|
  Cn d' rfl (ER rfl (Be hd'.one)) <|
  Cn z2 rfl (ER rfl (Be o2o)) <|
  HZ r2
 obtain ⟨q1, q2⟩ := Fg (ops := Q7) go
 exact ⟨_, z2, d', Z', q1, rfl, rfl, rfl, hd', o2.fr q2 ht (fun b hb hn => by have := hun b (n2 b hb); have := nd b hn; omega), fun b hb => hun b (n2 b hb), f0'⟩
theorem iT (hT:PI (D 57)):SV N (xM E D (AT E D) N):=by
 intro Z0 p rest u EL ht hp hu hb hE hL hNl hn
 have loop:∀(R done:List (List Nat)) (n':Nat) (Z:H) (u d:V),done++R=EL->R.length<n'->Fr AG Z0 Z->Oc Z u R.flatten->(∀b,Al u b->b<Z0.next)->Uc Z0 Z d done ->
   ∃w Z',eV E D (AT E D) N n' p 0 u d Z=some (w,Z')/\Uc Z0 Z' w EL/\Fr AG Z0 Z':=by
  intro R
  induction R with
  | nil=>
   intro done n' Z u d he hn' f hu hun hd
   obtain⟨n',rfl⟩:∃q,n'=q+1:=⟨n'-1,by omega⟩
   rw[CF]at he
   refine⟨d,Z,?_,he ▸ hd,f⟩
   have sl:=hu.slen
   have key:∀R,Qe E D (AT E D) (XD E D (AT E D)) R p 0 u d Z=some (d,Z):=by
    intro R
    unfold Qe XD
    simp -implicitDefEqProofs only [↓rP,rA,AD,AF,AB,↓sl,show decide (0<([]:List (List Nat)).flatten.length)=false from rfl]
   exact key _
  | cons e R ih=>
   intro done n' Z u d he hn' f hu hun hd
   obtain⟨n',rfl⟩:∃q,n'=q+1:=⟨n'-1,by omega⟩
   rw[FD]at hu
   have hmem:e∈EL:=by rw[<-he];simp
   obtain⟨c,no,mk,body,h,hel⟩:=hE e hmem
   have hlen:EL.flatten.length=done.flatten.length+(e.length+R.flatten.length):=by rw[<-he,IL,FD,AQ,AQ]
   have lapp:(e++R.flatten).length=e.length+R.flatten.length:=AQ
   have bL:Ix (e++R.flatten):=fun c hc=>hb c (by rw[<-he,IL,FD];exact List.mem_append_right _ hc)
   have he0:0<e.length:=by
    obtain⟨x,r,hx,_⟩:=hel.hd.c
    rw[hx];simp
   obtain⟨w,Z1,g1,_,_,f1⟩:=hT f.tidy hu bL hel.hd.app (by rw[lapp,hel.len];omega) (by omega)
   have g1:=g1
   rw[hel.len]at g1
   have f01:=f.trans f1 (fun _ _ h=>h)
   obtain⟨ev,z,d',Z2,q,y0,y1,y5,hd',oz,nz,f02⟩:=X3 (E:=E) (D:=D) (p:=p) f01 (hu.fr0 f1 f.tidy) hun he0 (hd.fr f f1) (by
    have:=congrArg List.length he
    rw[AQ]at this;omega)
   obtain⟨w',Z',g',h1,h2⟩:=ih (done++[e]) n' Z2 z d' (by rw[<-he];simp) (by simp only[Ay]at hn';omega) f02 oz nz hd'
   refine⟨w',Z',?_,h1,h2⟩
   rw[<-g']
   have sl:=hu.slen
   have hp':CB Z p (.bool false::rest):=f.at_ hp ht (fun h=>h)
   have lp:∀J:V->AH,Bc E Z p 0 J=J (.bool false):=fun J=>CK hp' rfl
   have gd:∀J:Bz->H->AH,Ci (AT E D Q7 UT [(0,.ptr p 0),(1,u),(5,d),(9,.int .i64 (AA e.length))] Z1) J=J ev Z2:=fun J=>by rw[q];rfl
   have z0:∀J:V->AH,BR ev 0 J=J (.ptr p 0):=fun J=>BU y0 rfl
   have z1:∀J:V->AH,BR ev 1 J=J z:=fun J=>BU y1 (Be oz.one)
   have z5:∀J:V->AH,BR ev 5 J=J d':=fun J=>BU y5 (Be hd'.one)
   have d1:decide (0<(e++R.flatten).length)=true:=decide_eq_true (by omega)
   have key:∀R,Qe E D (AT E D) (XD E D (AT E D)) R p 0 u d Z=R p 0 z d' Z2:=by
    intro R
    unfold Qe
    simp -implicitDefEqProofs only [↓rP,rA,AD,AF,AB,↓sl,d1,↓lp,↓g1,BW,decide_true,↓gd,↓z0,↓z1,↓z5]
   exact key _
 exact loop EL [] N Z0 u .nils rfl hNl (Fr.refl ht) hu (fun b hb=>hu.lt ht b hb) (Uc.nil Z0 Z0)
end
theorem mI {w:V} {l:List V} (h:w.live=true):[w,.agg l].all V.live=true:=by rw[Bj,h];rfl
abbrev El:=List Nat × (Nat × Nat)
def P4 (x:El):Prop:=Ix x.1/\x.1.length<=100000/\∃mk body h,gH x.1 x.2.1 x.2.2 mk body h
def yH (t:Nat):List V:=[.int .i64 (AA 2),.int .i64 (AA t)]
def j9 (F:List V->H->AH):Prop:=∀{Z:H} {w:V} {t c no:Nat},Aj Z->HR Z 2 1 w (yH t)->∃Z',F [w,.agg [.int .i64 (AA c),.int .i64 (AA no)]] Z=some (.bool (decide ((c,no)=(2,t))),Z')/\Fr AG Z Z'
def sY (F:List V->H->AH):Prop:=∀{Z:H} {w:V} {t c no:Nat},Aj Z->HR Z 2 1 w (yH t)->∃Z' r,F [w,.agg [.int .i64 (AA c),.int .i64 (AA no)]] Z=some (.int .i64 r,Z')/\Hp (AA 0) r=decide ((c,no)=(2,t))/\Fr AG Z Z'
structure Bw (B W:List V->H->AH) (Pt:H->Prop) (Fz:List V) (j t:Nat):Prop where
 b:∀Z,Aj Z->Pt Z->∃w Z',B [.agg Fz,.int .i64 (AA j)] Z=some (w,Z')/\HR Z' 2 1 w (yH t)/\Fr AG Z Z'
 w:∀Z,Aj Z->Pt Z->∃Z',W [.agg Fz,.int .i64 (AA j)] Z=some (.bool false,Z')/\Fr AG Z Z'
structure iJ (Fz:List V):Prop where
 ex:∃nm nv rv tv,Fz=[.str nm,nv,rv,tv]/\nv.one=true/\rv.one=true/\tv.one=true/\V.beq nv nv=true/\V.beq rv rv=true/\V.beq tv tv=true
def SU (B W:List V->H->AH) (F:List V->H->AH):Prop:=∀{Pt:H->Prop} {Fz:List V} {Z:H} {p j t:Nat} {u:V} {x:El},(∀Z Z',Aj Z->Fr AG Z Z'->Pt Z->Pt Z')->iJ Fz->Aj Z->CB Z p (.bool false::Fz)->Pt Z->Oc Z u x.1->P4 x->Bw B W Pt Fz j t ->
 ∃Z',F [.ptr p 0,.int .i64 (AA j),u] Z=some (.bool (decide (x.2=(2,t))),Z')/\Fr AG Z Z'
section
variable {E:EB} {D:Ak} {N:Nat}
theorem AFe (hN:3<N):sY (Y5 E D (AT E D) N):=by
 intro Z w t c no ht hw
 obtain⟨N,rfl⟩:∃q,N=q+3:=⟨N-3,by omega⟩
 obtain⟨Z1,e1,f1,a1,n1⟩:=Ih ht [.int .i64 (AA c),.int .i64 (AA no)]
 have hw1:HR Z1 2 1 w (yH t):=hw.fr f1 ht (fun _ _ h=>h)
 have rd:=fun J=>yN hw1 J (E:=E)
 have sl:=fun J=>hw.slen (J:=J)
 have ek:=yv c no 2 t
 have ho:allOne (V.cells (.agg [.int .i64 (AA c),.int .i64 (AA no)]))=true:=rfl
 have k0:∀K,NA E D (AT E D) K w (AA c) (AA no) Z=K w Z.next 0 (AA 1) (AA 0) Z1:=by
  intro K
  unfold NA
  simp -implicitDefEqProofs only [↓rP,rA,AD,AF,AB,ho,↓e1,↓sl]
 have k1:∀R,M9 E D (AT E D) (SQ E D (AT E D)) R w Z.next 0 (AA 1) (AA 0) Z1=(match decide ((c,no)=(2,t))with | true=>some (.int .i64 (AA 0),Z1) | false=>R w Z.next 0 (AA 1) (AA 1) Z1):=by
  intro R
  unfold M9
  simp -implicitDefEqProofs only [↓rP,rA,AD,AF,AB,↓rd,↓Au a1,↓ek,Bb (show 0+1<=9223372036854775807 by omega),show decide (0<1)=true from rfl]
  cases decide ((c,no)=(2,t))<;>rfl
 have k2:∀R,M9 E D (AT E D) (SQ E D (AT E D)) R w Z.next 0 (AA 1) (AA 1) Z1=some (.int .i64 (BQ 0),Z1):=by
  intro R
  unfold M9 SQ
  simp -implicitDefEqProofs only [↓rP,rA,AD,AF,AB,show decide (1<1)=false from rfl]
 cases hd:decide ((c,no)=(2,t))with
 | true=>
  refine⟨Z1,AA 0,?_,rfl,f1⟩
  show NA E D (AT E D) (Sp E D (AT E D) (N+3) (N+3)) w (AA c) (AA no) Z=_
  rw[k0]
  refine(k1 _).trans ?_
  rw[hd]
 | false=>
  refine⟨Z1,BQ 0,?_,rfl,f1⟩
  show NA E D (AT E D) (Sp E D (AT E D) (N+3) (N+3)) w (AA c) (AA no) Z=_
  rw[k0]
  refine(k1 _).trans ?_
  rw[hd]
  exact k2 _
theorem AFf (hX:sY (D 118)):j9 (F95 E D (AT E D) N):=by
 intro Z w t c no ht hw
 obtain⟨Z1,e1,f1,a1,n1⟩:=Ih ht [.int .i64 (AA c),.int .i64 (AA no)]
 obtain⟨Z2,r,g2,hr,f2⟩:=hX f1.tidy (hw.fr f1 ht (fun _ _ h=>h)) (c:=c) (no:=no)
 refine⟨Z2,?_,f1.trans f2 (fun _ _ h=>h)⟩
 rw[<-hr]
 show cB E D (AT E D) w (AA c) (AA no) Z=_
 unfold cB
 have ho:allOne (V.cells (.agg [.int .i64 (AA c),.int .i64 (AA no)]))=true:=rfl
 simp -implicitDefEqProofs only [↓rP,rA,AD,AF,AB,ho,↓e1,↓Au a1,↓g2]
theorem iQ (hH:XO (D 93)) (hC:j9 (D 95)):SU (D 96) (D 97) (F62 E D (AT E D) N):=by
 intro Pt Fz Z p j t u x hPt h4 ht hp hP hu hx hB
 obtain⟨nm,nv,rv,tv,rfl,o1,o2,o3,q1,q2,q3⟩:=h4.ex
 obtain⟨hb,_,mk,body,h,he⟩:=hx
 obtain⟨Z1,g1,f1⟩:=hH ht hu hb he.hd
 obtain⟨Z2,e2,f2,a2,n2⟩:=Ih f1.tidy [.int .i64 (AA 0),.int .i64 (AA 0)]
 obtain⟨Z3,g3,f3,a3,n3⟩:=E4 (n:=2) (o:=0) (v := .agg [.int .i64 (AA x.2.1),.int .i64 (AA x.2.2)]) f2.tidy a2 rfl
 have a3:CB Z3 Z1.next [.int .i64 (AA x.2.1),.int .i64 (AA x.2.2)]:=a3
 have F3:Fr AG Z Z3:=(f1.trans f2 (fun _ _ h=>h)).trans f3 (fun b hb e=>by have:=f1.le;omega)
 have fw:Fr AG Z3 ⟨Z3.next+21,Z3.bl⟩:=(CU (E:=E) (n:=21) (S:=AG) F3.tidy).fr
 have Fw:=F3.trans fw (fun _ _ h=>h)
 obtain⟨w,Z4,g4,s4,f4⟩:=hB.b _ fw.tidy (hPt _ _ ht Fw hP)
 obtain⟨Z5,g5,f5⟩:=hC f4.tidy s4 (c:=x.2.1) (no:=x.2.2)
 have F5:Fr AG Z Z5:=(Fw.trans f4 (fun _ _ h=>h)).trans f5 (fun _ _ h=>h)
 obtain⟨Z6,g6,f6⟩:=hB.w Z5 F5.tidy (hPt _ _ ht F5 hP)
 have F6:Fr AG Z Z6:=F5.trans f6 (fun _ _ h=>h)
 have hp3:CB Z3 p (.bool false::[.str nm,nv,rv,tv]):=F3.at_ hp ht (fun h=>h)
 have ab:V.beq (.agg [.str nm,nv,rv,tv]) (.agg [.str nm,nv,rv,tv])=true:=by simp[V.beq,JY,q1,q2,q3]
 have al:(V.agg [.str nm,nv,rv,tv]).live=true:=rfl
 obtain⟨ev,Z',d,y6,fe⟩:∃ev Z',AT E D Nq Qy [(0,.ptr p 0),(1,.int .i64 (AA j)),(7,.ptr Z1.next 0),(11,.int .i64 (AA 0))] Z3=some (ev,Z')/\Go.Og.look ev 6=some (.bool (decide (x.2=(2,t))))/\Fr AG Z Z':=by
  cases hd:decide (x.2=(2,t))with
  | true=>
   have g5:D 95 [w,.agg [.int .i64 (AA x.2.1),.int .i64 (AA x.2.2)]] Z4=some (.bool true,Z5):=by rw[g5];exact congrArg (fun b=>some (V.bool b,Z5)) hd
   have go:FM E D Z3 21 0 AG Nq Qy ⟨[(0,.ptr p 0),(1,.int .i64 (AA j)),(7,.ptr Z1.next 0),(11,.int .i64 (AA 0))],Z3.next+21,[Z3.bl],[],0,[]⟩ _ Z5:=
    Cn (.int .i64 (AA 0)) rfl rfl <|
    Cn (.bool true) rfl rfl <|
    Cn (.bool true) rfl rfl <|
    Gy (.ptr p 0) rfl rfl rfl <|
    Gy (.ptr p 0) rfl rfl rfl <|
    Gy (.ptr p 1) rfl rfl rfl <|
    TZ (.agg [.str nm,nv,rv,tv]) (CU F3.tidy) rfl rfl (Ei (b:=p) (off:=1) (m:=4) rfl hp3 rfl rfl F3.tidy (fun h=>h) ab) fun _ r1=>
    Gy (.int .i64 (AA j)) rfl rfl rfl <|
    Ta w r1 rfl rfl (by decide) f4 (fun _ _ h=>h) (fun _ h _ _=>h) (Dq (vs:=[.agg [.str nm,nv,rv,tv],.int .i64 (AA j)]) rfl rfl g4) fun _ _ _ r2=>
    TZ (.agg [.int .i64 (AA x.2.1),.int .i64 (AA x.2.2)]) r2 rfl rfl (Ei (b:=Z1.next) (off:=0) (m:=2) rfl a3 rfl rfl F3.tidy (fun h=>h) (CV _ rfl)) fun _ r3=>
    Ta (.bool true) r3 rfl rfl (by decide) f5 (fun _ _ h=>h) (fun _ h _ _=>h) (Dq (vs:=[w,.agg [.int .i64 (AA x.2.1),.int .i64 (AA x.2.2)]]) rfl (mI (Be s4.one)) g5) fun _ _ _ r4=>
    Gy (.bool true) rfl rfl rfl <|
    QL rfl <| QL rfl <| QL rfl <| QL rfl <| QL rfl <| QL rfl <|
    Gy (.bool true) rfl rfl rfl <|
    Cn (.bool true) rfl rfl <|
    Cn (.bool true) rfl rfl <|
    HZ r4
   obtain⟨q1,q2⟩:=Fg (ops:=Nq) go
   exact⟨_,Z5,q1,rfl,F5⟩
  | false=>
   have g5:D 95 [w,.agg [.int .i64 (AA x.2.1),.int .i64 (AA x.2.2)]] Z4=some (.bool false,Z5):=by rw[g5];exact congrArg (fun b=>some (V.bool b,Z5)) hd
   have go:FM E D Z3 21 0 AG Nq Qy ⟨[(0,.ptr p 0),(1,.int .i64 (AA j)),(7,.ptr Z1.next 0),(11,.int .i64 (AA 0))],Z3.next+21,[Z3.bl],[],0,[]⟩ _ Z6:=
    Cn (.int .i64 (AA 0)) rfl rfl <|
    Cn (.bool true) rfl rfl <|
    Cn (.bool true) rfl rfl <|
    Gy (.ptr p 0) rfl rfl rfl <|
    Gy (.ptr p 0) rfl rfl rfl <|
    Gy (.ptr p 1) rfl rfl rfl <|
    TZ (.agg [.str nm,nv,rv,tv]) (CU F3.tidy) rfl rfl (Ei (b:=p) (off:=1) (m:=4) rfl hp3 rfl rfl F3.tidy (fun h=>h) ab) fun _ r1=>
    Gy (.int .i64 (AA j)) rfl rfl rfl <|
    Ta w r1 rfl rfl (by decide) f4 (fun _ _ h=>h) (fun _ h _ _=>h) (Dq (vs:=[.agg [.str nm,nv,rv,tv],.int .i64 (AA j)]) rfl rfl g4) fun _ _ _ r2=>
    TZ (.agg [.int .i64 (AA x.2.1),.int .i64 (AA x.2.2)]) r2 rfl rfl (Ei (b:=Z1.next) (off:=0) (m:=2) rfl a3 rfl rfl F3.tidy (fun h=>h) (CV _ rfl)) fun _ r3=>
    Ta (.bool false) r3 rfl rfl (by decide) f5 (fun _ _ h=>h) (fun _ h _ _=>h) (Dq (vs:=[w,.agg [.int .i64 (AA x.2.1),.int .i64 (AA x.2.2)]]) rfl (mI (Be s4.one)) g5) fun _ _ _ r4=>
    Gy (.bool false) rfl rfl rfl <|
    Gy (.ptr p 0) rfl rfl rfl <|
    Gy (.ptr p 0) rfl rfl rfl <|
    Gy (.ptr p 1) rfl rfl rfl <|
    TZ (.agg [.str nm,nv,rv,tv]) r4 rfl rfl (Ei (b:=p) (off:=1) (m:=4) rfl hp3 rfl rfl F3.tidy (fun h=>h) ab) fun _ r5=>
    Gy (.int .i64 (AA j)) rfl rfl rfl <|
    Ta (.bool false) r5 rfl rfl (by decide) f6 (fun _ _ h=>h) (fun _ h _ _=>h) (Dq (vs:=[.agg [.str nm,nv,rv,tv],.int .i64 (AA j)]) rfl rfl g6) fun _ _ _ r6=>
    Gy (.bool false) rfl rfl rfl <|
    Cn (.bool false) rfl rfl <|
    Cn (.bool false) rfl rfl <|
    HZ r6
   obtain⟨q1,q2⟩:=Fg (ops:=Nq) go
   exact⟨_,Z6,q1,rfl,F6⟩
 refine⟨Z',?_,fe⟩
 have gd:∀J:Bz->H->AH,Ci (AT E D Nq Qy [(0,.ptr p 0),(1,.int .i64 (AA j)),(7,.ptr Z1.next 0),(11,.int .i64 (AA 0))] Z3) J=J ev Z':=fun J=>by rw[d];rfl
 have z6:∀J:V->AH,BR ev 6 J=J (.bool (decide (x.2=(2,t)))):=fun J=>BU y6 rfl
 show cJ E D (AT E D) p 0 (AA j) u Z=_
 unfold cJ
 simp -implicitDefEqProofs only [↓rP,rA,AD,AF,AB,↓g1,↓e2,↓g3,↓gd,↓z6]
end
def gI (Z:H) (v:V) (EL:List (List Nat)):Prop:=∃pvs:List V,HR Z 1 EL.length v pvs/\∀(i:Nat) (e:List Nat),EL[i]? = some e->∃u,pvs[i]? = some u/\Oc Z u e
theorem gI.fr0 {Z Z':H} {v:V} {EL:List (List Nat)} (h:gI Z v EL) (f:Fr AG Z Z') (ht:Aj Z):gI Z' v EL:=by
 obtain⟨pvs,h1,h3⟩:=h
 exact⟨pvs,h1.fr f ht (fun _ _ h=>h),fun i e hi=>by obtain⟨u,a,b⟩:=h3 i e hi;exact⟨u,a,b.fr0 f ht⟩⟩
theorem gI.one {Z:H} {v:V} {EL:List (List Nat)} (h:gI Z v EL):v.one=true:=by obtain⟨_,h,_⟩:=h;exact h.one
theorem gI.slen {Z:H} {v:V} {EL:List (List Nat)} (h:gI Z v EL) (J:Nat->AH):A2 v J=J EL.length:=by obtain⟨_,h,_⟩:=h;exact h.slen
theorem gI.get {E:EB} {Z:H} {v:V} {EL:List (List Nat)} (h:gI Z v EL) {i:Nat} {e:List Nat} (hi:EL[i]? = some e):∃u,(∀J:V->AH,AU 1 v (AA i) (fun b o=>Bc E Z b o J)=J u)/\Oc Z u e:=by
 obtain⟨pvs,h1,h3⟩:=h
 obtain⟨u,hu,ou⟩:=h3 i e hi
 have hlt:=(A0.1 hi).1
 refine⟨u,fun J=>?_,ou⟩
 rcases h1 with ⟨h0,_,_⟩|⟨q,o,cp,M,rfl,ha,hl,hm⟩
 ·omega
 ·rw[DJ hlt]
  show Bc E Z q (o+i*1) J=_
  rw[CG]
  refine CK ha ?_
  rw[hm,Es (by omega),Cc]at hu
  exact hu
def iG (t:Nat):List El->Nat->Option Nat
 | [],_=>none
 | x::r,i=>if x.2=(2,t)then some i else iG t r (i+1)
def oI:Option Nat->Int
 | some i=>AA i
 | none=>BQ 0
theorem TX {t:Nat}:∀{X:List El} {i k:Nat},iG t X i=some k->i<=k/\∃x,X[k-i]? = some x/\x.2=(2,t)
 | [],_,_,h=>by cases h
 | x::r,i,k,h=>by
  unfold iG at h
  split at h
  ·rename_i e
   cases h
   exact⟨AL _,x,by rw[HF];rfl,e⟩
  ·obtain⟨h1,y,h2,h3⟩:=TX h
   refine⟨by omega,y,?_,h3⟩
   rw[show k-i=(k-(i+1))+1 by omega]
   exact h2
def UE (N:Nat) (C F:List V->H->AH):Prop:=∀{Z:H} {v:V} {X:List El} {cb fq t:Nat},Aj Z->gI Z v (X.map (·.1))->X.length<N->X.length<=10000 ->
 (∀(Z1:H) (u:V) (x:El),x∈X->Fr AG Z Z1->Oc Z1 u x.1->∃Z2,C [u,.ptr cb 0,.ptr fq 0] Z1=some (.bool (decide (x.2=(2,t))),Z2)/\Fr AG Z1 Z2) ->
 ∃Z',F [v,.fn 64 [] [.ptr cb 0,.ptr fq 0]] Z=some (.int .i64 (oI (iG t X 0)),Z')/\Fr AG Z Z'
section
variable {E:EB} {D:Ak} {N:Nat}
theorem zV {B W:List V->H->AH} (hS:SU B W (D 62)) {Pt:H->Prop} {Fz L:List V} {Z:H} {p cb fq j t:Nat} {u:V} {x:El} (hPt:∀Z Z',Aj Z->Fr AG Z Z'->Pt Z->Pt Z') (h4:iJ Fz) (ht:Aj Z) (hp:CB Z p (.bool false::Fz)) (hP:Pt Z) (hu:Oc Z u x.1) (hx:P4 x) (hB:Bw B W Pt Fz j t)
  (ac:CB Z cb [.ptr p 0]) (aq:CB Z fq L) (hj:L[1]? = some (.int .i64 (AA j))):∃Z',F64 E D (AT E D) N [u,.ptr cb 0,.ptr fq 0] Z=some (.bool (decide (x.2=(2,t))),Z')/\Fr AG Z Z':=by
 obtain⟨Z1,g,f⟩:=hS hPt h4 ht hp hP hu hx hB
 refine⟨Z1,?_,f⟩
 have uo:=hu.one
 have l1:∀J:V->AH,Bc E Z cb 0 J=J (.ptr p 0):=fun J=>CK ac rfl
 have l2:∀J:V->AH,Bc E Z fq (Ap 0 1) J=J (.int .i64 (AA j)):=fun J=>CK aq hj
 show cI E D (AT E D) u (.ptr cb 0) (.ptr fq 0) Z=_
 unfold cI
 simp -implicitDefEqProofs only [↓rP,rA,AD,AF,AB,↓l1,↓l2,↓g]
theorem yx:UE N (D 64) (xJ E D (AT E D) N):=by
 intro Z v X cb fq t ht hv hN hn hC
 have loop:∀(R done:List El) (n':Nat) (Z1:H),done++R=X->R.length<n'->Fr AG Z Z1->∃Z',Xo E D (AT E D) N n' v (.fn 64 [] [.ptr cb 0,.ptr fq 0]) (AA X.length) (AA done.length) Z1=some (.int .i64 (oI (iG t R done.length)),Z')/\Fr AG Z Z':=by
  intro R
  induction R with
  | nil=>
   intro done n' Z1 he hn' f
   obtain⟨n',rfl⟩:∃q,n'=q+1:=⟨n'-1,by omega⟩
   have hl:X.length=done.length:=by rw[<-he,CF]
   refine⟨Z1,?_,f⟩
   rw[hl]
   have d1:decide (done.length<done.length)=false:=decide_eq_false (DM _)
   have key:∀R,QY E D (AT E D) (W8 E D (AT E D)) R v (.fn 64 [] [.ptr cb 0,.ptr fq 0]) (AA done.length) (AA done.length) Z1=some (.int .i64 (BQ 0),Z1):=by
    intro R
    unfold QY W8
    simp -implicitDefEqProofs only [↓rP,rA,AD,AF,AB,d1]
   exact key _
  | cons x R ih=>
   intro done n' Z1 he hn' f
   obtain⟨n',rfl⟩:∃q,n'=q+1:=⟨n'-1,by omega⟩
   have hl:X.length=done.length+(R.length+1):=by rw[<-he,AQ,Ay]
   have hx:X[done.length]? = some x:=by rw[<-he,BB (AL _),HF];rfl
   obtain⟨u,g,ou⟩:=(hv.fr0 f ht).get (E:=E) (i:=done.length) (e:=x.1) (by rw[B9,hx];rfl)
   obtain⟨Z2,g2,f2⟩:=hC Z1 u x (Ct hx) f ou
   have f02:=f.trans f2 (fun _ _ h=>h)
   have d1:decide (done.length<X.length)=true:=decide_eq_true (by omega)
   have cv:∀J:V->H->AH,FL D (.fn 64 [] [.ptr cb 0,.ptr fq 0]) [u] Z1 J=J (.bool (decide (x.2=(2,t)))) Z2:=fun J=>by
    show AV (D 64 ([]++[u]++[.ptr cb 0,.ptr fq 0]) Z1) J=_
    rw[show ([]++[u]++[V.ptr cb 0,V.ptr fq 0])=[u,.ptr cb 0,.ptr fq 0] from rfl,g2];rfl
   have uo:=ou.one
   have key:∀R',QY E D (AT E D) (W8 E D (AT E D)) R' v (.fn 64 [] [.ptr cb 0,.ptr fq 0]) (AA X.length) (AA done.length) Z1=(match decide (x.2=(2,t))with | true=>some (.int .i64 (AA done.length),Z2) | false=>R' v (.fn 64 [] [.ptr cb 0,.ptr fq 0]) (AA X.length) (AA (done.length+1)) Z2):=by
    intro R'
    unfold QY
    simp -implicitDefEqProofs only [↓rP,rA,AD,AF,AB,d1,↓g,↓cv,Bb (show done.length+1<=9223372036854775807 by omega)]
    cases decide (x.2=(2,t))<;>rfl
   unfold iG
   cases hd:decide (x.2=(2,t))with
   | true=>
    refine⟨Z2,?_,f02⟩
    rw[if_pos (of_decide_eq_true hd)]
    refine(key _).trans ?_
    rw[hd];rfl
   | false=>
    rw[if_neg (of_decide_eq_false hd)]
    obtain⟨Z',g',f'⟩:=ih (done++[x]) n' Z2 (by rw[<-he];simp) (by simp only[Ay]at hn';omega) f02
    rw[AQ,Cf]at g'
    refine⟨Z',?_,f'⟩
    refine(key _).trans ?_
    rw[hd]
    exact g'
 obtain⟨Z',g,f⟩:=loop X [] N Z rfl hN (Fr.refl ht)
 refine⟨Z',?_,f⟩
 have sl:=hv.slen
 rw[CY]at sl
 have k0:∀K,T6 E D (AT E D) K v (.fn 64 [] [.ptr cb 0,.ptr fq 0]) Z=K v (.fn 64 [] [.ptr cb 0,.ptr fq 0]) (AA X.length) (AA 0) Z:=by
  intro K
  unfold T6
  simp -implicitDefEqProofs only [↓rP,rA,AD,AF,AB,↓sl]
 show T6 E D (AT E D) (Xo E D (AT E D) N N) v (.fn 64 [] [.ptr cb 0,.ptr fq 0]) Z=_
 rw[k0]
 exact g
end
def PJ (C X:List V->H->AH):Prop:=∀{Z:H} {v:V} {n i:Nat} {pvs:List V},Aj Z->HR Z 1 n v pvs->allOne pvs=true->i<n->n<=10000 ->
 ∃u Z1 w Z2,C [v] Z=some (u,Z1)/\u.one=true/\X [u,.int .i64 (AA i),.int .i64 (AA (i+1))] Z1=some (w,Z2)/\w.one=true/\HR Z2 1 (n-1) w (pvs.eraseIdx i)/\(∀b,Al w b->Z.next<=b)/\Fr AG Z Z2
theorem Tx:∀{l:List V},(∀(k:Nat) (u:V),l[k]? = some u->u.one=true)->allOne l=true
 | [],_=>rfl
 | v::l,h=>by
  rw[BL,h 0 v rfl,Tx fun k u hk=>h (k+1) u hk];rfl
theorem qo {Z:H} {b:Nat} {l m:List V} (ht:Aj Z) (h:CB Z b l):Fr (fun k=>k=b) Z (Z.set b (.cells m))/\CB (Z.set b (.cells m)) b m:=by
 have hb:=h.lt ht
 have hl:Go.Og.look Z.bl b=some (.cells l):=(As _ _).symm.trans h
 refine⟨⟨fun k hk=>?_,AL _,fun k hk hn=>?_⟩,?_⟩
 ·have hk:Z.next<=k:=hk
  show BC (I0 Z.bl b _) k=none
  rw[As,Ek,if_neg (by omega),<-As]
  exact ht k hk
 ·show BC (I0 Z.bl b _) k=_
  rw[As,Ek,if_neg (fun e=>hn e.symm),As]
 ·show BC (I0 Z.bl b _) b=_
  rw[As,Ek,if_pos rfl,hl];rfl
section
variable {E:EB} {D:Ak} {N:Nat}
theorem q9:PJ (F66 E D (AT E D) N) U7:=by
 intro Z v n i pvs ht h1 ho hi hn
 obtain⟨Z1,e1,f1,a1,n1⟩:=Ih ht []
 have h2:=h1.fr f1 ht (fun _ _ h=>h)
 obtain⟨Z2,g2,a2,n2,f2⟩:=M1 (E:=E) (esz:=1) (bytes:=24) (k:=0) (n:=n) (v := .sl Z.next 0 0 (.ex 0)) (l:=[]) (.inr ⟨_,rfl,a1,rfl⟩) f1.tidy (fun J=>h2.srcK) h2.cells (by omega) ho (by unfold CT;simp only[AJ,BF];omega)
 rw[Ch]at a2
 rw[BZ]at g2
 have hl:pvs.length=n:=by rw[h1.length,CG]
 have F2:Fr AG Z Z2:=f1.trans f2 (fun b hb e=>by cases e;omega)
 obtain⟨f3,a3⟩:=qo (m:=pvs.take i++pvs.drop (i+1)++AY 1 .nils) F2.tidy a2
 refine⟨.sl Z1.next 0 n (.op 1),Z2,.sl Z1.next 0 (n-1) (.op 1),Z2.set Z1.next (.cells (pvs.take i++pvs.drop (i+1)++AY 1 .nils)),?_,rfl,?_,rfl,?_,fun b hb=>by cases hb;exact f1.le,F2.trans f3 fun b hb e=>by omega⟩
 ·have ek:∀J:Bool->AH,ZD .slice v .nils J=J false:=fun J=>by
   rcases h1 with ⟨h0,_,_⟩|⟨q,o,cp,M,rfl,_⟩
   ·omega
   ·rfl
  show cH E D (AT E D) v Z=_
  unfold cH
  simp -implicitDefEqProofs only [↓rP,rA,AD,AF,AB,↓ek,↓e1,↓g2]
 ·show (match Go.Og.look Z2.bl Z1.next with
   | some (.cells l)=>if l.length=n/\i<=i+1/\i+1<=n then some (V.sl Z1.next 0 (n-(i+1-i)) (.op 1),Z2.set Z1.next (.cells (l.take i++l.drop (i+1)++AY (i+1-i) V.nils)))else none
   | _=>none)=_
  rw[show Go.Og.look Z2.bl Z1.next=some (.cells pvs)from(As _ _).symm.trans a2]
  simp only[]
  rw[if_pos ⟨hl,by omega,by omega⟩,show i+1-i=1 by omega]
 ·have pe:(pvs.take i++pvs.drop (i+1))=pvs.eraseIdx i:=(List.eraseIdx_eq_take_drop_succ pvs i).symm
  have pl:(pvs.eraseIdx i).length=n-1:=by rw[wm (by omega),hl]
  refine .inr ⟨Z1.next,0,.op 1,_,rfl,a3,by rw[pe,AQ,pl];simp,?_⟩
  rw[pe,Ca,CG,List.take_append_of_le_length (by omega),<-pl,DU]
end
theorem CZ {Z:H} (ht:Aj Z) (z:List V):∃Z1,Br Z (.cells z)=Z1/\Fr AG Z Z1/\CB Z1 Z.next z/\Z1.next=Z.next+1:=⟨_,rfl,Fr.new ht _,Hn _,rfl⟩
theorem aT {Z:H} {b:Nat} {l:List V} (ht:Aj Z) (h:CB Z b l) (z:List V):∃Z1,Px Z b (.cells z)=Z1/\Fr (fun k=>k=b) Z Z1/\CB Z1 b z:=⟨_,rfl,Fr.set ht (h.lt ht) _,Ub _⟩
section
variable {E:EB} {Z Z1 Z2:H} {w:Nat} {u u1 u2:V} {L L1 L2:List Nat}
end
def vc (k n:Int) (b l:V) (r:Int) (m:V):List V:=[.int .i64 k,.int .i64 n,b,l,.int .i64 r,m]
def jd (u:Int) (k:Nat):Bool:=!B4 (Eo .i64 u (AA k)) (AA 0)
def I1 (u k n:Int) (nb nl:Nat) (r:Int) (nm:Nat):Bool:=
 (((jd u 1 || B4 n (AA 0))&&(jd u 2 || B4 (AA nb) (AA 0)))&&(jd u 4 || B4 (AA nl) (AA 0)))&&(jd u 8 || (B4 r (AA 0)&&B4 (AA nm) (AA 0)))
def FB (F:List V->H->AH):Prop:=∀(Z:H) (u k n r:Int) (b l m:V) (nb nl nm:Nat),Aj Z->GY b nb->GY l nl->GY m nm ->
 ∃Z',F [.agg (vc k n b l r m),.int .i64 u] Z=some (.bool (I1 u k n nb nl r nm),Z')/\Fr AG Z Z'
section
variable {E:EB} {D:Ak} {W:AI} {N:Nat}
theorem ir:FB (F99 E D W N):=by
 intro Z u k n r b l m nb nl nm ht hb hl hm
 obtain⟨Z1,e1,f1,a1,n1⟩:=CZ ht (vc k n b l r m)
 refine⟨Z1,?_,f1⟩
 unfold vc at *
 show cA E D W k n b l r m u Z=_
 unfold cA
 simp -implicitDefEqProofs only [En,HP,Kb,BL,Bk,Df,Fb,KP,L5,Rq,N6,Jb,We,KQ,KR,Rc,Rb,Ra,RZ,N1,Lq,GK,Hv,KL,KM,KO,KK,Hu,KN,Iz,Lw,Lv,Iy,Lu,Gj,EZ,C3,OA,Ik,MB,Nat.add_eq,BZ,Bt,Dj,rC,hb.1,hl.1,hm.1,e1,BG a1,Au a1,hb.2,hl.2,hm.2]
 rfl
theorem Tz (hP:FB (D 99)) {Z:H} (ht:Aj Z) {k n r:Int} {b l m:V} {nb nl nm:Nat} (hb:GY b nb) (hl:GY l nl) (hm:GY m nm) :
  ∃Z',Vk E D W N [.agg (vc k n b l r m)] Z=some (.bool (B4 k (AA 0)&&I1 (AA 0) k n nb nl r nm),Z')/\Fr AG Z Z':=by
 obtain⟨Z1,e1,f1,a1,n1⟩:=CZ ht (vc k n b l r m)
 obtain⟨Z2,g2,f2⟩:=hP Z1 (AA 0) k n r b l m nb nl nm f1.tidy hb hl hm
 unfold vc at e1 a1 g2 ⊢
 show ∃Z',VU E D W k n b l r m Z=_/\_
 unfold VU
 simp -implicitDefEqProofs only [En,HP,Kb,BL,Bk,Df,Fb,KP,L5,Rq,N6,Jb,We,KQ,KR,Rc,Rb,Ra,RZ,N1,Lq,GK,Hv,KL,KM,KO,KK,Hu,KN,Iz,Lw,Lv,Iy,Lu,Gj,EZ,C3,OA,Ik,MB,Nat.add_eq,BZ,Bt,Dj,rC,hb.1,hl.1,hm.1,e1,BG a1,Au a1,g2]
 cases B4 k (AA 0)with
 | true=>exact⟨Z2,rfl,f1.trans f2 (fun _ _ h=>h)⟩
 | false=>exact⟨Z1,rfl,f1⟩
def N0 (h hl hh:Bool) (lo hi v:Int):Bool:=!h || ((!hl || Hp lo v)&&(!hh || Hp v hi))
theorem ZO {Z:H} (ht:Aj Z) (h hl hh mo:Bool) (lo hi v:Int) :
  ∃Z',gG E D W N [.agg [.bool h,.bool hl,.bool hh,.bool mo,.int .i64 lo,.int .i64 hi],.int .i64 v] Z=some (.bool (N0 h hl hh lo hi v),Z')/\Fr AG Z Z':=by
 obtain⟨Z1,e1,f1,a1,n1⟩:=CZ ht [.bool h,.bool hl,.bool hh,.bool mo,.int .i64 lo,.int .i64 hi]
 refine⟨Z1,?_,f1⟩
 show VY E D W h hl hh mo lo hi v Z=_
 unfold VY
 simp -implicitDefEqProofs only [En,HP,Kb,BL,Bk,Df,Fb,KP,L5,Rq,N6,Jb,We,KQ,KR,Rc,Rb,Ra,RZ,N1,Lq,GK,Hv,KL,KM,KO,KK,Hu,KN,Iz,Lw,Lv,Iy,Lu,Gj,EZ,C3,OA,Ik,MB,Nat.add_eq,BZ,Bt,Dj,rC,e1,BG a1,Au a1]
 rfl
structure Ty where
 kind:Int
 tags:V
 has:Bool
 hasLow:Bool
 hasHigh:Bool
 conMore:Bool
 low:Int
 high:Int
 items:V
 fields:V
 root:Int
 more:Bool
 of_:Int
 oneT:tags.one=true
 oneI:items.one=true
 oneF:fields.one=true
def Ty.c (x:Ty):List V:=[.int .i64 x.kind,x.tags,.bool x.has,.bool x.hasLow,.bool x.hasHigh,.bool x.conMore,.int .i64 x.low,.int .i64 x.high,x.items,x.fields,.int .i64 x.root,.bool x.more,.int .i64 x.of_]
structure Fd where
 name:BS
 type:Int
 opt:Bool
 has:Bool
 d0:Int
 d1:Int
 d2:V
 d3:V
 d4:Int
 d5:V
 group:Int
 one2:d2.one=true
 one3:d3.one=true
 one5:d5.one=true
def Fd.c (x:Fd):List V:=[.str x.name,.int .i64 x.type,.bool x.opt,.bool x.has,.int .i64 x.d0,.int .i64 x.d1,x.d2,x.d3,.int .i64 x.d4,x.d5,.int .i64 x.group]
def lZ (L:List V) (esz k:Nat) (c:List V):Prop:=k*esz+esz<=L.length/\(L.drop (k*esz)).take esz=c
theorem lZ.sub {L:List V} {esz k:Nat} {c:List V} (h:lZ L esz k c) (J:List V->AH):GA L (0+k*esz) esz J=J c:=by
 rw[BZ,Hs h.1,h.2]
theorem lZ.get {L:List V} {esz k:Nat} {c:List V} (h:lZ L esz k c) {j:Nat} {v:V} (hj:c[j]? = some v) (J:V->AH):JW L (0+k*esz+j) J=J v:=by
 refine Ru ?_
 rw[N7,<-hj,<-h.2]
 obtain⟨hlt,_⟩:=A0.1 hj
 have hc:c.length<=esz:=by rw[<-h.2];simp only[D1];omega
 rw[JN,if_pos (by omega),Cc,BZ]
structure Ea (Z:H) (esz n:Nat) (v:V) (g:Nat->List V):Prop where
 is:(n=0/\v = .nils)\/∃b c L,v = .sl b 0 n c/\CB Z b L/\∀k,k<n->lZ L esz k (g k)
theorem Ea.len {Z:H} {esz n:Nat} {v:V} {g:Nat->List V} (h:Ea Z esz n v g):GY v n:=by
 rcases h.is with ⟨rfl,rfl⟩|⟨b,c,L,rfl,_⟩
 ·exact GY.nils
 ·exact GY.sl
theorem Ea.fr {S:Nat->Prop} {Z Z':H} {esz n:Nat} {v:V} {g:Nat->List V} (h:Ea Z esz n v g) (f:Fr S Z Z') (ht:Aj Z) (hS:∀b,Al v b->¬S b):Ea Z' esz n v g:=by
 rcases h.is with h|⟨b,c,L,rfl,ha,hc⟩
 ·exact⟨.inl h⟩
 ·exact⟨.inr ⟨b,c,L,rfl,f.at_ ha ht (hS b rfl),hc⟩⟩
theorem Ea.fr0 {Z Z':H} {esz n:Nat} {v:V} {g:Nat->List V} (h:Ea Z esz n v g) (f:Fr AG Z Z') (ht:Aj Z):Ea Z' esz n v g:=h.fr f ht (fun _ _ h=>h)
theorem Ea.all {E:EB} {Z:H} {esz n:Nat} {v:V} {g:Nat->List V} (h:Ea Z esz n v g) {k:Nat} (hk:k<n) (J:List V->AH) :
  AU esz v (AA k) (fun b o=>BH E Z b o esz J)=J (g k):=by
 rcases h.is with ⟨rfl,rfl⟩|⟨b,c,L,rfl,ha,hc⟩
 ·omega
 ·rw[DJ hk]
  show BH E Z b (0+k*esz) esz J=_
  rw[Au ha,(hc k hk).sub]
theorem Ea.one {E:EB} {Z:H} {esz n:Nat} {v:V} {g:Nat->List V} (h:Ea Z esz n v g) {k:Nat} (hk:k<n) {j:Nat} {u:V} (hj:(g k)[j]? = some u) (J:V->AH) :
  AU esz v (AA k) (fun b o=>Bc E Z b (o+j) J)=J u:=by
 rcases h.is with ⟨rfl,rfl⟩|⟨b,c,L,rfl,ha,hc⟩
 ·omega
 ·rw[DJ hk]
  show Bc E Z b (0+k*esz+j) J=_
  rw[BG ha,(hc k hk).get hj]
theorem jE {Z:H} (ht:Aj Z) (x:Ty) {nf:Nat} {fd:Nat->Fd} (hf:Ea Z 11 nf x.fields fun k=>(fd k).c) {k:Nat} (hk:k<nf) :
  ∃Z',Y4 E D W N [.agg x.c,.int .i64 (AA k)] Z=some (.bool (((fd k).opt || (fd k).has) || Hp x.root (AA k)),Z')/\Fr AG Z Z':=by
 obtain⟨Z1,e1,f1,a1,n1⟩:=CZ ht x.c
 refine⟨Z1,?_,f1⟩
 have hf1:=hf.fr0 f1 ht
 have r2:∀J,AU 11 x.fields (AA k) (fun b o=>Bc E Z1 b (o+2) J)=J (.bool (fd k).opt):=fun J=>hf1.one hk rfl J
 have r3:∀J,AU 11 x.fields (AA k) (fun b o=>Bc E Z1 b (o+3) J)=J (.bool (fd k).has):=fun J=>hf1.one hk rfl J
 unfold Ty.c at e1 a1
 show VR E D W x.kind x.tags x.has x.hasLow x.hasHigh x.conMore x.low x.high x.items x.fields x.root x.more x.of_ (AA k) Z=_
 unfold VR
 simp -implicitDefEqProofs only [En,HP,Kb,BL,Bk,Df,Fb,KP,L5,Rq,N6,Jb,We,KQ,KR,Rc,Rb,Ra,RZ,N1,Lq,GK,Hv,KL,KM,KO,KK,Hu,KN,Iz,Lw,Lv,Iy,Lu,Gj,EZ,C3,OA,Ik,MB,Nat.add_eq,BZ,Bt,Dj,rC,x.oneT,x.oneI,x.oneF,e1,BG a1,Au a1,r2,r3]
end
def J5 (F:List V->H->AH):Prop:=∀(Z:H) (h hl hh mo:Bool) (lo hi v:Int),Aj Z->∃Z',F [.agg [.bool h,.bool hl,.bool hh,.bool mo,.int .i64 lo,.int .i64 hi],.int .i64 v] Z=some (.bool (N0 h hl hh lo hi v),Z')/\Fr AG Z Z'
structure Ck (Z:H) (p nT:Nat) (ty:Nat->Ty) (nm:BS) (nv rv tv:V) (rest:List V):Prop where
 at_:CB Z p ([.str nm,nv,rv,tv]++rest)
 n1:nv.one=true
 r1:rv.one=true
 t1:tv.one=true
 row:Ea Z 13 nT tv fun i=>(ty i).c
 apart:∀b,Al tv b->b≠p
section
variable {E:EB} {D:Ak} {W:AI} {N:Nat} {Z Z':H} {p nT:Nat} {ty:Nat->Ty} {nm:BS} {nv rv tv:V} {rest:List V}
theorem Ck.fr (h:Ck Z p nT ty nm nv rv tv rest) (f:Fr AG Z Z') (ht:Aj Z):Ck Z' p nT ty nm nv rv tv rest:=⟨f.at_ h.at_ ht (fun h=>h),h.n1,h.r1,h.t1,h.row.fr0 f ht,h.apart⟩
theorem Ck.types {E:EB} (h:Ck Z p nT ty nm nv rv tv rest) (J:V->AH):Bc E Z p 3 J=J tv:=by
 rw[BG h.at_];rfl
def YO (n:Int):List V:=vc (AA 2) n .nils .nils (AA 0) .nils
theorem YT (hP:FB (D 99)) (hW:J5 (D 100)) (ht:Aj Z) (hc:Ck Z p nT ty nm nv rv tv rest) {i dp:Nat} (hi:i<nT) (hd:dp<=17) (hk:(ty i).kind=AA 2) {n:Int} (hw:((ty i).conMore || N0 (ty i).has (ty i).hasLow (ty i).hasHigh (ty i).low (ty i).high n)=true) :
  ∃Z',iL E D W N [.ptr p 0,.int .i64 (AA i),.agg (YO n),.int .i64 (AA dp)] Z=some (.bool true,Z')/\Fr AG Z Z':=by
 obtain⟨Z1,e1,f1,a1,n1⟩:=CZ ht (YO n)
 have c1:=hc.fr f1 ht
 obtain⟨Z2,g2,f2⟩:=hP Z1 (AA 1) (AA 2) n (AA 0) .nils .nils .nils 0 0 0 f1.tidy GY.nils GY.nils GY.nils
 have a2:=f2.at_ a1 f1.tidy (fun h=>h)
 obtain⟨Z3,g3,f3⟩:=hW Z2 (ty i).has (ty i).hasLow (ty i).hasHigh (ty i).conMore (ty i).low (ty i).high n f2.tidy
 have f12:=f1.trans f2 (fun _ _ h=>h)
 have rd:∀J,AU 13 tv (AA i) (fun b o=>BH E Z1 b o 13 J)=J (ty i).c:=fun J=>c1.row.all hi J
 have hp:I1 (AA 1) (AA 2) n 0 0 (AA 0) 0=true:=rfl
 have hl:=c1.row.len
 rw[hp]at g2
 unfold YO at e1 a1 a2 ⊢
 unfold vc at e1 a1 a2 g2 ⊢
 have d1:decide (nT<=i)=false:=decide_eq_false (by omega)
 have d2:decide (17<dp)=false:=decide_eq_false (by omega)
 show ∃Z',H2 E D W _ p 0 (AA i) (AA 2) n .nils .nils (AA 0) .nils (AA dp) Z=_/\_
 unfold H2
 simp -implicitDefEqProofs only [↓rP,rA,AD,AF,AB,DL,↓e1,↓c1.types,↓hl.2,d1,d2,↓rd,Ty.c,hk,(ty i).oneT,(ty i).oneI,(ty i).oneF,↓BG a1,↓Au a1,↓g2,↓BG a2,↓g3]
 cases hm:(ty i).conMore with
 | true=>exact⟨Z2,rfl,f12⟩
 | false=>
  rw[hm,DN]at hw
  rw[hw]
  exact⟨Z3,rfl,f12.trans f3 (fun _ _ h=>h)⟩
end
structure Vc where
 k:Int
 n:Int
 b:V
 l:V
 r:Int
 m:V
 oneB:b.one=true
 oneL:l.one=true
 oneM:m.one=true
def Vc.c (x:Vc):List V:=[.int .i64 x.k,.int .i64 x.n,x.b,x.l,.int .i64 x.r,x.m]
def Vc.int (n:Int):Vc:=⟨AA 2,n,.nils,.nils,AA 0,.nils,rfl,rfl,rfl⟩
def Vc.abs:Vc:=⟨AA 0,AA 0,.nils,.nils,AA 0,.nils,rfl,rfl,rfl⟩
def Na (p:Nat->Bool):Nat->Nat->Int
 | 0,_=>BQ 0
 | m+1,i=>if p i=true then AA i else Na p m (i+1)
def Ys (p:Nat->Bool):Nat->Nat->Bool
 | 0,_=>false
 | m+1,i=>p i || Ys p m (i+1)
theorem Tb (p:Nat->Bool):∀m i,Hp (AA 0) (Na p m i)=Ys p m i
 | 0,i=>rfl
 | m+1,i=>by
  unfold Na Ys
  by_cases h:p i=true
  ·rw[if_pos h,h];simp only[MA,HE,decide_true,Bool.true_or]
  ·rw[if_neg h,Tb p m (i+1)];simp only[IX]at h;rw[h,DN]
theorem Tv {p:Nat->Bool}:∀{m i:Nat},(∀k,i<=k->k<i+m->p k=false)->Ys p m i=false
 | 0,i,_=>rfl
 | m+1,i,h=>by
  unfold Ys
  rw[h i (AL _) (by omega),Tv (fun k h1 h2=>h k (by omega) (by omega))];rfl
section
variable {E:EB} {D:Ak} {W:AI} {N:Nat} {Z Z':H} {p nT:Nat} {ty:Nat->Ty} {nm:BS} {nv rv tv:V} {rest:List V}
def wi (D:Ak) (Z:H) (f:Nat) (caps:List V) (n:Nat) (g:Nat->Vc) (q:Nat->Bool):Prop:=∀(Z1:H) (k:Nat),k<n->Fr AG Z Z1->∃Z2,D f ([]++[.agg (g k).c]++caps) Z1=some (.bool (q k),Z2)/\Fr AG Z1 Z2
theorem yy {v:V} {n:Nat} {g:Nat->Vc} {f:Nat} {caps:List V} {q:Nat->Bool} (ht:Aj Z) (hr:Ea Z 6 n v fun k=>(g k).c) (hq:wi D Z f caps n g q) (hN:n<N) (hn:n<=1000000) :
  ∃Z',Y8 E D W N [v,.fn f [] caps] Z=some (.int .i64 (Na q n 0),Z')/\Fr AG Z Z':=by
 have loop:∀(m n' i:Nat) (Z1:H),i+m=n->m<n'->Fr AG Z Z1->∃Z2,PO E D W N n' v (.fn f [] caps) (AA n) (AA i) Z1=some (.int .i64 (Na q m i),Z2)/\Fr AG Z Z2:=by
  intro m
  induction m with
  | zero=>
   intro n' i Z1 hi hn' f1
   obtain⟨n',rfl⟩:∃k,n'=k+1:=⟨n'-1,by omega⟩
   refine⟨Z1,?_,f1⟩
   show NC E D W _ _ v (.fn f [] caps) (AA n) (AA i) Z1=_
   unfold NC
   rw[Ej,decide_eq_false (by omega),C3];rfl
  | succ m ih=>
   intro n' i Z1 hi hn' f1
   obtain⟨n',rfl⟩:∃k,n'=k+1:=⟨n'-1,by omega⟩
   have hlt:i<n:=by omega
   have r1:=hr.fr0 f1 ht
   have rd:∀J,AU 6 v (AA i) (fun b o=>BH E Z1 b o 6 J)=J (g i).c:=fun J=>r1.all hlt J
   obtain⟨Z2,g2,f2⟩:=hq Z1 i hlt f1
   have f12:=f1.trans f2 (fun _ _ h=>h)
   show ∃Z',NC E D W _ (PO E D W N n') v (.fn f [] caps) (AA n) (AA i) Z1=_/\_
   unfold NC
   have cv:∀J,FL D (.fn f [] caps) [.agg (g i).c] Z1 J=J (.bool (q i)) Z2:=fun J=>by
    show AV (D f ([]++[.agg (g i).c]++caps) Z1) J=_
    rw[g2];rfl
   unfold Vc.c at rd cv
   have d1:decide (i<n)=true:=decide_eq_true hlt
   simp -implicitDefEqProofs only [↓rP,rA,AD,AF,AB,d1,↓rd,(g i).oneB,(g i).oneL,(g i).oneM,↓cv]
   unfold Na
   by_cases hqi:q i=true
   ·rw[hqi,EZ,if_pos rfl]
    exact⟨Z2,rfl,f12⟩
   ·rw[IX]at hqi
    rw[hqi,C3,if_neg (by simp),Bb (by omega)]
    exact ih n' (i+1) Z2 (by omega) (by omega) f12
 obtain⟨Z2,h1,h2⟩:=loop n N 0 Z (by omega) hN (Fr.refl ht)
 refine⟨Z2,?_,h2⟩
 show SS E D W (PO E D W N N) v (.fn f [] caps) Z=_
 unfold SS
 rw[hr.len.2]
 exact h1
def AAJ (F:List V->H->AH) (D:Ak):Prop:=∀{Z:H} {v:V} {n:Nat} {g:Nat->Vc} {f:Nat} {caps:List V} {q:Nat->Bool},Aj Z->Ea Z 6 n v (fun k=>(g k).c)->wi D Z f caps n g q->n<=10000 ->
  ∃Z',F [v,.fn f [] caps] Z=some (.int .i64 (Na q n 0),Z')/\Fr AG Z Z'
def dO (F:List V->H->AH) (D:Ak):Prop:=∀{Z:H} {v:V} {n:Nat} {g:Nat->Vc} {f:Nat} {caps:List V} {q:Nat->Bool},Aj Z->Ea Z 6 n v (fun k=>(g k).c)->wi D Z f caps n g q->n<=10000 ->
  ∃Z',F [v,.fn f [] caps] Z=some (.bool (Ys q n 0),Z')/\Fr AG Z Z'
theorem zX {D':Ak} (hI:AAJ (D 104) D'):dO (F69 E D W N) D':=by
 intro Z v n g f caps q ht hr hq hn
 obtain⟨Z2,h1,h2⟩:=hI ht hr hq hn
 refine⟨Z2,?_,h2⟩
 show cF E D W v (.fn f [] caps) Z=_
 unfold cF
 rw[h1]
 show some (V.bool (Hp (AA 0) (Na q n 0)),Z2)=_
 rw[Tb]
end
section
variable {E:EB} {D:Ak} {W:AI} {N:Nat} {Z Z':H} {p nT:Nat} {ty:Nat->Ty} {nm:BS} {nv rv tv:V} {rest:List V}
theorem Wd {v:Vc} {n:Nat} {g:Nat->Vc} (hN:n<N) (hn:n<=10000) (ht:Aj Z) (hr:Ea Z 6 n v.l fun k=>(g k).c)
  (hq:∀(Z1:H) (k:Nat),k<n->Fr AG Z Z1->∃Z2,D 68 [.agg (g k).c] Z1=some (.int .i64 (AA 1),Z2)/\Fr AG Z1 Z2) :
  ∃Z',qM E D W N [.agg v.c] Z=some (.int .i64 (AA (1+n)),Z')/\Fr AG Z Z':=by
 have loop:∀(m n' i:Nat) (Z1:H),i+m=n->m<n'->Fr AG Z Z1->∃Z2,eT E D W N n' (AA (1+i)) v.l (AA n) (AA i) Z1=some (.int .i64 (AA (1+n)),Z2)/\Fr AG Z Z2:=by
  intro m
  induction m with
  | zero=>
   intro n' i Z1 hi hn' f1
   obtain⟨n',rfl⟩:∃k,n'=k+1:=⟨n'-1,by omega⟩
   refine⟨Z1,?_,f1⟩
   show QX E D W _ _ (AA (1+i)) v.l (AA n) (AA i) Z1=_
   unfold QX
   rw[Ej,decide_eq_false (by omega),C3]
   obtain rfl:i=n:=by omega
   rfl
  | succ m ih=>
   intro n' i Z1 hi hn' f1
   obtain⟨n',rfl⟩:∃k,n'=k+1:=⟨n'-1,by omega⟩
   have hlt:i<n:=by omega
   have rd:∀J,AU 6 v.l (AA i) (fun b o=>BH E Z1 b o 6 J)=J (g i).c:=fun J=>(hr.fr0 f1 ht).all hlt J
   obtain⟨Z2,g2,f2⟩:=hq Z1 i hlt f1
   obtain⟨Z3,g3,f3⟩:=ih n' (i+1) Z2 (by omega) (by omega) (f1.trans f2 (fun _ _ h=>h))
   refine⟨Z3,?_,f3⟩
   unfold Vc.c at rd g2
   have d1:decide (i<n)=true:=decide_eq_true hlt
   have key:∀K1 K2,QX E D W K1 K2 (AA (1+i)) v.l (AA n) (AA i) Z1=K2 (AA (1+(i+1))) v.l (AA n) (AA (i+1)) Z2:=by
    intro K1 K2
    unfold QX
    simp -implicitDefEqProofs only [↓rP,rA,AD,AF,AB,d1,↓rd,(g i).oneB,(g i).oneL,(g i).oneM,↓g2,Bb (show 1+i+1<=9223372036854775807 by omega),Bb (show i+1<=9223372036854775807 by omega),F0]
   exact(key _ _).trans g3
 obtain⟨Z1,e1,f1,a1,n1⟩:=CZ ht v.c
 obtain⟨Z2,h1,h2⟩:=loop n N 0 Z1 (by omega) hN f1
 refine⟨Z2,?_,h2⟩
 unfold Vc.c at e1 a1
 have hln:=hr.len.2
 have key:∀K,W7 E D W K v.k v.n v.b v.l v.r v.m Z=K (AA 1) v.l (AA n) (AA 0) Z1:=by
  intro K
  unfold W7
  simp -implicitDefEqProofs only [↓rP,rA,AD,AF,AB,v.oneB,v.oneL,v.oneM,↓e1,↓hln,↓BG a1]
 exact(key _).trans h1
theorem WG {D':Ak} (hC:dO (D 69) D') {v:Vc} {n:Nat} {g:Nat->Vc} {ru:Int} (hn:n<=10000) (hv:(B4 v.r (AA 0) || B4 v.r ru)=true) (ht:Aj Z) (hr:Ea Z 6 n v.l fun k=>(g k).c)
  (hq:∀(Z1:H) (q k:Nat),k<n->Fr AG Z Z1->CB Z1 q [.int .i64 ru]->∃Z2,D' 70 ([]++[.agg (g k).c]++[.ptr q 0]) Z1=some (.bool false,Z2)/\Fr AG Z1 Z2) :
  ∃Z',vu E D W N [.agg v.c,.int .i64 ru] Z=some (.bool true,Z')/\Fr AG Z Z':=by
 obtain⟨Z1,e1,f1,a1,n1⟩:=CZ ht v.c
 obtain⟨Z2,e2,f2,a2,n2⟩:=CZ f1.tidy [.int .i64 ru]
 have f02:=f1.trans f2 (fun _ _ h=>h)
 have a12:=f2.at_ a1 f1.tidy (fun h=>h)
 obtain⟨Z3,g3,f3⟩:=hC (Z:=Z2) (caps:=[.ptr Z1.next 0]) (f:=70) (q:=fun _=>false) f02.tidy (hr.fr0 f02 ht) (fun Z9 k hk f9=>hq Z9 Z1.next k hk (f02.trans f9 (fun _ _ h=>h)) (f9.at_ a2 f02.tidy (fun h=>h))) hn
 rw[Tv (fun _ _ _=>rfl)]at g3
 refine⟨Z3,?_,f02.trans f3 (fun _ _ h=>h)⟩
 unfold Vc.c at e1 a12
 show cP E D W v.k v.n v.b v.l v.r v.m ru Z=_
 unfold cP
 cases h0:B4 v.r (AA 0)with
 | true=>simp -implicitDefEqProofs only [↓rP,rS,Ej,MA,v.oneB,v.oneL,v.oneM,↓e1,↓e2,↓BG a12,↓BG a2,h0,↓g3]
 | false=>
  rw[h0,DN]at hv
  simp -implicitDefEqProofs only [↓rP,rS,Ej,MA,v.oneB,v.oneL,v.oneM,↓e1,↓e2,↓BG a12,↓BG a2,h0,hv,↓g3]
theorem vn {i n:Nat} {v:Vc} (hn:n<=5000) (ht:Aj Z) (hr:Ea Z 13 nT tv fun i=>(ty i).c) (h1:nv.one=true) (h2:rv.one=true) (h3:tv.one=true)
  (hF:∀(Z1:H) (p:Nat),Aj Z1->Fr AG Z Z1->Ck Z1 p nT ty nm nv rv tv [.bool false]->∃Z2,D 67 [.ptr p 0,.int .i64 (AA i),.agg v.c,.int .i64 (AA 1)] Z1=some (.bool true,Z2)/\Fr AG Z1 Z2)
  (hC:∀Z1:H,Aj Z1->Fr AG Z Z1->∃Z2,D 68 [.agg v.c] Z1=some (.int .i64 (AA n),Z2)/\Fr AG Z1 Z2) :
  ∃Z',qO E D W N [.agg [.str nm,nv,rv,tv],.int .i64 (AA i),.agg v.c] Z=some (.bool true,Z')/\Fr AG Z Z':=by
 obtain⟨Z1,e1,f1,a1,n1⟩:=CZ ht [.str nm,nv,rv,tv]
 obtain⟨Z2,e2,f2,a2,n2⟩:=CZ f1.tidy v.c
 obtain⟨Z3,e3,f3,a3,n3⟩:=CZ f2.tidy [.str nm,nv,rv,tv,.bool false]
 have f02:=f1.trans f2 (fun _ _ h=>h)
 have f03:=f02.trans f3 (fun _ _ h=>h)
 have r3:=hr.fr0 f03 ht
 have c3:Ck Z3 Z2.next nT ty nm nv rv tv [.bool false]:=⟨a3,h1,h2,h3,r3,fun b hb e=>by
  subst e
  have lo:=f02.le
  rcases hr.is with ⟨_,rfl⟩|⟨b,c,L,rfl,ha,_⟩
  ·exact hb
  ·have:=ha.lt ht
   have hb:Z2.next=b:=hb
   omega⟩
 obtain⟨Z4,g4,f4⟩:=hF Z3 Z2.next f3.tidy f03 c3
 have f04:=f03.trans f4 (fun _ _ h=>h)
 obtain⟨Z5,g5,f5⟩:=hC Z4 f4.tidy f04
 have a12:=f2.at_ a1 f1.tidy (fun h=>h)
 have a23:=f3.at_ a2 f2.tidy (fun h=>h)
 have a24:=f4.at_ a23 f3.tidy (fun h=>h)
 have d1:decide (n<=5000)=true:=decide_eq_true hn
 refine⟨Z5,?_,f04.trans f5 (fun _ _ h=>h)⟩
 unfold Vc.c at e2 a2 a23 a24 g4 g5
 show PE E D W nm nv rv tv (AA i) v.k v.n v.b v.l v.r v.m Z=_
 unfold PE
 simp -implicitDefEqProofs only [↓rP,rA,AD,AF,AB,h1,h2,h3,v.oneB,v.oneL,v.oneM,↓e1,↓e2,↓e3,↓Au a12,↓Au a23,↓Au a24,↓g4,↓g5,d1]
end
section
variable {E:EB} {D:Ak} {W:AI} {N:Nat} {nT:Nat} {ty:Nat->Ty} {nm:BS} {nv rv tv:V}
end
def K9 (x:Nat):Nat->List Nat
 | 0=>[]
 | n+1=>(x / 2 ^ (8*n)) % 256::K9 x n
theorem Jl (x:Nat):∀n,(K9 x n).length=n
 | 0=>rfl
 | n+1=>by simp[K9,Jl x n]
theorem WS (x:Nat):∀n,∀c∈K9 x n,c<256
 | 0,c,h=>by cases h
 | n+1,c,h=>by
  rcases Ae.1 h with rfl|h
  ·exact wj _ (by decide)
  ·exact WS x n c h
def Uh (v:Int):Nat:=(v % 18446744073709551616).toNat
theorem HT (v:Int):(Uh v:Int)=v % 18446744073709551616:=Int.toNat_of_nonneg (Int.emod_nonneg _ (by decide))
theorem S8 (v:Int):An .u64 v=AA (Uh v):=by rw[OL];exact(HT v).symm
theorem Rt (v:Int):∀n:Nat,n<=8->GF v n=nI (K9 (Uh v) n)
 | 0,_=>rfl
 | n+1,h=>by
  show JG v n::GF v n=AA ((Uh v / 2 ^ (8*n)) % 256)::nI (K9 (Uh v) n)
  rw[Rt v n (by omega),<-Tt v (show n<8 by omega),S8]
  congr 1
  rw[Rh _ (by omega),RV]
  show (AA (Uh v) / 2 ^ (8*n)) % 256=_
  have:((2 ^ (8*n):Nat):Int)=(2:Int) ^ (8*n):=by simp
  rw[<-this];rfl
def Gr (x:Nat):Nat:=if x<2 ^ 8 then 1 else if x<2 ^ 16 then 2 else if x<2 ^ 24 then 3 else if x<2 ^ 32 then 4 else if x<2 ^ 40 then 5 else if x<2 ^ 48 then 6 else if x<2 ^ 56 then 7 else 8
theorem Ur (x:Nat):1<=Gr x/\Gr x<=8:=by
 unfold Gr
 repeat' split
 all_goals omega
theorem YG (x:Nat) {n:Nat} (h1:1<=n) (h2:n<Gr x):2 ^ (8*n)<=x:=by
  unfold Gr at h2
  repeat' split at h2
  all_goals first
    | omega
    | (have:n=1\/n=2\/n=3\/n=4\/n=5\/n=6\/n=7:=by omega
       rcases this with rfl|rfl|rfl|rfl|rfl|rfl|rfl<;>omega)
theorem jI (x:Nat) (h:Gr x<8):x<2 ^ (8*Gr x):=by
 unfold Gr at h ⊢
 repeat' split
 all_goals first | assumption | (exfalso;simp_all)
def UJ (F:List V->H->AH) (args:List V) (Z:H) (l:List Int):Prop:=∃u Z',F args Z=some (u,Z')/\Nb Z Z' u l/\Fr AG Z Z'
def yQ (v:Int):List Int:=GF v (Db v)
def j7 (F:List V->H->AH):Prop:=∀(Z:H) (v:Int) (n:Nat),Aj Z->n<=8->UJ F [.int .u64 (An .u64 v),.int .i64 (AA n)] Z (GF v n)
def J6 (F:List V->H->AH):Prop:=∀{Z:H} {v:Int},EN v->Aj Z->UJ F [.int .i64 v] Z (nI (K9 (Uh v) (Db v)))
def LU (F:List V->H->AH):Prop:=∀{Z:H} {x:Nat},x<18446744073709551616->Aj Z->UJ F [.int .u64 (AA x)] Z (nI (K9 x (Gr x)))
section
variable {E:EB} {D:Ak} {W:AI} {N:Nat} {Z Z':H}
theorem mQ (a b:Int):B4 a b=decide (a=b):=by rw[Ju];rw[G5];simp
theorem aM {v:Int} {n:Nat} (hn:n<=8) (hN:8<N) (ht:Aj Z) :
  ∃u Z',vq E D W N [.int .u64 (An .u64 v),.int .i64 (AA n)] Z=some (u,Z')/\Nb Z Z' u (GF v n)/\Fr AG Z Z':=by
 obtain⟨Z1,e1,f1,a1,n1⟩:=CZ ht (AY n [V.int .u8 (AA 0)]).flatten
 have hz:(AY n [V.int .u8 (AA 0)]).flatten=Ho (AY n (AA 0)):=by
  simp[Ho,List.flatten_replicate_singleton]
 have loop:∀(m n' i:Nat) (Z1:H),i+m=n->m<n'->Fr AG Z Z1->Z.next<Z1.next->CB Z1 Z.next (Ho ((GF v n).take i++AY m (AA 0))) ->
   ∃Z',UK E D W N n' (An .u64 v) (AA n) (.sl Z.next 0 n (.ex n)) (AA n) (AA i) Z1=some (.sl Z.next 0 n (.ex n),Z')/\CB Z' Z.next (Ho (GF v n))/\Fr AG Z Z':=by
  intro m
  induction m with
  | zero=>
   intro n' i Z1 hi hn' f1 hx ha
   obtain⟨n',rfl⟩:∃k,n'=k+1:=⟨n'-1,by omega⟩
   refine⟨Z1,?_,?_,f1⟩
   ·show QV E D W _ _ (An .u64 v) (AA n) (.sl Z.next 0 n (.ex n)) (AA n) (AA i) Z1=_
    unfold QV
    rw[Ej,decide_eq_false (by omega),C3];rfl
   ·rw[Cy (by rw[Fe];omega)]at ha
    simpa using ha
  | succ m ih=>
   intro n' i Z1 hi hn' f1 hx ha
   obtain⟨n',rfl⟩:∃k,n'=k+1:=⟨n'-1,by omega⟩
   have hlt:i<n:=by omega
   obtain⟨Z2,e2,f2,a2⟩:=aT f1.tidy ha (HK (Ho ((GF v n).take i++AY (m+1) (AA 0))) i [.int .u8 (JG v (n-1-i))])
   have hsp:HK (Ho ((GF v n).take i++AY (m+1) (AA 0))) i [.int .u8 (JG v (n-1-i))]=Ho ((GF v n).take (i+1)++AY m (AA 0)):=by
    have hl:((GF v n).take i).length=i:=by rw[D1,Fe];omega
    have:=ZW (Ho ((GF v n).take i)) (.int .u8 (AA 0)) (Ho (AY m (AA 0))) (.int .u8 (JG v (n-1-i)))
    rw[HS,hl]at this
    rw[RY,FV,show Ho (AA 0::AY m (AA 0)) = .int .u8 (AA 0)::Ho (AY m (AA 0))from rfl,this]
    rw[List.take_add_one,QF v hlt]
    simp[Ho]
   rw[hsp]at e2 a2
   have f02:=f1.trans f2 (fun b hb h=>by have h:b=Z.next:=h;omega)
   obtain⟨Z3,g3,h3,f3⟩:=ih n' (i+1) Z2 (by omega) (by omega) f02 (by have:=f2.le;omega) a2
   refine⟨Z3,?_,h3,f3⟩
   have d1:decide (i<n)=true:=decide_eq_true hlt
   have en:Hq .i64 (AA 8) (D6 .i64 (D6 .i64 (AA n) (AA 1)) (AA i))=AA (8*(n-1-i)):=by
    rw[Ia (by omega) (by omega),Ia (by omega) (by omega)]
    exact BV (k := .i64) (m:=8*(n-1-i)) (show 8*(n-1-i)<=9223372036854775807 by omega)
   have st:∀J:H->AH,FW 1 Z.next i (.int .u8 (JG v (n-1-i))) Z1 J=J Z2:=fun J=>by
    rw[Uj ha (by
     simp only[HP,Ay,List.length_nil,HS,AQ,D1,Fe,KF,AJ]
     refine⟨⟨rfl,?_⟩,rfl⟩
     rw[BF]
     show i+1<=_
     omega)]
    rw[HP,hsp,e2]
   have ia:∀J:Nat->Nat->AH,AU 1 (.sl Z.next 0 n (.ex n)) (AA i) J=J Z.next i:=fun J=>by
    rw[DJ hlt]
    show J Z.next (0+i*1)=_
    rw[BZ,CG]
   have key:∀K1 K2,QV E D W K1 K2 (An .u64 v) (AA n) (.sl Z.next 0 n (.ex n)) (AA n) (AA i) Z1=K2 (An .u64 v) (AA n) (.sl Z.next 0 n (.ex n)) (AA n) (AA (i+1)) Z2:=by
    intro K1 K2
    unfold QV
    rw[Ej,d1,EZ,en,Hw,ia,Tt v (by omega),st,Bb (by omega)]
   exact(key _ _).trans g3
 rw[hz]at a1
 obtain⟨Z',g,a,f⟩:=loop n N 0 Z1 (by omega) (by omega) f1 (by omega) (by rw[wk,Ch];exact a1)
 refine⟨_,Z',?_,⟨.inr ⟨Z.next,by rw[Fe],a,by rw[HS];simp⟩,fun b hb=>by cases hb;exact AL _⟩,f⟩
 show W3 E D W (UK E D W N N) (An .u64 v) (AA n) Z=_
 unfold W3
 rw[Hw,Hw,DC (by simp only[AJ,BF];refine⟨⟨AL _,?_⟩,?_⟩<;>omega)]
 show UK E D W N N _ _ _ _ _ (Br Z (.cells _))=_
 rw[e1]
 exact g
theorem ZX {v:Int} (hv:EN v) (hO:∀(Z:H) (n:Nat),Aj Z->n<=8->UJ (D 94) [.int .u64 (An .u64 v),.int .i64 (AA n)] Z (GF v n)) (hN:8<N) (ht:Aj Z):UJ (qN E D W N) [.int .i64 v] Z (yQ v):=by
 have hr:=EU v
 have loop:∀(m n' n:Nat),n+m=Db v->1<=n->m<n'->Xp E D W N n' v (AA n) Z=eu E D W N v (AA (Db v)) Z:=by
  intro m
  induction m with
  | zero=>
   intro n' n hn h1 hn'
   obtain⟨n',rfl⟩:∃k,n'=k+1:=⟨n'-1,by omega⟩
   have hn:n=Db v:=by omega
   subst hn
   have en:D6 .i64 (Hq .i64 (AA 8) (AA (Db v))) (AA 1)=AA (8*Db v-1):=by
    rw[show Hq .i64 (AA 8) (AA (Db v))=AA (8*Db v)from BV (k := .i64) (m:=8*Db v) (show _<=9223372036854775807 by omega),Ia (by omega) (by omega)]
   have hw:=Hx hv
   unfold EX at hw
   show QZ E D W _ _ v (AA (Db v)) Z=_
   unfold QZ
   rw[en]
   simp -implicitDefEqProofs only [Hw,Ik,Rj v (show 8*Db v-1<=64 by omega),Ej,mQ,show AA 0=(0:Int)from rfl,show BQ 0=(-1:Int)from rfl]
   rw[QQ]
   rw[BN]at hw
   rcases hw with h|h
   ·rw[h];simp
   ·rw[h];simp
  | succ m ih=>
   intro n' n hn h1 hn'
   obtain⟨n',rfl⟩:∃k,n'=k+1:=⟨n'-1,by omega⟩
   have en:D6 .i64 (Hq .i64 (AA 8) (AA n)) (AA 1)=AA (8*n-1):=by
    rw[show Hq .i64 (AA 8) (AA n)=AA (8*n)from BV (k := .i64) (m:=8*n) (show _<=9223372036854775807 by omega),Ia (by omega) (by omega)]
   have hw:=QJ v h1 (by omega)
   unfold EX at hw
   rw[BJ]at hw
   have key:∀K1 K2,QZ E D W K1 K2 v (AA n) Z=K2 v (AA (n+1)) Z:=by
    intro K1 K2
    unfold QZ
    rw[en]
    simp -implicitDefEqProofs only [Hw,Ik,Rj v (show 8*n-1<=64 by omega),Ej,mQ,show AA 0=(0:Int)from rfl,show BQ 0=(-1:Int)from rfl,hw.1,hw.2,show decide (n<8)=true from decide_eq_true (by omega),Dj,Jb,EZ]
    simp -implicitDefEqProofs only [MB,EZ,show CR .i64 (AA n) (AA 1)=AA (n+1)from Bb (by omega)]
   refine(key _ _).trans ?_
   exact ih n' (n+1) (by omega) (by omega) (by omega)
 obtain⟨u,Z',g,hu,f⟩:=hO Z (Db v) ht hr.2
 refine⟨u,Z',?_,hu,f⟩
 refine(show qN E D W N [.int .i64 v] Z=Xp E D W N N v (AA 1) Z from rfl).trans ?_
 rw[loop (Db v-1) N 1 (by omega) (AL _) (by omega)]
 show cL E D W v (AA (Db v)) Z=_
 unfold cL
 simp -implicitDefEqProofs only [↓g,↓Gj,↓Aw hu.1.one]
theorem AFT (hN:8<N):j7 (vq E D W N):=fun Z v n ht hn=>aM hn hN ht
theorem yP (hO:j7 (D 94)) (hN:8<N):J6 (qN E D W N):=by
 intro Z v hv ht
 have:=ZX (E:=E) (W:=W) hv (fun Z n h1 h2=>hO Z v n h1 h2) hN ht
 unfold yQ at this
 rwa [Rt v _ (EU v).2]at this
theorem yE (hO:j7 (D 94)) (hN:8<N):LU (Vi E D W N):=by
 intro Z x hx ht
 have hr:=Ur x
 have tx:Uh (x:Int)=x:=by
  unfold Uh
  rw[Int.emod_eq_of_lt (by omega) (by omega)];rfl
 have ew:An .u64 (x:Int)=AA x:=by rw[S8,tx]
 have sh:∀n:Nat,n<=8->B4 (GB .u64 (AA x) (8*n)) (AA 0)=decide (x / 2 ^ (8*n)=0):=fun n hn=>by
  rw[Rh _ (by omega)]
  have:((2 ^ (8*n):Nat):Int)=(2:Int) ^ (8*n):=by simp
  rw[<-this]
  exact BW (x / 2 ^ (8*n)) 0
 have ml:∀n:Nat,n<=8->Hq .i64 (AA 8) (AA n)=AA (8*n):=fun n hn=>BV (k := .i64) (m:=8*n) (show _<=9223372036854775807 by omega)
 have loop:∀(m n' n:Nat),n+m=Gr x->1<=n->m<n'->Sk E D W N n' (AA x) (AA n) Z=Vg E D W N (AA x) (AA (Gr x)) Z:=by
  intro m
  induction m with
  | zero=>
   intro n' n hn h1 hn'
   obtain⟨n',rfl⟩:∃k,n'=k+1:=⟨n'-1,by omega⟩
   have hn:n=Gr x:=by omega
   subst hn
   show LR E D W _ _ (AA x) (AA (Gr x)) Z=_
   have key:∀K1 R2,LR E D W K1 R2 (AA x) (AA (Gr x)) Z=K1 (AA x) (AA (Gr x)) Z:=by
    intro K1 R2
    unfold LR
    cases h8:decide (Gr x<8)with
    | true=>
     have h0:decide (x / 2 ^ (8*Gr x)=0)=true:=decide_eq_true (Nat.div_eq_of_lt (jI x (of_decide_eq_true h8)))
     simp -implicitDefEqProofs only [↓rP,rA,AD,AF,AB,h8,ml _ hr.2,↓Hw,sh _ hr.2,h0]
    | false=>simp -implicitDefEqProofs only [↓rP,rA,AD,AF,AB,h8]
   exact key _ _
  | succ m ih=>
   intro n' n hn h1 hn'
   obtain⟨n',rfl⟩:∃k,n'=k+1:=⟨n'-1,by omega⟩
   have h8:decide (n<8)=true:=decide_eq_true (by omega)
   have h0:decide (x / 2 ^ (8*n)=0)=false:=decide_eq_false fun e=>by
    have:=YG x h1 (by omega)
    have:=(Nat.div_eq_zero_iff).1 e
    have hp:0<2 ^ (8*n):=Nat.pow_pos (by decide)
    omega
   have key:∀K1 R2,LR E D W K1 R2 (AA x) (AA n) Z=R2 (AA x) (AA (n+1)) Z:=by
    intro K1 R2
    unfold LR
    simp -implicitDefEqProofs only [↓rP,rA,AD,AF,AB,h8,ml n (by omega),↓Hw,sh n (by omega),h0,Bb (show n+1<=9223372036854775807 by omega)]
   refine(key _ _).trans ?_
   exact ih n' (n+1) (by omega) (by omega) (by omega)
 obtain⟨u,Z',g,hu,f⟩:=hO Z x (Gr x) ht hr.2
 rw[ew]at g
 rw[Rt x _ hr.2,tx]at hu
 refine⟨u,Z',?_,hu,f⟩
 refine(show Vi E D W N [.int .u64 (AA x)] Z=Sk E D W N N (AA x) (AA 1) Z from rfl).trans ?_
 rw[loop (Gr x-1) N 1 (by omega) (AL _) (by omega)]
 show VM E D W (AA x) (AA (Gr x)) Z=_
 unfold VM
 simp -implicitDefEqProofs only [↓rP,rS,↓g,↓Aw hu.1.one]
end
theorem Pq {Z:H} (ht:Aj Z) (z:List V):∃Z1,Br Z (.cells z)=Z1/\Fr AG Z Z1/\CB Z1 Z.next z/\Z1.next=Z.next+1:=⟨_,rfl,Fr.new ht _,Hn _,rfl⟩
structure se (E:EB) (Z:H) (esz n:Nat) (x:V) (m:List V):Prop where
 k:∀J:Nat->List V->AH,srcK E Z esz x J=J n m
 c:CQ E Z esz x=some (n,m)
 l:m.length=n*esz
 o:x.one=true
 s:∀J:Nat->AH,A2 x J=J n
 lt:∀b,Al x b->b<Z.next
theorem se.of {E:EB} {Z:H} {esz n:Nat} {x:V} {m:List V} (h:HR Z esz n x m) (ht:Aj Z):se E Z esz n x m:=⟨fun J=>h.srcK,h.cells,h.length,h.one,fun J=>h.slen,fun b hb=>h.lt ht hb⟩
section
variable {E:EB} {Z Z':H} {l m:List V}
theorem Yp {esz bytes k:Nat} {v x:V} {J:V->H->AH} (h:Hr Z esz k v l) (hx:se E Z esz 0 x m):DD E esz bytes v x Z J=J v Z:=by
 unfold DD
 rw[hx.k]
 rcases h with (⟨rfl,rfl,rfl⟩|⟨b,rfl,ha,_,hl⟩)|⟨b,rfl,ha,hl⟩
 ·show AV (Cq E esz bytes .nils x Z) J=_
  unfold Cq;rw[hx.c];rfl
 ·rfl
 ·show AV (Cq E esz bytes (.sl b 0 k (.ex k)) x Z) J=_
  unfold Cq;rw[hx.c]
  simp only[]
  rw[if_pos (show Ag (k+0) k=true from Gv (AL _))]
  rfl
theorem Yo {esz bytes k n:Nat} {v x:V} (h:Hr Z esz k v l) (ht:Aj Z) (hx:se E Z esz n x m) (hn:0<n) (ho:allOne m=true) (hg:CT (k+n) bytes=true) :
  ∃Z',(∀J:V->H->AH,DD E esz bytes v x Z J=J (.sl Z.next 0 (k+n) (.op esz)) Z')/\CB Z' Z.next (l++m)/\Z'.next=Z.next+1/\Fr (Al v) Z Z':=by
 obtain⟨n',rfl⟩:∃q,n=q+1:=⟨n-1,by omega⟩
 rcases h with (⟨rfl,rfl,rfl⟩|⟨b,rfl,ha,hk,hl⟩)|⟨b,rfl,ha,hl⟩
 ·refine⟨Br Z (.cells m),fun J=>?_,by rw[Ch];exact Hn m,rfl,Fr.new ht _⟩
  unfold DD
  rw[hx.k]
  show AV (Cq E esz bytes .nils x Z) J=_
  unfold Cq;rw[hx.c]
  simp only[]
  rw[BZ]at hg ⊢
  rw[if_neg (by omega),if_pos hg]
  rfl
 ·refine⟨⟨Z.next+1,(Z.next,.cells (l++m))::drop Z.bl b⟩,fun J=>?_,?_,rfl,?_⟩
  ·unfold DD
   rw[hx.k]
   show (match BC Z.bl b with
    | some (.cells l)=>GW (AW l.length (k*esz)&&AW esz esz&&CT (k+(n'+1)) bytes&&allOne m) (Ou Z.bl b fun bl'=>J (.sl Z.next 0 (k+(n'+1)) (.op esz)) ⟨Z.next+1,(Z.next,.cells (l++m))::bl'⟩)
    | _=>none)=_
   rw[show BC Z.bl b=some (.cells l)from ha]
   simp only[]
   rw[DC (by rw[hg,ho,hl];simp),Mr]
  ·show BC ((Z.next,FX.cells (l++m))::_) _=_
   rw[Az,if_pos rfl]
  ·refine⟨fun k' hk'=>?_,EI _,fun k' hk' hn=>?_⟩
   ·have hk2:Z.next+1<=k':=hk'
    show BC ((Z.next,_)::drop Z.bl b) k'=none
    rw[Az,if_neg (by simp only[];omega),I4]
    split
    ·rfl
    ·exact ht k' (by omega)
   ·show BC ((Z.next,_)::drop Z.bl b) k'=_
    rw[Az,if_neg (by simp only[];omega),I4,if_neg]
    intro hbk
    exact hn hbk.symm
 ·refine⟨Br Z (.cells (l++m)),fun J=>?_,Hn _,rfl,Fr.new ht _⟩
  unfold DD
  rw[hx.k]
  show AV (Cq E esz bytes (.sl b 0 k (.ex k)) x Z) J=_
  unfold Cq;rw[hx.c]
  simp only[]
  rw[if_neg (show ¬Ag (k+(n'+1)) k=true from fun h=>by rw[BF]at h;omega),if_pos hg]
  have hr:Kh E Z b 0 (k*esz)=some l:=by
   unfold Kh rd
   rw[<-As,show BC Z.bl b=some (.cells l)from ha]
   simp only[]
   rw[show Ag (0+k*esz) l.length=true from Gv (by omega)]
   rw[Ca,<-hl,DU];rfl
  rw[hr]
  rfl
theorem bn {esz bytes k n:Nat} {v x:V} (h:Hr Z esz k v l) (ht:Aj Z) (hx:se E Z esz n x m) (ho:allOne m=true) (hg:CT (k+n) bytes=true) :
  ∃u Z',(∀J:V->H->AH,DD E esz bytes v x Z J=J u Z')/\Hr Z' esz (k+n) u (l++m)/\(∀b,Al u b->Al v b\/Z.next<=b)/\Fr (Al v) Z Z':=by
 cases n with
 | zero=>
  have hm:m=[]:=Bo (by rw[hx.l];omega)
  subst hm
  exact⟨v,Z,fun J=>Yp h hx,by rw[CF];exact h,fun b hb => .inl hb,Fr.refl ht⟩
 | succ n=>
  obtain⟨Z',g,a,nx,f⟩:=Yo h ht hx (Nat.succ_pos n) ho hg
  refine⟨_,Z',g,.inl (.inr ⟨Z.next,rfl,a,by omega,?_⟩),fun b hb => .inr (by cases hb;exact AL _),f⟩
  rw[AQ,h.length,hx.l,<-Ps]
end
def Bx (E:EB) (Z:H) (x:V) (l:List Int):Prop:=se E Z 1 l.length x (Ho l)
section
variable {E:EB} {D:Ak} {W:AI} {N:Nat} {Z Z0 Z1:H} {x v:V} {l m:List Int}
theorem Bx.of (h:By Z x l) (ht:Aj Z):Bx E Z x l:=se.of h ht
theorem Bx.fr (h:Bx E Z x l) (f:Fr AG Z Z1):Bx E Z1 x l:=by
 have rk:∀b,Al x b->∀J:List V->AH,X7 E Z1 b J=X7 E Z b J:=fun b hb J=>by
  unfold X7
  rw[f.same b (h.lt b hb) (fun h=>h)]
 have rn:∀b o n,Al x b->Kh E Z1 b o n=Kh E Z b o n:=fun b o n hb=>by
  unfold Kh rd
  simp only[<-As]
  rw[f.same b (h.lt b hb) (fun h=>h)]
 refine⟨fun J=>?_,?_,h.l,h.o,h.s,fun b hb=>Ga (h.lt b hb) f.le⟩
 ·rw[<-h.k J]
  cases x with
  | sl b o n c=>exact rk b rfl _
  | _=>rfl
 ·rw[<-h.c]
  cases x with
  | sl b o n c=>
   show (Kh E Z1 b o (n*1)).map _=(Kh E Z b o (n*1)).map _
   rw[rn b o _ rfl]
  | _=>rfl
theorem Jx (h:Nb Z0 Z v l) (f0:Fr AG Z0 Z) (hx:Bx E Z x m) (hs:l.length+m.length<=10000000) :
  ∃u Z',(∀J:V->H->AH,DD E 1 1 v x Z J=J u Z')/\Nb Z0 Z' u (l++m)/\Fr AG Z0 Z'/\Fr (Al v) Z Z':=by
 obtain⟨u,Z',g,d,n,f⟩:=bn (bytes:=1) h.1 f0.tidy hx (Lp m) (by
  unfold CT
  simp only[CG,AJ,BF];omega)
 have hle:=f0.le
 refine⟨u,Z',g,⟨by rw[AQ,RY];exact d,fun b hb=>?_⟩,f0.trans f (fun b hb hn=>by have:=h.2 b hn;omega),f⟩
 rcases n b hb with h'|h'
 ·exact h.2 b h'
 ·omega
end
def Gw (F:List V->H->AH) (args:List V) (Z:H) (l:List Int):Prop:=∃u Z',F args Z=some (u,Z')/\Nb Z Z' u l/\Fr AG Z Z'
theorem bq (k:IntKind) {x:Nat} (hb:7<=k.bits) (hx:x<2 ^ k.bits) (hw:∀m:Nat,m<=127->k.wrap m=AA m):Eo k (AA x) (AA 127)=AA (x % 128):=by
 have h127:(127:Nat)<2 ^ k.bits:=Ga (show 127<2 ^ 7 by decide) (ZB (by decide) hb)
 rw[Ww,BitVec.toNat_and,HN,HN,Bp hx,Bp h127,show (127:Nat)=2 ^ 7-1 from rfl,Nat.and_two_pow_sub_one_eq_mod]
 exact hw _ (by have:=wj x (show 0<2 ^ 7 by decide);omega)
theorem QU {x:Nat} (hx:x<=18446744073709551615):Eo .u64 (AA x) (AA 127)=AA (x % 128):=bq .u64 (by decide) (show x<2 ^ 64 by omega) fun m hm=>(DO .u64 _).symm.trans (BV (k := .u64) (show m<=18446744073709551615 by omega))
theorem bp {x:Nat} (hx:x<=255):Eo .u8 (AA x) (AA 127)=AA (x % 128):=bq .u8 (by decide) (show x<2 ^ 8 by omega) fun m hm=>(DO .u8 _).symm.trans (BV (k := .u8) (show m<=255 by omega))
theorem P8 (x:Nat):An .u8 (AA x)=AA (x % 256):=by
 rw[RV];rfl
def Oq (k:Nat):List Int:=match decide (127<k)with
 | false=>[AA k]
 | true=>[Gq .u8 (AA (k / 128)) (AA 128),AA (k % 128)]
def Gs (n:Nat):List Int:=match decide (255<n)with
 | false=>[AA n]
 | true=>[AA (n / 256),AA (n % 256)]
theorem Oo (k:Nat):(Oq k).length<=2:=by unfold Oq;split<;>simp
theorem Oe (n:Nat):1<=(Gs n).length/\(Gs n).length<=2:=by unfold Gs;split<;>simp
def Nm (F:List V->H->AH):Prop:=∀{Z:H} {k:Nat},Aj Z->k<16384->Gw F [.int .u64 (AA k)] Z (Oq k)
def UD (F:List V->H->AH):Prop:=∀{Z:H} {n:Nat},Aj Z->n<65536->Gw F [.int .u64 (AA n)] Z (Gs n)
section
variable {E:EB} {D:Ak} {W:AI} {N:Nat}
theorem qn (k:Nat):GB .u64 (AA k) 7=AA (k / 128):=Ri (k := .u64) (show 7<=64 by decide)
theorem AFO (k:Nat):GB .u64 (AA k) 8=AA (k / 256):=Ri (k := .u64) (show 8<=64 by decide)
theorem Rp {Z0 Z:H} {x:V} {l:List Int} (f0:Fr AG Z0 Z) (hx:Nb Z0 Z x l) (c:Int) (hl:l.length<=1000) :
  ∃Z1 u Z2,Br Z (.cells [.int .u8 c])=Z1/\(∀J:V->H->AH,DD E 1 1 (.sl Z.next 0 1 (.ex 1)) x Z1 J=J u Z2)/\Nb Z0 Z2 u (c::l)/\Fr AG Z0 Z2:=by
 obtain⟨Z1,e1,f1,a1,n1⟩:=Pq f0.tidy (Ho [c])
 have f01:=f0.trans f1 (fun _ _ h=>h)
 have x1:=Bx.of (E:=E) (hx.fr f1 f0.tidy).by_ f1.tidy
 obtain⟨u,Z2,g,h,f,_⟩:=Jx (E:=E) (Nb.lit (Z0:=Z0) a1 f0.le) f01 x1 (by simp;omega)
 exact⟨Z1,u,Z2,e1,g,h,f⟩
theorem qu (hN:3<N):Nm (xP E D W N):=by
 intro Z k ht hk
 obtain⟨N,rfl⟩:∃m,N=m+4:=⟨N-4,by omega⟩
 obtain⟨Z1,e1,f1,a1,n1⟩:=Pq ht [.int .u8 (AA (k % 128))]
 have b1:Nb Z Z1 (.sl Z.next 0 1 (.ex 1)) [AA (k % 128)]:=Nb.lit (l:=[AA (k % 128)]) a1 (AL _)
 have w1:An .u8 (AA (k % 128))=AA (k % 128):=BV (k := .u8) (show k % 128<=255 by omega)
 have an:=QU (x:=k) (by omega)
 have key0:∀K,XF E D W K (AA k) Z=K (AA k) (.sl Z.next 0 1 (.ex 1)) Z1:=fun K=>by
  unfold XF
  simp -implicitDefEqProofs only [↓rP,rA,AD,AF,AB,an,w1,↓e1]
 have endd:∀(R:Int->V->H->AH) (j:Nat) (u:V) (Z':H),j<=127->Qh E D W (cT E D W) R (AA j) u Z'=some (u,Z'):=fun R j u Z' hj=>by
  have d:decide (127<j)=false:=decide_eq_false (by omega)
  unfold Qh cT
  simp -implicitDefEqProofs only [↓rP,rA,AD,AF,AB,d]
 cases hd:decide (127<k)with
 | false=>
  have hk':=of_decide_eq_false hd
  refine⟨.sl Z.next 0 1 (.ex 1),Z1,?_,?_,f1⟩
  ·exact(key0 _).trans (endd _ k _ _ (by omega))
  ·unfold Oq;rw[hd]
   rw[Bp (by omega)]at b1;exact b1
 | true=>
  have hk':=of_decide_eq_true hd
  obtain⟨Z2,u,Z3,e2,g2,h2,f2⟩:=Rp (E:=E) f1 b1 (Gq .u8 (AA (k / 128)) (AA 128)) (by simp)
  have an2:=QU (x:=k / 128) (by omega)
  rw[Bp (show k / 128<128 by omega)]at an2
  have w2:An .u8 (AA (k / 128))=AA (k / 128):=BV (k := .u8) (show k / 128<=255 by omega)
  have step:∀K R,Qh E D W K R (AA k) (.sl Z.next 0 1 (.ex 1)) Z1=R (AA (k / 128)) u Z3:=fun K R=>by
   unfold Qh
   simp -implicitDefEqProofs only [↓rP,rA,AD,AF,AB,hd,qn,an2,w2,↓e2,↓g2,↓Aw h2.1.one]
  refine⟨u,Z3,?_,?_,f2⟩
  ·exact(key0 _).trans ((step _ _).trans (endd _ (k / 128) _ _ (by omega)))
  ·unfold Oq;rw[hd];exact h2
theorem rF (hN:3<N):Nm (Y2 E D W N):=by
 intro Z k ht hk
 obtain⟨N,rfl⟩:∃m,N=m+4:=⟨N-4,by omega⟩
 obtain⟨Z1,e1,f1,a1,n1⟩:=Pq ht [.int .u8 (AA (k % 128))]
 have b1:Nb Z Z1 (.sl Z.next 0 1 (.ex 1)) [AA (k % 128)]:=Nb.lit (l:=[AA (k % 128)]) a1 (AL _)
 have w1:=P8 k
 have an:=bp (x:=k % 256) (by omega)
 rw[show k % 256 % 128=k % 128 by omega]at an
 have key0:∀K,SM E D W K (AA k) Z=K (AA (k / 128)) (.sl Z.next 0 1 (.ex 1)) Z1:=fun K=>by
  unfold SM
  simp -implicitDefEqProofs only [↓rP,rA,AD,AF,AB,w1,an,↓e1,qn]
 have endd:∀(R:Int->V->H->AH) (u:V) (Z':H),M3 E D W (VN E D W) R (AA 0) u Z'=some (u,Z'):=fun R u Z'=>by
  unfold M3 VN
  simp -implicitDefEqProofs only [↓rP,rA,AD,AF,AB,DM]
 cases hd:decide (127<k)with
 | false=>
  have hk':=of_decide_eq_false hd
  refine⟨.sl Z.next 0 1 (.ex 1),Z1,?_,?_,f1⟩
  ·simp only[show k / 128=0 by omega]at key0
   exact(key0 _).trans (endd _ _ _)
  ·unfold Oq;rw[hd]
   rw[Bp (by omega)]at b1;exact b1
 | true=>
  have hk':=of_decide_eq_true hd
  obtain⟨Z2,u,Z3,e2,g2,h2,f2⟩:=Rp (E:=E) f1 b1 (Gq .u8 (AA (k / 128)) (AA 128)) (by simp)
  have w2:An .u8 (AA (k / 128))=AA (k / 128):=BV (k := .u8) (show k / 128<=255 by omega)
  have d2:decide (0<k / 128)=true:=decide_eq_true (by omega)
  have s2:k / 128 / 128=0:=by omega
  have step:∀K R,M3 E D W K R (AA (k / 128)) (.sl Z.next 0 1 (.ex 1)) Z1=R (AA 0) u Z3:=fun K R=>by
   unfold M3
   simp -implicitDefEqProofs only [↓rP,rA,AD,AF,AB,d2,qn,w2,↓e2,↓g2,↓Aw h2.1.one,s2]
  refine⟨u,Z3,?_,?_,f2⟩
  ·exact(key0 _).trans ((step _ _).trans (endd _ _ _))
  ·unfold Oq;rw[hd];exact h2
theorem qt (hN:3<N):UD (xO E D W N):=by
 intro Z k ht hk
 obtain⟨N,rfl⟩:∃m,N=m+4:=⟨N-4,by omega⟩
 obtain⟨Z1,e1,f1,a1,n1⟩:=Pq ht [.int .u8 (AA (k % 256))]
 have b1:Nb Z Z1 (.sl Z.next 0 1 (.ex 1)) [AA (k % 256)]:=Nb.lit (l:=[AA (k % 256)]) a1 (AL _)
 have w1:=P8 k
 have key0:∀K,XE E D W K (AA k) Z=K (AA k) (.sl Z.next 0 1 (.ex 1)) Z1:=fun K=>by
  unfold XE
  simp -implicitDefEqProofs only [↓rP,rA,AD,AF,AB,w1,↓e1]
 have endd:∀(R:Int->V->H->AH) (j:Nat) (u:V) (Z':H),j<=255->Qg E D W (cS E D W) R (AA j) u Z'=some (u,Z'):=fun R j u Z' hj=>by
  have d:decide (255<j)=false:=decide_eq_false (by omega)
  unfold Qg cS
  simp -implicitDefEqProofs only [↓rP,rA,AD,AF,AB,d]
 cases hd:decide (255<k)with
 | false=>
  have hk':=of_decide_eq_false hd
  refine⟨.sl Z.next 0 1 (.ex 1),Z1,?_,?_,f1⟩
  ·exact(key0 _).trans (endd _ k _ _ (by omega))
  ·unfold Gs;rw[hd]
   rw[Bp (by omega)]at b1;exact b1
 | true=>
  have hk':=of_decide_eq_true hd
  obtain⟨Z2,u,Z3,e2,g2,h2,f2⟩:=Rp (E:=E) f1 b1 (AA (k / 256)) (by simp)
  have w2:An .u8 (AA (k / 256))=AA (k / 256):=BV (k := .u8) (show k / 256<=255 by omega)
  have step:∀K R,Qg E D W K R (AA k) (.sl Z.next 0 1 (.ex 1)) Z1=R (AA (k / 256)) u Z3:=fun K R=>by
   unfold Qg
   simp -implicitDefEqProofs only [↓rP,rA,AD,AF,AB,hd,AFO,w2,↓e2,↓g2,↓Aw h2.1.one]
  refine⟨u,Z3,?_,?_,f2⟩
  ·exact(key0 _).trans ((step _ _).trans (endd _ (k / 256) _ _ (by omega)))
  ·unfold Gs;rw[hd];exact h2
end
theorem YC {n:Nat} (h:n<65536):nI (K9 n (Gr n))=Gs n:=by
 unfold Gs
 cases hd:decide (255<n)with
 | false=>
  have:=of_decide_eq_false hd
  have e:Gr n=1:=by unfold Gr;rw[if_pos (by omega)]
  rw[e]
  show [AA (n / 2 ^ (8*0) % 256)]=_
  simp only[Nat.mul_zero,Nat.pow_zero,Nat.div_one]
  rw[Bp (by omega)]
 | true=>
  have:=of_decide_eq_true hd
  have e:Gr n=2:=by unfold Gr;rw[if_neg (by omega),if_pos (by omega)]
  rw[e]
  show [AA (n / 2 ^ (8*1) % 256),AA (n / 2 ^ (8*0) % 256)]=[AA (n / 256),AA (n % 256)]
  simp only[Nat.mul_zero,Nat.pow_zero,Nat.div_one,CG]
  rw[show (2:Nat) ^ 8=256 from rfl,Bp (show n / 256<256 by omega)]
theorem rE {F:List V->H->AH} (h:LU F):UD F:=fun {Z n} ht hn=>by
 have:=h (Z:=Z) (x:=n) (by omega) ht
 rw[YC hn]at this
 exact this
def FJ (pl:Nat->List Int):Nat->Nat->List Int
 | 0,_=>[]
 | m+1,i=>pl i++FJ pl m (i+1)
def HC (E:EB) (F:List V->H->AH):Prop:=∀{Z:H} {n:Nat} {v:V} {pv:Nat->V} {pl:Nat->List Int},Aj Z->Ea Z 1 n v (fun k=>[pv k])->(∀k,k<n->Bx E Z (pv k) (pl k))->(FJ pl n 0).length<=1000000->n<=10000 ->
 ∃u Z',F [v] Z=some (u,Z')/\Nb Z Z' u (FJ pl n 0)/\Fr AG Z Z'
section
variable {E:EB} {D:Ak} {W:AI} {N:Nat} {Z Z':H}
theorem jK (hN:10000<N):HC E (Y7 E D W N):=by
 intro Z n v pv pl ht hr hp hs hn
 have loop:∀(m n' i:Nat) (A:List Int) (u:V) (Z1:H),i+m=n->m<n'->Fr AG Z Z1->Nb Z Z1 u A->A.length+(FJ pl m i).length<=1000000 ->
   ∃u' Z',Sr E D W N n' u v (AA n) (AA i) Z1=some (u',Z')/\Nb Z Z' u' (A++FJ pl m i)/\Fr AG Z Z':=by
  intro m
  induction m with
  | zero=>
   intro n' i A u Z1 hi hn' f1 hu hl
   obtain⟨n',rfl⟩:∃k,n'=k+1:=⟨n'-1,by omega⟩
   refine⟨u,Z1,?_,by rw[show FJ pl 0 i=[] from rfl,CF];exact hu,f1⟩
   show NB E D W _ _ u v (AA n) (AA i) Z1=_
   unfold NB
   rw[Ej,decide_eq_false (by omega),C3];rfl
  | succ m ih=>
   intro n' i A u Z1 hi hn' f1 hu hl
   obtain⟨n',rfl⟩:∃k,n'=k+1:=⟨n'-1,by omega⟩
   have hlt:i<n:=by omega
   simp only[FJ,AQ]at hl
   obtain⟨u2,Z2,g2,h2,f2,_⟩:=Jx (E:=E) hu f1 ((hp i hlt).fr f1) (by omega)
   obtain⟨u3,Z3,g3,h3,f3⟩:=ih n' (i+1) (A++pl i) u2 Z2 (by omega) (by omega) f2 h2 (by rw[AQ];omega)
   refine⟨u3,Z3,?_,by rw[show FJ pl (m+1) i=pl i++FJ pl m (i+1)from rfl,<-FE];exact h3,f3⟩
   have rd:∀J,AU 1 v (AA i) (fun b o=>Bc E Z1 b o J)=J (pv i):=fun J=>(hr.fr0 f1 ht).one (j:=0) hlt rfl J
   have d1:decide (i<n)=true:=decide_eq_true hlt
   have key:∀K1 K2,NB E D W K1 K2 u v (AA n) (AA i) Z1=K2 u2 v (AA n) (AA (i+1)) Z2:=by
    intro K1 K2
    unfold NB
    simp -implicitDefEqProofs only [↓rP,rA,AD,AF,AB,d1,↓rd,↓g2,↓Aw h2.1.one,Bb (show i+1<=9223372036854775807 by omega)]
   exact(key _ _).trans g3
 obtain⟨u,Z',h1,h2,h3⟩:=loop n N 0 [] .nils Z (by omega) (by omega) (Fr.refl ht) (Nb.nil Z Z) (by simpa using hs)
 refine⟨u,Z',?_,h2,h3⟩
 show SR E D W (Sr E D W N N) v Z=_
 unfold SR
 rw[hr.len.2]
 exact h1
end
def JX (c:Nat) (made:Bool):Nat:=(if c=0 then 0 else 128)+(if made=true then 32 else 0)
def ON (c:Nat) (made:Bool) (k:Nat):List Int:=match decide (k<31)with
 | true=>[Gq .u8 (AA (JX c made)) (AA k)]
 | false=>Gq .u8 (AA (JX c made)) (AA 31)::Oq k
def aZ (n:Nat):List Int:=match decide (n<128)with
 | true=>[AA n]
 | false=>Gq .u8 (AA 128) (AA (Gs n).length)::Gs n
def YW (c:Nat) (made:Bool) (k:Nat) (l:List Int):List Int:=(ON c made k++aZ l.length)++l
theorem Jf (c:Nat) (made:Bool) (k:Nat):(ON c made k).length<=3:=by
 have:=Oo k
 unfold ON;split
 ·simp
 ·rw[Ay];omega
theorem Rw (n:Nat):(aZ n).length<=3:=by
 have:=(Oe n).2
 unfold aZ;split
 ·simp
 ·rw[Ay];omega
theorem jV (c:Nat) (made:Bool) (k:Nat) (l:List Int):(YW c made k l).length<=l.length+6:=by
 have:=Jf c made k
 have:=Rw l.length
 unfold YW;rw[AQ,AQ];omega
theorem mx0 (n:Nat):Ke (AA 0) (AA n)=AA n:=by
 unfold Ke
 split
 ·rfl
 ·rename_i h
  have:n=0:=by
   have h:¬((0:Int)<(n:Int)):=h
   omega
  subst this;rfl
theorem mx1 (n:Nat):Ke (AA n) (AA 0)=AA n:=by
 unfold Ke;cases n<;>rfl
def Yy (F:List V->H->AH):Prop:=∀{Z:H} {c k n:Nat} (made:Bool),Aj Z->c=0\/c=2->k<16384->n<65536->Gw F [.agg [.int .i64 (AA c),.int .i64 (AA k)],.bool made,.int .i64 (AA n)] Z (ON c made k++aZ n)
def Qo (E:EB) (F:List V->H->AH):Prop:=∀{Z:H} {c k:Nat} {x:V} {l:List Int} (made:Bool),Aj Z->c=0\/c=2->k<16384->l.length<60000->Bx E Z x l->Gw F [.agg [.int .i64 (AA c),.int .i64 (AA k)],.bool made,x] Z (YW c made k l)
section
variable {E:EB} {D:Ak} {W:AI} {N:Nat} {Z0 Z Z':H}
theorem r_1 (hG:Nm (D 31)) {q c k n:Nat} {made:Bool} (f0:Fr AG Z0 Z) (aq:CB Z q [.int .i64 (AA c),.int .i64 (AA k)]) (hk:k<16384) :
  ∃u Z2,(∀K,Ql E D W K (AA n) q 0 (AA (JX c made)) Z=K (AA n) u Z2)/\Nb Z0 Z2 u (ON c made k)/\Fr AG Z0 Z2:=by
 have ht:=f0.tidy
 unfold ON
 cases hd:decide (k<31)with
 | true=>
  have:=of_decide_eq_true hd
  obtain⟨Z2,e2,f2,a2,n2⟩:=Pq ht (Ho [Gq .u8 (AA (JX c made)) (AA k)])
  have e2':Br Z (.cells [V.int .u8 (Gq .u8 (AA (JX c made)) (AA k))])=Z2:=e2
  have w1:An .u8 (AA k)=AA k:=BV (k := .u8) (show k<=255 by omega)
  refine⟨.sl Z.next 0 1 (.ex 1),Z2,fun K=>?_,Nb.lit a2 f0.le,f0.trans f2 (fun _ _ h=>h)⟩
  unfold Ql
  simp -implicitDefEqProofs only [↓rP,rA,AD,AF,AB,↓BG aq,mx0,hd,w1,↓e2']
 | false=>
  obtain⟨Z2,e2,f2,a2,n2⟩:=Pq ht (Ho [Gq .u8 (AA (JX c made)) (AA 31)])
  have e2':Br Z (.cells [V.int .u8 (Gq .u8 (AA (JX c made)) (AA 31))])=Z2:=e2
  have w1:An .u64 (AA k)=AA k:=BV (k := .u64) (show k<=18446744073709551615 by omega)
  have f02:=f0.trans f2 (fun _ _ h=>h)
  obtain⟨u3,Z3,g3,h3,f3⟩:=hG f2.tidy hk
  have f03:=f02.trans f3 (fun _ _ h=>h)
  have b2:Nb Z0 Z2 (.sl Z.next 0 1 (.ex 1)) [Gq .u8 (AA (JX c made)) (AA 31)]:=Nb.lit a2 f0.le
  have:=Oo k
  obtain⟨u4,Z4,g4,h4,f4,_⟩:=Jx (E:=E) (b2.fr f3 f2.tidy) f03 (Bx.of h3.by_ f3.tidy) (by simp;omega)
  refine⟨u4,Z4,fun K=>?_,h4,f4⟩
  unfold Ql
  simp -implicitDefEqProofs only [↓rP,rA,AD,AF,AB,↓BG aq,mx0,hd,w1,↓e2',↓g3,↓Aw h3.1.one,↓g4,↓Aw h4.1.one]
theorem r_2 (hL:UD (D 32)) {n:Nat} {u:V} {A:List Int} (f0:Fr AG Z0 Z) (hu:Nb Z0 Z u A) (hA:A.length<=10) (hn:n<65536) :
  ∃u' Z2,Qk E D W (AA n) u Z=some (u',Z2)/\Nb Z0 Z2 u' (A++aZ n)/\Fr AG Z0 Z2:=by
 have ht:=f0.tidy
 unfold aZ
 cases hd:decide (n<128)with
 | true=>
  have:=of_decide_eq_true hd
  obtain⟨Z2,e2,f2,a2,n2⟩:=Pq ht (Ho [AA n])
  have e2':Br Z (.cells [V.int .u8 (AA n)])=Z2:=e2
  have w1:An .u8 (AA n)=AA n:=BV (k := .u8) (show n<=255 by omega)
  have f02:=f0.trans f2 (fun _ _ h=>h)
  obtain⟨u4,Z4,g4,h4,f4,_⟩:=Jx (E:=E) (hu.fr f2 ht) f02 (Bx.of (Nb.lit (Z0:=Z) (l:=[AA n]) a2 (AL _)).by_ f2.tidy) (by simp;omega)
  refine⟨u4,Z4,?_,h4,f4⟩
  have g4:∀J:V->H->AH,DD E 1 1 u (.sl Z.next 0 1 (.ex 1)) Z2 J=J u4 Z4:=g4
  unfold Qk
  simp -implicitDefEqProofs only [↓rP,rA,AD,AF,AB,mx0,hd,w1,↓e2',↓g4,↓Aw h4.1.one]
 | false=>
  have w1:An .u64 (AA n)=AA n:=BV (k := .u64) (show n<=18446744073709551615 by omega)
  obtain⟨u3,Z3,g3,h3,f3⟩:=hL ht hn
  have f03:=f0.trans f3 (fun _ _ h=>h)
  have ll:=Oe n
  have w2:An .u8 (AA (Gs n).length)=AA (Gs n).length:=BV (k := .u8) (show (Gs n).length<=255 by omega)
  obtain⟨Z4,e4,f4,a4,n4⟩:=Pq f3.tidy (Ho [Gq .u8 (AA 128) (AA (Gs n).length)])
  have e4':Br Z3 (.cells [V.int .u8 (Gq .u8 (AA 128) (AA (Gs n).length))])=Z4:=e4
  have f04:=f03.trans f4 (fun _ _ h=>h)
  have hu4:=(hu.fr f3 ht).fr f4 f3.tidy
  obtain⟨u5,Z5,g5,h5,f5,f5'⟩:=Jx (E:=E) hu4 f04 (Bx.of (Nb.lit (Z0:=Z3) (l:=[Gq .u8 (AA 128) (AA (Gs n).length)]) a4 (AL _)).by_ f4.tidy) (by simp;omega)
  have g5:∀J:V->H->AH,DD E 1 1 u (.sl Z3.next 0 1 (.ex 1)) Z4 J=J u5 Z5:=g5
  have b3:By Z5 u3 (Gs n):=HR.fr (h3.fr f4 f3.tidy).by_ f5' f4.tidy (fun b hb e=>by have:=h3.2 b hb;have:=hu.1.lt ht e;omega)
  obtain⟨u6,Z6,g6,h6,f6,_⟩:=Jx (E:=E) h5 f5 (Bx.of b3 f5.tidy) (by simp;omega)
  have sl:=h3.by_.slen
  refine⟨u6,Z6,?_,?_,f6⟩
  ·unfold Qk
   simp -implicitDefEqProofs only [↓rP,rA,AD,AF,AB,mx0,hd,w1,↓g3,↓Aw h3.1.one,↓sl,w2,↓e4',↓g5,↓Aw h5.1.one,↓g6,↓Aw h6.1.one]
  ·rw[FE]at h6;exact h6
theorem iZ (hG:Nm (D 31)) (hL:UD (D 32)):Yy (vz E D W N):=by
 intro Z c k n made ht hc hk hn
 obtain⟨Z1,e1,f1,a1,n1⟩:=Pq ht [.int .i64 (AA c),.int .i64 (AA k)]
 obtain⟨u2,Z2,g2,h2,f2⟩:=r_1 (E:=E) (W:=W) (n:=n) (c:=c) (made:=made) hG f1 a1 hk
 have tl:=Jf c made k
 obtain⟨u3,Z3,g3,h3,f3⟩:=r_2 (E:=E) (W:=W) hL f2 h2 (by omega) hn
 refine⟨u3,Z3,?_,h3,f3⟩
 have tail:Ql E D W (Qk E D W) (AA n) Z.next 0 (AA (JX c made)) Z1=some (u3,Z3):=(g2 _).trans g3
 show ch E D W (Ql E D W (Qk E D W)) (AA c) (AA k) made (AA n) Z=_
 unfold ch
 simp -implicitDefEqProofs only [↓rP,rS,↓e1,↓BG a1]
 rcases hc with rfl|rfl<;>cases made
 ·exact tail
 ·exact tail
 ·exact tail
 ·exact tail
theorem ic (hH:Yy (D 14)):Qo E (F8 E D W N):=by
 intro Z c k x l made ht hc hk hl hx
 obtain⟨Z1,e1,f1,a1,n1⟩:=Pq ht [.int .i64 (AA c),.int .i64 (AA k)]
 obtain⟨u2,Z2,g2,h2,f2⟩:=hH (Z:=Z1) (n:=l.length) made f1.tidy hc hk (by omega)
 have f02:=f1.trans f2 (fun _ _ h=>h)
 have tl:=Jf c made k
 have ll:=Rw l.length
 have h2':Nb Z Z2 u2 (ON c made k++aZ l.length):=h2.mono f1.le
 obtain⟨u3,Z3,g3,h3,f3,_⟩:=Jx (E:=E) h2' f02 (hx.fr f02) (by rw[AQ];omega)
 refine⟨u3,Z3,?_,h3,f3⟩
 have hs:=hx.s
 show sB E D W (AA c) (AA k) made x Z=_
 unfold sB
 simp -implicitDefEqProofs only [↓rP,rS,↓e1,↓Au a1,↓hs,↓g2,↓g3,↓Aw h2.1.one,↓Aw h3.1.one]
end
theorem Zf {Z:H} {b:Nat} {v:V} (h:CB Z b [v]):Ea Z 1 1 (.sl b 0 1 (.ex 1)) (fun _=>[v]):=⟨.inr ⟨b,_,_,rfl,h,fun k hk=>by
 obtain rfl:k=0:=by omega
 exact⟨AL _,rfl⟩⟩⟩
theorem yU {Z:H} {b:Nat} {v w:V} (h:CB Z b [v,w]):Ea Z 1 2 (.sl b 0 2 (.ex 2)) (fun k=>[if k=0 then v else w]):=⟨.inr ⟨b,_,_,rfl,h,fun k hk=>by
 have:k=0\/k=1:=by omega
 rcases this with rfl|rfl
 ·exact⟨by simp,rfl⟩
 ·exact⟨by simp,rfl⟩⟩⟩
theorem yT {Z:H} {b:Nat} {v w x:V} (h:CB Z b [v,w,x]):Ea Z 1 3 (.sl b 0 3 (.ex 3)) (fun k=>[if k=0 then v else if k=1 then w else x]):=⟨.inr ⟨b,_,_,rfl,h,fun k hk=>by
 have:k=0\/k=1\/k=2:=by omega
 rcases this with rfl|rfl|rfl
 ·exact⟨by simp,rfl⟩
 ·exact⟨by simp,rfl⟩
 ·exact⟨by simp,rfl⟩⟩⟩
def dI (E:EB) (F:List V->H->AH):Prop:=∀{Z:H} {c k n:Nat} {v:V} {pv:Nat->V} {pl:Nat->List Int} (made:Bool),Aj Z->c=0\/c=2->k<16384->Ea Z 1 n v (fun k=>[pv k])->(∀k,k<n->Bx E Z (pv k) (pl k))->(FJ pl n 0).length<60000->n<=10000->Gw F [.agg [.int .i64 (AA c),.int .i64 (AA k)],.bool made,v] Z (YW c made k (FJ pl n 0))
section
variable {E:EB} {D:Ak} {W:AI} {N:Nat} {Z0 Z Z':H}
theorem mJ (hJ:HC E (D 105)) (f0:Fr AG Z0 Z) {u w:V} {A B:List Int} (hu:Bx E Z u A) (hw:Bx E Z w B) (hl:A.length+B.length<=100000) :
  ∃Z1 x Z2,Br Z (.cells [u,w])=Z1/\D 105 [.sl Z.next 0 2 (.ex 2)] Z1=some (x,Z2)/\Nb Z0 Z2 x (A++B)/\Fr AG Z0 Z2:=by
 obtain⟨Z1,e1,f1,a1,n1⟩:=Pq f0.tidy [u,w]
 obtain⟨x,Z2,g,h,f⟩:=hJ (Z:=Z1) (n:=2) (pv:=fun q=>if q=0 then u else w) (pl:=fun q=>if q=0 then A else B) f1.tidy (yU a1) (fun q hq=>by
  have:q=0\/q=1:=by omega
  rcases this with rfl|rfl
  ·exact hu.fr f1
  ·exact hw.fr f1) (by simp[FJ];omega) (by omega)
 have f01:=f0.trans f1 (fun _ _ h=>h)
 refine⟨Z1,x,Z2,e1,g,?_,f01.trans f (fun _ _ h=>h)⟩
 have e:FJ (fun q=>if q=0 then A else B) 2 0=A++B:=by simp[FJ]
 rw[e]at h
 exact h.mono f01.le
theorem yu (hJ:HC E (D 105)) (f0:Fr AG Z0 Z) {u w y:V} {A B C:List Int} (hu:Bx E Z u A) (hw:Bx E Z w B) (hy:Bx E Z y C) (hl:A.length+B.length+C.length<=100000) :
  ∃Z1 x Z2,Br Z (.cells [u,w,y])=Z1/\D 105 [.sl Z.next 0 3 (.ex 3)] Z1=some (x,Z2)/\Nb Z0 Z2 x (A++(B++C))/\Fr AG Z0 Z2:=by
 obtain⟨Z1,e1,f1,a1,n1⟩:=Pq f0.tidy [u,w,y]
 obtain⟨x,Z2,g,h,f⟩:=hJ (Z:=Z1) (n:=3) (pv:=fun q=>if q=0 then u else if q=1 then w else y) (pl:=fun q=>if q=0 then A else if q=1 then B else C) f1.tidy (yT a1) (fun q hq=>by
  have:q=0\/q=1\/q=2:=by omega
  rcases this with rfl|rfl|rfl
  ·exact hu.fr f1
  ·exact hw.fr f1
  ·exact hy.fr f1) (by simp[FJ];omega) (by omega)
 have f01:=f0.trans f1 (fun _ _ h=>h)
 refine⟨Z1,x,Z2,e1,g,?_,f01.trans f (fun _ _ h=>h)⟩
 have e:FJ (fun q=>if q=0 then A else if q=1 then B else C) 3 0=A++(B++C):=by simp[FJ]
 rw[e]at h
 exact h.mono f01.le
theorem o_1 (hJ:HC E (D 105)) (hG:Nm (D 152)) {q c k n:Nat} {made:Bool} (f0:Fr AG Z0 Z) (aq:CB Z q [.int .i64 (AA c),.int .i64 (AA k)]) (hk:k<16384) :
  ∃u Z2,(∀K,M6 E D W K (AA n) q 0 (AA (JX c made)) Z=K (AA n) u Z2)/\Nb Z0 Z2 u (ON c made k)/\Fr AG Z0 Z2:=by
 have ht:=f0.tidy
 unfold ON
 cases hd:decide (k<31)with
 | true=>
  have:=of_decide_eq_true hd
  obtain⟨Z2,e2,f2,a2,n2⟩:=Pq ht (Ho [Gq .u8 (AA (JX c made)) (AA k)])
  have e2':Br Z (.cells [V.int .u8 (Gq .u8 (AA (JX c made)) (AA k))])=Z2:=e2
  have w1:An .u8 (AA k)=AA k:=BV (k := .u8) (show k<=255 by omega)
  refine⟨.sl Z.next 0 1 (.ex 1),Z2,fun K=>?_,Nb.lit a2 f0.le,f0.trans f2 (fun _ _ h=>h)⟩
  unfold M6
  simp -implicitDefEqProofs only [↓rP,rA,AD,AF,AB,↓BG aq,mx1,hd,w1,↓e2']
 | false=>
  obtain⟨Z2,e2,f2,a2,n2⟩:=Pq ht (Ho [Gq .u8 (AA (JX c made)) (AA 31)])
  have e2':Br Z (.cells [V.int .u8 (Gq .u8 (AA (JX c made)) (AA 31))])=Z2:=e2
  have w1:An .u64 (AA k)=AA k:=BV (k := .u64) (show k<=18446744073709551615 by omega)
  have f02:=f0.trans f2 (fun _ _ h=>h)
  obtain⟨u3,Z3,g3,h3,f3⟩:=hG f2.tidy hk
  have f03:=f02.trans f3 (fun _ _ h=>h)
  have b2:Nb Z Z2 (.sl Z.next 0 1 (.ex 1)) [Gq .u8 (AA (JX c made)) (AA 31)]:=Nb.lit a2 (AL _)
  have:=Oo k
  obtain⟨Z4,u5,Z5,e4,g5,h5,f5⟩:=mJ (D:=D) hJ f03 (Bx.of (b2.fr f3 f2.tidy).by_ f3.tidy) (Bx.of h3.by_ f3.tidy) (by simp;omega)
  refine⟨u5,Z5,fun K=>?_,h5,f5⟩
  have o3:=h3.1.one
  unfold M6
  simp -implicitDefEqProofs only [↓rP,rA,AD,AF,AB,↓BG aq,mx1,hd,w1,↓e2',↓g3,↓Aw o3,↓mO (show (V.sl Z.next 0 1 (.ex 1)).one=true from rfl) o3,o3,↓e4,↓g5,↓Aw h5.1.one]
theorem o_2 (hJ:HC E (D 105)) (hL:UD (D 153)) {n:Nat} {u:V} {A:List Int} (f0:Fr AG Z0 Z) (hu:Nb Z0 Z u A) (hA:A.length<=10) (hn:n<65536) :
  ∃u' Z2,M5 E D W (AA n) u Z=some (u',Z2)/\Nb Z0 Z2 u' (A++aZ n)/\Fr AG Z0 Z2:=by
 have ht:=f0.tidy
 unfold aZ
 cases hd:decide (n<128)with
 | true=>
  have:=of_decide_eq_true hd
  obtain⟨Z2,e2,f2,a2,n2⟩:=Pq ht (Ho [AA n])
  have e2':Br Z (.cells [V.int .u8 (AA n)])=Z2:=e2
  have w1:An .u8 (AA n)=AA n:=BV (k := .u8) (show n<=255 by omega)
  have f02:=f0.trans f2 (fun _ _ h=>h)
  obtain⟨u4,Z4,g4,h4,f4,_⟩:=Jx (E:=E) (hu.fr f2 ht) f02 (Bx.of (Nb.lit (Z0:=Z) (l:=[AA n]) a2 (AL _)).by_ f2.tidy) (by simp;omega)
  refine⟨u4,Z4,?_,h4,f4⟩
  have g4:∀J:V->H->AH,DD E 1 1 u (.sl Z.next 0 1 (.ex 1)) Z2 J=J u4 Z4:=g4
  unfold M5
  simp -implicitDefEqProofs only [↓rP,rA,AD,AF,AB,mx1,hd,w1,↓e2',↓g4,↓Aw h4.1.one]
 | false=>
  have w1:An .u64 (AA n)=AA n:=BV (k := .u64) (show n<=18446744073709551615 by omega)
  obtain⟨u3,Z3,g3,h3,f3⟩:=hL ht hn
  have f03:=f0.trans f3 (fun _ _ h=>h)
  have ll:=Oe n
  have w2:An .u8 (AA (Gs n).length)=AA (Gs n).length:=BV (k := .u8) (show (Gs n).length<=255 by omega)
  obtain⟨Z4,e4,f4,a4,n4⟩:=Pq f3.tidy (Ho [Gq .u8 (AA 128) (AA (Gs n).length)])
  have e4':Br Z3 (.cells [V.int .u8 (Gq .u8 (AA 128) (AA (Gs n).length))])=Z4:=e4
  have f04:=f03.trans f4 (fun _ _ h=>h)
  have hu4:=(hu.fr f3 ht).fr f4 f3.tidy
  have b4:Bx E Z4 (.sl Z3.next 0 1 (.ex 1)) [Gq .u8 (AA 128) (AA (Gs n).length)]:=Bx.of (Nb.lit (Z0:=Z3) (l:=[Gq .u8 (AA 128) (AA (Gs n).length)]) a4 (AL _)).by_ f4.tidy
  obtain⟨Z5,u6,Z6,e5,g6,h6,f6⟩:=yu (D:=D) hJ f04 (Bx.of hu4.by_ f4.tidy) b4 (Bx.of (h3.fr f4 f3.tidy).by_ f4.tidy) (by simp;omega)
  have sl:=h3.by_.slen
  have o3:=h3.1.one
  have ou:=hu.1.one
  refine⟨u6,Z6,?_,h6,f6⟩
  unfold M5
  simp -implicitDefEqProofs only [↓rP,rA,AD,AF,AB,mx1,hd,w1,↓g3,↓Aw o3,↓sl,w2,↓e4',↓zJ ou (show (V.sl Z3.next 0 1 (.ex 1)).one=true from rfl) o3,ou,o3,↓e5,↓g6,↓Aw h6.1.one]
theorem iw (hJ:HC E (D 105)) (hG:Nm (D 152)) (hL:UD (D 153)):Yy (fz E D W N):=by
 intro Z c k n made ht hc hk hn
 obtain⟨Z1,e1,f1,a1,n1⟩:=Pq ht [.int .i64 (AA c),.int .i64 (AA k)]
 obtain⟨u2,Z2,g2,h2,f2⟩:=o_1 (E:=E) (W:=W) (n:=n) (c:=c) (made:=made) hJ hG f1 a1 hk
 have tl:=Jf c made k
 obtain⟨u3,Z3,g3,h3,f3⟩:=o_2 (E:=E) (W:=W) hJ hL f2 h2 (by omega) hn
 refine⟨u3,Z3,?_,h3,f3⟩
 have tail:M6 E D W (M5 E D W) (AA n) Z.next 0 (AA (JX c made)) Z1=some (u3,Z3):=(g2 _).trans g3
 show VQ E D W (M6 E D W (M5 E D W)) (AA c) (AA k) made (AA n) Z=_
 unfold VQ
 simp -implicitDefEqProofs only [↓rP,rS,↓e1,↓BG a1]
 rcases hc with rfl|rfl<;>cases made
 ·exact tail
 ·exact tail
 ·exact tail
 ·exact tail
theorem yh (hJ:HC E (D 105)) (hH:Yy (D 129)):dI E (gE E D W N):=by
 intro Z c k n v pv pl made ht hc hk hr hp hl hn
 obtain⟨Z1,e1,f1,a1,n1⟩:=Pq ht [.int .i64 (AA c),.int .i64 (AA k)]
 obtain⟨u2,Z2,g2,h2,f2⟩:=hJ f1.tidy (hr.fr0 f1 ht) (fun k hk=>(hp k hk).fr f1) (by omega) hn
 have f02:=f1.trans f2 (fun _ _ h=>h)
 have a12:=f2.at_ a1 f1.tidy (fun h=>h)
 obtain⟨u3,Z3,g3,h3,f3⟩:=hH (Z:=Z2) (n:=(FJ pl n 0).length) made f2.tidy hc hk (by omega)
 have f03:=f02.trans f3 (fun _ _ h=>h)
 have tl:=Jf c made k
 have ll:=Rw (FJ pl n 0).length
 obtain⟨Z4,u5,Z5,e4,g5,h5,f5⟩:=mJ (D:=D) hJ f03 (Bx.of h3.by_ f3.tidy) (Bx.of (h2.fr f3 f2.tidy).by_ f3.tidy) (by rw[AQ];omega)
 refine⟨u5,Z5,?_,h5,f5⟩
 have sl:=h2.by_.slen
 have o2:=h2.1.one
 have o3:=h3.1.one
 show VV E D W (AA c) (AA k) made v Z=_
 unfold VV
 simp -implicitDefEqProofs only [↓rP,rS,hr.len.1,↓e1,↓Au a12,↓sl,↓g2,↓g3,↓mO o3 o2,o3,o2,↓e4,↓g5,↓Aw o2,↓Aw o3,↓Aw h5.1.one]
end
def lx (l:List (Nat × Nat)):List V:=l.flatMap fun t=>[.int .i64 (AA t.1),.int .i64 (AA t.2)]
structure iI (Z:H) (l:List (Nat × Nat)) (v:V):Prop where
 s:HR Z 2 l.length v (lx l)
 e:l.length=1->∃b,v = .sl b 0 1 (.ex 1)
section
variable {Z Z':H} {l:List (Nat × Nat)} {v:V}
theorem iI.fr {S:Nat->Prop} (h:iI Z l v) (f:Fr S Z Z') (ht:Aj Z) (hn:∀b,Al v b->¬S b):iI Z' l v:=⟨h.s.fr f ht hn,h.e⟩
end
theorem Rd {E:EB} {Z:H} {l:List (Nat × Nat)} {v:V} (h:HR Z 2 l.length v (lx l)) {i:Nat} {t:Nat × Nat} (hi:l[i]? = some t) (hl:l.length<=2) (J:List V->AH) :
  AU 2 v (AA i) (fun b o=>BH E Z b o 2 J)=J [.int .i64 (AA t.1),.int .i64 (AA t.2)]:=by
 have hlt:i<l.length:=(A0.1 hi).1
 rcases h with ⟨h0,_⟩|⟨b,o,c,L,rfl,ha,hle,hm⟩
 ·omega
 ·rw[DJ hlt,Au ha]
  show GA L (o+i*2) 2 J=_
  rw[Hs (by omega)]
  congr 1
  have e:(L.drop (o+i*2)).take 2=((lx l).drop (i*2)).take 2:=by
   rw[hm,wq,IV,List.take_take,G3 (by omega)]
  rw[e]
  match l,hl with
  | [],_=>simp at hlt
  | [a],_=>
   have:i=0:=by simpa using hlt
   subst this
   cases hi;rfl
  | [a,b],_=>
   have:i=0\/i=1:=by simp at hlt;omega
   rcases this with rfl|rfl<;>(cases hi;rfl)
  | _::_::_::_,h=>simp at h
def TR (made:Bool):List (Nat × Nat)->List Int->List Int
 | [],x=>x
 | [t],x=>YW t.1 made t.2 x
 | t::s::_,x=>YW t.1 true t.2 (YW s.1 made s.2 x)
def W2 (l:List (Nat × Nat)):Prop:=(l.length=1\/l.length=2)/\∀t∈l,(t.1=0\/t.1=2)/\t.2<16384
def j6 (E:EB) (F:List V->H->AH):Prop:=∀{Z:H} {l:List (Nat × Nat)} {tv v p:V} {x:List Int} (made:Bool),Aj Z->HR Z 2 l.length tv (lx l)->W2 l->Ea Z 1 1 v (fun _=>[p])->Bx E Z p x->x.length<50000->Gw F [tv,.bool made,v] Z (TR made l x)
section
variable {E:EB} {D:Ak} {W:AI} {N:Nat}
end
section
variable {E:EB} {D:Ak} {W:AI} {N:Nat} {Z Z':H}
theorem ZV {l:List (Nat × Nat)} {v:V} (h:iI Z l v):V.beq v v=true:=by
 rcases h.s with ⟨_,rfl,_⟩|⟨b,o,c,L,rfl,_⟩<;>exact CV _ rfl
theorem bJ (hS:J6 (D 59)) (hW:j6 E (D 71)) {v:Int} (hv:EN v) {x:Ty} {tl:List (Nat × Nat)} (ht:Aj Z) {b5 b7:Nat} (a5:CB Z b5 (YO v)) (a7:CB Z b7 x.c) (hT:iI Z tl x.tags) (hok:W2 tl) :
    ∃env u Z',AT E D Q3 UQ [(5,.ptr b5 0),(7,.ptr b7 0)] Z=some (env,Z')/\Go.Og.look env 6=some u/\Nb Z Z' u (TR false tl (nI (K9 (Uh v) (Db v))))/\Fr AG Z Z':=by
  obtain⟨u1,Z1,g1,h1,f1⟩:=hS (Z:=⟨Z.next+8,Z.bl⟩) hv (ht.wide 8)
  have le1:Z.next+8<=Z1.next:=f1.le
  have f01:Fr AG Z Z1:=f1.wide
  have ln:=(EU v).2
  have fb:Fr AG Z ⟨Z1.next,(Z.next+5,.cells [u1])::Z1.bl⟩:=⟨fun c hc=>by
    have hc:Z1.next<=c:=hc
    show BC ((Z.next+5,_)::Z1.bl) c=none
    rw[Az,if_neg (by simp only[];omega)];exact f1.tidy c hc,f01.le,fun c hc _=>by
    show BC ((Z.next+5,_)::Z1.bl) c=_
    rw[Az,if_neg (by simp only[];omega)];exact f01.same c hc (fun h=>h)⟩
  have ab:CB ⟨Z1.next,(Z.next+5,.cells [u1])::Z1.bl⟩ (Z.next+5) [u1]:=by
    show BC ((Z.next+5,_)::Z1.bl) _=_
    rw[Az,if_pos rfl]
  have hu:By ⟨Z1.next,(Z.next+5,.cells [u1])::Z1.bl⟩ u1 (nI (K9 (Uh v) (Db v))):=by
    have hs:=h1.by_
    rcases hs with h|⟨b,o,c,L,rfl,ha,hl,hm⟩
    · exact .inl h
    · have hb:Z.next+8<=b:=h1.2 b rfl
      refine .inr ⟨b,o,c,L,rfl,?_,hl,hm⟩
      show BC ((Z.next+5,_)::Z1.bl) b=_
      rw[Az,if_neg (by simp only[];omega)];exact ha
  obtain⟨u2,Z2,g2,h2,f2⟩:=hW (Z:=⟨Z1.next,(Z.next+5,.cells [u1])::Z1.bl⟩) (v := .sl (Z.next+5) 0 1 (.ex 1)) (p:=u1) false fb.tidy (hT.s.fr fb ht (fun _ _ h=>h)) hok (Zf ab) (Bx.of hu fb.tidy) (by rw[C0,Jl];omega)
  have go:FM E D Z 8 0 AG Q3 UQ ⟨[(5,.ptr b5 0),(7,.ptr b7 0)],Z.next+8,[Z.bl],[],0,[]⟩ _ Z2:=
    Cn (.ptr b7 1) rfl rfl <|
    Il x.tags (CU ht) rfl (D4 (b:=b7) (off:=1) rfl a7 rfl ht (fun h=>h) (ZV hT)) fun _ r1=>
    Cn (.ptr b5 1) rfl rfl <|
    Il (.int .i64 v) r1 rfl (D4 (b:=b5) (off:=1) rfl a5 rfl ht (fun h=>h) (CV _ rfl)) fun _ r2=>
    Js u1 r2 rfl (by decide) f1 (fun _ _ h=>h) (fun _ h _ _=>h) g1 fun _ _ _ r3=>
    YR (.sl (Z.next+5) 0 1 (.ex 1)) (.cells [u1]) 32 r3 rfl (by decide) (by decide) (VC rfl h1.1.one) fun _ r4=>
    Js u2 r4 rfl (by decide) f2 (fun _ _ h=>h) (fun _ h _ _=>h) (Dq (vs:=[x.tags,.bool false,.sl (Z.next+5) 0 1 (.ex 1)]) rfl (by rw[Bj,Be x.oneT];rfl) g2) fun _ _ _ r5=>
    Cn u2 rfl (ER rfl (Be h2.1.one)) <|
    HZ r5
  obtain⟨d1,d2⟩:=Fg (ops:=Q3) go
  exact⟨_,u2,Z2,d1,rfl,h2.mono f01.le,d2⟩
end
inductive Lf (E:EB) (Z:H):Vc->List Int->Prop
 | b1:Lf E Z ⟨AA 1,AA 1,.nils,.nils,AA 0,.nils,rfl,rfl,rfl⟩ [AA 255]
 | b0:Lf E Z ⟨AA 1,AA 0,.nils,.nils,AA 0,.nils,rfl,rfl,rfl⟩ [AA 0]
 | int {n:Int} (h:EN n):Lf E Z (Vc.int n) (nI (K9 (Uh n) (Db n)))
 | oct {b:V} {hb:b.one=true} {x:List Int} (h:Bx E Z b x) (hl:x.length<=40000):Lf E Z ⟨AA 5,AA 0,b,.nils,AA 0,.nils,hb,rfl,rfl⟩ x
 | nul:Lf E Z ⟨AA 4,AA 0,.nils,.nils,AA 0,.nils,rfl,rfl,rfl⟩ []
theorem Lf.fr {E:EB} {Z Z':H} {v:Vc} {x:List Int} (h:Lf E Z v x) (f:Fr AG Z Z'):Lf E Z' v x:=by
 cases h with
 | b1=>exact .b1
 | b0=>exact .b0
 | int h=>exact .int h
 | oct h hl=>exact .oct (h.fr f) hl
 | nul=>exact .nul
def sX (E:EB) (F:List V->H->AH):Prop:=∀{Z:H} {p nT i:Nat} {ty:Nat->Ty} {nm:BS} {nv rv tv:V} {v:Vc} {x:List Int} {tl:List (Nat × Nat)},Aj Z->Ck Z p nT ty nm nv rv tv []->i<nT->(ty i).kind=v.k->iI Z tl (ty i).tags->W2 tl->Lf E Z v x ->
 Gw F [.ptr p 0,.int .i64 (AA i),.agg v.c] Z (TR false tl x)
theorem N9 (E:EB) (Z:H):Bx E Z .nils []:=⟨fun _=>rfl,rfl,rfl,rfl,fun _=>rfl,fun _ h=>h.elim⟩
section
variable {E:EB} {D:Ak} {N:Nat}
theorem jZ (hS:J6 (D 59)) (hW:j6 E (D 71)):sX E (vr E D (AT E D) N):=by
 intro Z p nT i ty nm nv rv tv v x tl ht hc hi hk hT hok hv
 obtain⟨Z1,e1,f1,a1,n1⟩:=CZ ht v.c
 have c1:=hc.fr f1 ht
 have rd:∀J,AU 13 tv (AA i) (fun b o=>BH E Z1 b o 13 J)=J (ty i).c:=fun J=>c1.row.all hi J
 obtain⟨Z2,e2,f2,a2,n2⟩:=CZ f1.tidy [.int .i64 (AA 0),.nils,.bool false,.bool false,.bool false,.bool false,.int .i64 (AA 0),.int .i64 (AA 0),.nils,.nils,.int .i64 (AA 0),.bool false,.int .i64 (AA 0)]
 obtain⟨Z3,e3,f3,a3⟩:=aT f2.tidy a2 (ty i).c
 have f02:=f1.trans f2 (fun _ _ h=>h)
 have le1:=f1.le
 have f03:Fr AG Z Z3:=f02.trans f3 (fun c hc h=>by have h:c=Z1.next:=h;omega)
 have a13:CB Z3 Z.next v.c:=f3.at_ (f2.at_ a1 f1.tidy (fun h=>h)) f2.tidy (by show ¬Z.next=Z1.next;omega)
 have st:∀J:H->AH,FW 13 Z1.next 0 (.agg (ty i).c) Z2 J=J Z3:=fun J=>by
  rw[Uj a2 (by unfold Ty.c;simp[En,BL,Bk,Df,Fb,(ty i).oneT,(ty i).oneI,(ty i).oneF])]
  show J (Px Z2 Z1.next (.cells (ty i).c))=_
  rw[e3]
 have hT3:=hT.fr f03 ht (fun _ _ h=>h)
 have ttp:=fun J=>c1.types (E:=E) (J:=J)
 have put:∀(Z0:H) (q:V),Fr AG Z Z0->q.one=true->Bx E Z0 q x->x.length<=40000->∃Z4 u Z5,Br Z0 (.cells [q])=Z4/\D 71 [(ty i).tags,.bool false,.sl Z0.next 0 1 (.ex 1)] Z4=some (u,Z5)/\Nb Z Z5 u (TR false tl x)/\Fr AG Z Z5:=fun Z0 q f0 ho hb hl=>by
  obtain⟨Z4,e4,f4,a4,n4⟩:=Pq f0.tidy [q]
  have f04:=f0.trans f4 (fun _ _ h=>h)
  obtain⟨u,Z5,g5,h5,f5⟩:=hW (Z:=Z4) (p:=q) false f4.tidy (hT.fr f04 ht (fun _ _ h=>h)).s hok (Zf a4) (hb.fr f4) (by omega)
  exact⟨Z4,u,Z5,e4,g5,h5.mono f04.le,f04.trans f5 (fun _ _ h=>h)⟩
 show ∃u Z',H3 E D (AT E D) (Xv E D (AT E D) N) p 0 (AA i) v.k v.n v.b v.l v.r v.m Z=some (u,Z')/\_
 have hv3:=hv.fr f03
 unfold Vc.c at e1 a13
 unfold Ty.c at rd st a3
 cases hv with
 | b1=>
  have hk:(ty i).kind=AA 1:=hk
  obtain⟨Z4,e4,f4,a4,n4⟩:=Pq f3.tidy (Ho [AA 255])
  have e4':Br Z3 (.cells [V.int .u8 (AA 255)])=Z4:=e4
  obtain⟨Z5,u,Z6,e5,g6,h6,f6⟩:=put Z4 (.sl Z3.next 0 1 (.ex 1)) (f03.trans f4 (fun _ _ h=>h)) rfl (Bx.of (Nb.lit (Z0:=Z3) (l:=[AA 255]) a4 (AL _)).by_ f4.tidy) (by simp)
  refine⟨u,Z6,?_,h6,f6⟩
  have o6:=h6.1.one
  unfold H3
  simp -implicitDefEqProofs only [↓rP,rA,AD,AF,AB,↓e1,↓ttp,↓rd,(ty i).oneT,(ty i).oneI,(ty i).oneF,↓e2,↓st,↓BG a3,hk,↓BG a13,↓e4',↓e5,↓g6,↓Aw o6]
 | b0=>
  have hk:(ty i).kind=AA 1:=hk
  obtain⟨Z4,e4,f4,a4,n4⟩:=Pq f3.tidy (Ho [AA 0])
  have e4':Br Z3 (.cells [V.int .u8 (AA 0)])=Z4:=e4
  obtain⟨Z5,u,Z6,e5,g6,h6,f6⟩:=put Z4 (.sl Z3.next 0 1 (.ex 1)) (f03.trans f4 (fun _ _ h=>h)) rfl (Bx.of (Nb.lit (Z0:=Z3) (l:=[AA 0]) a4 (AL _)).by_ f4.tidy) (by simp)
  refine⟨u,Z6,?_,h6,f6⟩
  have o6:=h6.1.one
  unfold H3
  simp -implicitDefEqProofs only [↓rP,rA,AD,AF,AB,↓e1,↓ttp,↓rd,(ty i).oneT,(ty i).oneI,(ty i).oneF,↓e2,↓st,↓BG a3,hk,↓BG a13,↓e4',↓e5,↓g6,↓Aw o6]
 | int h=>
  rename_i n
  have hk:(ty i).kind=AA 2:=hk
  have e1':Br Z (.cells (YO n))=Z1:=e1
  unfold YO vc at e1'
  obtain⟨env,u,Z4,g4,l4,h4,f4⟩:=bJ (E:=E) (D:=D) (x:=ty i) hS hW h f3.tidy (b5:=Z.next) (b7:=Z1.next) a13 a3 hT3 hok
  refine⟨u,Z4,?_,h4.mono f03.le,f03.trans f4 (fun _ _ h=>h)⟩
  have gd:∀J:Bz->H->AH,Ci (AT E D Q3 UQ [(5,.ptr Z.next 0),(7,.ptr Z1.next 0)] Z3) J=J env Z4:=fun J=>by rw[g4];rfl
  have m6:∀J:V->AH,BR env 6 J=J u:=fun J=>BU l4 (Be h4.1.one)
  have key:∀K,H3 E D (AT E D) K p 0 (AA i) (AA 2) n .nils .nils (AA 0) .nils Z=K p 0 Z.next 0 Z1.next 0 (AA 2) true Z3:=fun K=>by
   unfold H3
   simp -implicitDefEqProofs only [↓rP,rA,AD,AF,AB,↓e1',↓ttp,↓rd,(ty i).oneT,(ty i).oneI,(ty i).oneF,↓e2,↓st,↓BG a3,hk]
  refine(key _).trans ?_
  show Km E D (AT E D) _ _ p 0 Z.next 0 Z1.next 0 (AA 2) true Z3=_
  unfold Km
  simp -implicitDefEqProofs only [↓rP,rA,AD,AF,AB,↓gd,↓m6]
 | oct h hl=>
  rename_i b hb
  have hk:(ty i).kind=AA 5:=hk
  obtain⟨Z5,u,Z6,e5,g6,h6,f6⟩:=put Z3 b f03 hb (h.fr f03) hl
  refine⟨u,Z6,?_,h6,f6⟩
  have o6:=h6.1.one
  have fl:∀J:List V->AH,D8 [(0,1,b)] [V.nils] J=J [b]:=fun J=>Go.Og.fill1 hb J
  have key:∀K,H3 E D (AT E D) K p 0 (AA i) (AA 5) (AA 0) b .nils (AA 0) .nils Z=K p 0 Z.next 0 Z1.next 0 (AA 5) false Z3:=fun K=>by
   unfold H3
   simp -implicitDefEqProofs only [↓rP,rA,AD,AF,AB,hb,↓e1,↓ttp,↓rd,(ty i).oneT,(ty i).oneI,(ty i).oneF,↓e2,↓st,↓BG a3,hk]
  refine(key _).trans ?_
  show Km E D (AT E D) _ (Ni E D (AT E D) (Qb E D (AT E D))) p 0 Z.next 0 Z1.next 0 (AA 5) false Z3=_
  unfold Km Ni Qb
  simp -implicitDefEqProofs only [↓rP,rA,AD,AF,AB,↓BG a3,↓BG a13,↓fl,hb,↓e5,↓g6,↓Aw o6]
 | nul=>
  have hk:(ty i).kind=AA 4:=hk
  obtain⟨Z5,u,Z6,e5,g6,h6,f6⟩:=put Z3 .nils f03 rfl (N9 E Z3) (by simp)
  refine⟨u,Z6,?_,h6,f6⟩
  have o6:=h6.1.one
  have fl:∀J:List V->AH,D8 [(0,1,V.nils)] [V.nils] J=J [V.nils]:=fun J=>Go.Og.fill1 rfl J
  have key:∀K,H3 E D (AT E D) K p 0 (AA i) (AA 4) (AA 0) .nils .nils (AA 0) .nils Z=K p 0 Z.next 0 Z1.next 0 (AA 4) false Z3:=fun K=>by
   unfold H3
   simp -implicitDefEqProofs only [↓rP,rA,AD,AF,AB,↓e1,↓ttp,↓rd,(ty i).oneT,(ty i).oneI,(ty i).oneF,↓e2,↓st,↓BG a3,hk]
  refine(key _).trans ?_
  show Km E D (AT E D) _ (Ni E D (AT E D) (Qb E D (AT E D))) p 0 Z.next 0 Z1.next 0 (AA 4) false Z3=_
  unfold Km Ni Qb
  simp -implicitDefEqProofs only [↓rP,rA,AD,AF,AB,↓BG a3,↓BG a13,↓fl,↓e5,↓g6,↓Aw o6]
end
def XP (E:EB) (F:List V->H->AH):Prop:=∀{Z:H} {a b:V} {x:Ty} {n:Nat},Aj Z->x.kind=AA 5->x.has=false->GY b n->n<=40000 ->
 ∃Z',F [a,.agg x.c,.agg [.int .i64 (AA 5),.int .i64 (AA 0),b,.nils,.int .i64 (AA 0),.nils]] Z=some (.bool true,Z')/\Fr AG Z Z'
section
variable {E:EB} {D:Ak} {W:AI} {N:Nat} {Z:H}
theorem yL (hP:FB (D 99)) (hW:J5 (D 100)):XP E (gF E D W N):=by
 intro Z a b x n ht hk hh hb hn
 obtain⟨kd,tg,has,hlw,hhg,cm,lo,hi,its,fds,rt,mr,ofv,o1,o2,o3⟩:=x
 dsimp only at hk hh
 subst hk
 subst hh
 obtain⟨Z1,e1,f1,a1,n1⟩:=CZ ht [.int .i64 (AA 5),tg,.bool false,.bool hlw,.bool hhg,.bool cm,.int .i64 lo,.int .i64 hi,its,fds,.int .i64 rt,.bool mr,.int .i64 ofv]
 obtain⟨Z2,e2,f2,a2,n2⟩:=CZ f1.tidy [.int .i64 (AA 5),.int .i64 (AA 0),b,.nils,.int .i64 (AA 0),.nils]
 obtain⟨Z3,g3,f3⟩:=hP Z2 (AA 2) (AA 5) (AA 0) (AA 0) b .nils .nils n 0 0 f2.tidy hb GY.nils GY.nils
 obtain⟨Z4,g4,f4⟩:=hW Z3 false hlw hhg cm lo hi (AA n) f3.tidy
 have hp:I1 (AA 2) (AA 5) (AA 0) n 0 (AA 0) 0=true:=rfl
 have hw:N0 false hlw hhg lo hi (AA n)=true:=rfl
 rw[hp]at g3
 rw[hw]at g4
 have f13:=(f2.trans f3 (fun _ _ h=>h))
 have a13:=f13.at_ a1 f1.tidy (fun h=>h)
 have a23:=f3.at_ a2 f2.tidy (fun h=>h)
 have a14:=f4.at_ a13 f3.tidy (fun h=>h)
 have bo:=hb.1
 have bs:=hb.2
 have d1:decide (n<=70000)=true:=decide_eq_true (by omega)
 have f03:=f1.trans f13 (fun _ _ h=>h)
 unfold vc at g3
 show ∃Z',VX E D W a (AA 5) tg false hlw hhg cm lo hi its fds rt mr ofv (AA 5) (AA 0) b .nils (AA 0) .nils Z=_/\_
 unfold VX
 cases cm with
 | true=>
  refine⟨Z3,?_,f03⟩
  simp -implicitDefEqProofs only [↓rP,rA,AD,AF,AB,o1,o2,o3,bo,↓e1,↓e2,↓Au a2,↓g3,↓BG a23,↓bs,d1,↓BG a13]
 | false=>
  refine⟨Z4,?_,f03.trans f4 (fun _ _ h=>h)⟩
  simp -implicitDefEqProofs only [↓rP,rA,AD,AF,AB,o1,o2,o3,bo,↓e1,↓e2,↓Au a2,↓g3,↓BG a23,↓bs,d1,↓BG a13,↓Au a13,↓g4,↓BG a14]
end
section
variable {E:EB} {D:Ak} {W:AI} {N:Nat} {Z:H} {n p nT:Nat} {ty:Nat->Ty} {nm:BS} {nv rv tv:V} {rest:List V}
theorem ry {Z:H} {b:V} {x:List Int} (h:Bx E Z b x):GY b x.length:=⟨h.o,h.s⟩
theorem jO (hP:FB (D 99)) (hW:J5 (D 100)) (hS:XP E (D 101)) {i dp:Nat} {v:Vc} {x:List Int} (ht:Aj Z) (hc:Ck Z p nT ty nm nv rv tv rest) (hi:i<nT) (hd:dp<=17) (hk:(ty i).kind=v.k) (hh:(ty i).has=false) (hv:Lf E Z v x) :
  ∃Z',iL E D W N [.ptr p 0,.int .i64 (AA i),.agg v.c,.int .i64 (AA dp)] Z=some (.bool true,Z')/\Fr AG Z Z':=by
 have d1:decide (nT<=i)=false:=decide_eq_false (by omega)
 have d2:decide (17<dp)=false:=decide_eq_false (by omega)
 obtain⟨Z1,e1,f1,a1,n1⟩:=CZ ht v.c
 have c1:=hc.fr f1 ht
 have rd:∀J,AU 13 tv (AA i) (fun b o=>BH E Z1 b o 13 J)=J (ty i).c:=fun J=>c1.row.all hi J
 have hl:=c1.row.len
 have ttp:=fun J=>c1.types (E:=E) (J:=J)
 cases hv with
 | int h=>
  exact YT hP hW ht hc hi hd hk (by rw[hh];exact Bool.or_true _)
 | b1=>
  have hk:(ty i).kind=AA 1:=hk
  obtain⟨Z2,g2,f2⟩:=hP Z1 (AA 1) (AA 1) (AA 1) (AA 0) .nils .nils .nils 0 0 0 f1.tidy GY.nils GY.nils GY.nils
  have hp:I1 (AA 1) (AA 1) (AA 1) 0 0 (AA 0) 0=true:=rfl
  rw[hp]at g2
  unfold vc at g2
  unfold Vc.c at e1 a1
  have a2:=f2.at_ a1 f1.tidy (fun h=>h)
  refine⟨Z2,?_,f1.trans f2 (fun _ _ h=>h)⟩
  show H2 E D W _ p 0 (AA i) (AA 1) (AA 1) .nils .nils (AA 0) .nils (AA dp) Z=_
  unfold H2
  simp -implicitDefEqProofs only [↓rP,rA,AD,AF,AB,DL,↓e1,↓ttp,↓hl.2,d1,d2,↓rd,Ty.c,hk,(ty i).oneT,(ty i).oneI,(ty i).oneF,↓BG a1,↓Au a1,↓g2,↓BG a2]
 | b0=>
  have hk:(ty i).kind=AA 1:=hk
  obtain⟨Z2,g2,f2⟩:=hP Z1 (AA 1) (AA 1) (AA 0) (AA 0) .nils .nils .nils 0 0 0 f1.tidy GY.nils GY.nils GY.nils
  have hp:I1 (AA 1) (AA 1) (AA 0) 0 0 (AA 0) 0=true:=rfl
  rw[hp]at g2
  unfold vc at g2
  unfold Vc.c at e1 a1
  have a2:=f2.at_ a1 f1.tidy (fun h=>h)
  refine⟨Z2,?_,f1.trans f2 (fun _ _ h=>h)⟩
  show H2 E D W _ p 0 (AA i) (AA 1) (AA 0) .nils .nils (AA 0) .nils (AA dp) Z=_
  unfold H2
  simp -implicitDefEqProofs only [↓rP,rA,AD,AF,AB,DL,↓e1,↓ttp,↓hl.2,d1,d2,↓rd,Ty.c,hk,(ty i).oneT,(ty i).oneI,(ty i).oneF,↓BG a1,↓Au a1,↓g2,↓BG a2]
 | nul=>
  have hk:(ty i).kind=AA 4:=hk
  obtain⟨Z2,g2,f2⟩:=hP Z1 (AA 0) (AA 4) (AA 0) (AA 0) .nils .nils .nils 0 0 0 f1.tidy GY.nils GY.nils GY.nils
  have hp:I1 (AA 0) (AA 4) (AA 0) 0 0 (AA 0) 0=true:=rfl
  rw[hp]at g2
  unfold vc at g2
  unfold Vc.c at e1 a1
  refine⟨Z2,?_,f1.trans f2 (fun _ _ h=>h)⟩
  show H2 E D W _ p 0 (AA i) (AA 4) (AA 0) .nils .nils (AA 0) .nils (AA dp) Z=_
  unfold H2
  simp -implicitDefEqProofs only [↓rP,rA,AD,AF,AB,DL,↓e1,↓ttp,↓hl.2,d1,d2,↓rd,Ty.c,hk,(ty i).oneT,(ty i).oneI,(ty i).oneF,↓BG a1,↓Au a1,↓g2]
 | oct h hl'=>
  rename_i b hb
  have hk:(ty i).kind=AA 5:=hk
  obtain⟨Z2,g2,f2⟩:=hS (Z:=Z1) (a := .ptr p 0) (x:=ty i) f1.tidy hk hh (ry (h.fr f1)) hl'
  unfold Vc.c at e1 a1
  unfold Ty.c at g2
  rw[hk]at g2
  refine⟨Z2,?_,f1.trans f2 (fun _ _ h=>h)⟩
  have key:∀K,H2 E D W K p 0 (AA i) (AA 5) (AA 0) b .nils (AA 0) .nils (AA dp) Z=K p 0 (AA i) (AA dp) Z.next 0 (AA 5) true (AA 5) (ty i).tags (ty i).has (ty i).hasLow (ty i).hasHigh (ty i).conMore (ty i).low (ty i).high (ty i).items (ty i).fields (ty i).root (ty i).more (ty i).of_ Z1:=fun K=>by
   unfold H2
   simp -implicitDefEqProofs only [↓rP,rA,AD,AF,AB,DL,hb,↓e1,↓ttp,↓hl.2,d1,d2,↓rd,Ty.c,hk,(ty i).oneT,(ty i).oneI,(ty i).oneF,↓BG a1,↓Au a1]
  show H2 E D W (pS E D W N) p 0 (AA i) (AA 5) (AA 0) b .nils (AA 0) .nils (AA dp) Z=_
  refine(key _).trans ?_
  show T5 E D W _ p 0 (AA i) (AA dp) Z.next 0 (AA 5) true (AA 5) (ty i).tags (ty i).has (ty i).hasLow (ty i).hasHigh (ty i).conMore (ty i).low (ty i).high (ty i).items (ty i).fields (ty i).root (ty i).more (ty i).of_ Z1=_
  unfold T5
  simp -implicitDefEqProofs only [↓rP,rA,AD,AF,AB,hb,↓Au a1,↓g2]
end
section
variable {E:EB} {D:Ak} {W:AI} {N:Nat} {nT:Nat} {ty:Nat->Ty} {nm:BS} {nv rv tv:V}
end
def sN (v:Int):List Nat:=K9 (Uh v) (Db v)
theorem OV (v:Int):(sN v).length=Db v:=Jl _ _
theorem qq (v:Int):Ix (sN v):=WS _ _
def QS (a:Nat):List Nat->Nat
 | []=>a
 | c::r=>QS (a*256+c) r
theorem bj:∀(L:List Nat) (a k:Nat),Ix L->a<256 ^ k->QS a L<256 ^ (k+L.length)
 | [],a,k,_,h=>h
 | c::r,a,k,hb,h=>by
  have hc:=hb c Av
  have:=bj r (a*256+c) (k+1) (fun x hx=>hb x (Cu _ hx)) (by rw[Nat.pow_succ];omega)
  show QS (a*256+c) r<_
  rw[Ay,show k+(r.length+1)=k+1+r.length by omega];exact this
theorem Tu (x:Nat):∀(n a:Nat),QS a (K9 x n)=a*2 ^ (8*n)+x % 2 ^ (8*n)
 | 0,a=>by show a=_;simp[Nat.mod_one]
 | n+1,a=>by
  show QS (a*256+(x / 2 ^ (8*n)) % 256) (K9 x n)=_
  rw[Tu x n]
  have e:2 ^ (8*(n+1))=2 ^ (8*n)*256:=by rw[show 8*(n+1)=8*n+8 by omega,Nat.pow_add]
  rw[e,Nat.mod_mul,Ps,Nat.mul_assoc,Nat.mul_comm 256]
  rw[Nat.mul_comm (x / 2 ^ (8*n) % 256)];omega
theorem Ug (n:Int):An .i64 n=(n+9223372036854775808) % 18446744073709551616-9223372036854775808:=by
 rw[DO]
 unfold IntKind.wrap
 simp only[show (2:Int) ^ IntKind.bits .i64=18446744073709551616 from rfl,show (2:Int) ^ (IntKind.bits .i64-1)=9223372036854775808 from rfl,show IntKind.signed .i64=true from rfl,Eu]
 split
 ·rename_i h
  have h:=of_decide_eq_true h
  omega
 ·rename_i h
  have h:¬_:=fun e=>h (decide_eq_true e)
  omega
def X1 (k x:Nat):Int:=match decide (0<64-8*k)with
 | true=>GB .i64 (JV .i64 (An .i64 (AA x)) (64-8*k)) (64-8*k)
 | false=>An .i64 (AA x)
theorem qk {k x:Nat} (h1:1<=k) (h8:k<=8) (hx:x<256 ^ k):EN (X1 k x)/\∀n,EN n->EX n k=true->(x:Int)=(Uh n:Int) % 2 ^ (8*k)->X1 k x=n:=by
 have hc:k=1\/k=2\/k=3\/k=4\/k=5\/k=6\/k=7\/k=8:=by omega
 have e:AA x=(x:Int):=rfl
 have P:∀q:Nat,q<=64->X1 k x=(An .i64 ((An .i64 (x:Int))*2 ^ q)) / 2 ^ q->True:=fun _ _ _=>trivial
 unfold EN
 have key:∀q:Nat,0<q->q<=64->64-8*k=q->X1 k x=(An .i64 ((An .i64 (x:Int))*2 ^ q)) / 2 ^ q:=fun q h0 hq hk=>by
  unfold X1
  rw[hk,decide_eq_true h0]
  show GB .i64 (JV .i64 (An .i64 (AA x)) q) q=_
  rw[Rj _ hq,N4,show Ds q (IntKind.bits .i64)=q from G3 hq,<-DO]
  rfl
 have key8:k=8->X1 k x=An .i64 (x:Int):=fun hk=>by unfold X1;rw[hk];rfl
 unfold EX
 simp only[BN,decide_eq_true_eq]
 rcases hc with rfl|rfl|rfl|rfl|rfl|rfl|rfl|rfl
 ·rw[key 56 (by decide) (by decide) rfl,Ug,Ug]
  refine⟨by omega,fun n hn h1 h2=>?_⟩
  have:=HT n
  simp only[Er,Ep,Et]at *
  omega
 ·rw[key 48 (by decide) (by decide) rfl,Ug,Ug]
  refine⟨by omega,fun n hn h1 h2=>?_⟩
  have:=HT n
  simp only[Er,Ep,Et]at *
  omega
 ·rw[key 40 (by decide) (by decide) rfl,Ug,Ug]
  refine⟨by omega,fun n hn h1 h2=>?_⟩
  have:=HT n
  simp only[Er,Ep,Et]at *
  omega
 ·rw[key 32 (by decide) (by decide) rfl,Ug,Ug]
  refine⟨by omega,fun n hn h1 h2=>?_⟩
  have:=HT n
  simp only[Er,Ep,Et]at *
  omega
 ·rw[key 24 (by decide) (by decide) rfl,Ug,Ug]
  refine⟨by omega,fun n hn h1 h2=>?_⟩
  have:=HT n
  simp only[Er,Ep,Et]at *
  omega
 ·rw[key 16 (by decide) (by decide) rfl,Ug,Ug]
  refine⟨by omega,fun n hn h1 h2=>?_⟩
  have:=HT n
  simp only[Er,Ep,Et]at *
  omega
 ·rw[key 8 (by decide) (by decide) rfl,Ug,Ug]
  refine⟨by omega,fun n hn h1 h2=>?_⟩
  have:=HT n
  simp only[Er,Ep,Et]at *
  omega
 ·rw[key8 rfl,Ug]
  refine⟨by omega,fun n hn h1 h2=>?_⟩
  have:=HT n
  simp only[Er,Ep,Et]at *
  omega
theorem iV {v:Int} (hv:EN v):∃c r,sN v=c::r/\(c<128↔0<=v):=by
  have hr:=EU v
  have he:=Hx hv
  unfold sN
  have ht:=HT v
  unfold EN at hv
  unfold EX at he
  simp only[BN,decide_eq_true_eq]at he
  have hc:Db v=1\/Db v=2\/Db v=3\/Db v=4\/Db v=5\/Db v=6\/Db v=7\/Db v=8:=by omega
  rcases hc with h|h|h|h|h|h|h|h <;>
    (rw[h]at he ⊢
     refine⟨_,_,rfl,?_⟩
     simp only[Er,Ep,Et,Nat.reducePow]at he ⊢
     omega)
theorem qp {v:Int} (hv:EN v) {c d:Nat} {r:List Nat} (h:sN v=c::d::r):¬(c=0/\d<128)/\¬(c=255/\128<=d):=by
  have hr:=EU v
  have he:=Hx hv
  have hl:2<=Db v:=by rw[<-OV,h];simp
  have hs:=QJ v (n:=Db v-1) (by omega) (by omega)
  unfold sN at h
  have ht:=HT v
  unfold EN at hv
  unfold EX at he hs
  simp only[BN,decide_eq_true_eq,BJ,decide_eq_false_iff_not]at he hs
  have hc:Db v=2\/Db v=3\/Db v=4\/Db v=5\/Db v=6\/Db v=7\/Db v=8:=by omega
  rcases hc with e|e|e|e|e|e|e <;>
    (rw[e]at he hs h
     injection h with h1 h2
     injection h2 with h2 h3
     simp only[Er,Ep,Et,Nat.reducePow]at he hs h1 h2
     omega)
def XN (F:List V->H->AH):Prop:=∀{Z:H} {u:V} {L:List Nat},Oc Z u L->Ix L->L.length<=8->F [u] Z=some (.int .u64 (AA (QS 0 L)),Z)
def XU (E:EB) (F:List V->H->AH):Prop:=∀{Z:H} {u v:V} {L M:List Nat},Oc Z u L->Oc Z v M->Ix L->Ix M->0<L.length->0<M.length->F [u,v] Z=some (.bool (decide (L=M)),Z)
def sR (F:List V->H->AH):Prop:=∀{Z:H} {u:V} {L:List Nat},Aj Z->Oc Z u L->Ix L->∃v e Z',F [u] Z=some (.tup [.int .i64 v,.int .i64 e],Z')/\EN v/\(∀n,EN n->L=sN n->v=n)/\Fr AG Z Z'
section
variable {E:EB} {D:Ak} {N:Nat}
theorem Zz {a c:Nat} (hc:c<256) (h:a*256+c<=18446744073709551615):Gq .u64 (JV .u64 (AA a) 8) (An .u64 (AA c))=AA (a*256+c):=by
 rw[BV (by rw[Ii];omega),N4,show Ds 8 (IntKind.bits .u64)=8 from rfl,show AA a*2 ^ 8=AA (a*2 ^ 8)from rfl,KI (by rw[Ii];omega),Uo,BitVec.toNat_or,HN,HN,show IntKind.bits .u64=64 from rfl,Bp (show a*2 ^ 8<2 ^ 64 by omega),Bp (show c<2 ^ 64 by omega),aI (show c<2 ^ 8 by omega)]
 exact KI (by rw[Ii];omega)
theorem yF (hN:9<N):XN (xK E D (AT E D) N):=by
 intro Z u L hu hb hl
 have loop:∀(R done:List Nat) (n' a:Nat),done++R=L->R.length<n'->a<256 ^ done.length->Xq E D (AT E D) N n' (AA a) u (AA L.length) (AA done.length) Z=some (.int .u64 (AA (QS a R)),Z):=by
  intro R
  induction R with
  | nil=>
   intro done n' a he hn' ha
   obtain⟨n',rfl⟩:∃q,n'=q+1:=⟨n'-1,by omega⟩
   have hl:L.length=done.length:=by rw[<-he,CF]
   rw[hl]
   have d1:decide (done.length<done.length)=false:=decide_eq_false (DM _)
   have key:∀R,Qa E D (AT E D) (W9 E D (AT E D)) R (AA a) u (AA done.length) (AA done.length) Z=some (.int .u64 (AA a),Z):=by
    intro R
    unfold Qa W9
    simp -implicitDefEqProofs only [↓rP,rA,AD,AF,AB,d1]
   exact key _
  | cons c R ih=>
   intro done n' a he hn' ha
   obtain⟨n',rfl⟩:∃q,n'=q+1:=⟨n'-1,by omega⟩
   have hlL:L.length=done.length+(R.length+1):=by rw[<-he,AQ,Ay]
   have hx:L[done.length]? = some c:=by rw[<-he,BB (AL _),HF];rfl
   have hc:c<256:=hb c (Ct hx)
   have g:=hu.get (E:=E) hx
   have d1:decide (done.length<L.length)=true:=decide_eq_true (by omega)
   have hp:a*256+c<256 ^ (done.length+1):=by rw[Nat.pow_succ];omega
   have hp8:256 ^ (done.length+1)<=256 ^ 8:=ZB (by decide) (by omega)
   have pu:=Zz (a:=a) hc (by
    have:(256:Nat) ^ 8=18446744073709551616:=rfl
    omega)
   have key:∀R',Qa E D (AT E D) (W9 E D (AT E D)) R' (AA a) u (AA L.length) (AA done.length) Z=R' (AA (a*256+c)) u (AA L.length) (AA (done.length+1)) Z:=by
    intro R'
    unfold Qa
    simp -implicitDefEqProofs only [↓rP,rA,AD,AF,AB,d1,↓g,pu,Bb (show done.length+1<=9223372036854775807 by omega)]
   have:=ih (done++[c]) n' (a*256+c) (by rw[<-he];simp) (by simp only[Ay]at hn';omega) (by rw[AQ];exact hp)
   rw[AQ,Cf]at this
   exact(key _).trans this
 have sl:=hu.slen
 have k0:∀K,T7 E D (AT E D) K u Z=K (AA 0) u (AA L.length) (AA 0) Z:=by
  intro K
  unfold T7
  simp -implicitDefEqProofs only [↓rP,rA,AD,AF,AB,↓sl]
 show T7 E D (AT E D) (Xq E D (AT E D) N N) u Z=_
 rw[k0]
 exact loop L [] N 0 rfl (by omega) (by show 0<256 ^ 0;decide)
theorem Oc.str {Z:H} {v:V} {L:List Nat} (h:Oc Z v L) (h0:0<L.length) (J:BS->AH):IM E Z v J=J (BS.ofList ((nI L).map fun c=>UInt8.ofNat c.toNat)):=by
 have hs:=h.srcK (E:=E)
 unfold IM
 rcases h with ⟨rfl,_⟩|⟨b,o,c,M,rfl,_⟩
 ·cases h0
 ·simp only[]
  rw[hs]
  unfold oC
  rw[Mh]
theorem jC {L M:List Nat} (hL:Ix L) (hM:Ix M):BS.beq (BS.ofList ((nI L).map fun c=>UInt8.ofNat c.toNat)) (BS.ofList ((nI M).map fun c=>UInt8.ofNat c.toNat))=decide (L=M):=by
 have e:∀{K:List Nat},Ix K->(BS.ofList ((nI K).map fun c=>UInt8.ofNat c.toNat)).nats=K:=fun {K} hK=>by
  unfold BS.nats nI
  rw[BS.toList_ofList,lg,lg]
  refine(List.map_congr_left fun c hc=>?_).trans (List.map_id K)
  show (UInt8.ofNat (AA c).toNat).toNat=c
  have:=hK c hc
  rw[show (AA c).toNat=c from rfl]
  simp;omega
 rw[BS.beq_nats,e hL,e hM]
theorem zZ:XU E (lT E D (AT E D) N):=by
 intro Z u v L M hu hv hL hM h1 h2
 show cY E D (AT E D) u v Z=_
 unfold cY
 rw[hu.str h1,hv.str h2,jC hL hM]
theorem AFL (hT:XN (D 58)) (hS:J6 (D 59)) (hE:XU E (D 17)):sR (F34 E D (AT E D) N):=by
 intro Z u L ht hu hb
 have sl:=hu.slen
 have hlen:∀n,EN n->L=sN n->1<=L.length/\L.length<=8:=fun n _ h=>by rw[h,OV];exact EU n
 have i0:EN 0:=⟨by decide,by decide⟩
 by_cases c0:L.length=0
 ·refine⟨AA 0,AA 3,Z,?_,i0,fun n hn h=>by have:=hlen n hn h;omega,Fr.refl ht⟩
  show MS E D (AT E D) _ u Z=_
  unfold MS
  simp -implicitDefEqProofs only [↓rP,rA,AD,AF,AB,↓sl,BW,c0,decide_true]
 by_cases c8:8<L.length
 ·refine⟨AA 0,AA 4,Z,?_,i0,fun n hn h=>by have:=hlen n hn h;omega,Fr.refl ht⟩
  show MS E D (AT E D) _ u Z=_
  unfold MS
  simp -implicitDefEqProofs only [↓rP,rA,AD,AF,AB,↓sl,BW,decide_eq_false c0,decide_eq_true c8]
 have h8:L.length<=8:=by omega
 have g1:=hT hu hb h8
 have hx:QS 0 L<256 ^ L.length:=by
  have:=bj L 0 0 hb (by decide)
  rwa [BZ]at this
 obtain⟨hv,hvn⟩:=qk (k:=L.length) (by omega) h8 hx
 obtain⟨w,Z1,g2,w2,f2⟩:=hS hv ht
 have hw:Oc Z1 w (sN (X1 L.length (QS 0 L))):=Oc.of_dst (by
  have:=w2.1
  rw[C0]at this
  exact this)
 have wo:=hw.one
 have g3:=hE hw (hu.fr0 f2 ht) (qq _) hb (by rw[OV];exact(EU _).1) (by omega)
 have hn:∀n,EN n->L=sN n->X1 L.length (QS 0 L)=n:=fun n hn h=>by
  refine hvn n hn ?_ ?_
  ·rw[h,OV];exact Hx hn
  ·have:QS 0 L=Uh n % 2 ^ (8*L.length):=by
    conv=>lhs;rw[h]
    unfold sN
    rw[Tu,MZ,BZ,<-OV n,<-h]
   rw[this,Int.natCast_emod,iD];rfl
 have key:∀K,MS E D (AT E D) K u Z=K u (X1 L.length (QS 0 L)) Z:=by
  intro K
  have hk:L.length=1\/L.length=2\/L.length=3\/L.length=4\/L.length=5\/L.length=6\/L.length=7\/L.length=8:=by omega
  have e:∀q:Nat,q<=8->D6 .i64 (AA 64) (Hq .i64 (AA 8) (AA q))=AA (64-8*q):=fun q hq=>by
   rw[show Hq .i64 (AA 8) (AA q)=AA (8*q)from BV (k := .i64) (m:=8*q) (show 8*q<=9223372036854775807 by omega)]
   exact Ia (by omega) (by omega)
  have e:=e L.length h8
  unfold MS X1
  simp -implicitDefEqProofs only [↓rP,rA,AD,AF,AB,↓sl,BW,decide_eq_false c0,decide_eq_false c8,↓g1,e]
  cases decide (0<64-8*L.length)with
  | true=>simp -implicitDefEqProofs only [↓rP,rA,AD,AF,AB,↓Hw]
  | false=>simp -implicitDefEqProofs only [↓rP,rA,AD,AF,AB]
 cases hd:decide (sN (X1 L.length (QS 0 L))=L)with
 | true=>
  rw[hd]at g3
  refine⟨X1 L.length (QS 0 L),AA 0,Z1,?_,hv,hn,f2⟩
  show MS E D (AT E D) (fA E D (AT E D) N) u Z=_
  rw[key]
  show T9 E D (AT E D) u _ Z=_
  unfold T9
  simp -implicitDefEqProofs only [↓rP,rA,AD,AF,AB,↓g2,↓Aw wo,↓g3]
 | false=>
  rw[hd]at g3
  refine⟨AA 0,AA 4,Z1,?_,i0,fun n h1 h2=>?_,f2⟩
  ·show MS E D (AT E D) (fA E D (AT E D) N) u Z=_
   rw[key]
   show T9 E D (AT E D) u _ Z=_
   unfold T9
   simp -implicitDefEqProofs only [↓rP,rA,AD,AF,AB,↓g2,↓Aw wo,↓g3]
  ·exfalso
   have:=hn n h1 h2
   rw[this]at hd
   exact of_decide_eq_false hd h2.symm
end
def vB (k n:Nat):Vc:=⟨AA k,AA n,.nils,.nils,AA 0,.nils,rfl,rfl,rfl⟩
inductive Dv (Z:H):Nat->Vc->List Nat->Prop
 | b1 {c:Nat} {r:List Nat} (h:c≠0):Dv Z 1 (vB 1 1) (c::r)
 | b0 {r:List Nat} (h:∀c s,r=c::s->c=0):Dv Z 1 (vB 1 0) r
 | int {n:Int} {r:List Nat} (h:EN n) (h2:∀m,EN m->r=sN m->n=m):Dv Z 2 (Vc.int n) r
 | oct {b:V} {hb:b.one=true} {r:List Nat} (h:Oc Z b r):Dv Z 5 ⟨AA 5,AA 0,b,.nils,AA 0,.nils,hb,rfl,rfl⟩ r
 | nul {r:List Nat}:Dv Z 4 (vB 4 0) r
theorem Dv.frS {S:Nat->Prop} {Z Z':H} {k:Nat} {v:Vc} {r:List Nat} (h:Dv Z k v r) (f:Fr S Z Z') (ht:Aj Z) (hn:∀b,Al v.b b->¬S b):Dv Z' k v r:=by
 cases h with
 | b1 h=>exact .b1 h
 | b0 h=>exact .b0 h
 | int h h2=>exact .int h h2
 | oct h=>exact .oct (h.fr f ht hn)
 | nul=>exact .nul
def Qq (F:List V->H->AH):Prop:=∀{Z:H} {u:V} {L:List Nat},Aj Z->Oc Z u L->L.length<=1000000->∃w Z',F [u] Z=some (w,Z')/\Oc Z' w L/\(∀b,Al w b->Z.next<=b)/\Fr AG Z Z'
structure Lt (Z:H) (p nT:Nat) (ty:Nat->Ty) (Fz:List V) (tv:V) (j t:Nat):Prop where
 tb:∃nm nv rv,Fz=[.str nm,nv,rv,tv]
 at_:CB Z p (.bool false::Fz)
 row:Ea Z 13 nT tv fun i=>(ty i).c
 lt:j<nT
 tags:HR Z 2 1 (ty j).tags (yH t)
def Yw (E:EB) (F:List V->H->AH):Prop:=∀{Z:H} {p nT j t K dp:Nat} {ty:Nat->Ty} {Fz:List V} {tv u:V} {L body:List Nat} {mk:Bool} {h:Nat},Aj Z->Lt Z p nT ty Fz tv j t->(ty j).kind=AA K->(K=1\/K=2\/K=4\/K=5)->Oc Z u L->Ix L->gH L 2 t mk body h->L.length<=1000000->dp<=17 ->
 ∃v Z',F [.ptr p 0,.int .i64 (AA j),u,.int .i64 (AA dp)] Z=some (.agg v.c,Z')/\Dv Z' K v body/\(∀b,Al v.b b->Z.next<=b)/\Fr AG Z Z'
theorem HO {v:V} (h:v.one=true):v.cells=[v]:=by cases v<;>first | rfl | cases h
theorem Fr.to_any {S:Nat->Prop} {Z Z':H} (f:Fr AG Z Z'):Fr S Z Z':=⟨f.tidy,f.le,fun b h _=>f.same b h (fun e=>e)⟩
def EJ:List V:=[.int .i64 (AA 0),.int .i64 (AA 0),.nils,.nils,.int .i64 (AA 0),.nils]
section
variable {E:EB} {D:Ak} {N:Nat}
theorem za:Qq (F36 E D (AT E D) N):=by
 intro Z u L ht hu hl
 show ∃w Z',cQ E D (AT E D) u Z=some (w,Z')/\_
 by_cases hz:u = .nils
 ·subst hz
  have hL:L=[]:=by
   rcases hu with ⟨h,_⟩|⟨b,o,c,M,h,_⟩
   ·exact h
   ·cases h
  subst hL
  exact⟨.nils,Z,rfl,Oc.nil Z,fun _ h=>h.elim,Fr.refl ht⟩
 ·have ek:∀J:Bool->AH,ZD .slice u .nils J=J false:=fun J=>by
   rcases hu with ⟨_,h⟩|⟨b,o,c,M,rfl,_⟩
   ·rcases h with rfl|⟨b,o,k,rfl⟩
    ·exact absurd rfl hz
    ·rfl
   ·rfl
  obtain⟨Z1,e1,f1,a1,n1⟩:=Ih ht []
  have hu1:=hu.fr0 f1 ht
  obtain⟨w,Z',g,d,n,f⟩:=O9 (E:=E) (esz:=1) (bytes:=1) (k:=0) (n:=L.length) (v := .sl Z.next 0 0 (.ex 0)) (l:=[]) (.inr ⟨_,rfl,a1,rfl⟩) f1.tidy (fun J=>hu1.srcK J) hu1.cells (by rw[Mn,CG]) (Lp _) (by unfold CT;rw[Gv (by omega),Gv (by omega)];rfl)
  rw[BZ,Ch]at d
  have F1:Fr AG Z Z':=f1.trans f (fun b hb e=>by cases e;omega)
  have wo:=d.one
  refine⟨w,Z',?_,Oc.of_dst d,fun b hb=>(n b hb).elim (fun e=>by cases e;exact AL _) (fun h=>by have:=f1.le;omega),F1⟩
  unfold cQ
  simp -implicitDefEqProofs only [↓rP,rA,AD,AF,AB,↓ek,↓e1,↓g,↓Aw wo]
theorem iO {Z:H} {f q:Nat} {v:Vc} {z:List V} (ht:Aj Z) (af:CB Z f z) (hz:z.length=6) (aq:CB Z q v.c) (N':Nat):∃Z',Nj E D (AT E D) f 0 q 0 Z=some (.agg v.c,Z')/\Fr (fun k=>k=f) Z Z':=by
 have ho:allOne v.c=true:=by unfold Vc.c;simp[BL,Bk,v.oneB,v.oneL,v.oneM,Df]
 obtain⟨Z',g,f',a',n'⟩:=E4 (n:=6) (o:=0) (v := .agg v.c) ht af (by
  show (AW v.c.length 6&&Ag (Ap 0 6) z.length&&allOne v.c)=true
  rw[ho,hz];rfl)
 have a':CB Z' f v.c:=by
  have:HK z 0 v.c=v.c:=by
   match z,hz with
   | [a,b,c,d,e,f],_=>rfl
  rw[<-this];exact a'
 refine⟨Z',?_,f'⟩
 unfold Vc.c at g aq a'
 unfold Nj
 simp -implicitDefEqProofs only [↓rP,rA,AD,AF,AB,↓Au aq,v.oneB,v.oneL,v.oneM,↓g,↓Au a']
 rfl
def Lm:List V:=[.int .i64 (AA 0),.nils,.bool false,.bool false,.bool false,.bool false,.int .i64 (AA 0),.int .i64 (AA 0),.nils,.nils,.int .i64 (AA 0),.bool false,.int .i64 (AA 0)]
theorem rN (hI:MT (D 33)) (hT:sR (D 34)) (hC:Qq (D 36)):Yw E (vy E D (AT E D) N):=by
 intro Z p nT j t K dp ty Fz tv u L body mk h ht hl hK hKs hu hb hel hL hdp
 obtain⟨nm,nv,rv,rfl⟩:=hl.tb
 obtain⟨Z1,e1,f1,a1,n1⟩:=Ih ht EJ
 have hp1:=f1.at_ hl.at_ ht (fun h=>h)
 have rd:∀J,AU 13 tv (AA j) (fun b o=>BH E Z1 b o 13 J)=J (ty j).c:=fun J=>(hl.row.fr0 f1 ht).all hl.lt J
 have tlen:=hl.row.len.2
 obtain⟨Z2,e2,f2,a2,n2⟩:=Ih f1.tidy Lm
 obtain⟨Z3,g3,f3,a3,n3⟩:=E4 (n:=13) (o:=0) (v := .agg (ty j).c) f2.tidy a2 (by unfold Ty.c;simp[Lm,En,BL,Bk,Df,Fb,(ty j).oneT,(ty j).oneI,(ty j).oneF])
 have a3:CB Z3 Z1.next (ty j).c:=a3
 have F3:Fr AG Z Z3:=(f1.trans f2 (fun _ _ h=>h)).trans f3 (fun b hb e=>by omega)
 have hp3:=F3.at_ hl.at_ ht (fun h=>h)
 obtain⟨w,Z4,g4,ow,nw,f4⟩:=hI F3.tidy hp3 (hu.fr0 F3 ht) hb hel hL (hl.tags.fr F3 ht (fun _ _ h=>h))
 have wo:=ow.one
 have F4:Fr AG Z Z4:=F3.trans f4 (fun _ _ h=>h)
 have a4:=f4.at_ a3 F3.tidy (fun h=>h)
 obtain⟨Z5,e5,f5,a5,n5⟩:=Ih F4.tidy EJ
 obtain⟨Z6,g6,f6,a6,n6⟩:=E4 (n:=6) (o:=0) (v := .agg [.int .i64 (AA K),.int .i64 (AA 0),.nils,.nils,.int .i64 (AA 0),.nils]) f5.tidy a5 rfl
 have a6:CB Z6 Z4.next [.int .i64 (AA K),.int .i64 (AA 0),.nils,.nils,.int .i64 (AA 0),.nils]:=a6
 have le1:=f1.le
 have le34:=f4.le
 have le23:Z2.next<=Z3.next:=f3.le
 have F5:Fr AG Z Z5:=F4.trans f5 (fun _ _ h=>h)
 have F6:Fr AG Z Z6:=F5.trans f6 (fun b hb e=>by omega)
 have a46:CB Z6 Z1.next (ty j).c:=f6.at_ (f5.at_ a4 F4.tidy (fun h=>h)) f5.tidy (fun e=>by omega)
 have af1:CB Z1 Z.next EJ:=a1
 have af6:CB Z6 Z.next EJ:=by
  have x2:=f2.at_ af1 f1.tidy (fun h=>h)
  have x3:=f3.at_ x2 f2.tidy (fun e=>by omega)
  have x4:=f4.at_ x3 F3.tidy (fun h=>h)
  have x5:=f5.at_ x4 F4.tidy (fun h=>h)
  exact f6.at_ x5 f5.tidy (fun e=>by omega)
 have ow6:Oc Z6 w body:=(ow.fr0 f5 F4.tidy).fr f6 f5.tidy fun b hb e=>by
  have:=ow.lt F4.tidy b hb
  omega
 have lf:∀J:V->AH,Bc E Z1 p 0 J=J (.bool false):=fun J=>CK hp1 rfl
 have lt4:∀J:V->AH,Bc E Z1 p (Ap (Ap 0 1) 3) J=J tv:=fun J=>CK hp1 rfl
 have l1:∀J:V->AH,Bc E Z3 Z1.next 1 J=J (ty j).tags:=fun J=>CK a3 rfl
 have l0:∀J:V->AH,Bc E Z4 Z1.next 0 J=J (.int .i64 (AA K)):=fun J=>CK a4 (by rw[<-hK];rfl)
 have l06:∀J:V->AH,Bc E Z6 Z1.next 0 J=J (.int .i64 (AA K)):=fun J=>CK a46 (by rw[<-hK];rfl)
 have dj:decide (nT<=j)=false:=decide_eq_false (by have:=hl.lt;omega)
 have dd:decide (17<dp)=false:=decide_eq_false (by omega)
 have j0:decide (j<0)=false:=decide_eq_false (by omega)
 unfold EJ at e1 e5
 unfold Lm at e2
 unfold Ty.c at rd g3
 have k0:∀K1,Nk E D (AT E D) K1 p 0 (AA j) u (AA dp) Z=K1 p 0 (AA j) u (AA dp) Z.next 0 Z1:=fun K1=>by
  unfold Nk
  simp -implicitDefEqProofs only [↓rP,rA,AD,AF,AB,↓e1,↓lt4,↓tlen,j0,dj,dd]
 show ∃(v:Vc) (Z':H),Nk E D (AT E D) (Xw E D (AT E D) N) p 0 (AA j) u (AA dp) Z=some (.agg v.c,Z')/\_
 have q6:Z4.next<Z6.next:=by omega
 have done:∀(Zc Z7:H) (v:Vc),Fr AG Z6 Zc->Dv Zc K v body->(∀b,Al v.b b->Z6.next<=b)->Fr (fun k=>k=Z4.next) Zc Z7->CB Z7 Z4.next v.c->∃Z',Nj E D (AT E D) Z.next 0 Z4.next 0 Z7=some (.agg v.c,Z')/\Dv Z' K v body/\(∀b,Al v.b b->Z.next<=b)/\Fr AG Z Z':=fun Zc Z7 v fc hv hn f7 a7=>by
  have Fc:Fr AG Z Zc:=F6.trans fc (fun _ _ h=>h)
  have F7:Fr AG Z Z7:=Fc.trans f7 (fun b hb e=>by omega)
  have af7:=f7.at_ (fc.at_ af6 F6.tidy (fun h=>h)) Fc.tidy (fun e=>by omega)
  obtain⟨Z8,g8,f8⟩:=iO (E:=E) (D:=D) F7.tidy af7 rfl a7 N
  have F8:Fr AG Z Z8:=F7.trans f8 (fun b hb e=>by omega)
  exact⟨Z8,g8,(hv.frS f7 Fc.tidy (fun b hb e=>by have:=hn b hb;omega)).frS f8 F7.tidy (fun b hb e=>by have:=hn b hb;omega),fun b hb=>by have:=hn b hb;omega,F8⟩
 have so:=ow6.slen
 rw[k0]
 show ∃(v:Vc) (Z':H),Jz E D (AT E D) _ _ p 0 (AA j) u (AA dp) Z.next 0 Z1=some (.agg v.c,Z')/\_
 rcases hKs with rfl|rfl|rfl|rfl
 ·
  have set1:∀c:Nat,c≠0->(∃r,body=c::r)->∃v Z7 Z',(∀J:H->AH,FW 1 Z4.next 1 (.int .i64 (AA 1)) Z6 J=J Z7)/\Nj E D (AT E D) Z.next 0 Z4.next 0 Z7=some (.agg (Vc.c v),Z')/\Dv Z' 1 v body/\(∀b,Al v.b b->Z.next<=b)/\Fr AG Z Z':=fun c hc ⟨r,hr⟩=>by
   obtain⟨Z7,g7,f7,a7,n7⟩:=E4 (n:=1) (o:=1) (v := .int .i64 (AA 1)) F6.tidy a6 rfl
   obtain⟨Z',g',d',f'⟩:=done Z6 Z7 (vB 1 1) (Fr.refl F6.tidy) (hr ▸ Dv.b1 hc) (fun _ h=>h.elim) f7 a7
   exact⟨_,Z7,Z',g7,g',d',f'⟩
  have set0:(∀c s,body=c::s->c=0)->∃v Z',Nj E D (AT E D) Z.next 0 Z4.next 0 Z6=some (.agg (Vc.c v),Z')/\Dv Z' 1 v body/\(∀b,Al v.b b->Z.next<=b)/\Fr AG Z Z':=fun hb0=>by
   obtain⟨Z',g',d',f'⟩:=done Z6 Z6 (vB 1 0) (Fr.refl F6.tidy) (.b0 hb0) (fun _ h=>h.elim) (Fr.to_any (Fr.refl F6.tidy)) a6
   exact⟨_,Z',g',d',f'⟩
  match hbd:body,ow6,so with
  | [],ow6,so=>
   obtain⟨v,Z',g',d',f'⟩:=set0 (fun c s e=>by cases e)
   refine⟨v,Z',?_,d',f'⟩
   rw[<-g']
   unfold Jz
   simp -implicitDefEqProofs only [↓rP,rA,AD,AF,AB,↓lf,↓lt4,↓rd,(ty j).oneT,(ty j).oneI,(ty j).oneF,↓e2,↓g3,↓l1,↓g4,↓Aw wo,↓l0,↓e5,↓g6,↓l06,BW,decide_true,↓so,show decide (0<([]:List Nat).length)=false from rfl]
   all_goals rfl
  | c::r,ow6,so=>
   have g0:=ow6.get (E:=E) (k:=0) (c:=c) rfl
   have d0:decide (0<(c::r).length)=true:=rfl
   by_cases hc:c=0
   ·obtain⟨v,Z',g',d',f'⟩:=set0 (fun c' s e=>by cases e;exact hc)
    refine⟨v,Z',?_,d',f'⟩
    rw[<-g']
    unfold Jz
    simp -implicitDefEqProofs only [↓rP,rA,AD,AF,AB,↓lf,↓lt4,↓rd,(ty j).oneT,(ty j).oneI,(ty j).oneF,↓e2,↓g3,↓l1,↓g4,↓Aw wo,↓l0,↓e5,↓g6,↓l06,BW,decide_true,↓so,d0,↓g0,decide_eq_true hc]
    all_goals rfl
   ·obtain⟨v,Z7,Z',g7,g',d',f'⟩:=set1 c hc ⟨r,rfl⟩
    refine⟨v,Z',?_,d',f'⟩
    rw[<-g']
    unfold Jz
    simp -implicitDefEqProofs only [↓rP,rA,AD,AF,AB,↓lf,↓lt4,↓rd,(ty j).oneT,(ty j).oneI,(ty j).oneF,↓e2,↓g3,↓l1,↓g4,↓Aw wo,↓l0,↓e5,↓g6,↓l06,BW,decide_true,↓so,d0,↓g0,decide_eq_false hc,↓g7]
    all_goals rfl
 ·
  obtain⟨n,e,Z7,g7,hn,hu7,f7⟩:=hT F6.tidy ow6 (fun c hc=>hb c (HH (hel.body ▸ hc)))
  have a7:=f7.at_ a6 F6.tidy (fun h=>h)
  obtain⟨Z8,g8,f8,a8,n8⟩:=E4 (n:=1) (o:=1) (v := .int .i64 n) f7.tidy a7 rfl
  obtain⟨Z',g',d',f'⟩:=done Z7 Z8 (Vc.int n) f7 (.int hn hu7) (fun _ h=>h.elim) f8 a8
  refine⟨Vc.int n,Z',?_,d',f'⟩
  rw[<-g']
  unfold Jz
  simp -implicitDefEqProofs only [↓rP,rA,AD,AF,AB,↓lf,↓lt4,↓rd,(ty j).oneT,(ty j).oneI,(ty j).oneF,↓e2,↓g3,↓l1,↓g4,↓Aw wo,↓l0,↓e5,↓g6,↓l06,BW,decide_true,show decide (2=1)=false from rfl,↓g7,↓g8]
  all_goals rfl
 ·
  obtain⟨Z',g',d',f'⟩:=done Z6 Z6 (vB 4 0) (Fr.refl F6.tidy) .nul (fun _ h=>h.elim) (Fr.to_any (Fr.refl F6.tidy)) a6
  refine⟨_,Z',?_,d',f'⟩
  rw[<-g']
  have k3:UN E D (AT E D) N p 0 (AA dp) Z.next 0 Z1.next 0 w Z4.next 0 (AA 4) false Z6=Nj E D (AT E D) Z.next 0 Z4.next 0 Z6:=rfl
  rw[<-k3]
  unfold Jz
  simp -implicitDefEqProofs only [↓rP,rA,AD,AF,AB,↓lf,↓lt4,↓rd,(ty j).oneT,(ty j).oneI,(ty j).oneF,↓e2,↓g3,↓l1,↓g4,↓Aw wo,↓l0,↓e5,↓g6,↓l06,BW,decide_true,show decide (4=1)=false from rfl,show decide (4=2)=false from rfl,show decide (4=3)=false from rfl,show decide (4=5)=false from rfl,show decide (4=6)=false from rfl]
  all_goals rfl
 ·
  have hbl:body.length<=1000000:=by have:=hel.len;omega
  obtain⟨b,Z7,g7,ob,nb,f7⟩:=hC F6.tidy ow6 hbl
  have a7:=f7.at_ a6 F6.tidy (fun h=>h)
  have bo:=ob.one
  obtain⟨Z8,g8,f8,a8,n8⟩:=E4 (n:=1) (o:=2) (v:=b) f7.tidy a7 (by rw[HO bo];simp[BL,Bk,bo])
  have a8:CB Z8 Z4.next [.int .i64 (AA 5),.int .i64 (AA 0),b,.nils,.int .i64 (AA 0),.nils]:=by rw[HO bo]at a8;exact a8
  obtain⟨Z',g',d',f'⟩:=done Z7 Z8 ⟨AA 5,AA 0,b,.nils,AA 0,.nils,bo,rfl,rfl⟩ f7 (.oct ob) (fun c hc=>nb c hc) f8 a8
  refine⟨_,Z',?_,d',f'⟩
  rw[<-g']
  have k3:UN E D (AT E D) N p 0 (AA dp) Z.next 0 Z1.next 0 w Z4.next 0 (AA 5) true Z6=Nj E D (AT E D) Z.next 0 Z4.next 0 Z8:=by
   show XK E D (AT E D) _ _ _ p 0 (AA dp) Z.next 0 Z1.next 0 w Z4.next 0 (AA 5) true Z6=_
   unfold XK
   have g8:∀J:H->AH,FW 1 Z4.next (Ap 0 2) b Z7 J=J Z8:=g8
   simp -implicitDefEqProofs only [↓rP,rA,AD,AF,AB,↓g7,↓Aw bo,↓g8]
   rfl
  rw[<-k3]
  unfold Jz
  simp -implicitDefEqProofs only [↓rP,rA,AD,AF,AB,↓lf,↓lt4,↓rd,(ty j).oneT,(ty j).oneI,(ty j).oneF,↓e2,↓g3,↓l1,↓g4,↓Aw wo,↓l0,↓e5,↓g6,↓l06,BW,decide_true,show decide (5=1)=false from rfl,show decide (5=2)=false from rfl,show decide (5=3)=false from rfl]
  all_goals rfl
end
theorem yo {u:V} {p:Nat} {i j:Int} (h:u.live=true):[V.ptr p 0,.int .i64 i,u,.int .i64 j].all V.live=true:=by rw[Bj,Bj,Bj,h];rfl
def Ll (gs:List Vc):List V:=gs.flatMap Vc.c
theorem RX:∀gs:List Vc,(Ll gs).length=gs.length*6
 | []=>rfl
 | v::gs=>by
  show (v.c++Ll gs).length=_
  rw[AQ,RX gs,Ay,show v.c.length=6 from rfl];omega
theorem V8:∀(gs:List Vc) (k:Nat) (v:Vc),gs[k]? = some v->((Ll gs).drop (k*6)).take 6=v.c
 | [],_,_,h=>by simp at h
 | w::gs,0,v,h=>by
  simp at h;subst h;rfl
 | w::gs,k+1,v,h=>by
  show ((w.c++Ll gs).drop ((k+1)*6)).take 6=_
  rw[show (k+1)*6=6+k*6 by omega,<-IV,show (w.c++Ll gs).drop 6=Ll gs from rfl]
  exact V8 gs k v (by simpa using h)
theorem V7:∀(gs:List Vc) (k:Nat) (v:Vc),k<gs.length->HK (Ll gs) (k*6) v.c=Ll (gs.set k v)
 | [],_,_,h=>by simp at h
 | w::gs,0,v,_=>by
  have e:∀m:List V,HK m 0 []=m:=fun m=>by cases m<;>simp[HK]
  rw[MZ]
  show v.c++HK (Ll gs) 0 []=v.c++Ll gs
  rw[e]
 | w::gs,k+1,v,h=>by
  have ih:=V7 gs k v (by simpa using h)
  rw[List.set_cons_succ]
  show HK (w.c++Ll gs) ((k+1)*6) v.c=w.c++Ll (gs.set k v)
  rw[<-ih,show (k+1)*6=k*6+1+1+1+1+1+1 by omega]
  rfl
theorem Vc.allOne (v:Vc):allOne v.c=true:=by unfold Vc.c;simp[BL,Bk,v.oneB,v.oneL,v.oneM,Df]
def pk (sq:Bool) (t:Nat) (X:List El):Option El × List El:=match iG t X 0 with
 | none=>(none,X)
 | some i=>match sq&&decide (0<i)with
  | true=>(none,X)
  | false=>(X[i]?,X.eraseIdx i)
def NW (sq:Bool):List Nat->List El->List (Option El) × List El
 | [],X=>([],X)
 | t::ts,X=>((pk sq t X).1::(NW sq ts (pk sq t X).2).1,(NW sq ts (pk sq t X).2).2)
structure lS (B W:List V->H->AH) (Pt:H->Prop) (Z:H) (p nT:Nat) (ty:Nat->Ty) (Fz:List V) (tv:V) (x:Ty) (nf:Nat) (fd:Nat->Fd) (jt tg kd:Nat->Nat):Prop where
 row:Ea Z 11 nf x.fields fun k=>(fd k).c
 leaf:∀k,k<nf->(fd k).type=AA (jt k)/\(ty (jt k)).kind=AA (kd k)/\(kd k=1\/kd k=2\/kd k=4\/kd k=5)/\Lt Z p nT ty Fz tv (jt k) (tg k)/\Bw B W Pt Fz (jt k) (tg k)
 t4:iJ Fz
 pt:Pt Z
 ptf:∀Z Z',Aj Z->Fr AG Z Z'->Pt Z->Pt Z'
 at_:CB Z p (.bool false::Fz)
 itm:V.beq x.items x.items=true
theorem Lt.fr {Z Z':H} {p nT j t:Nat} {ty:Nat->Ty} {Fz:List V} {tv:V} (h:Lt Z p nT ty Fz tv j t) (f:Fr AG Z Z') (ht:Aj Z):Lt Z' p nT ty Fz tv j t:=⟨h.tb,f.at_ h.at_ ht (fun h=>h),h.row.fr0 f ht,h.lt,h.tags.fr f ht (fun _ _ h=>h)⟩
theorem lS.fr {B W:List V->H->AH} {Pt:H->Prop} {Z Z':H} {p nT:Nat} {ty:Nat->Ty} {Fz:List V} {tv:V} {x:Ty} {nf:Nat} {fd:Nat->Fd} {jt tg kd:Nat->Nat} (h:lS B W Pt Z p nT ty Fz tv x nf fd jt tg kd) (f:Fr AG Z Z') (ht:Aj Z):lS B W Pt Z' p nT ty Fz tv x nf fd jt tg kd:=
 ⟨h.row.fr0 f ht,fun k hk=>by obtain⟨a,b,c,d,e⟩:=h.leaf k hk;exact⟨a,b,c,d.fr f ht,e⟩,h.t4,h.ptf _ _ ht f h.pt,h.ptf,f.at_ h.at_ ht (fun h=>h),h.itm⟩
structure Fs (Z0 Z:H) (p:Nat) (K:Nat) (x:Ty) (gs:List Vc):Prop where
 fr:Fr AG Z0 Z
 cb:CB Z Z0.next [.ptr p 0]
 xb:CB Z (Z0.next+1) x.c
 rb:CB Z (Z0.next+2) EJ
 qv:CB Z (Z0.next+10) [.int .i64 (AA K),.int .i64 (AA 0),.nils,.sl (Z0.next+8) 0 gs.length (.ex gs.length),.int .i64 (AA 0),.nils]
 lb:CB Z (Z0.next+8) (Ll gs)
 lt:Z0.next+12<=Z.next
theorem Fs.fr' {Z0 Z Z':H} {p K:Nat} {x:Ty} {gs:List Vc} (h:Fs Z0 Z p K x gs) (f:Fr AG Z Z'):Fs Z0 Z' p K x gs:=by
 have ht:=h.fr.tidy
 exact⟨h.fr.trans f (fun _ _ h=>h),f.at_ h.cb ht (fun h=>h),f.at_ h.xb ht (fun h=>h),f.at_ h.rb ht (fun h=>h),f.at_ h.qv ht (fun h=>h),f.at_ h.lb ht (fun h=>h),BP h.lt f.le⟩
def Gd (Z0 Z:H) (t kd:Nat) (o:Option El) (v:Vc):Prop:=match o with
 | none=>v=Vc.abs
 | some e=>∃mk body h,gH e.1 2 t mk body h/\Ix e.1/\e.1.length<=100000/\Dv Z kd v body/\∀b,Al v.b b->Z0.next+12<=b
theorem Gd.fr {S:Nat->Prop} {Z0 Z Z':H} {t kd:Nat} {o:Option El} {v:Vc} (h:Gd Z0 Z t kd o v) (f:Fr S Z Z') (ht:Aj Z) (hS:∀b,Z0.next+12<=b->¬S b):Gd Z0 Z' t kd o v:=by
 match o,h with
 | none,h=>exact h
 | some e,⟨mk,body,h,a,b,l,c,d⟩=>exact⟨mk,body,h,a,b,l,c.frS f ht (fun b hb=>hS b (d b hb)),d⟩
def S6 (Z0 Z:H) (v:V) (EL:List (List Nat)):Prop:=∃pvs:List V,HR Z 1 EL.length v pvs/\(∀b,Al v b->b<Z0.next\/Z0.next+12<=b)/\∀(i:Nat) (e:List Nat),EL[i]? = some e->∃u,pvs[i]? = some u/\Oc Z u e/\∀b,Al u b->b<Z0.next
theorem S6.fr {S:Nat->Prop} {Z0 Z Z':H} {v:V} {EL:List (List Nat)} (h:S6 Z0 Z v EL) (f:Fr S Z Z') (ht:Aj Z) (hS:∀b,S b->Z0.next<=b/\b<Z0.next+12):S6 Z0 Z' v EL:=by
  obtain⟨pvs,h1,h2,h3⟩:=h
  exact⟨pvs,h1.fr f ht (fun b hb hs=>by have:=h2 b hb;have:=hS b hs;omega),h2,fun i e hi=>by
    obtain⟨u,a,b,c⟩:=h3 i e hi
    exact⟨u,a,b.fr f ht (fun b hb hs=>by have:=c b hb;have:=hS b hs;omega),c⟩⟩
theorem S6.ela {Z0 Z:H} {v:V} {EL:List (List Nat)} (h:S6 Z0 Z v EL):gI Z v EL:=by
 obtain⟨pvs,h1,_,h3⟩:=h
 exact⟨pvs,h1,fun i e hi=>by obtain⟨u,a,b,_⟩:=h3 i e hi;exact⟨u,a,b⟩⟩
section
variable {E:EB} {D:Ak} {N:Nat} {B W:List V->H->AH} {Pt:H->Prop} {Z0 Z:H} {p nT:Nat} {ty:Nat->Ty} {Fz:List V} {tv:V} {x:Ty} {nf:Nat} {fd:Nat->Fd} {jt tg kd:Nat->Nat}
theorem jN (hV:Yw E (D 15)) (hF:lS B W Pt Z p nT ty Fz tv x nf fd jt tg kd) {K k at_ fq dp:Nat} {gs:List Vc} (hs:Fs Z0 Z p K x gs) (hk:k<nf) (hg:gs.length=nf) (hdp:dp<=16) {a fv:V} {X:List El} {e:El} (ha:S6 Z0 Z a (X.map (·.1))) (he:X[at_]? = some e) (ht2:e.2=(2,tg k)) (hE:P4 e) (aq:CB Z fq (fd k).c) (hqn:fq≠Z0.next+8) (hpn:p≠Z0.next+8) (fvl:fv.live=true) {l:Int} :
    ∃ev Z' v,AT E D Q5 UR [(2,a),(3,.int .i64 (AA dp)),(4,.ptr Z0.next 0),(5,.ptr (Z0.next+1) 0),(8,.ptr (Z0.next+2) 0),(9,.ptr (Z0.next+10) 0),(10,.int .i64 (AA k)),(11,.ptr fq 0),(12,.int .i64 (AA at_)),(23,fv),(24,.int .i64 l),(25,.int .i64 (AA k))] Z=some (ev,Z') /\
      (Go.Og.look ev 2=some a/\Go.Og.look ev 3=some (.int .i64 (AA dp))/\Go.Og.look ev 4=some (.ptr Z0.next 0)/\Go.Og.look ev 5=some (.ptr (Z0.next+1) 0)/\Go.Og.look ev 8=some (.ptr (Z0.next+2) 0)/\Go.Og.look ev 9=some (.ptr (Z0.next+10) 0)/\Go.Og.look ev 12=some (.int .i64 (AA at_))/\Go.Og.look ev 23=some fv/\Go.Og.look ev 24=some (.int .i64 l)/\Go.Og.look ev 25=some (.int .i64 (AA k))) /\
      Fr (fun b=>b=Z0.next+8) Z Z'/\CB Z' (Z0.next+8) (Ll (gs.set k v))/\Gd Z0 Z' (tg k) (kd k) (some e) v:=by
  have ht:=hs.fr.tidy
  obtain⟨q1,q2,q3,q4,_⟩:=hF.leaf k hk
  obtain⟨hb,hlen,mk,body,h,hel⟩:=hE
  rw[ht2]at hel
  have fw:Fr AG Z ⟨Z.next+15,Z.bl⟩:=(CU (E:=E) (n:=15) (S:=AG) ht).fr
  obtain⟨pvs,hsrc,hnm,hpv⟩:=ha
  have hlx:at_<X.length:=(A0.1 he).1
  obtain⟨u,hu,ou,nu⟩:=hpv at_ e.1 (by rw[B9,he];rfl)
  have el:(X.map (·.1)).length=X.length:=CY ..
  obtain⟨ab,ao,ac,aL,hav,aat,alen,aget⟩:∃b o c L,a = .sl b o X.length c/\CB Z b L/\o+X.length<=L.length/\L[o+at_*1]? = some u:=by
    rcases hsrc with ⟨h0,_,_⟩|⟨b,o,c,L,h1,h2,h3,h4⟩
    · omega
    · refine⟨b,o,c,L,by rw[h1,el],h2,by omega,?_⟩
      rw[h4,Es (by omega),Cc]at hu
      rw[CG];exact hu
  have bne:ab≠Z0.next+8:=by have:=hnm ab (by rw[hav];rfl);omega
  obtain⟨v,Z1,g1,d1,nv1,f1⟩:=hV (Z:=⟨Z.next+15,Z.bl⟩) (dp:=dp+1) fw.tidy (q4.fr fw ht) q2 q3 (ou.fr0 fw ht) hb hel (by omega) (by omega)
  have lt:=hs.lt
  have F1:Fr AG Z Z1:=fw.trans f1 (fun _ _ h=>h)
  have lb1:CB Z1 (Z0.next+8) (Ll gs):=F1.at_ hs.lb ht (fun h=>h)
  have hkl:k<gs.length:=by omega
  obtain⟨Z2,g2,f2,a2⟩:∃Z2,Dp E D (.store 6 (.tmp 57) (.tmp 56)) [(57,.ptr (Z0.next+8) (0+k*6)),(56,.agg v.c)] Z1=some (.dead,Z2)/\Fr (fun b=>b=Z0.next+8) Z1 Z2/\CB Z2 (Z0.next+8) (Ll (gs.set k v)):=by
    obtain⟨Z2,r1,r2,r3⟩:=Kv (E:=E) (D:=D) (n:=6) (x := .tmp 57) (y := .tmp 56) (e:=[(57,.ptr (Z0.next+8) (0+k*6)),(56,.agg v.c)]) F1.tidy lb1 rfl (show (CI [(57,.ptr (Z0.next+8) (0+k*6)),(56,.agg v.c)] (.tmp 56)).cells=v.c from rfl) (by
      rw[RX,v.allOne,show v.c.length=6 from rfl]
      simp;omega)
    rw[BZ,V7 gs k v hkl]at r3
    exact⟨Z2,by rw[BZ];rw[BZ]at r1;exact r1,r2,r3⟩
  have ao1:a.one=true:=by rw[hav];rfl
  have uo:=ou.one
  have lsl:V.beq (.sl (Z0.next+8) 0 gs.length (.ex gs.length)) (.sl (Z0.next+8) 0 gs.length (.ex gs.length))=true:=CV _ rfl
  have ad:Hi .add .none (.int .i64 (AA dp)) (.int .i64 (AA 1))=some (.int .i64 (AA (dp+1))):=congrArg (fun z=>some (V.int .i64 z)) ((MQ .i64 (AA dp) (AA 1)).symm.trans (Bb (by omega)))
  have h1:Z.next+15<=Z1.next:=f1.le
  have go:FM E D Z 15 0 (fun b=>b=Z0.next+8) Q5 UR ⟨[(2,a),(3,.int .i64 (AA dp)),(4,.ptr Z0.next 0),(5,.ptr (Z0.next+1) 0),(8,.ptr (Z0.next+2) 0),(9,.ptr (Z0.next+10) 0),(10,.int .i64 (AA k)),(11,.ptr fq 0),(12,.int .i64 (AA at_)),(23,fv),(24,.int .i64 l),(25,.int .i64 (AA k))],Z.next+15,[Z.bl],[],0,[]⟩ _ Z2:=
    Cn (.ptr (Z0.next+10) 3) rfl rfl <|
    Il (.sl (Z0.next+8) 0 gs.length (.ex gs.length)) (CU ht) rfl (D4 (b:=Z0.next+10) (off:=3) rfl hs.qv rfl ht (fun e=>by omega) lsl) fun _ r1=>
    Cn (.int .i64 (AA k)) rfl rfl <|
    Il (.ptr p 0) r1 rfl (D4 (b:=Z0.next) (off:=0) rfl hs.cb rfl ht (fun e=>by omega) (CV _ rfl)) fun _ r2=>
    Cn (.ptr fq 1) rfl rfl <|
    Il (.int .i64 (AA (jt k))) r2 rfl (D4 (b:=fq) (off:=1) rfl aq (by rw[<-q1];rfl) ht hqn (CV _ rfl)) fun _ r3=>
    Cn a rfl (ER rfl (Be ao1)) <|
    Cn (.int .i64 (AA at_)) rfl rfl <|
    Cn (.ptr ab (ao+at_*1)) rfl (Jq hav rfl hlx) <|
    Il u r3 rfl (D4 (b:=ab) (off:=ao+at_*1) rfl aat aget ht bne ou.beq) fun _ r4=>
    Cn (.int .i64 (AA dp)) rfl rfl <|
    Cn (.int .i64 (AA (dp+1))) rfl ad <|
    Js (.agg v.c) r4 rfl (by decide) f1 (fun _ _ h=>h.elim) (fun _ h _ _=>h.elim) (Dq (vs:=[.ptr p 0,.int .i64 (AA (jt k)),u,.int .i64 (AA (dp+1))]) rfl (yo (Be uo)) g1) fun _ _ _ r5=>
    Cn (.ptr (Z0.next+8) (0+k*6)) rfl (Jq rfl rfl hkl) <|
    Js .dead r5 rfl (by decide) (S':=fun b=>b=Z0.next+8) f2 (fun _ _ h=>h) (fun b h h1 _=>by omega) g2 fun _ _ _ r6=>
    HZ r6
  obtain⟨x1,x2⟩:=Fg (ops:=Q5) go
  refine⟨_,Z2,v,x1,⟨rfl,rfl,rfl,rfl,rfl,rfl,rfl,rfl,rfl,rfl⟩,x2,a2,⟨mk,body,h,hel,hb,hlen,d1.frS f2 F1.tidy (fun b hb e=>by have:=nv1 b hb;have:Z.next+15<=b:=this;omega),fun b hb=>by have:=nv1 b hb;have:Z.next+15<=b:=this;omega⟩⟩
end
def XT (B W F:List V->H->AH):Prop:=∀{Pt:H->Prop} {Fz L:List V} {Z:H} {p cb fq j t:Nat} {u:V} {x:El},(∀Z Z',Aj Z->Fr AG Z Z'->Pt Z->Pt Z')->iJ Fz->Aj Z->CB Z p (.bool false::Fz)->Pt Z->Oc Z u x.1->P4 x->Bw B W Pt Fz j t ->
 CB Z cb [.ptr p 0]->CB Z fq L->L[1]? = some (.int .i64 (AA j))->∃Z',F [u,.ptr cb 0,.ptr fq 0] Z=some (.bool (decide (x.2=(2,t))),Z')/\Fr AG Z Z'
def ZH:List V:=[.str ⟨0,0⟩,.int .i64 (AA 0),.bool false,.bool false,.int .i64 (AA 0),.int .i64 (AA 0),.nils,.nils,.int .i64 (AA 0),.nils,.int .i64 (AA 0)]
theorem aE {sq:Bool} {t:Nat} {X:List El}:∀e∈(pk sq t X).2,e∈X:=by
 intro e he
 unfold pk at he
 split at he
 ·exact he
 ·split at he
  ·exact he
  ·exact List.mem_of_mem_eraseIdx he
theorem aF {sq:Bool} {t:Nat} {X:List El}:(pk sq t X).2.length<=X.length:=by
 unfold pk
 split
 ·exact AL _
 ·split
  ·exact AL _
  ·exact List.length_eraseIdx_le ..
section
variable {E:EB} {D:Ak} {N M:Nat} {B W:List V->H->AH} {Pt:H->Prop} {Z0:H} {p nT:Nat} {ty:Nat->Ty} {Fz:List V} {tv:V} {x:Ty} {nf:Nat} {fd:Nat->Fd} {jt tg kd:Nat->Nat}
theorem aj (hV:Yw E (D 15)) {C:List V->H->AH} (hC:XT B W C) (hI:UE M C (D 63)) (hP:PJ (D 66) (D 65)) {Z:H} (hF:lS B W Pt Z p nT ty Fz tv x nf fd jt tg kd) {K k dp:Nat} (hK:x.kind=AA K) {gs:List Vc} (hs:Fs Z0 Z p K x gs) (hp0:p<Z0.next) (hk:k<nf) (hg:gs.length=nf) (hgk:gs[k]? = some Vc.abs) (hdp:dp<=16) {a:V} {X:List El} (ha:S6 Z0 Z a (X.map (·.1))) (hX:∀e∈X,P4 e) (hXn:X.length<=5000) (hM:X.length<M) :
  ∃a' Z' v,(∀(K1:V->Nat->Nat->Nat->Nat->H->AH) (K3:V->Int->Nat->Nat->Nat->Nat->Nat->Nat->Nat->Nat->V->Int->Int->H->AH),JR E D (AT E D) K1 K3 a (AA dp) Z0.next 0 (Z0.next+1) 0 (Z0.next+2) 0 (Z0.next+10) 0 x.fields (AA nf) (AA k) Z=K3 a' (AA dp) Z0.next 0 (Z0.next+1) 0 (Z0.next+2) 0 (Z0.next+10) 0 x.fields (AA nf) (AA k) Z') /\
   Fs Z0 Z' p K x (gs.set k v)/\Fr (fun b=>b=Z0.next+8) Z Z'/\S6 Z0 Z' a' ((pk (decide (K=7)) (tg k) X).2.map (·.1))/\Gd Z0 Z' (tg k) (kd k) (pk (decide (K=7)) (tg k) X).1 v:=by
 have ht:=hs.fr.tidy
 have lt:=hs.lt
 obtain⟨q1,q2,q3,q4,q5⟩:=hF.leaf k hk
 have rd:=fun J=>hF.row.all (E:=E) hk J
 obtain⟨Z1,e1,f1,a1,n1⟩:=Ih ht ZH
 obtain⟨Z2,g2,f2,a2,n2⟩:=E4 (n:=11) (o:=0) (v := .agg (fd k).c) f1.tidy a1 (by unfold Fd.c;simp[ZH,En,BL,Bk,Df,Fb,KP,(fd k).one2,(fd k).one3,(fd k).one5])
 have a2:CB Z2 Z.next (fd k).c:=a2
 have F2:Fr AG Z Z2:=f1.trans f2 (fun b hb e=>by omega)
 have ha2:S6 Z0 Z2 a (X.map (·.1)):=ha.fr F2 ht (fun _ h=>h.elim)
 have hF2:=hF.fr F2 ht
 have hs2:=hs.fr' F2
 obtain⟨Z3,g3,f3⟩:=hI (t:=tg k) F2.tidy ha2.ela hM (by omega) (cb:=Z0.next) (fq:=Z.next) fun Z' u e he f ou=>
  hC hF.ptf hF.t4 f.tidy (f.at_ hF2.at_ F2.tidy (fun h=>h)) (hF.ptf _ _ F2.tidy f hF2.pt) ou (hX e he) q5 (f.at_ hs2.cb F2.tidy (fun h=>h)) (f.at_ a2 F2.tidy (fun h=>h)) (by rw[<-q1];rfl)
 have F3:Fr AG Z Z3:=F2.trans f3 (fun _ _ h=>h)
 have ha3:=ha2.fr f3 F2.tidy (fun _ h=>h.elim)
 have hF3:=hF2.fr f3 F2.tidy
 have hs3:=hs2.fr' f3
 have a3:=f3.at_ a2 F2.tidy (fun h=>h)
 have dk:decide (k<nf)=true:=decide_eq_true hk
 have self:gs.set k Vc.abs=gs:=by
  refine HI fun i=>?_
  rw[List.getElem?_set]
  split
  ·rename_i e
   subst e
   rw[if_pos (by omega),hgk]
  ·rfl
 unfold Fd.c at rd g2
 unfold ZH at e1
 have skip:(pk (decide (K=7)) (tg k) X)=(none,X)->(∀(K1:V->Nat->Nat->Nat->Nat->H->AH) (K3:V->Int->Nat->Nat->Nat->Nat->Nat->Nat->Nat->Nat->V->Int->Int->H->AH),JR E D (AT E D) K1 K3 a (AA dp) Z0.next 0 (Z0.next+1) 0 (Z0.next+2) 0 (Z0.next+10) 0 x.fields (AA nf) (AA k) Z=K3 a (AA dp) Z0.next 0 (Z0.next+1) 0 (Z0.next+2) 0 (Z0.next+10) 0 x.fields (AA nf) (AA k) Z3) ->
   ∃a' Z' v,(∀(K1:V->Nat->Nat->Nat->Nat->H->AH) (K3:V->Int->Nat->Nat->Nat->Nat->Nat->Nat->Nat->Nat->V->Int->Int->H->AH),JR E D (AT E D) K1 K3 a (AA dp) Z0.next 0 (Z0.next+1) 0 (Z0.next+2) 0 (Z0.next+10) 0 x.fields (AA nf) (AA k) Z=K3 a' (AA dp) Z0.next 0 (Z0.next+1) 0 (Z0.next+2) 0 (Z0.next+10) 0 x.fields (AA nf) (AA k) Z') /\
   Fs Z0 Z' p K x (gs.set k v)/\Fr (fun b=>b=Z0.next+8) Z Z'/\S6 Z0 Z' a' ((pk (decide (K=7)) (tg k) X).2.map (·.1))/\Gd Z0 Z' (tg k) (kd k) (pk (decide (K=7)) (tg k) X).1 v:=fun e hg=>by
  rw[e]
  exact⟨a,Z3,Vc.abs,hg,by rw[self];exact hs3,Fr.to_any F3,ha3,rfl⟩
 cases hix:iG (tg k) X 0 with
 | none=>
  rw[hix]at g3
  have g3:D 63 [a,.fn 64 [] [.ptr Z0.next 0,.ptr Z.next 0]] Z2=some (.int .i64 (BQ 0),Z3):=g3
  refine skip (by unfold pk;rw[hix]) fun K1 K3=>?_
  unfold JR
  simp -implicitDefEqProofs only [↓rP,rA,AD,AF,AB,dk,↓rd,(fd k).one2,(fd k).one3,(fd k).one5,↓e1,↓g2,↓g3,show C8 (BQ 0) (AA 0)=true from rfl]
 | some i=>
  rw[hix]at g3
  have g3:D 63 [a,.fn 64 [] [.ptr Z0.next 0,.ptr Z.next 0]] Z2=some (.int .i64 (AA i),Z3):=g3
  obtain⟨_,e,he,het⟩:=TX hix
  rw[Ma]at he
  have hil:i<X.length:=(A0.1 he).1
  have l0:∀J:V->AH,Bc E Z3 (Z0.next+1) 0 J=J (.int .i64 (AA K)):=fun J=>CK hs3.xb (by rw[<-hK];rfl)
  have i0:decide (i<0)=false:=decide_eq_false (by omega)
  cases hsk:(decide (K=7)&&decide (0<i))with
  | true=>
   obtain⟨h7,hpos⟩:=Bool.and_eq_true_iff.1 hsk
   refine skip (by unfold pk;rw[hix];simp only[hsk]) fun K1 K3=>?_
   unfold JR
   simp -implicitDefEqProofs only [↓rP,rA,AD,AF,AB,dk,↓rd,(fd k).one2,(fd k).one3,(fd k).one5,↓e1,↓g2,↓g3,i0,hpos,↓l0,BW,h7]
  | false=>
   obtain⟨ev,Z4,v,d4,⟨y2,y3,y4,y5,y8,y9,Jd,Ln,xR,qW⟩,f4,b4,gd4⟩:=jN (E:=E) (D:=D) (fv:=x.fields) (l:=AA nf) hV hF3 hs3 hk hg hdp ha3 he het (hX e (Ct he)) a3 (by omega) (by omega) (Be x.oneF)
   have F4:Fr (fun b=>b=Z0.next+8) Z Z4:=(Fr.to_any F3).trans f4 (fun _ _ h=>h)
   have ha4:=ha3.fr f4 F3.tidy (fun b hb=>by omega)
   obtain⟨pvs,s1,s2,s3⟩:=ha4
   have hl4:(X.map (·.1)).length=X.length:=CY ..
   obtain⟨u,Z5,w,Z6,g5,uo,g6,wo,s6,nw,f6⟩:=hP F4.tidy s1 (Tx fun j c hj=>by
    have hj':=(A0.1 hj).1
    have hlen:=s1.length
    obtain⟨c',hc',oc,_⟩:=s3 j _ (Af (by omega))
    rw[hj]at hc';cases hc'
    exact oc.one) (i:=i) (by omega) (by omega)
   have gd:∀J:Bz->H->AH,Ci (AT E D Q5 UR [(2,a),(3,.int .i64 (AA dp)),(4,.ptr Z0.next 0),(5,.ptr (Z0.next+1) 0),(8,.ptr (Z0.next+2) 0),(9,.ptr (Z0.next+10) 0),(10,.int .i64 (AA k)),(11,.ptr Z.next 0),(12,.int .i64 (AA i)),(23,x.fields),(24,.int .i64 (AA nf)),(25,.int .i64 (AA k))] Z3) J=J ev Z4:=fun J=>by rw[d4];rfl
   have z2:∀J:V->AH,BR ev 2 J=J a:=fun J=>BU y2 (Be ha.ela.one)
   have z3:∀J:V->AH,BR ev 3 J=J (.int .i64 (AA dp)):=fun J=>BU y3 rfl
   have z4:∀J:V->AH,BR ev 4 J=J (.ptr Z0.next 0):=fun J=>BU y4 rfl
   have z5:∀J:V->AH,BR ev 5 J=J (.ptr (Z0.next+1) 0):=fun J=>BU y5 rfl
   have z8:∀J:V->AH,BR ev 8 J=J (.ptr (Z0.next+2) 0):=fun J=>BU y8 rfl
   have z9:∀J:V->AH,BR ev 9 J=J (.ptr (Z0.next+10) 0):=fun J=>BU y9 rfl
   have z12:∀J:V->AH,BR ev 12 J=J (.int .i64 (AA i)):=fun J=>BU Jd rfl
   have z23:∀J:V->AH,BR ev 23 J=J x.fields:=fun J=>BU Ln (Be x.oneF)
   have z24:∀J:V->AH,BR ev 24 J=J (.int .i64 (AA nf)):=fun J=>BU xR rfl
   have z25:∀J:V->AH,BR ev 25 J=J (.int .i64 (AA k)):=fun J=>BU qW rfl
   have lt3:Z0.next+12<=Z4.next:=BP hs3.lt f4.le
   have hs4:Fs Z0 Z4 p K x (gs.set k v):=by
    have fr4:Fr AG Z0 Z4:=hs3.fr.trans f4 (fun b hb e=>by omega)
    refine⟨fr4,f4.at_ hs3.cb F3.tidy (fun e=>by omega),f4.at_ hs3.xb F3.tidy (fun e=>by omega),f4.at_ hs3.rb F3.tidy (fun e=>by omega),?_,b4,lt3⟩
    rw[List.length_set]
    exact f4.at_ hs3.qv F3.tidy (fun e=>by omega)
   have F6:Fr (fun b=>b=Z0.next+8) Z Z6:=F4.trans (Fr.to_any f6) (fun _ _ h=>h)
   have hpk:pk (decide (K=7)) (tg k) X=(some e,X.eraseIdx i):=by unfold pk;rw[hix];simp only[hsk,he]
   refine⟨w,Z6,v,fun K1 K3=>?_,hs4.fr' f6,F6,?_,?_⟩
   ·have step:∀b7:Bool,decide (K=7)=b7->(b7&&decide (0<i))=false->JR E D (AT E D) K1 K3 a (AA dp) Z0.next 0 (Z0.next+1) 0 (Z0.next+2) 0 (Z0.next+10) 0 x.fields (AA nf) (AA k) Z=K3 w (AA dp) Z0.next 0 (Z0.next+1) 0 (Z0.next+2) 0 (Z0.next+10) 0 x.fields (AA nf) (AA k) Z6:=fun b7 h7 hb=>by
     have ad:=Bb (show i+1<=9223372036854775807 by omega)
     cases hpos:decide (0<i)with
     | true=>
      rw[hpos,Jb]at hb
      subst hb
      unfold JR
      simp -implicitDefEqProofs only [↓rP,rA,AD,AF,AB,dk,↓rd,(fd k).one2,(fd k).one3,(fd k).one5,↓e1,↓g2,↓g3,i0,hpos,↓l0,BW,h7,↓gd,↓z2,↓z3,↓z4,↓z5,↓z8,↓z9,↓z12,↓z23,↓z24,↓z25,↓g5,↓Aw uo,ad,↓g6,↓Aw wo]
     | false=>
      unfold JR
      simp -implicitDefEqProofs only [↓rP,rA,AD,AF,AB,dk,↓rd,(fd k).one2,(fd k).one3,(fd k).one5,↓e1,↓g2,↓g3,i0,hpos,↓gd,↓z2,↓z3,↓z4,↓z5,↓z8,↓z9,↓z12,↓z23,↓z24,↓z25,↓g5,↓Aw uo,ad,↓g6,↓Aw wo]
    exact step _ rfl hsk
   ·rw[hpk]
    refine⟨pvs.eraseIdx i,?_,fun b hb => .inr (BP lt3 (nw b hb)),fun j c hj=>?_⟩
    ·rw[CY,wm hil,<-hl4];exact s6
    ·rw[B9,List.getElem?_eraseIdx]at hj
     rw[List.getElem?_eraseIdx]
     split at hj
     ·rename_i hlt
      rw[if_pos hlt]
      obtain⟨u,a,b,c⟩:=s3 j c (by rw[B9];exact hj)
      exact⟨u,a,b.fr0 f6 F4.tidy,c⟩
     ·rename_i hlt
      rw[if_neg hlt]
      obtain⟨u,a,b,c⟩:=s3 (j+1) c (by rw[B9];exact hj)
      exact⟨u,a,b.fr0 f6 F4.tidy,c⟩
   ·rw[hpk]
    exact gd4.fr (S:=AG) f6 F4.tidy (fun _ _ h=>h)
end
section
variable {E:EB} {D:Ak} {N M:Nat} {B W:List V->H->AH} {Pt:H->Prop} {Z0:H} {p nT:Nat} {ty:Nat->Ty} {Fz:List V} {tv:V} {x:Ty} {nf:Nat} {fd:Nat->Fd} {jt tg kd:Nat->Nat}
theorem ak (hV:Yw E (D 15)) {C:List V->H->AH} (hC:XT B W C) (hI:UE M C (D 63)) (hP:PJ (D 66) (D 65)) (ht0:Aj Z0) (hF0:lS B W Pt Z0 p nT ty Fz tv x nf fd jt tg kd) {K dp:Nat} (hK:x.kind=AA K) (hp0:p<Z0.next) (hnf:nf<=10000) (hdp:dp<=16) :
    ∀(ts:List Nat) (k n':Nat) (Z:H) (a:V) (X:List El) (gs:List Vc) (os:List (Option El)),k+ts.length=nf->(∀i t,ts[i]? = some t->t=tg (k+i))->ts.length<n'->Fs Z0 Z p K x gs->gs.length=nf->(∀i,k<=i->i<nf->gs[i]? = some Vc.abs)->os.length=k->(∀i,i<k->∃o v,os[i]? = some o/\gs[i]? = some v/\Gd Z0 Z (tg i) (kd i) o v)->S6 Z0 Z a (X.map (·.1))->(∀e∈X,P4 e)->X.length<=5000->X.length<M ->
      ∃a' Z' gs',UM E D (AT E D) N n' a (AA dp) Z0.next 0 (Z0.next+1) 0 (Z0.next+2) 0 (Z0.next+10) 0 x.fields (AA nf) (AA k) Z=e9 E D (AT E D) N a' (Z0.next+2) 0 (Z0.next+10) 0 Z' /\
        Fs Z0 Z' p K x gs'/\gs'.length=nf/\S6 Z0 Z' a' ((NW (decide (K=7)) ts X).2.map (·.1))/\(∀i,i<nf->∃o v,(os++(NW (decide (K=7)) ts X).1)[i]? = some o/\gs'[i]? = some v/\Gd Z0 Z' (tg i) (kd i) o v):=by
  intro ts
  induction ts with
  | nil=>
    intro k n' Z a X gs os hkn _ hn' hs hg _ ho hos ha _ _ _
    obtain⟨n',rfl⟩:∃q,n'=q+1:=⟨n'-1,by omega⟩
    have hk:k=nf:=hkn
    refine⟨a,Z,gs,?_,hs,hg,ha,fun i hi=>?_⟩
    · have d1:decide (k<nf)=false:=decide_eq_false (by omega)
      have key:∀K1 K3,JR E D (AT E D) K1 K3 a (AA dp) Z0.next 0 (Z0.next+1) 0 (Z0.next+2) 0 (Z0.next+10) 0 x.fields (AA nf) (AA k) Z=K1 a (Z0.next+2) 0 (Z0.next+10) 0 Z:=by
        intro K1 K3
        unfold JR
        simp -implicitDefEqProofs only [↓rP,rA,AD,AF,AB,d1]
      exact key _ _
    · obtain⟨o,v,h1,h2,h3⟩:=hos i (by omega)
      exact⟨o,v,by rw[show (NW (decide (K=7)) [] X).1=[] from rfl,CF];exact h1,h2,h3⟩
  | cons t ts ih=>
    intro k n' Z a X gs os hkn hts hn' hs hg hga ho hos ha hX hX5 hXM
    obtain⟨n',rfl⟩:∃q,n'=q+1:=⟨n'-1,by omega⟩
    rw[Ay]at hkn hn'
    have ht:t=tg k:=hts 0 t rfl
    subst ht
    obtain⟨a1,Z1,v,g1,hs1,f1,ha1,gd1⟩:=aj (E:=E) (D:=D) hV hC hI hP (hF0.fr hs.fr ht0) hK hs hp0 (by omega) hg (hga k (AL _) (by omega)) hdp ha hX hX5 hXM
    have pl:(pk (decide (K=7)) (tg k) X).2.length<=X.length:=aF
    obtain⟨a',Z',gs',g',h1,h2,h3,h4⟩:=ih (k+1) n' Z1 a1 (pk (decide (K=7)) (tg k) X).2 (gs.set k v) (os++[(pk (decide (K=7)) (tg k) X).1]) (by omega) (fun i u hu=>by rw[hts (i+1) u hu];congr 1;omega) (by omega) hs1 (by rw[List.length_set];exact hg)
      (fun i h1 h2=>by rw[List.getElem?_set_ne (by omega)];exact hga i (by omega) h2) (by rw[AQ,ho];rfl)
      (fun i hi=>by
        by_cases hik:i=k
        · subst hik
          refine⟨_,v,by rw[BB (by omega),ho,HF];rfl,by rw[List.getElem?_set_self (by omega)],gd1⟩
        · obtain⟨o,w,h1,h2,h3⟩:=hos i (by omega)
          exact⟨o,w,by rw[Bh (by omega)];exact h1,by rw[List.getElem?_set_ne (by omega)];exact h2,h3.fr f1 hs.fr.tidy (fun b hb e=>by omega)⟩)
      ha1 (fun e he=>hX e (aE e he)) (by omega) (by omega)
    refine⟨a',Z',gs',?_,h1,h2,h3,fun i hi=>?_⟩
    · rw[<-g']
      refine(g1 _ _).trans ?_
      show UM E D (AT E D) N n' a1 (AA dp) Z0.next 0 (Z0.next+1) 0 (Z0.next+2) 0 (Z0.next+10) 0 x.fields (AA nf) (CR .i64 (AA k) (AA 1)) Z1=_
      rw[Bb (show k+1<=9223372036854775807 by omega)]
    · obtain⟨o,w,q1,q2,q3⟩:=h4 i hi
      refine⟨o,w,?_,q2,q3⟩
      rw[FE]at q1
      exact q1
theorem Wy:∀n:Nat,Ll (AY n Vc.abs)=(AY n EJ).flatten
 | 0=>rfl
 | n+1=>by
  rw[FV,FV,FD,<-Wy n];rfl
theorem rM {y:AO} {em:Bz} {v:V} {b n:Nat} {c:Ud} (hv:v = .sl b 0 n c) (h:CI em y=v):BT (.len false y) em=some (.int .i64 (AA n)):=by
 show (match CI em y with
  | .nils=>some (V.int .i64 0)
  | .sl _ _ n _=>some (.int .i64 n)
  | .sle _ _ _ _=>some (.int .i64 0)
  | _=>none)=_
 rw[h,hv];rfl
theorem rH {el:TypeId} {y z:AO} {em:Bz} {n id:Nat} (hy:CI em y = .int .i64 (AA n)) (hz:CI em z = .int .i64 (AA n)) (hn:n<=10000):CW (.mkslice el 6 96 EJ y z) em id=some (.sl id 0 n (.ex n),.cells (Ll (AY n Vc.abs))):=by
 show (match CI em y,CI em z with
  | .int .i64 n,.int .i64 c=>if 0<=n/\n<=c/\c*(96:Nat)<=281474976710656/\c<=1000000000000 then some (V.sl id 0 n.toNat (.ex c.toNat),FX.cells (AY c.toNat EJ).flatten)else none
  | _,_=>none)=_
 rw[hy,hz]
 simp only[]
 rw[if_pos (by
  have:(AA n:Int)=(n:Int):=rfl
  refine⟨?_,?_,?_,?_⟩<;>omega),Wy]
 rfl
theorem YS {Z:H} {K dp:Nat} {l:V} (ht:Aj Z) (hK:x.kind=AA K) (hr:Ea Z 11 nf x.fields fun k=>(fd k).c) (h0:0<nf) (hnf:nf<=10000) (lo:l.one=true) :
  ∃Z',(∀K2:V->Int->Nat->Nat->Nat->Nat->Nat->Nat->Nat->Nat->V->Int->Int->H->AH,T8 E D (AT E D) K2 (.ptr p 0) x.kind x.tags x.has x.hasLow x.hasHigh x.conMore x.low x.high x.items x.fields x.root x.more x.of_ l (AA dp) Z=K2 l (AA dp) Z.next 0 (Z.next+1) 0 (Z.next+2) 0 (Z.next+10) 0 x.fields (AA nf) (AA 0) Z') /\
   Fs Z Z' p K x (AY nf Vc.abs):=by
 obtain⟨fb,fc,fL,hfv,hfa,_⟩:∃b c L,x.fields = .sl b 0 nf c/\CB Z b L/\True:=by
  rcases hr.is with ⟨h,_⟩|⟨b,c,L,h1,h2,_⟩
  ·omega
  ·exact⟨b,c,L,h1,h2,trivial⟩
 obtain⟨Z1,e1,f1,a1,n1⟩:=Ih ht [.ptr p 0]
 obtain⟨Z2,e2,f2,a2,n2⟩:=Ih f1.tidy x.c
 obtain⟨Z3,e3,f3,a3,n3⟩:=Ih f2.tidy EJ
 have F3:Fr AG Z Z3:=(f1.trans f2 (fun _ _ h=>h)).trans f3 (fun _ _ h=>h)
 have n13:Z3.next=Z.next+3:=by omega
 have c1:CB Z3 Z.next [.ptr p 0]:=f3.at_ (f2.at_ a1 f1.tidy (fun h=>h)) f2.tidy (fun h=>h)
 have c2:CB Z3 (Z.next+1) x.c:=by rw[<-n1];exact f3.at_ a2 f2.tidy (fun h=>h)
 have c3:CB Z3 (Z.next+2) EJ:=by rw[show Z.next+2=Z2.next by omega];exact a3
 let Z4:H:=⟨Z3.next+9,(Z3.next+7,.cells EJ)::(Z3.next+5,.cells (Ll (AY nf Vc.abs)))::Z3.bl⟩
 have f4:Fr AG Z3 Z4:=by
  refine⟨fun k hk=>?_,IU _ _,fun k hk _=>?_⟩
  ·have hk:Z3.next+9<=k:=hk
   show BC ((Z3.next+7,_)::(Z3.next+5,_)::Z3.bl) k=none
   rw[Az,if_neg (by simp only[];omega),Az,if_neg (by simp only[];omega)];exact f3.tidy k (by omega)
  ·show BC ((Z3.next+7,_)::(Z3.next+5,_)::Z3.bl) k=_
   rw[Az,if_neg (by simp only[];omega),Az,if_neg (by simp only[];omega)]
 have b5:CB Z4 (Z3.next+5) (Ll (AY nf Vc.abs)):=by
  show BC ((Z3.next+7,_)::(Z3.next+5,_)::Z3.bl) _=_
  rw[Az,if_neg (by simp only[];omega),Az,if_pos rfl]
 have b7:CB Z4 (Z3.next+7) EJ:=by
  show BC ((Z3.next+7,_)::(Z3.next+5,_)::Z3.bl) _=_
  rw[Az,if_pos rfl]
 have F4:Fr AG Z Z4:=F3.trans f4 (fun _ _ h=>h)
 obtain⟨Z5,g5,f5,a5⟩:∃Z5,Dp E D (.store 6 (.tmp 9) (.tmp 21)) [(9,.ptr (Z3.next+7) 0),(21,.agg [.int .i64 (AA K),.int .i64 (AA 0),.nils,.sl (Z3.next+5) 0 nf (.ex nf),.int .i64 (AA 0),.nils])] Z4=some (.dead,Z5)/\Fr (fun b=>b=Z3.next+7) Z4 Z5/\CB Z5 (Z3.next+7) [.int .i64 (AA K),.int .i64 (AA 0),.nils,.sl (Z3.next+5) 0 nf (.ex nf),.int .i64 (AA 0),.nils]:=by
  obtain⟨Z5,r1,r2,r3⟩:=Kv (E:=E) (D:=D) (n:=6) (x := .tmp 9) (y := .tmp 21) (e:=[(9,.ptr (Z3.next+7) 0),(21,.agg [.int .i64 (AA K),.int .i64 (AA 0),.nils,.sl (Z3.next+5) 0 nf (.ex nf),.int .i64 (AA 0),.nils])]) F4.tidy b7 rfl (show (CI [(9,.ptr (Z3.next+7) 0),(21,.agg [.int .i64 (AA K),.int .i64 (AA 0),.nils,.sl (Z3.next+5) 0 nf (.ex nf),.int .i64 (AA 0),.nils])] (.tmp 21)).cells=[.int .i64 (AA K),.int .i64 (AA 0),.nils,.sl (Z3.next+5) 0 nf (.ex nf),.int .i64 (AA 0),.nils] from rfl) rfl
  exact⟨Z5,r1,r2,r3⟩
 have fv1:=x.oneF
 have fb2:V.beq x.fields x.fields=true:=by rw[hfv];cases fc<;>simp[V.beq]
 have k0:x.c[0]? = some (.int .i64 (AA K)):=by rw[<-hK];rfl
 have go:FM E D Z3 9 0 AG Q6 US ⟨[(2,l),(3,.int .i64 (AA dp)),(4,.ptr Z.next 0),(5,.ptr (Z.next+1) 0),(8,.ptr (Z.next+2) 0)],Z3.next+9,[Z3.bl],[],0,[]⟩ _ Z5:=
  Cn (.ptr (Z.next+1) 0) rfl rfl <|
  Il (.int .i64 (AA K)) (CU (S:=AG) f3.tidy) rfl (D4 (b:=Z.next+1) (off:=0) rfl c2 k0 f3.tidy (fun h=>h) (CV _ rfl)) fun _ r1=>
  Cn (.ptr (Z.next+1) 9) rfl rfl <|
  Il x.fields r1 rfl (D4 (b:=Z.next+1) (off:=9) rfl c2 rfl f3.tidy (fun h=>h) fb2) fun _ r2=>
  Cn (.int .i64 (AA nf)) rfl (rM (b:=fb) (c:=fc) hfv rfl) <|
  YR (.sl (Z3.next+5) 0 nf (.ex nf)) (.cells (Ll (AY nf Vc.abs))) 32 r2 rfl (by decide) (by decide) (rH rfl rfl hnf) fun _ r3=>
  Cn (.agg [.int .i64 (AA K),.int .i64 (AA 0),.nils,.sl (Z3.next+5) 0 nf (.ex nf),.int .i64 (AA 0),.nils]) rfl rfl <|
  YR (.ptr (Z3.next+7) 0) (.cells EJ) 160 r3 rfl (by decide) (by decide) rfl fun _ r4=>
  mL .dead r4 rfl (by decide) f5 (fun b h e=>by omega) (fun b e h1 h2=>by subst e;rw[FC];decide) g5 fun _ _ _ r5=>
  HZ r5
 obtain⟨q1,q2⟩:=Fg (ops:=Q6) go
 have q8:Z3.next+5=Z.next+8:=by omega
 have q10:Z3.next+7=Z.next+10:=by omega
 have F5:Fr AG Z Z5:=F3.trans q2 (fun _ _ h=>h)
 have s5:Z4.next<=Z5.next:=f5.le
 have s4:Z4.next=Z3.next+9:=rfl
 refine⟨Z5,fun K2=>?_,F5,q2.at_ c1 f3.tidy (fun h=>h),q2.at_ c2 f3.tidy (fun h=>h),q2.at_ c3 f3.tidy (fun h=>h),?_,?_,by omega⟩
 ·obtain⟨ev,d,y2,y3,y4,y5,y8,y9⟩:∃ev,AT E D Q6 US [(2,l),(3,.int .i64 (AA dp)),(4,.ptr Z.next 0),(5,.ptr (Z.next+1) 0),(8,.ptr (Z.next+2) 0)] Z3=some (ev,Z5)/\Go.Og.look ev 2=some l/\Go.Og.look ev 3=some (.int .i64 (AA dp))/\Go.Og.look ev 4=some (.ptr Z.next 0)/\Go.Og.look ev 5=some (.ptr (Z.next+1) 0)/\Go.Og.look ev 8=some (.ptr (Z.next+2) 0)/\Go.Og.look ev 9=some (.ptr (Z3.next+7) 0):=⟨_,q1,rfl,rfl,rfl,rfl,rfl,rfl⟩
  rw[q10]at y9
  have gd:∀J:Bz->H->AH,Ci (AT E D Q6 US [(2,l),(3,.int .i64 (AA dp)),(4,.ptr Z.next 0),(5,.ptr (Z.next+1) 0),(8,.ptr (Z.next+2) 0)] Z3) J=J ev Z5:=fun J=>by rw[d];rfl
  have z2:∀J:V->AH,BR ev 2 J=J l:=fun J=>BU y2 (Be lo)
  have z3:∀J:V->AH,BR ev 3 J=J (.int .i64 (AA dp)):=fun J=>BU y3 rfl
  have z4:∀J:V->AH,BR ev 4 J=J (.ptr Z.next 0):=fun J=>BU y4 rfl
  have z5:∀J:V->AH,BR ev 5 J=J (.ptr (Z.next+1) 0):=fun J=>BU y5 rfl
  have z8:∀J:V->AH,BR ev 8 J=J (.ptr (Z.next+2) 0):=fun J=>BU y8 rfl
  have z9:∀J:V->AH,BR ev 9 J=J (.ptr (Z.next+10) 0):=fun J=>BU y9 rfl
  have l9:∀J:V->AH,Bc E Z5 (Z.next+1) (Ap 0 9) J=J x.fields:=fun J=>CK (q2.at_ c2 f3.tidy (fun h=>h)) rfl
  have sl:=hr.len.2
  have ho:allOne (V.cells (.ptr p 0))=true:=rfl
  have e1:Br Z (.cells (V.cells (.ptr p 0)))=Z1:=e1
  have hx:=x.oneT
  have hx2:=x.oneI
  unfold Ty.c at e2
  unfold EJ at e3
  have n2':Z2.next=Z.next+2:=by omega
  unfold T8 Gn
  simp -implicitDefEqProofs only [↓rP,rA,AD,AF,AB,DC ho,↓e1,hx,hx2,fv1,DC,↓e2,↓e3,n1,n2',↓gd,↓z2,↓z3,↓z4,↓z5,↓z8,↓z9,↓l9,↓sl]
 ·rw[KF,<-q8,<-q10];exact a5
 ·rw[<-q8];exact f5.at_ b5 F4.tidy (fun e=>by omega)
end
def WE (bs:List V):List V:=bs.flatMap fun b=>[.int .i64 (AA 0),b]
theorem WD (bs:List V) (b:V):WE (bs++[b])=WE bs++[.int .i64 (AA 0),b]:=by unfold WE;simp
def JZ (Z0 Z:H) (m:V) (ES:List (List Nat)):Prop:=∃bs:List V,Hr Z 2 ES.length m (WE bs)/\bs.length=ES.length/\(∀b,Al m b->Z0.next+12<=b)/\∀(i:Nat) (e:List Nat),ES[i]? = some e->∃b,bs[i]? = some b/\Oc Z b e/\(∀c,Al b c->Z0.next+12<=c)/\∀c,Al b c->¬Al m c
theorem JZ.nil (Z0 Z:H):JZ Z0 Z .nils []:=⟨[],Hr.nil Z 2,rfl,fun _ h=>h.elim,fun i e h=>by simp at h⟩
theorem JZ.one {Z0 Z:H} {m:V} {ES:List (List Nat)} (h:JZ Z0 Z m ES):m.one=true:=by obtain⟨_,h,_⟩:=h;exact h.one
theorem JZ.fr {S:Nat->Prop} {Z0 Z Z':H} {m:V} {ES:List (List Nat)} (h:JZ Z0 Z m ES) (f:Fr S Z Z') (ht:Aj Z) (hS:∀b,Z0.next+12<=b->b<Z.next->¬S b):JZ Z0 Z' m ES:=by
 obtain⟨bs,h1,h2,h3,h4⟩:=h
 exact⟨bs,h1.fr f ht (fun b hb=>hS b (h3 b hb) (h1.lt ht hb)),h2,h3,fun i e hi=>by
  obtain⟨b,q1,q2,q3,q4⟩:=h4 i e hi
  exact⟨b,q1,q2.fr f ht (fun c hc=>hS c (q3 c hc) (q2.lt ht c hc)),q3,q4⟩⟩
theorem AFg {x:AO} {em:Bz} {z b:V} (hx:CI em x=b) (h:b.one=true):BT (.build [z,.nils] [(1,1,x)]) em=some (.agg [z,b]):=by
 have h12:b.live=true/\b.cells=[b]:=by cases b<;>first | exact⟨rfl,rfl⟩ | cases h
 show (match EW [(1,1,CI em x)] [z,V.nils]with
  | some l=>some (V.agg l)
  | none=>none)=_
 rw[hx]
 unfold EW
 rw[h12.1,h12.2]
 rfl
theorem rz {ty:TypeId} {x:AO} {em:Bz} {id:Nat} {b z y:V} (hx:CI em x = .agg [z,b]) (hz:z.one=true) (h:b.one=true):CW (.buildSlice ty 1 [y,.nils] [(0,2,x)]) em id=some (.sl id 0 1 (.ex 1),.cells [z,b]):=by
 show (match EW [(0,2,CI em x)] [y,V.nils]with
  | some l=>if allOne l then some (V.sl id 0 1 (.ex 1),FX.cells l)else none
  | none=>none)=_
 rw[hx]
 show (if(z.one&&(b.one&&true))=true then _ else none)=_
 rw[hz,h];rfl
section
variable {E:EB} {D:Ak} {N:Nat}
theorem ij (hC:Qq (D 36)) {Z0 Z:H} {qb rb:Nat} {m u a:V} {c0 c1 c2 c3 r:V} {ES:List (List Nat)} {e:List Nat} {l k:Int} (ht:Aj Z) (aq:CB Z qb [c0,c1,c2,c3,r,m]) (hm:JZ Z0 Z m ES) (hn:ES.length<=10000) (hqb:Z0.next<=qb/\qb<Z0.next+12) (h12:Z0.next+12<=Z.next) (hu:Oc Z u e) (he:e.length<=1000000) (ao:a.one=true) :
    ∃ev Z' m',AT E D Q4 PR [(8,.ptr rb 0),(9,.ptr qb 0),(14,u),(65,a),(66,.int .i64 l),(67,.int .i64 k)] Z=some (ev,Z') /\
      (Go.Og.look ev 8=some (.ptr rb 0)/\Go.Og.look ev 9=some (.ptr qb 0)/\Go.Og.look ev 65=some a/\Go.Og.look ev 66=some (.int .i64 l)/\Go.Og.look ev 67=some (.int .i64 k)) /\
      CB Z' qb [c0,c1,c2,c3,r,m']/\JZ Z0 Z' m' (ES++[e])/\(∀c,Al m' c->Z.next<=c)/\Fr (fun b=>b=qb\/Al m b) Z Z':=by
  have fw:Fr AG Z ⟨Z.next+9,Z.bl⟩:=(CU (E:=E) (n:=9) (S:=AG) ht).fr
  obtain⟨b,Z1,g1,ob,nb,f1⟩:=hC fw.tidy (hu.fr0 fw ht) he
  have F1:Fr AG Z Z1:=fw.trans f1 (fun _ _ h=>h)
  have n1:Z.next+9<=Z1.next:=f1.le
  have bo:=ob.one
  let Z2:H:=⟨Z1.next,(Z.next+5,.cells [.int .i64 (AA 0),b])::Z1.bl⟩
  have F2:Fr AG Z Z2:=⟨fun c hc=>by
    have hc:Z1.next<=c:=hc
    show BC ((Z.next+5,_)::Z1.bl) c=none
    rw[Az,if_neg (by simp only[];omega)];exact f1.tidy c hc,F1.le,fun c hc _=>by
    show BC ((Z.next+5,_)::Z1.bl) c=_
    rw[Az,if_neg (by simp only[];omega)];exact F1.same c hc (fun h=>h)⟩
  have a2:CB Z2 (Z.next+5) [.int .i64 (AA 0),b]:=by
    show BC ((Z.next+5,_)::Z1.bl) _=_
    rw[Az,if_pos rfl]
  have ob2:Oc Z2 b e:=by
    rcases ob with h|⟨q,o,c,M,rfl,hc,ha,h1,h2⟩
    · exact .inl h
    · have hq:Z.next+9<=q:=nb q rfl
      refine .inr ⟨q,o,c,M,rfl,hc,?_,h1,h2⟩
      show BC ((Z.next+5,_)::Z1.bl) q=_
      rw[Az,if_neg (by simp only[];omega)];exact ha
  obtain⟨bs,d1,hl,hnm,hbs⟩:=hm
  have d2:=d1.fr F2 ht (fun _ _ h=>h)
  obtain⟨Z3,g3,a3,n3,f3⟩:=O8 (E:=E) (esz:=2) (bytes:=32) (n:=1) d2 F2.tidy (x := .sl (Z.next+5) 0 1 (.ex 1)) (m:=[.int .i64 (AA 0),b]) (.inr ⟨_,0,_,_,rfl,a2,by simp,rfl⟩) (by decide) (by simp[BL,Bk,bo,Df]) (by
    unfold CT
    simp only[AJ,BF];omega)
  have mlt:∀c,Al m c->c<Z.next:=fun c hc=>d1.lt ht hc
  have aq2:=F2.at_ aq ht (fun h=>h)
  have aq3:=f3.at_ aq2 F2.tidy (fun e=>by have:=hnm qb e;omega)
  have F3:Fr (Al m) Z Z3:=(Fr.to_any F2).trans f3 (fun _ _ h=>h)
  obtain⟨Z4,g4,f4,a4⟩:∃Z4,Dp E D (.store 1 (.tmp 79) (.tmp 78)) [(79,.ptr qb 5),(78,.sl Z2.next 0 (ES.length+1) (.op 2))] Z3=some (.dead,Z4)/\Fr (fun k=>k=qb) Z3 Z4/\CB Z4 qb [c0,c1,c2,c3,r,.sl Z2.next 0 (ES.length+1) (.op 2)]:=by
    obtain⟨Z4,r1,r2,r3⟩:=Kv (E:=E) (D:=D) (n:=1) (x := .tmp 79) (y := .tmp 78) (e:=[(79,.ptr qb 5),(78,.sl Z2.next 0 (ES.length+1) (.op 2))]) F3.tidy aq3 rfl (show (CI [(79,.ptr qb 5),(78,.sl Z2.next 0 (ES.length+1) (.op 2))] (.tmp 78)).cells=[.sl Z2.next 0 (ES.length+1) (.op 2)] from rfl) rfl
    exact⟨Z4,r1,r2,r3⟩
  have uo:=hu.one
  have mb:V.beq m m=true:=by
    rcases d1 with (⟨_,h,_⟩|⟨q,h,_⟩)|⟨q,h,_⟩<;>subst h
    · rfl
    · simp[V.beq]
    · simp[V.beq]
  have go:H4 (Q9 E Z 9 PR _ Z4) E D Z 9 0 Q4 PR ⟨[(8,.ptr rb 0),(9,.ptr qb 0),(14,u),(65,a),(66,.int .i64 l),(67,.int .i64 k)],Z.next+9,[Z.bl],[],0,[]⟩:=
    C5 (.ptr qb 5) rfl rfl <|
    Wa m (CU (S:=Al m) ht) rfl (D4 (b:=qb) (off:=5) rfl aq rfl ht (fun e=>by have:=hnm qb e;omega) mb) fun r1=>
    C5 u rfl (ER rfl (Be uo)) <|
    TY b r1 rfl (by decide) (S':=AG) f1 (fun _ _ h=>h.elim) (fun _ h _ _=>h.elim) (Dq (vs:=[u]) rfl (by rw[Bj,Be uo];rfl) g1) fun _ _ r2=>
    C5 (.agg [.int .i64 (AA 0),b]) rfl (AFg rfl bo) <|
    zF (.sl (Z.next+5) 0 1 (.ex 1)) (.cells [.int .i64 (AA 0),b]) 32 r2 rfl (by decide) (by decide) (rz rfl rfl bo) fun _ r3=>
    TY (.sl Z2.next 0 (ES.length+1) (.op 2)) r3 rfl (by decide) f3 (fun _ _ h=>h) (fun c h h1 _=>by have:=mlt c h;omega) (OF rfl rfl g3) fun _ _ r4=>
    C5 (.ptr qb 5) rfl rfl <|
    jM .dead r4 rfl (by decide) f4 (fun c h h1 _=>by omega) g4 (fun x hx=>by
      rcases Ae.1 hx with rfl|hx
      · show Of PR 1 [8,6,3] []=false
        decide
      · cases hx)
  have d:=Ot (ops:=Q4) go
  have F4:Fr (fun b=>b=qb\/Al m b) Z Z4:=(F3.mono fun _ _ h => .inr h).trans (f4.mono fun _ _ h => .inl h) (fun _ _ h=>h)
  refine⟨_,Z4,_,d,⟨rfl,rfl,rfl,rfl,rfl⟩,a4,⟨bs++[b],?_,by rw[AQ,AQ,hl];rfl,fun c hc=>by cases hc;show Z0.next+12<=Z1.next;omega,fun i e' hi=>?_⟩,fun c hc=>by cases hc;show Z.next<=Z1.next;omega,F4⟩
  · rw[AQ,WD]
    exact .inl (.inr ⟨Z2.next,rfl,f4.at_ a3 F3.tidy (fun e=>by have:Z1.next=qb:=e;omega),by simp,by rw[AQ,d1.length];simp;omega⟩)
  · have nnew:∀w e',Oc Z2 w e'->∀c,Al w c->¬Al (V.sl Z2.next 0 (ES.length+1) (.op 2)) c:=fun w e' ow c hc hc'=>by
      have:=ow.lt F2.tidy c hc
      have hc':c=Z2.next:=hc'
      omega
    by_cases hil:i<ES.length
    · rw[Bh hil]at hi
      obtain⟨b',q1,q2,q3,q4⟩:=hbs i e' hi
      have q22:=q2.fr0 F2 ht
      exact⟨b',by rw[Bh (by omega)];exact q1,(q22.fr f3 F2.tidy q4).fr f4 F3.tidy (fun c hc e=>by have:=q3 c hc;omega),q3,nnew _ _ q22⟩
    · have hlt:=(A0.1 hi).1
      rw[AQ,Cf]at hlt
      have:i=ES.length:=by omega
      subst this
      rw[BB (AL _)]at hi
      simp at hi
      subst hi
      refine⟨b,by rw[BB (by omega)];simp[hl],(ob2.fr f3 F2.tidy (fun c hc e=>by have:Z.next+9<=c:=nb c hc;have:=mlt c e;omega)).fr f4 F3.tidy (fun c hc e=>by have:Z.next+9<=c:=nb c hc;omega),fun c hc=>by have:Z.next+9<=c:=nb c hc;omega,nnew _ _ ob2⟩
end
def mB (ES:List (List Nat)):Nat:=match ES with
 | []=>0
 | _=>1
def dD (B W:List V->H->AH) (M:Nat) (F:List V->H->AH):Prop:=∀{Pt:H->Prop} {Z:H} {p nT nf K dp:Nat} {ty:Nat->Ty} {Fz:List V} {tv l:V} {x:Ty} {fd:Nat->Fd} {jt tg kd:Nat->Nat} {X:List El} {ts:List Nat},Aj Z->lS B W Pt Z p nT ty Fz tv x nf fd jt tg kd->x.kind=AA K->p<Z.next->0<nf->nf<=1000->dp<=16->S6 Z Z l (X.map (·.1))->(∀e∈X,P4 e)->X.length<=5000->X.length<M->ts.length=nf->(∀i t,ts[i]? = some t->t=tg i) ->
 ∃Z' gs m,F [.ptr p 0,.agg x.c,l,.int .i64 (AA dp)] Z=some (.agg [.int .i64 (AA K),.int .i64 (AA 0),.nils,.sl (Z.next+8) 0 nf (.ex nf),.int .i64 (AA (mB ((NW (decide (K=7)) ts X).2.map (·.1)))),m],Z') /\
  gs.length=nf/\CB Z' (Z.next+8) (Ll gs)/\(∀i,i<nf->∃o v,(NW (decide (K=7)) ts X).1[i]? = some o/\gs[i]? = some v/\Gd Z Z' (tg i) (kd i) o v)/\JZ Z Z' m ((NW (decide (K=7)) ts X).2.map (·.1))/\((NW (decide (K=7)) ts X).2=[]->m = .nils)/\Fr AG Z Z'
theorem S6.get {E:EB} {Z0 Z:H} {v:V} {EL:List (List Nat)} (h:S6 Z0 Z v EL) {i:Nat} {e:List Nat} (hi:EL[i]? = some e):∃u,(∀J:V->AH,AU 1 v (AA i) (fun b o=>Bc E Z b o J)=J u)/\Oc Z u e/\∀b,Al u b->b<Z0.next:=by
 obtain⟨pvs,h1,_,h3⟩:=h
 obtain⟨u,hu,ou,nu⟩:=h3 i e hi
 have hlt:=(A0.1 hi).1
 refine⟨u,fun J=>?_,ou,nu⟩
 rcases h1 with ⟨h0,_,_⟩|⟨q,o,cp,M,rfl,ha,hl,hm⟩
 ·omega
 ·rw[DJ hlt]
  show Bc E Z q (o+i*1) J=_
  rw[CG]
  refine CK ha ?_
  rw[hm,Es (by omega),Cc]at hu
  exact hu
theorem WN {sq:Bool}:∀{ts:List Nat} {X:List El},∀e∈(NW sq ts X).2,e∈X
 | [],X,e,h=>h
 | t::ts,X,e,h=>aE e (WN (ts:=ts) e h)
theorem WO {sq:Bool}:∀{ts:List Nat} {X:List El},(NW sq ts X).2.length<=X.length
 | [],X=>AL _
 | t::ts,X=>BP (WO (ts:=ts)) aF
section
variable {E:EB} {D:Ak} {N M:Nat} {B W:List V->H->AH}
theorem jA {Z:H} {f q:Nat} {k n r:Int} {b l m:V} {z:List V} (ht:Aj Z) (af:CB Z f z) (hz:z.length=6) (aq:CB Z q [.int .i64 k,.int .i64 n,b,l,.int .i64 r,m]) (bo:b.one=true) (lo:l.one=true) (mo:m.one=true):∃Z',XA E D (AT E D) f 0 q 0 Z=some (.agg [.int .i64 k,.int .i64 n,b,l,.int .i64 r,m],Z')/\Fr (fun k=>k=f) Z Z':=by
 have ho:allOne [.int .i64 k,.int .i64 n,b,l,.int .i64 r,m]=true:=by simp[BL,Bk,bo,lo,mo,Df]
 obtain⟨Z',g,f',a',n'⟩:=E4 (n:=6) (o:=0) (v := .agg [.int .i64 k,.int .i64 n,b,l,.int .i64 r,m]) ht af (by
  show (AW 6 6&&Ag (Ap 0 6) z.length&&allOne [.int .i64 k,.int .i64 n,b,l,.int .i64 r,m])=true
  rw[ho,hz];rfl)
 have a':CB Z' f [.int .i64 k,.int .i64 n,b,l,.int .i64 r,m]:=by
  match z,hz,a' with
  | [a,b,c,d,e,f],_,a'=>exact a'
 refine⟨Z',?_,f'⟩
 unfold XA
 simp -implicitDefEqProofs only [↓rP,rA,AD,AF,AB,↓Au aq,bo,lo,mo,↓g,↓Au a']
theorem YH (hC:Qq (D 36)) {Z0 Zs:H} {rb qb:Nat} {a S:V} {kk:Int} {ES:List (List Nat)} (hs:Aj Zs) (f0:Fr AG Z0 Zs) (hqb:Z0.next<=qb/\qb<Z0.next+12) (h12:Z0.next+12<=Zs.next) (hES:∀e∈ES,e.length<=1000000) (hn:ES.length<=9000) (ha:S6 Z0 Zs a ES) (So:S.one=true) :
  ∀(R done:List (List Nat)) (n':Nat) (Z:H) (m:V),done++R=ES->R.length<n'->Fr (fun b=>b=qb) Zs Z->CB Z qb [.int .i64 kk,.int .i64 (AA 0),.nils,S,.int .i64 (AA (mB done)),m]->JZ Z0 Z m done->(∀b,Al m b->Zs.next<=b) ->
   ∃Z' m',eU E D (AT E D) N n' rb 0 qb 0 a (AA ES.length) (AA done.length) Z=XA E D (AT E D) rb 0 qb 0 Z'/\Fr (fun b=>b=qb) Zs Z'/\CB Z' qb [.int .i64 kk,.int .i64 (AA 0),.nils,S,.int .i64 (AA (mB ES)),m']/\JZ Z0 Z' m' ES/\(R=[]->m'=m):=by
 intro R
 induction R with
 | nil=>
  intro done n' Z m he hn' f aq hm _
  obtain⟨n',rfl⟩:∃q,n'=q+1:=⟨n'-1,by omega⟩
  rw[CF]at he
  refine⟨Z,m,?_,f,he ▸ aq,he ▸ hm,fun _=>rfl⟩
  rw[<-he]
  have d1:decide (done.length<done.length)=false:=decide_eq_false (DM _)
  have key:∀K4 R5,Qc E D (AT E D) K4 R5 rb 0 qb 0 a (AA done.length) (AA done.length) Z=K4 rb 0 qb 0 Z:=by
   intro K4 R5
   unfold Qc
   simp -implicitDefEqProofs only [↓rP,rA,AD,AF,AB,d1]
  exact key _ _
 | cons e R ih=>
  intro done n' Z m he hn' f aq hm hmn
  obtain⟨n',rfl⟩:∃q,n'=q+1:=⟨n'-1,by omega⟩
  have hl:ES.length=done.length+(R.length+1):=by rw[<-he,AQ,Ay]
  have hx:ES[done.length]? = some e:=by rw[<-he,BB (AL _),HF];rfl
  have hmem:=Ct hx
  have haσ:S6 Z0 Z a ES:=ha.fr f hs (fun b hb=>by omega)
  obtain⟨u,g,ou,nu⟩:=haσ.get (E:=E) hx
  have s0n:Z0.next<=Zs.next:=f0.le
  obtain⟨Z1,g1,f1,a1,n1⟩:=E4 (n:=1) (o:=4) (v := .int .i64 (AA 1)) f.tidy aq rfl
  have a1:CB Z1 qb [.int .i64 kk,.int .i64 (AA 0),.nils,S,.int .i64 (AA 1),m]:=a1
  have g1:∀J:H->AH,FW 1 qb (Ap 0 4) (.int .i64 (AA 1)) Z J=J Z1:=g1
  have lf:Zs.next<=Z.next:=f.le
  have lf1:Z.next<=Z1.next:=f1.le
  have ou1:Oc Z1 u e:=ou.fr f1 f.tidy (fun b hb e=>by have:=nu b hb;omega)
  have hm1:JZ Z0 Z1 m done:=hm.fr f1 f.tidy (fun b hb _ e=>by omega)
  have ao:=ha.ela.one
  obtain⟨ev,Z2,m',d,⟨y8,y9,y65,y66,y67⟩,aq2,hm2,nm2,f2⟩:=ij (E:=E) (D:=D) (rb:=rb) (l:=AA ES.length) (k:=AA done.length) hC f1.tidy a1 hm1 (by omega) hqb (by omega) ou1 (hES e hmem) ao
  have F1:Fr (fun b=>b=qb) Zs Z1:=f.trans f1 (fun _ _ h=>h)
  have F2:Fr (fun b=>b=qb) Zs Z2:=F1.trans f2 (fun b hb h=>h.elim id (fun h=>by have:=hmn b h;omega))
  have r1:mB (done++[e])=1:=by cases done<;>rfl
  obtain⟨Z',m'',g',q1,q2,q3,_⟩:=ih (done++[e]) n' Z2 m' (by rw[<-he];simp) (by simp only[Ay]at hn';omega) F2 (by rw[r1];exact aq2) hm2 (fun b hb=>by have:=nm2 b hb;omega)
  rw[AQ,Cf]at g'
  refine⟨Z',m'',?_,q1,q2,q3,fun h=>by cases h⟩
  rw[<-g']
  have d1:decide (done.length<ES.length)=true:=decide_eq_true (by omega)
  have gd:∀J:Bz->H->AH,Ci (AT E D Q4 PR [(8,.ptr rb 0),(9,.ptr qb 0),(14,u),(65,a),(66,.int .i64 (AA ES.length)),(67,.int .i64 (AA done.length))] Z1) J=J ev Z2:=fun J=>by rw[d];rfl
  have z8:∀J:V->AH,BR ev 8 J=J (.ptr rb 0):=fun J=>BU y8 rfl
  have z9:∀J:V->AH,BR ev 9 J=J (.ptr qb 0):=fun J=>BU y9 rfl
  have z65:∀J:V->AH,BR ev 65 J=J a:=fun J=>BU y65 (Be ao)
  have z66:∀J:V->AH,BR ev 66 J=J (.int .i64 (AA ES.length)):=fun J=>BU y66 rfl
  have z67:∀J:V->AH,BR ev 67 J=J (.int .i64 (AA done.length)):=fun J=>BU y67 rfl
  have key:∀K4 R5,Qc E D (AT E D) K4 R5 rb 0 qb 0 a (AA ES.length) (AA done.length) Z=R5 rb 0 qb 0 a (AA ES.length) (AA (done.length+1)) Z2:=by
   intro K4 R5
   unfold Qc
   simp -implicitDefEqProofs only [↓rP,rA,AD,AF,AB,d1,↓g,↓g1,↓gd,↓z8,↓z9,↓z65,↓z66,↓z67,Bb (show done.length+1<=9223372036854775807 by omega)]
  exact key _ _
theorem yi (hV:Yw E (D 15)) {C:List V->H->AH} (hCl:XT B W C) (hI:UE M C (D 63)) (hP:PJ (D 66) (D 65)) (hC:Qq (D 36)) (hN:9000<N):dD B W M (xL E D (AT E D) N):=by
 intro Pt Z p nT nf K dp ty Fz tv l x fd jt tg kd X ts ht hF hK hp h0 hnf hdp hl hX hX5 hXM hts htg
 obtain⟨Z1,g1,s1⟩:=YS (E:=E) (D:=D) (p:=p) (dp:=dp) (l:=l) ht hK hF.row h0 (by omega) hl.ela.one
 obtain⟨a,Z2,gs,g2,s2,hg,ha,hgd⟩:=ak (E:=E) (D:=D) (N:=N) hV hCl hI hP ht hF hK hp (by omega) hdp ts 0 N Z1 l X (AY nf Vc.abs) [] (by omega) (fun i t h=>by rw[BZ];exact htg i t h) (by omega) s1 KF
  (fun i _ hi=>by rw[List.getElem?_replicate,if_pos hi]) rfl (fun i hi=>absurd hi (DL i)) (hl.fr s1.fr ht (fun _ h=>h.elim)) hX hX5 hXM
 have lES:((NW (decide (K=7)) ts X).2.map (·.1)).length<=X.length:=by rw[CY];exact WO
 obtain⟨Z3,m,g3,f3,a3,r3,hm0⟩:=YH (E:=E) (D:=D) (N:=N) (rb:=Z.next+2) (qb:=Z.next+10) (a:=a) (S := .sl (Z.next+8) 0 gs.length (.ex gs.length)) (kk:=AA K) (ES:=(NW (decide (K=7)) ts X).2.map (·.1)) hC s2.fr.tidy s2.fr ⟨by omega,by omega⟩ s2.lt (fun e he=>by
   obtain⟨y,hy,rfl⟩:=EF.1 he
   have:=(hX y (WN y hy)).2.1
   omega) (by omega) ha rfl _ [] N Z2 .nils (Ch _) (by omega) (Fr.refl s2.fr.tidy) s2.qv (JZ.nil _ _) (fun _ h=>h.elim)
 have rb3:=f3.at_ s2.rb s2.fr.tidy (fun e=>by omega)
 have F3:Fr AG Z Z3:=s2.fr.trans f3 (fun b hb e=>by omega)
 obtain⟨Z4,g4,f4⟩:=jA (E:=E) (D:=D) F3.tidy rb3 rfl a3 rfl rfl r3.one
 have l12:=s2.lt
 have n3:Z2.next<=Z3.next:=f3.le
 refine⟨Z4,gs,m,?_,hg,?_,fun i hi=>?_,r3.fr f4 F3.tidy (fun b hb _ e=>by omega),fun h=>hm0 (by rw[h];rfl),F3.trans f4 (fun b hb e=>by omega)⟩
 ·rw[hg]at g4
  rw[<-g4]
  show T8 E D (AT E D) (UM E D (AT E D) N N) (.ptr p 0) x.kind x.tags x.has x.hasLow x.hasHigh x.conMore x.low x.high x.items x.fields x.root x.more x.of_ l (AA dp) Z=_
  rw[g1]
  refine g2.trans ?_
  rw[<-g3]
  have sl:=ha.ela.slen
  have key:∀K5,XB E D (AT E D) K5 a (Z.next+2) 0 (Z.next+10) 0 Z2=K5 (Z.next+2) 0 (Z.next+10) 0 a (AA ((NW (decide (K=7)) ts X).2.map (·.1)).length) (AA 0) Z2:=by
   intro K5
   unfold XB
   simp -implicitDefEqProofs only [↓rP,rA,AD,AF,AB,↓sl]
  exact key _
 ·exact f4.at_ (f3.at_ s2.lb s2.fr.tidy (fun e=>by omega)) F3.tidy (fun e=>by omega)
 ·obtain⟨o,v,h1,h2,h3⟩:=hgd i hi
  exact⟨o,v,h1,h2,(h3.fr f3 s2.fr.tidy (fun b hb e=>by omega)).fr f4 F3.tidy (fun b hb e=>by omega)⟩
end
def sP (B W:List V->H->AH) (M:Nat) (F:List V->H->AH):Prop:=∀{Pt:H->Prop} {Z:H} {p nT i0 nf K dp un:Nat} {ty:Nat->Ty} {Fz:List V} {tv u:V} {fd:Nat->Fd} {jt tg kd:Nat->Nat} {X:List El} {ts:List Nat} {L:List Nat} {mk:Bool} {h:Nat},Aj Z->lS B W Pt Z p nT ty Fz tv (ty i0) nf fd jt tg kd->(∃nm nv rv,Fz=[.str nm,nv,rv,tv])->Ea Z 13 nT tv (fun i=>(ty i).c)->i0<nT->(ty i0).kind=AA K->(K=7\/K=8)->HR Z 2 1 (ty i0).tags [.int .i64 (AA 0),.int .i64 (AA un)]->Oc Z u L->Ix L->gH L 0 un mk (X.map (·.1)).flatten h->L.length<=1000000 ->
 0<nf->nf<=1000->dp<=16->(∀e∈X,P4 e)->X.length<=5000->X.length<M->ts.length=nf->(∀i t,ts[i]? = some t->t=tg i) ->
 ∃Zb Z' q gs m,F [.ptr p 0,.int .i64 (AA i0),u,.int .i64 (AA dp)] Z=some (.agg [.int .i64 (AA K),.int .i64 (AA 0),.nils,.sl q 0 nf (.ex nf),.int .i64 (AA (mB ((NW (decide (K=7)) ts X).2.map (·.1)))),m],Z') /\
  gs.length=nf/\CB Z' q (Ll gs)/\(∀i,i<nf->∃o v,(NW (decide (K=7)) ts X).1[i]? = some o/\gs[i]? = some v/\Gd Zb Z' (tg i) (kd i) o v)/\JZ Zb Z' m ((NW (decide (K=7)) ts X).2.map (·.1))/\((NW (decide (K=7)) ts X).2=[]->m = .nils)/\Fr AG Z Z'
theorem yp {p:Nat} {l:List V} {u:V} {j:Int} (h:u.live=true):[V.ptr p 0,.agg l,u,.int .i64 j].all V.live=true:=by rw[Bj,Bj,Bj,h];rfl
theorem yq {p:Nat} {u:V} (h:u.live=true):[V.ptr p 0,u].all V.live=true:=by rw[Bj,Bj,h];rfl
section
variable {E:EB} {D:Ak} {N M:Nat} {B W:List V->H->AH}
theorem yX {N2:Nat} (hI:MT (D 33)) (hS:SV N2 (D 38)) (hN2:M<=N2) (hNf:dD B W M (D 39)):sP B W M (vy E D (AT E D) N):=by
 intro Pt Z p nT i0 nf K dp un ty Fz tv u fd jt tg kd X ts L mk h ht hF htab hrow hi hK hKs htags hu hb hel hL h0 hnf hdp hX hX5 hXM hts htg
 obtain⟨nm,nv,rv,rfl⟩:=htab
 obtain⟨Z1,e1,f1,a1,n1⟩:=Ih ht EJ
 have hp1:=f1.at_ hF.at_ ht (fun h=>h)
 have rd:∀J,AU 13 tv (AA i0) (fun b o=>BH E Z1 b o 13 J)=J (ty i0).c:=fun J=>(hrow.fr0 f1 ht).all hi J
 have tlen:=hrow.len.2
 obtain⟨Z2,e2,f2,a2,n2⟩:=Ih f1.tidy Lm
 obtain⟨Z3,g3,f3,a3,n3⟩:=E4 (n:=13) (o:=0) (v := .agg (ty i0).c) f2.tidy a2 (by unfold Ty.c;simp[Lm,En,BL,Bk,Df,Fb,(ty i0).oneT,(ty i0).oneI,(ty i0).oneF])
 have a3:CB Z3 Z1.next (ty i0).c:=a3
 have F3:Fr AG Z Z3:=(f1.trans f2 (fun _ _ h=>h)).trans f3 (fun b hb e=>by omega)
 have hp3:=F3.at_ hF.at_ ht (fun h=>h)
 obtain⟨w,Z4,g4,ow,nw,f4⟩:=hI F3.tidy hp3 (hu.fr0 F3 ht) hb hel hL (htags.fr F3 ht (fun _ _ h=>h))
 have wo:=ow.one
 have F4:Fr AG Z Z4:=F3.trans f4 (fun _ _ h=>h)
 have a4:=f4.at_ a3 F3.tidy (fun h=>h)
 obtain⟨Z5,e5,f5,a5,n5⟩:=Ih F4.tidy EJ
 obtain⟨Z6,g6,f6,a6,n6⟩:=E4 (n:=6) (o:=0) (v := .agg [.int .i64 (AA K),.int .i64 (AA 0),.nils,.nils,.int .i64 (AA 0),.nils]) f5.tidy a5 rfl
 have le1:=f1.le
 have le34:=f4.le
 have le23:Z2.next<=Z3.next:=f3.le
 have le56:Z5.next<=Z6.next:=f6.le
 have F5:Fr AG Z Z5:=F4.trans f5 (fun _ _ h=>h)
 have F6:Fr AG Z Z6:=F5.trans f6 (fun b hb e=>by omega)
 have a46:CB Z6 Z1.next (ty i0).c:=f6.at_ (f5.at_ a4 F4.tidy (fun h=>h)) f5.tidy (fun e=>by omega)
 have af6:CB Z6 Z.next EJ:=by
  have x2:=f2.at_ a1 f1.tidy (fun h=>h)
  have x3:=f3.at_ x2 f2.tidy (fun e=>by omega)
  have x4:=f4.at_ x3 F3.tidy (fun h=>h)
  have x5:=f5.at_ x4 F4.tidy (fun h=>h)
  exact f6.at_ x5 f5.tidy (fun e=>by omega)
 have ow6:Oc Z6 w (X.map (·.1)).flatten:=(ow.fr0 f5 F4.tidy).fr f6 f5.tidy fun b hb e=>by
  have:=ow.lt F4.tidy b hb
  omega
 have lf:∀J:V->AH,Bc E Z1 p 0 J=J (.bool false):=fun J=>CK hp1 rfl
 have lt4:∀J:V->AH,Bc E Z1 p (Ap (Ap 0 1) 3) J=J tv:=fun J=>CK hp1 rfl
 have l1:∀J:V->AH,Bc E Z3 Z1.next 1 J=J (ty i0).tags:=fun J=>CK a3 rfl
 have l0:∀J:V->AH,Bc E Z4 Z1.next 0 J=J (.int .i64 (AA K)):=fun J=>CK a4 (by rw[<-hK];rfl)
 have l06:∀J:V->AH,Bc E Z6 Z1.next 0 J=J (.int .i64 (AA K)):=fun J=>CK a46 (by rw[<-hK];rfl)
 have dj:decide (nT<=i0)=false:=decide_eq_false (by omega)
 have dd:decide (17<dp)=false:=decide_eq_false (by omega)
 have j0:decide (i0<0)=false:=decide_eq_false (by omega)
 have hp6:=F6.at_ hF.at_ ht (fun h=>h)
 have fw:Fr AG Z6 ⟨Z6.next+10,Z6.bl⟩:=(CU (E:=E) (n:=10) (S:=AG) F6.tidy).fr
 have Fw:=F6.trans fw (fun _ _ h=>h)
 have hbody:Ix (X.map (·.1)).flatten:=fun c hc=>hb c (HH (hel.body ▸ hc))
 have hlb:(X.map (·.1)).flatten.length<=1000000:=by have:=hel.len;omega
 obtain⟨l,Z7,g7,els,f7⟩:=hS fw.tidy (Fw.at_ hF.at_ ht (fun h=>h)) (ow6.fr0 fw F6.tidy) hbody (fun e he=>by
  obtain⟨y,hy,rfl⟩:=EF.1 he
  obtain⟨_,_,mk,body,h,hh⟩:=hX y hy
  exact⟨_,_,mk,body,h,hh⟩) hlb (by rw[CY];omega) (by rw[CY];omega)
 have F7:Fr AG Z Z7:=Fw.trans f7 (fun _ _ h=>h)
 have lo:=els.one
 have elx:S6 Z7 Z7 l (X.map (·.1)):=by
  obtain⟨pvs,d1,_,d3⟩:=els
  have:=f7.le
  exact⟨pvs,d1.src,fun b hb => .inl (d1.lt f7.tidy hb),fun i e hi=>by
   obtain⟨u,q1,q2,q3⟩:=d3 i e hi
   exact⟨u,q1,q2,fun b hb=>by have:=q3 b hb;omega⟩⟩
 have pl:p<Z.next:=hF.at_.lt ht
 have nn7:=F7.le
 obtain⟨Z8,gs,m,g8,hg,hlb8,hgd,hr8,hm0,f8⟩:=hNf (dp:=dp) (ts:=ts) f7.tidy (hF.fr F7 ht) hK (by omega) h0 hnf hdp elx hX hX5 hXM hts htg
 have F8:Fr AG Z Z8:=F7.trans f8 (fun _ _ h=>h)
 have af8:CB Z8 Z.next EJ:=f8.at_ (f7.at_ (fw.at_ af6 F6.tidy (fun h=>h)) fw.tidy (fun h=>h)) f7.tidy (fun h=>h)
 have mo:=hr8.one
 have n67:Z6.next+10<=Z7.next:=f7.le
 have s1:Z1.next=Z.next+1:=n1
 obtain⟨vc,hvc⟩:∃vc,vc=[V.int .i64 (AA K),.int .i64 (AA 0),.nils,.sl (Z7.next+8) 0 nf (.ex nf),.int .i64 (AA (mB ((NW (decide (K=7)) ts X).2.map (·.1)))),m]:=⟨_,rfl⟩
 have vo:allOne vc=true:=by rw[hvc];simp[BL,Bk,mo,Df];exact⟨rfl,rfl⟩
 have vl:vc.length=6:=by rw[hvc];rfl
 rw[<-hvc]at g8
 obtain⟨Z9,g9,f9,a9⟩:∃Z9,Dp E D (.store 6 (.tmp 8) (.tmp 165)) [(8,.ptr Z.next 0),(165,.agg vc)] Z8=some (.dead,Z9)/\Fr (fun b=>b=Z.next) Z8 Z9/\CB Z9 Z.next vc:=by
  obtain⟨Z9,r1,r2,r3⟩:=Kv (E:=E) (D:=D) (n:=6) (x := .tmp 8) (y := .tmp 165) (e:=[(8,.ptr Z.next 0),(165,.agg vc)]) F8.tidy af8 rfl (show (CI [(8,.ptr Z.next 0),(165,.agg vc)] (.tmp 165)).cells=vc from rfl) (by rw[vo,vl];rfl)
  have:HK EJ 0 vc=vc:=by rw[hvc];rfl
  rw[this]at r3
  exact⟨Z9,r1,r2,r3⟩
 have cb:V.beq (.agg (ty i0).c) (.agg (ty i0).c)=true:=by
  have h1:V.beq (ty i0).tags (ty i0).tags=true:=by
   rcases htags with ⟨h,_,_⟩|⟨b,o,c,M',h,_⟩
   ·omega
   ·rw[h];cases c<;>simp[V.beq]
  have h2:V.beq (ty i0).fields (ty i0).fields=true:=by
   rcases hF.row.is with ⟨_,h⟩|⟨b,c,M',h,_⟩
   ·rw[h];rfl
   ·rw[h];cases c<;>simp[V.beq]
  have h3:=hF.itm
  unfold Ty.c
  simp[V.beq,JY,h1,h2,h3]
 have go:FM E D Z6 10 0 (fun b=>b=Z.next) Q8 UU ⟨[(0,.ptr p 0),(3,.int .i64 (AA dp)),(8,.ptr Z.next 0),(9,.ptr Z1.next 0),(10,w)],Z6.next+10,[Z6.bl],[],0,[]⟩ _ Z9:=
  Cn (.ptr p 0) rfl rfl <|
  Il (.agg (ty i0).c) (CU F6.tidy) rfl (Ei (b:=Z1.next) (off:=0) (m:=13) rfl a46 rfl rfl F6.tidy (fun e=>by omega) cb) fun _ r1=>
  Cn (.ptr p 0) rfl rfl <|
  Cn (.ptr p 0) rfl rfl <|
  Cn (.ptr p 0) rfl rfl <|
  Cn w rfl (ER rfl (Be wo)) <|
  Js l r1 rfl (by decide) f7 (fun _ _ h=>h.elim) (fun _ h _ _=>h.elim) (Dq (vs:=[.ptr p 0,w]) rfl (yq (Be wo)) g7) fun _ _ _ r2=>
  Cn (.int .i64 (AA dp)) rfl rfl <|
  Js (.agg vc) r2 rfl (by decide) f8 (fun _ _ h=>h.elim) (fun _ h _ _=>h.elim) (Dq (vs:=[.ptr p 0,.agg (ty i0).c,l,.int .i64 (AA dp)]) rfl (yp (Be lo)) g8) fun _ _ _ r3=>
  Js .dead r3 rfl (by decide) (S':=fun b=>b=Z.next) f9 (fun _ _ h=>h) (fun b h h1 _=>by omega) g9 fun _ _ _ r4=>
  HZ r4
 obtain⟨ev,d,y8⟩:∃ev,AT E D Q8 UU [(0,.ptr p 0),(3,.int .i64 (AA dp)),(8,.ptr Z.next 0),(9,.ptr Z1.next 0),(10,w)] Z6=some (ev,Z9)/\Go.Og.look ev 8=some (.ptr Z.next 0):=⟨_,(Fg (ops:=Q8) go).1,rfl⟩
 have gd:∀J:Bz->H->AH,Ci (AT E D Q8 UU [(0,.ptr p 0),(3,.int .i64 (AA dp)),(8,.ptr Z.next 0),(9,.ptr Z1.next 0),(10,w)] Z6) J=J ev Z9:=fun J=>by rw[d];rfl
 have z8:∀J:V->AH,BR ev 8 J=J (.ptr Z.next 0):=fun J=>BU y8 rfl
 have ld9:∀J:List V->AH,BH E Z9 Z.next 0 6 J=J vc:=fun J=>by
  rw[Au a9,Hs (by omega),Ca,<-vl,DU]
 have F9:Fr AG Z Z9:=F8.trans f9 (fun b hb e=>by omega)
 refine⟨Z7,Z9,Z7.next+8,gs,m,?_,hg,f9.at_ hlb8 F8.tidy (fun e=>by omega),fun i hi=>?_,hr8.fr f9 F8.tidy (fun b hb _ e=>by omega),hm0,F9⟩
 ·rw[<-hvc]
  have k5:∀K2,XJ E D (AT E D) K2 p 0 (AA dp) Z.next 0 Z1.next 0 w Z4.next 0 true Z6=some (.agg vc,Z9):=fun K2=>by
   unfold XJ
   simp -implicitDefEqProofs only [↓rP,rA,AD,AF,AB,↓gd,↓z8,↓ld9]
  have k3:UN E D (AT E D) N p 0 (AA dp) Z.next 0 Z1.next 0 w Z4.next 0 (AA K) false Z6=some (.agg vc,Z9):=by
   refine Eq.trans ?_ (k5 (Qx E D (AT E D) N))
   rcases hKs with rfl|rfl<;>rfl
  rw[<-k3]
  unfold EJ at e1 e5
  unfold Lm at e2
  unfold Ty.c at rd g3
  have k0:∀K1,Nk E D (AT E D) K1 p 0 (AA i0) u (AA dp) Z=K1 p 0 (AA i0) u (AA dp) Z.next 0 Z1:=fun K1=>by
   unfold Nk
   simp -implicitDefEqProofs only [↓rP,rA,AD,AF,AB,↓e1,↓lt4,↓tlen,j0,dj,dd]
  show Nk E D (AT E D) (Xw E D (AT E D) N) p 0 (AA i0) u (AA dp) Z=_
  rw[k0]
  show Jz E D (AT E D) _ _ p 0 (AA i0) u (AA dp) Z.next 0 Z1=_
  have c1:decide (K=1)=false:=decide_eq_false (by omega)
  have c2:decide (K=2)=false:=decide_eq_false (by omega)
  have c3:decide (K=3)=false:=decide_eq_false (by omega)
  have c5:decide (K=5)=false:=decide_eq_false (by omega)
  have c6:decide (K=6)=false:=decide_eq_false (by omega)
  unfold Jz
  simp -implicitDefEqProofs only [↓rP,rA,AD,AF,AB,↓lf,↓lt4,↓rd,(ty i0).oneT,(ty i0).oneI,(ty i0).oneF,↓e2,↓g3,↓l1,↓g4,↓Aw wo,↓l0,↓e5,↓g6,↓l06,BW,c1,c2,c3,c5,c6]
 ·obtain⟨o,v,h1,h2,h3⟩:=hgd i hi
  exact⟨o,v,h1,h2,h3.fr f9 F8.tidy (fun b hb e=>by omega)⟩
end
end
end Go.Proofs.YtoengnbdallegaaGreatDoor
