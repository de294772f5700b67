/- What the last text leans on, part 6 of 7: merged out of smaller texts. No condition. -/
import Derived.Test.YtgjjnbddbbhloaaGreatDoorQ4
set_option linter.all false
set_option maxRecDepth 100000
namespace Go.Proofs.YtgjjnbddbbhloaaGreatDoor
open Go Go.Og
noncomputable section
def SpBytes (B:Nat) (F:List V→H→Ans):Prop:=∀(σ:H) (w:Nat) (u:V) (L:List Nat),Wr σ w u L→Tidy σ→Bin L→L.length≤B →
 ∃v σ',F [.ptr w 0] σ=some (v,σ')∧Nb σ σ' v (nI (pack L))∧Fr Nowhere σ σ'
theorem octs_length (L:List Nat) (i:Nat):(octs L i).length=packN i:=by
 unfold octs packN
 rw[List.length_append,whole_length]
 split
 ·simp only[List.length_nil];omega
 ·simp only[List.length_cons,List.length_nil];omega
theorem dst_get {E:List (Nat × Blk)} {σ:H} {u:V} {L:List Nat} {i:Nat} (h:Dst σ 1 L.length u (u8s (nI L))) (hi:i<L.length) (κ:V→Ans):iaddrSK 1 u (Int.ofNat i) (fun b o=>ldK E σ b o κ)=κ (.int .u8 (Int.ofNat (bit L i))):=by
 have hx:By σ u (nI L):=by
  show Src σ 1 (nI L).length u _
  rw[nI_length];exact h.src
 refine by_at (Sq.of hx) ?_ κ
 refine nI_get ?_
 unfold bit
 rw[List.getD_eq_getElem?_getD,List.getElem?_eq_getElem hi];rfl
section
variable {E:List (Nat × Blk)} {D:Den} {W:DrawFn} {N B:Nat}
theorem r01bytes_F (hN:B+1<N) (hB:B≤9000000):SpBytes B (F45 E D W N):=by
 intro σ w u L h ht hb hl
 have loop:∀(m n' i:Nat) (v:V) (σ1:H),i+m=L.length→m<n'→Fr Nowhere σ σ1→Nb σ σ1 v (nI (octs L i)) →
   ∃v' σ',L45_2 E D W N n' w 0 v (Int.ofNat i) σ1=some (v',σ')∧Nb σ σ' v' (nI (pack L))∧Fr Nowhere σ σ':=by
  intro m
  induction m with
  | zero=>
   intro n' i v σ1 hi hn' f1 hv
   obtain⟨n',rfl⟩:∃k,n'=k+1:=⟨n'-1,by omega⟩
   have h1:=h.fr f1 ht
   refine⟨v,σ1,?_,by rw[←octs_all,←(show i=L.length by omega)];exact hv,f1⟩
   have key:∀K1 K2,T45_2 E D W K1 K2 w 0 v (Int.ofNat i) σ1=K1 v σ1:=by
    intro K1 K2
    unfold T45_2
    have a:=h1.at_
    have d1:decide (i<L.length)=false:=decide_eq_false (by omega)
    simp -implicitDefEqProofs only [↓rP,rA,Nat.reduceEqDiff,Nat.reduceLT,Nat.reduceLeDiff,↓ldK_is a,↓h1.d.slen,d1]
   exact(key _ _).trans rfl
  | succ m ih=>
   intro n' i v σ1 hi hn' f1 hv
   obtain⟨n',rfl⟩:∃k,n'=k+1:=⟨n'-1,by omega⟩
   have hlt:i<L.length:=by omega
   have h1:=h.fr f1 ht
   obtain⟨v2,σ2,g2,h2,f2⟩:∃v2 σ2,(∀K1 K4,T45_2 E D W K1 K4 w 0 v (Int.ofNat i) σ1=K4 w 0 v2 (Int.ofNat i) σ2)∧Nb σ σ2 v2 (nI (whole L (i / 8))++Int.ofNat (part L (i / 8) (i % 8))::[])∧Fr Nowhere σ σ2:=by
    have d1:decide (i<L.length)=true:=decide_eq_true hlt
    have a:=h1.at_
    by_cases h8:i % 8=0
    ·obtain⟨σ2,e2,f2,a2,n2⟩:=mk_new f1.tidy [.int .u8 (Int.ofNat 0)]
     have x:By σ2 (V.sl σ1.next 0 1 (.ex 1)) [Int.ofNat 0] := .inr ⟨_,_,_,_,rfl,a2,Nat.le_refl _,rfl⟩
     obtain⟨v3,σ3,g3,h3,f3,_⟩:=app_by (E:=E) (hv.fr f2 f1.tidy) (f1.trans f2 (fun _ _ h=>h)) x (by rw[nI_length,octs_length];unfold packN;simp only[List.length_cons,List.length_nil];omega)
     refine⟨v3,σ3,fun K1 K4=>?_,?_,f3⟩
     ·unfold T45_2
      have d2:eqF (Int.tmod (Int.ofNat i) (Int.ofNat 8)) (Int.ofNat 0)=true:=by rw[mod8,eqF_nat];exact decide_eq_true h8
      simp -implicitDefEqProofs only [↓rP,rA,Nat.reduceEqDiff,Nat.reduceLT,Nat.reduceLeDiff,↓ldK_is a,↓h1.d.slen,d1,d2,↓e2,↓g3,↓rtOne_of h3.1.one]
     ·have e:octs L i=whole L (i / 8):=by unfold octs;rw[if_pos h8,List.append_nil]
      rw[e]at h3
      rw[h8];exact h3
    ·refine⟨v,σ1,fun K1 K4=>?_,?_,f1⟩
     ·unfold T45_2
      have d2:eqF (Int.tmod (Int.ofNat i) (Int.ofNat 8)) (Int.ofNat 0)=false:=by rw[mod8,eqF_nat];exact decide_eq_false h8
      simp -implicitDefEqProofs only [↓rP,rA,Nat.reduceEqDiff,Nat.reduceLT,Nat.reduceLeDiff,↓ldK_is a,↓h1.d.slen,d1,d2]
     ·have e:octs L i=whole L (i / 8)++[part L (i / 8) (i % 8)]:=by unfold octs;rw[if_neg h8]
      rw[e,nI_app]at hv
      exact hv
   have hh:=h.fr f2 ht
   have lw:(nI (whole L (i / 8))).length=i / 8:=by rw[nI_length,whole_length]
   obtain⟨b,σ3,ia,rd,st,h3,f3,_⟩:=nb_set (E:=E) h2 f2 (Int.ofNat (part L (i / 8) (i % 8+1)))
   rw[lw]at ia rd st
   obtain⟨v4,σ4,g4,h4,f4⟩:=ih n' (i+1) v2 σ3 (by omega) (by omega) f3 (by rw[octs_succ,nI_app];exact h3)
   refine⟨v4,σ4,?_,h4,f4⟩
   have key:∀K,T45_4 E D W K w 0 v2 (Int.ofNat i) σ2=K w 0 v2 (Int.ofNat i) σ3:=by
    intro K
    unfold T45_4
    have a:=hh.at_
    have gt:∀κ,iaddrSK 1 u (Int.ofNat i) (fun b o=>ldK E σ2 b o κ)=κ (.int .u8 (Int.ofNat (bit L i))):=fun κ=>dst_get hh.d hlt κ
    have sh:wrapF .u64 (subF .i64 (Int.ofNat 7) (Int.ofNat (i % 8)))=Int.ofNat (7-i % 8):=by
     rw[subF_nat (by omega) (by omega),wrapF_nat (by rw[maxN_u64];omega)]
    have hq:orF .u8 (Int.ofNat (part L (i / 8) (i % 8))) (shlF .u8 (Int.ofNat (bit L i)) (7-i % 8))=Int.ofNat (part L (i / 8) (i % 8+1)):=by
     obtain⟨q,e⟩:=part_dvd L (i / 8) (i % 8) (by omega)
     have hlt':=part_lt hb (i / 8) (i % 8+1) (by omega)
     have hp:0<2 ^ (8-(i % 8+1)):=Nat.pow_pos (by decide)
     rw[part,show 8*(i / 8)+i % 8=i by omega]at hlt' ⊢
     rw[e,show 8-i % 8=(7-i % 8)+1 by omega]at hlt' ⊢
     exact or_u8 (by omega) (bit_lt hb i) (by omega)
    simp -implicitDefEqProofs only [↓rP,rS,quo8 (show i≤9223372036854775807 by omega),mod8,↓ia,↓rd,↓ldK_is a,↓gt,sh,nnK_nat,hq,↓st]
   show T45_2 E D W _ (T45_4 E D W (T45_3 E D W (L45_2 E D W N n'))) w 0 v (Int.ofNat i) σ1=_
   rw[g2,key]
   show L45_2 E D W N n' w 0 v2 (addF .i64 (Int.ofNat i) (Int.ofNat 1)) σ3=_
   rw[addF_nat (by omega)]
   exact g4
 obtain⟨v,σ',g,h1,f1⟩:=loop L.length N 0 .nils σ (by omega) (by omega) (Fr.refl ht) (Nb.nil σ σ)
 exact⟨v,σ',g,h1,f1⟩
theorem r17bytes_F (hB:SpBytes B (D 45)) {σ:H} {w:Nat} {u:V} {L:List Nat} (h:Wr σ w u L) (ht:Tidy σ) (hb:Bin L) (hl:L.length≤B) (h0:0<L.length) :
  ∃v σ',F23 E D W N [.ptr w 0] σ=some (v,σ')∧Nb σ σ' v (nI (pack L))∧Fr Nowhere σ σ':=by
 obtain⟨v,σ',g,n,f⟩:=hB σ w u L h ht hb hl
 refine⟨v,σ',?_,n,f⟩
 show T23_0 E D W w 0 σ=_
 unfold T23_0
 have d1:decide ((nI (pack L)).length=0)=false:=decide_eq_false (by rw[nI_length,pack_length];unfold packN;omega)
 simp -implicitDefEqProofs only [↓rP,rA,Nat.reduceEqDiff,Nat.reduceLT,Nat.reduceLeDiff,↓g,↓rtOne_of n.1.one,↓n.1.slen,d1]
end
section
variable {E:List (Nat × Blk)} {σ:H} {x:V} {l:List Int}
variable {D:Den} {W:DrawFn} {N:Nat}
end
structure Pl (σ:H) (b:Nat) (v:V) (O:List Nat) (i:Nat) (r:List V):Prop where
 at_:Atc σ b (v :: .int .i64 (Int.ofNat i)::r)
 by_:By σ v (nI O)
 ne:¬Names v b
 bd:∀c∈O,c<256
 le:i≤8*O.length
 few:O.length≤100000
section
variable {E:List (Nat × Blk)} {σ σ1:H} {b:Nat} {v:V} {O:List Nat} {i:Nat} {r:List V}
theorem Pl.fr {S:Nat→Prop} (h:Pl σ b v O i r) (f:Fr S σ σ1) (ht:Tidy σ) (hb:¬S b) (hv:∀c,Names v c→¬S c):Pl σ1 b v O i r:=⟨f.at_ h.at_ ht hb,Src.fr h.by_ f ht hv,h.ne,h.bd,h.le,h.few⟩
theorem eqK_ptr {a o:Nat} (κ:Bool→Ans):eqK .ptr (.ptr a o) .nilp κ=κ false:=rfl
theorem mul8 {n:Nat} (h:n≤1000000):mulF .i64 (Int.ofNat 8) (Int.ofNat n)=Int.ofNat (8*n):=by
 rw[mulF_eq,show Int.ofNat 8*Int.ofNat n=Int.ofNat (8*n)from rfl]
 exact wrapK_nat (by rw[maxN_i64];omega)
theorem Pl.slen (h:Pl σ b v O i r) (κ:Nat→Ans):slenK v κ=κ O.length:=by rw[h.by_.slen,nI_length]
theorem readV_lt {L:List Nat} (hb:Bin L):∀n i a,readV L i n a<(a+1)*2 ^ n
 | 0,i,a=>by simp[readV]
 | n+1,i,a=>by
  have:=readV_lt hb n (i+1) (2*a+bit L i)
  have hx:=bit_lt hb i
  rw[readV]
  refine Nat.lt_of_lt_of_le this ?_
  rw[Nat.pow_succ,Nat.mul_comm (2 ^ n) 2,←Nat.mul_assoc]
  exact Nat.mul_le_mul_right _ (by omega)
theorem readV_succ {L:List Nat}:∀n i a,readV L i (n+1) a=2*readV L i n a+bit L (i+n)
 | 0,i,a=>rfl
 | n+1,i,a=>by
  have:=readV_succ (L:=L) n (i+1) (2*a+bit L i)
  rw[show readV L i (n+1+1) a=readV L (i+1) (n+1) (2*a+bit L i)from rfl,this,show i+1+n=i+(n+1)by omega]
  rfl
end
def SpPbit (F:List V→H→Ans):Prop:=∀(σ:H) (b i:Nat) (v:V) (O:List Nat) (r:List V),Pl σ b v O i r→Tidy σ→i<8*O.length→allOne (v::r)=true →
 ∃σ',F [.ptr b 0] σ=some (.int .i64 (Int.ofNat (bit (bitsO O) i)),σ')∧Pl σ' b v O (i+1) r∧Fr (fun k=>k=b) σ σ'
def SpPbits (F:List V→H→Ans):Prop:=∀(σ:H) (b i n:Nat) (v:V) (O:List Nat) (r:List V),Pl σ b v O i r→Tidy σ→i+n≤8*O.length→n≤32→allOne (v::r)=true →
 ∃σ',F [.ptr b 0,.int .i64 (Int.ofNat n)] σ=some (.int .u32 (Int.ofNat (readV (bitsO O) i n 0)),σ')∧Pl σ' b v O (i+n) r∧Fr (fun k=>k=b) σ σ'
def SpLeft (F:List V→H→Ans):Prop:=∀(σ:H) (b i:Nat) (v:V) (O:List Nat) (r:List V),Pl σ b v O i r →
 F [.ptr b 0] σ=some (.int .i64 (Int.ofNat (8*O.length-i)),σ)
section
variable {E:List (Nat × Blk)} {D:Den} {W:DrawFn} {N:Nat}
theorem pbit_F:SpPbit (F273 E D W N):=by
 intro σ b i v O r h ht hi ho
 have fw:=h.few
 obtain⟨σ1,e1,f1,a1⟩:=mk_set ht h.at_ (v :: .int .i64 (Int.ofNat (i+1))::r)
 refine⟨σ1,?_,⟨a1,Src.fr h.by_ f1 ht (fun c hc e=>h.ne (by cases e;exact hc)),h.ne,h.bd,by omega,fw⟩,f1⟩
 have hlt:i / 8<O.length:=by omega
 have hO:O[i / 8]? = some O[i / 8]:=List.getElem?_eq_getElem hlt
 have hb:O[i / 8]<256:=h.bd _ (List.getElem_mem hlt)
 have a:=h.at_
 have rd:∀κ,iaddrSK 1 v (Int.ofNat (i / 8)) (fun b o=>ldK E σ b o κ)=κ (.int .u8 (Int.ofNat O[i / 8])):=fun κ=>by_at (Sq.of h.by_) (nI_get hO) κ
 have st:∀κ:H→Ans,stK 1 b 1 (.int .i64 (Int.ofNat (i+1))) σ κ=κ σ1:=fun κ=>by
  rw[stK_at a (by
   simp only[cells_int,List.length_cons,List.length_nil,Bool.and_eq_true,Nat.ble_eq]
   refine⟨⟨rfl,?_⟩,rfl⟩
   show 1+1≤_
   omega)]
  show κ (setF σ b (.cells (v::spl (.int .i64 (Int.ofNat i)::r) 0 [.int .i64 (Int.ofNat (i+1))])))=_
  rw[show spl (V.int .i64 (Int.ofNat i)::r) 0 [V.int .i64 (Int.ofNat (i+1))]=V.int .i64 (Int.ofNat (i+1))::r from by cases r<;>rfl,e1]
 show T273_0 E D W b 0 σ=_
 unfold T273_0
 have ev:wrapF .i64 (andF .u8 (shrF .u8 (Int.ofNat O[i / 8]) (7-i % 8)) (Int.ofNat 1))=Int.ofNat (bit (bitsO O) i):=by
  rw[shr_nat (show 7-i % 8≤IntKind.bits .u8 from by show _≤8;omega),and1_u8 (Nat.le_trans (Nat.div_le_self _ _) (by omega)),wrapF_nat (by rw[maxN_i64];omega),bitsO_get O i _ hO]
 simp -implicitDefEqProofs only [↓rP,rS,↓ldK_is a,quo8 (show i≤9223372036854775807 by omega),↓rd,mod8,subF_nat (show i % 8≤7 by omega) (show 7≤9223372036854775807 by omega),nnK_nat,addF_nat (show i+1≤9223372036854775807 by omega),↓st,ev]
theorem left_F:SpLeft (F203 E D W N):=by
 intro σ b i v O r h
 have a:=h.at_
 have fw:=h.few
 have hle:=h.le
 show T203_0 E D W b 0 σ=_
 unfold T203_0
 simp -implicitDefEqProofs only [↓rP,rS,↓ldK_is a,↓h.slen,mul8 (show O.length≤1000000 by omega),subF_nat (show i≤8*O.length by omega) (show 8*O.length≤9223372036854775807 by omega)]
theorem pbits_F (hP:SpPbit (D 273)) (hN:40<N):SpPbits (F204 E D W N):=by
 intro σ b i n v O r h ht hi hn ho
 have loop:∀(m n' k:Nat) (σ:H),k+m=n→m<n'→Pl σ b v O (i+k) r→Tidy σ →
   ∃σ',L204_2 E D W N n' (.ptr b 0) (Int.ofNat (readV (bitsO O) i k 0)) (Int.ofNat n) (Int.ofNat k) σ=some (.int .u32 (Int.ofNat (readV (bitsO O) i n 0)),σ')∧Pl σ' b v O (i+n) r∧Fr (fun k=>k=b) σ σ':=by
  intro m
  induction m with
  | zero=>
   intro n' k σ hk hn' h ht
   obtain⟨n',rfl⟩:∃k,n'=k+1:=⟨n'-1,by omega⟩
   obtain rfl:k=n:=by omega
   refine⟨σ,?_,h,Fr.refl ht⟩
   have key:∀K R,T204_2 E D W K R (.ptr b 0) (Int.ofNat (readV (bitsO O) i k 0)) (Int.ofNat k) (Int.ofNat k) σ=K (Int.ofNat (readV (bitsO O) i k 0)) σ:=by
    intro K R
    unfold T204_2
    simp -implicitDefEqProofs only [↓rP,rA,Nat.reduceEqDiff,Nat.reduceLT,Nat.reduceLeDiff,Nat.lt_irrefl]
   exact(key _ _).trans rfl
  | succ m ih=>
   intro n' k σ hk hn' h ht
   obtain⟨n',rfl⟩:∃k,n'=k+1:=⟨n'-1,by omega⟩
   obtain⟨σ1,g1,h1,f1⟩:=hP σ b (i+k) v O r h ht (by omega) ho
   obtain⟨σ2,g2,h2,f2⟩:=ih n' (k+1) σ1 (by omega) (by omega) h1 f1.tidy
   refine⟨σ2,?_,h2,f1.trans f2 (fun _ _ h=>h)⟩
   have hb:=bitsO_bin O
   have hl:=readV_lt hb (k+1) i 0
   have hp:2 ^ (k+1)≤2 ^ 32:=Nat.pow_le_pow_right (by decide) (by omega)
   rw[readV_succ]at hl
   have key:∀K R,T204_2 E D W K R (.ptr b 0) (Int.ofNat (readV (bitsO O) i k 0)) (Int.ofNat n) (Int.ofNat k) σ=R (.ptr b 0) (Int.ofNat (readV (bitsO O) i (k+1) 0)) (Int.ofNat n) (Int.ofNat (k+1)) σ1:=by
    intro K R
    unfold T204_2
    have d1:decide (k<n)=true:=decide_eq_true (by omega)
    simp -implicitDefEqProofs only [↓rP,rA,Nat.reduceEqDiff,Nat.reduceLT,Nat.reduceLeDiff,d1,↓g1,addF_nat (show k+1≤9223372036854775807 by omega),push_u32 (bit_lt hb (i+k)) (show 2*readV (bitsO O) i k 0+bit (bitsO O) (i+k)≤4294967295 by omega),readV_succ]
   exact(key _ _).trans g2
 obtain⟨σ',g,h',f⟩:=loop n N 0 σ (by omega) (by omega) h ht
 exact⟨σ',g,h',f⟩
end
def ok1:List V:=[.int .i64 (Int.ofNat 0)]
def SpBd (m:Nat) (F:List V→H→Ans):Prop:=∀(σ:H) (n:Int),F [.int .i64 n] σ=some (.int .i64 (maxF (Int.ofNat 0) (minF n (Int.ofNat m))),σ)
def SpReady (F:List V→H→Ans):Prop:=∀(σ:H) (b i n:Nat) (v:V) (O:List Nat),Pl σ b v O i ok1→i+n≤8*O.length →
 F [.ptr b 0,.int .i64 (Int.ofNat n)] σ=some (.bool true,σ)
def SpRbits (F:List V→H→Ans):Prop:=∀(σ:H) (b i n:Nat) (m:Int) (v:V) (O:List Nat),Pl σ b v O i ok1→Tidy σ→v.one=true→maxF (Int.ofNat 0) (minF m (Int.ofNat 32))=Int.ofNat n→i+n≤8*O.length→n≤32 →
 ∃σ',F [.ptr b 0,.int .i64 m] σ=some (.int .u32 (Int.ofNat (readV (bitsO O) i n 0)),σ')∧Pl σ' b v O (i+n) ok1∧Fr (fun k=>k=b) σ σ'
def SpRerr (F:List V→H→Ans):Prop:=∀(σ:H) (b i:Nat) (v:V) (O:List Nat),Pl σ b v O i ok1→F [.ptr b 0] σ=some (.int .i64 (Int.ofNat 0),σ)
section
variable {E:List (Nat × Blk)} {D:Den} {W:DrawFn} {N:Nat}
theorem bd32_F:SpBd 32 (F260 E D W N):=fun σ n=>by
 show T260_0 E D W n σ=_
 rfl
theorem bd64_F:SpBd 64 (F182 E D W N):=fun σ n=>by
 show T182_0 E D W n σ=_
 rfl
theorem ready_F (hL:SpLeft (D 203)):SpReady (F261 E D W N):=by
 intro σ b i n v O h hn
 have a:=h.at_
 have g:=hL σ b i v O ok1 h
 show T261_0 E D W (.ptr b 0) (Int.ofNat n) σ=_
 unfold T261_0
 unfold ok1 at a
 have d1:decide (8*O.length-i<n)=false:=decide_eq_false (by omega)
 simp -implicitDefEqProofs only [↓rP,rA,Nat.reduceEqDiff,Nat.reduceLT,Nat.reduceLeDiff,↓eqK_ptr,↓ldK_is a,↓g,d1]
theorem rleft_F (hL:SpLeft (D 203)):SpLeft (F202 E D W N):=by
 intro σ b i v O r h
 have g:=hL σ b i v O r h
 show T202_0 E D W (.ptr b 0) σ=_
 unfold T202_0
 simp -implicitDefEqProofs only [↓rP,rS,↓eqK_ptr,↓g]
theorem rerr_F:SpRerr (F201 E D W N):=by
 intro σ b i v O h
 have a:=h.at_
 unfold ok1 at a
 show T201_0 E D W (.ptr b 0) σ=_
 unfold T201_0
 simp -implicitDefEqProofs only [↓rP,rS,↓eqK_ptr,↓ldK_is a]
theorem rbits_F (hB:SpBd 32 (D 260)) (hR:SpReady (D 261)) (hP:SpPbits (D 204)):SpRbits (F183 E D W N):=by
 intro σ b i n m v O h ht hv hm hn hn'
 obtain⟨σ1,g1,h1,f1⟩:=hP σ b i n v O ok1 h ht hn hn' (by unfold ok1;simp only[allOne_cons,hv,one_int,allOne_nil,Bool.and_true])
 refine⟨σ1,?_,h1,f1⟩
 show T183_0 E D W b 0 m σ=_
 unfold T183_0
 simp -implicitDefEqProofs only [↓rP,rS,↓hB σ m,hm,↓hR σ b i n v O h hn,↓g1]
end
structure Rw (σ:H) (wb rb:Nat) (v:V) (O:List Nat) (i:Nat) (e:Int) (em:Bool):Prop where
 at_:Atc σ wb [.ptr rb 0,.int .i64 e,.bool em]
 pl:Pl σ rb v O i ok1
 ne:wb≠rb
 nv:¬Names v wb
 one:v.one=true
section
variable {σ σ1:H} {wb rb:Nat} {v:V} {O:List Nat} {i:Nat} {e:Int} {em:Bool}
theorem Rw.fr {S:Nat→Prop} (h:Rw σ wb rb v O i e em) (f:Fr S σ σ1) (ht:Tidy σ) (hw:¬S wb) (hr:¬S rb) (hv:∀c,Names v c→¬S c):Rw σ1 wb rb v O i e em:=⟨f.at_ h.at_ ht hw,h.pl.fr f ht hr hv,h.ne,h.nv,h.one⟩
theorem Rw.fr0 (h:Rw σ wb rb v O i e em) (f:Fr Nowhere σ σ1) (ht:Tidy σ):Rw σ1 wb rb v O i e em:=h.fr f ht (fun h=>h) (fun h=>h) (fun _ _ h=>h)
end
def emO (O:List Nat):Bool:=decide (O.length=1)&&decide (O.getD 0 0=0)
def SpNewB (F:List V→H→Ans):Prop:=∀(σ:H) (x:V) (O:List Nat),By σ x (nI O)→Tidy σ→(∀c∈O,c<256)→O.length≤100000 →
 ∃rb v σ',F [x] σ=some (.ptr rb 0,σ')∧Pl σ' rb v O 0 ok1∧Fr Nowhere σ σ'∧σ.next≤rb∧(∀c,Names v c→σ.next≤c)∧v.one=true
def SpNewW (F:List V→H→Ans):Prop:=∀(σ:H) (x:V) (O:List Nat),By σ x (nI O)→Tidy σ→(∀c∈O,c<256)→O.length≤100000 →
 ∃wb rb v σ',F [x] σ=some (.ptr wb 0,σ')∧Rw σ' wb rb v O 0 (Int.ofNat 0) (emO O)∧Fr Nowhere σ σ'∧σ.next≤rb∧σ.next≤wb∧(∀c,Names v c→σ.next≤c)
def SpErr (F:List V→H→Ans):Prop:=∀(σ:H) (wb rb i:Nat) (v:V) (O:List Nat) (e:Int) (em:Bool),Rw σ wb rb v O i e em→F [.ptr wb 0] σ=some (.int .i64 e,σ)
def SpWleft (F:List V→H→Ans):Prop:=∀(σ:H) (wb rb i:Nat) (v:V) (O:List Nat) (e:Int) (em:Bool),Rw σ wb rb v O i e em→F [.ptr wb 0] σ=some (.int .i64 (Int.ofNat (8*O.length-i)),σ)
def SpWbits (F:List V→H→Ans):Prop:=∀(σ:H) (wb rb i n:Nat) (v:V) (O:List Nat) (em:Bool),Rw σ wb rb v O i (Int.ofNat 0) em→Tidy σ→i+n≤8*O.length→n≤32 →
 ∃σ',F [.ptr wb 0,.int .i64 (Int.ofNat n)] σ=some (.int .u64 (Int.ofNat (readV (bitsO O) i n 0)),σ')∧Rw σ' wb rb v O (i+n) (Int.ofNat 0) em∧Fr (fun k=>k=rb) σ σ'
theorem fillA2 {u y:V} (h:u.one=true) (κ:List V→Ans):fillK [(0,1,u)] [.nils,y] κ=κ [u,y]:=by
 obtain⟨h1,h2⟩:=one_live h
 unfold fillK fillA
 rw[h1,h2]
 rfl
theorem low_none:∀n,n≤32→maxF (Int.ofNat 0) (minF (subF .i64 (Int.ofNat n) (Int.ofNat 32)) (Int.ofNat 32))=Int.ofNat 0:=by
 have:∀n:Fin 33,maxF (Int.ofNat 0) (minF (subF .i64 (Int.ofNat n.val) (Int.ofNat 32)) (Int.ofNat 32))=Int.ofNat 0:=by decide
 exact fun n h=>this ⟨n,by omega⟩
section
variable {E:List (Nat × Blk)} {D:Den} {W:DrawFn} {N:Nat}
theorem newB_F:SpNewB (F99 E D W N):=by
 intro σ x O hx ht hc hl
 obtain⟨u,σ1,g1,h1,f1,_⟩:=app_by (E:=E) (Nb.nil σ σ) (Fr.refl ht) hx (by rw[nI_length];simp only[List.length_nil];omega)
 obtain⟨σ2,e2,f2,a2,n2⟩:=mk_new f1.tidy [u,.int .i64 (Int.ofNat 0),.int .i64 (Int.ofNat 0)]
 have h2:=h1.fr f2 f1.tidy
 refine⟨σ1.next,u,σ2,?_,⟨a2,h2.by_,fun hn=>?_,hc,Nat.zero_le _,hl⟩,f1.trans f2 (fun _ _ h=>h),f1.le,h1.2,h1.1.one⟩
 ·show T99_0 E D W x σ=_
  unfold T99_0
  have o:=h1.1.one
  simp -implicitDefEqProofs only [↓rP,rS,↓g1,↓rtOne_of o,↓fillA2 o,o,↓e2]
 ·have:=h1.1.lt f1.tidy hn;omega
theorem newW_F (hB:SpNewB (D 99)):SpNewW (F50 E D W N):=by
 intro σ x O hx ht hc hl
 obtain⟨rb,v,σ1,g1,p1,f1,n1,nv,o1⟩:=hB σ x O hx ht hc hl
 obtain⟨σ2,e2,f2,a2,n2⟩:=mk_new f1.tidy [.ptr rb 0,.int .i64 (Int.ofNat 0),.bool (emO O)]
 have p2:=p1.fr f2 f1.tidy (fun h=>h) (fun _ _ h=>h)
 have lr:=p1.at_.lt f1.tidy
 refine⟨σ1.next,rb,v,σ2,?_,⟨a2,p2,by omega,fun hn=>?_,o1⟩,f1.trans f2 (fun _ _ h=>h),n1,f1.le,nv⟩
 ·show T50_0 E D W x σ=_
  unfold T50_0
  have sx:∀κ:Nat→Ans,slenK x κ=κ O.length:=fun κ=>by rw[hx.slen,nI_length]
  have x1:=hx.fr f1 ht
  have fl:∀(c:Bool) (κ:List V→Ans),fillK [(0,1,.ptr rb 0),(2,1,.bool c)] [V.nilp,.int .i64 (Int.ofNat 0),.bool false] κ=κ [.ptr rb 0,.int .i64 (Int.ofNat 0),.bool c]:=fun c κ=>rfl
  by_cases h1:O.length=1
  ·obtain⟨c,rfl⟩:∃c,O=[c]:=by
    cases O with
    | nil=>simp at h1
    | cons c l=>cases l with
     | nil=>exact⟨c,rfl⟩
     | cons d l=>simp at h1
   have rd:∀κ,iaddrSK 1 x (Int.ofNat 0) (fun b o=>ldK E σ1 b o κ)=κ (.int .u8 (Int.ofNat c)):=fun κ=>by_at (Sq.of x1) (nI_get rfl) κ
   rw[show emO [c]=decide (c=0)from rfl]at e2
   simp -implicitDefEqProofs only [↓rP,rA,Nat.reduceEqDiff,Nat.reduceLT,Nat.reduceLeDiff,↓g1,↓sx,decide_eq_true h1,↓rd,↓fl,↓e2]
  ·rw[show emO O=false from by unfold emO;rw[decide_eq_false h1];rfl]at e2
   simp -implicitDefEqProofs only [↓rP,rA,Nat.reduceEqDiff,Nat.reduceLT,Nat.reduceLeDiff,↓g1,↓sx,decide_eq_false h1,↓fl,↓e2]
 ·have:=Src.lt p1.by_ f1.tidy hn;omega
theorem err_F (hE:SpRerr (D 201)):SpErr (F114 E D W N):=by
 intro σ wb rb i v O e em h
 have a:=h.at_
 have g:=hE σ rb i v O h.pl
 show T114_0 E D W (.ptr wb 0) σ=_
 unfold T114_0
 by_cases he:e=Int.ofNat 0
 ·subst he
  simp -implicitDefEqProofs only [↓rP,rA,Nat.reduceEqDiff,Nat.reduceLT,Nat.reduceLeDiff,↓eqK_ptr,↓ldK_is a,↓g]
 ·have d:eqF e (Int.ofNat 0)=false:=by
   cases h':eqF e (Int.ofNat 0)with
   | false=>rfl
   | true=>
    cases e with
    | ofNat m=>exact absurd (congrArg Int.ofNat (Nat.eq_of_beq_eq_true h')) he
    | negSucc m=>cases h'
  simp -implicitDefEqProofs only [↓rP,rS,↓eqK_ptr,↓ldK_is a,d]
theorem wleft_F (hL:SpLeft (D 202)):SpWleft (F115 E D W N):=by
 intro σ wb rb i v O e em h
 have a:=h.at_
 have g:=hL σ rb i v O ok1 h.pl
 show T115_0 E D W (.ptr wb 0) σ=_
 unfold T115_0
 simp -implicitDefEqProofs only [↓rP,rS,↓eqK_ptr,↓ldK_is a,↓g]
theorem wbits_F (hB:SpBd 64 (D 182)) (hE:SpErr (D 114)) (hL:SpWleft (D 115)) (hR:SpRbits (D 183)):SpWbits (F103 E D W N):=by
 intro σ wb rb i n v O em h ht hn hn'
 have fw:=h.pl.few
 have a:=h.at_
 have p0:=low_none n hn'
 obtain⟨σ1,g1,h1,f1⟩:=hR σ rb i 0 _ v O h.pl ht h.one p0 (by omega) (by decide)
 have a1:=f1.at_ a ht h.ne
 have p2:maxF (Int.ofNat 0) (minF (Int.ofNat n) (Int.ofNat 32))=Int.ofNat n:=by rw[minF_le hn',maxF_0]
 obtain⟨σ2,g2,h2,f2⟩:=hR σ1 rb i n (Int.ofNat n) v O h1 f1.tidy h.one p2 hn hn'
 have f12:Fr (fun k=>k=rb) σ σ2:=f1.trans f2 (fun _ _ h=>h)
 refine⟨σ2,?_,⟨f12.at_ a ht h.ne,h2,h.ne,h.nv,h.one⟩,f12⟩
 have gb:=hB σ (Int.ofNat n)
 rw[minF_le (show n≤64 by omega),maxF_0]at gb
 have ge:=hE σ wb rb i v O _ em h
 have gl:=hL σ wb rb i v O _ em h
 have d1:decide (8*O.length-i<n)=false:=decide_eq_false (by omega)
 have hv:=readV_lt (bitsO_bin O) n i 0
 have hp:2 ^ n≤2 ^ 32:=Nat.pow_le_pow_right (by decide) hn'
 have e0:readV (bitsO O) i 0 0=0:=rfl
 rw[e0]at g1
 have hh:=halves (a:=0) (b:=readV (bitsO O) i n 0) hn' (by decide) (by omega) (by omega)
 rw[Nat.zero_mul,Nat.zero_add]at hh
 show T103_0 E D W wb 0 (Int.ofNat n) σ=_
 unfold T103_0
 simp -implicitDefEqProofs only [↓rP,rA,Nat.reduceEqDiff,Nat.reduceLT,Nat.reduceLeDiff,↓gb,↓ge,↓gl,d1,↓ldK_is a,↓g1,minF_le hn',nnK_nat,↓ldK_is a1,↓g2,hh]
end
def SpBack (F:List V→H→Ans) (D:Den):Prop:=∀(σ σ':H) (wb rb i j f:Nat) (v:V) (O:List Nat) (em:Bool) (cs:List V),Rw σ wb rb v O i (Int.ofNat 0) em→D f cs σ=some (.tup [],σ')→Rw σ' wb rb v O j (Int.ofNat 0) em →
 F [.ptr wb 0,.fn f [] cs] σ=some (.bool true,σ')
section
variable {E:List (Nat × Blk)} {D:Den} {W:DrawFn} {N:Nat}
theorem back_F (hE:SpErr (D 114)):SpBack (F262 E D W N) D:=by
 intro σ σ' wb rb i j f v O em cs h g h'
 have a:=h.at_
 have ap:=h.pl.at_
 have o:=h.one
 unfold ok1 at ap
 have e1:=hE σ wb rb i v O _ em h
 have e2:=hE σ' wb rb j v O _ em h'
 have l3:∀κ:List V→Ans,ldnK E σ rb 0 3 κ=κ [v,.int .i64 (Int.ofNat i),.int .i64 (Int.ofNat 0)]:=fun κ=>(ldnK_is ap).trans rfl
 have cv:∀κ:V→H→Ans,callvK D (.fn f [] cs) [] σ κ=κ (.tup []) σ':=fun κ=>by
  show callK (D f ([]++[]++cs) σ) κ=_
  rw[List.nil_append,List.nil_append,g];rfl
 show T262_0 E D W wb 0 (.fn f [] cs) σ=_
 unfold T262_0
 simp -implicitDefEqProofs only [↓rP,rA,Nat.reduceEqDiff,Nat.reduceLT,Nat.reduceLeDiff,↓e1,↓ldK_is a,↓l3,o,↓cv,↓e2]
end
section
variable {E:List (Nat × Blk)} {D:Den} {N:Nat}
variable {W:DrawFn}
end
def endN (O:List Nat) (i:Nat):Nat:=if 8≤8*O.length-i then 4 else if readV (bitsO O) i (8*O.length-i) 0=0 then 0 else 4
def SpRend (F:List V→H→Ans):Prop:=∀(σ:H) (rb i:Nat) (v:V) (O:List Nat),Pl σ rb v O i ok1→Tidy σ→v.one=true →
 ∃σ',F [.ptr rb 0] σ=some (.int .i64 (Int.ofNat (endN O i)),σ')∧Fr Nowhere σ σ'
def SpWend (F:List V→H→Ans):Prop:=∀(σ:H) (wb rb i:Nat) (v:V) (O:List Nat) (e:Nat) (em:Bool),Rw σ wb rb v O i (Int.ofNat e) em→Tidy σ→(e=0→em=true→8*O.length-i≠8) →
 ∃σ',F [.ptr wb 0] σ=some (.int .i64 (Int.ofNat (if e=0 then endN O i else e)),σ')∧Fr Nowhere σ σ'
def SpOn (F:List V→H→Ans):Prop:=∀(σ:H) (db wb rb i e:Nat) (v:V) (O:List Nat) (em:Bool) (r:List V),Rw σ wb rb v O i (Int.ofNat e) em→Atc σ db (.ptr wb 0::r)→F [.ptr db 0] σ=some (.bool (decide (e=0)),σ)
def SpBadNo (F:List V→H→Ans):Prop:=∀(σ:H) (db:Nat),F [.ptr db 0,.bool false] σ=some (.tup [],σ)
def SpMore (F:List V→H→Ans):Prop:=∀(σ:H) (cb:Nat) (n k:Int),Atc σ cb [.int .i64 n]→Tidy σ→leF (addF .i64 n k) (Int.ofNat 5000)=true →
 ∃σ',F [.ptr cb 0,.int .i64 k] σ=some (.bool true,σ')∧Atc σ' cb [.int .i64 (addF .i64 n k)]∧Fr (fun b=>b=cb) σ σ'
section
variable {E:List (Nat × Blk)} {D:Den} {W:DrawFn} {N:Nat}
theorem rend_F (hE:SpRerr (D 201)) (hL:SpLeft (D 203)) (hP:SpPbits (D 204)):SpRend (F116 E D W N):=by
 intro σ rb i v O h ht hv
 have fw:=h.few
 have a:=h.at_
 obtain⟨σ1,e1,f1,a1,n1⟩:=mk_new ht [.nils,.int .i64 (Int.ofNat 0)]
 obtain⟨σ2,e2,f2,a2⟩:=mk_set f1.tidy a1 [v,.int .i64 (Int.ofNat i)]
 have lv:∀c,Names v c→c<σ.next:=fun c hc=>Src.lt h.by_ ht hc
 have f02:Fr Nowhere σ σ2:=f1.trans f2 (fun b hb e=>by omega)
 have p2:Pl σ2 σ.next v O i []:=⟨a2,Src.fr h.by_ f02 ht (fun _ _ h=>h),fun hc=>by have:=lv _ hc;omega,h.bd,h.le,h.few⟩
 have ge:=hE σ rb i v O h
 have gl:=hL σ2 σ.next i v O [] p2
 have l2:∀κ:List V→Ans,ldnK E σ rb 0 2 κ=κ [v,.int .i64 (Int.ofNat i)]:=fun κ=>by
  unfold ok1 at a
  exact(ldnK_is a).trans rfl
 have st:∀κ:H→Ans,stK 2 σ.next 0 (.agg [v,.int .i64 (Int.ofNat i)]) σ1 κ=κ σ2:=fun κ=>by
  rw[stK_at a1 (by simp only[cells_agg,allOne_cons,hv,one_int,allOne_nil];rfl)]
  show κ (setF σ1 σ.next (.cells [v,.int .i64 (Int.ofNat i)]))=_
  rw[e2]
 by_cases h8:8≤8*O.length-i
 ·refine⟨σ2,?_,f02⟩
  rw[show endN O i=4 from if_pos h8]
  show T116_0 E D W rb 0 σ=_
  unfold T116_0
  simp -implicitDefEqProofs only [↓rP,rA,Nat.reduceEqDiff,Nat.reduceLT,Nat.reduceLeDiff,↓ge,↓l2,↓e1,↓st,↓gl,decide_eq_true h8]
 ·obtain⟨σ3,g3,h3,f3⟩:=hP σ2 σ.next i (8*O.length-i) v O [] p2 f02.tidy (by have:=h.le;omega) (by omega) (by simp only[allOne_cons,hv,allOne_nil,Bool.and_true])
  refine⟨σ3,?_,f02.trans f3 (fun b hb e=>by omega)⟩
  rw[show endN O i=if readV (bitsO O) i (8*O.length-i) 0=0 then 0 else 4 from if_neg h8]
  show T116_0 E D W rb 0 σ=_
  unfold T116_0
  by_cases hr:readV (bitsO O) i (8*O.length-i) 0=0
  ·rw[if_pos hr]
   simp -implicitDefEqProofs only [↓rP,rA,Nat.reduceEqDiff,Nat.reduceLT,Nat.reduceLeDiff,↓ge,↓l2,↓e1,↓st,↓gl,decide_eq_false h8,↓g3,decide_eq_true hr]
  ·rw[if_neg hr]
   simp -implicitDefEqProofs only [↓rP,rA,Nat.reduceEqDiff,Nat.reduceLT,Nat.reduceLeDiff,↓ge,↓l2,↓e1,↓st,↓gl,decide_eq_false h8,↓g3,decide_eq_false hr]
theorem wend_F (hE:SpErr (D 114)) (hL:SpWleft (D 115)) (hR:SpRend (D 116)):SpWend (F52 E D W N):=by
 intro σ wb rb i v O e em h ht hem
 have a:=h.at_
 have ge:=hE σ wb rb i v O _ em h
 by_cases h0:e=0
 ·subst h0
  obtain⟨σ1,g1,f1⟩:=hR σ rb i v O h.pl ht h.one
  refine⟨σ1,?_,f1⟩
  rw[if_pos rfl]
  show T52_0 E D W wb 0 σ=_
  unfold T52_0
  cases em with
  | false=>simp -implicitDefEqProofs only [↓rP,rA,Nat.reduceEqDiff,Nat.reduceLT,Nat.reduceLeDiff,↓ge,↓ldK_is a,↓g1]
  | true=>
   have gl:=hL σ wb rb i v O _ true h
   have d8:decide (8*O.length-i=8)=false:=decide_eq_false (hem rfl rfl)
   simp -implicitDefEqProofs only [↓rP,rA,Nat.reduceEqDiff,Nat.reduceLT,Nat.reduceLeDiff,↓ge,↓ldK_is a,↓gl,d8,↓g1]
 ·refine⟨σ,?_,Fr.refl ht⟩
  rw[if_neg h0]
  show T52_0 E D W wb 0 σ=_
  unfold T52_0
  simp -implicitDefEqProofs only [↓rP,rA,Nat.reduceEqDiff,Nat.reduceLT,Nat.reduceLeDiff,↓ge,decide_eq_false h0]
theorem on_F (hE:SpErr (D 114)):SpOn (F102 E D W N):=by
 intro σ db wb rb i e v O em r h a
 have ge:=hE σ wb rb i v O _ em h
 show T102_0 E D W db 0 σ=_
 unfold T102_0
 simp -implicitDefEqProofs only [↓rP,rS,eqF_nat,↓ldK_is a,↓ge]
theorem badno_F:SpBadNo (F100 E D W N):=by
 intro σ db
 show T100_0 E D W db 0 false σ=_
 unfold T100_0
 simp -implicitDefEqProofs only [↓rP,rS]
theorem more_F:SpMore (F101 E D W N):=by
 intro σ cb n k a ht hle
 obtain⟨σ1,e1,f1,a1⟩:=mk_set ht a [.int .i64 (addF .i64 n k)]
 refine⟨σ1,?_,a1,f1⟩
 have st:∀κ:H→Ans,stK 1 cb 0 (.int .i64 (addF .i64 n k)) σ κ=κ σ1:=fun κ=>by
  rw[stK_at a rfl]
  show κ (setF σ cb (.cells [.int .i64 (addF .i64 n k)]))=_
  rw[e1]
 show T101_0 E D W cb 0 k σ=_
 unfold T101_0
 simp -implicitDefEqProofs only [↓rP,rS,↓ldK_is a,↓st,↓ldK_is a1,hle]
end
theorem pack_bit {L:List Nat} (hb:Bin L) {i:Nat} (h:i<8*packN L.length):bit (bitsO (pack L)) i=bit L i:=by
 rw[bitsO_get (pack L) i _ (pack_get L (by omega)),packB_bit hb (i / 8) (i % 8) (by omega),show 8*(i / 8)+i % 8=i by omega]
theorem pack_lt {L:List Nat} (hb:Bin L):∀c∈pack L,c<256:=by
 intro c hc
 unfold pack at hc
 obtain⟨j,_,rfl⟩:=List.mem_map.1 hc
 exact packB_lt hb j
theorem readV_same {L M:List Nat}:∀(n i a:Nat),(∀k,i≤k→k<i+n→bit L k=bit M k)→readV L i n a=readV M i n a
 | 0,i,a,_=>rfl
 | n+1,i,a,h=>by
  rw[readV,readV,h i (Nat.le_refl _) (by omega)]
  exact readV_same n (i+1) _ fun k h1 h2=>h k (by omega) (by omega)
theorem read_pack {L:List Nat} (hb:Bin L) {n i a:Nat} (h:i+n≤8*packN L.length):readV (bitsO (pack L)) i n a=readV L i n a:=
 readV_same n i a fun k h1 h2=>pack_bit hb (by omega)
structure Pw (σ:H) (w:Nat) (u:V) (L:List Nat):Prop where
 at_:Atc σ w [u,.int .i64 (Int.ofNat L.length)]
 d:Dst σ 1 (packN L.length) u (u8s (nI (octs L L.length)))
 ne:¬Names u w
 bin:Bin L
structure Pst (σ:H) (w:Nat) (u:V) (σ':H) (u':V) (L':List Nat):Prop where
 wr:Pw σ' w u' L'
 f:Fr (Own1 w u) σ σ'
 g:∀b,Names u' b→Names u b∨σ.next≤b
section
variable {E:List (Nat × Blk)} {σ σ1 σ2:H} {w:Nat} {u u1 u2:V} {L L1 L2:List Nat}
theorem Pw.fr (h:Pw σ w u L) (f:Fr Nowhere σ σ1) (ht:Tidy σ):Pw σ1 w u L:=⟨f.at_ h.at_ ht (fun h=>h),h.d.fr f ht (fun _ _ h=>h),h.ne,h.bin⟩
theorem Pst.refl (h:Pw σ w u L) (ht:Tidy σ):Pst σ w u σ u L:=⟨h,Fr.refl ht,fun _ hb => .inl hb⟩
theorem Pst.trans (h:Pst σ w u σ1 u1 L1) (k:Pst σ1 w u1 σ2 u2 L2):Pst σ w u σ2 u2 L2:=by
 refine⟨k.wr,h.f.trans k.f (fun b hb hn=>?_),fun b hb=>?_⟩
 ·rcases hn with hn|hn
  ·exact .inl hn
  ·rcases h.g b hn with h'|h'
   ·exact .inr h'
   ·omega
 ·rcases k.g b hb with h'|h'
  ·exact h.g b h'
  ·exact .inr (Nat.le_trans h.f.le h')
theorem Pst.behind (f:Fr Nowhere σ σ1) (k:Pst σ1 w u σ2 u2 L2):Pst σ w u σ2 u2 L2:=
 ⟨k.wr,f.mono (fun _ _ h=>h.elim) |>.trans k.f (fun _ _ h=>h),fun b hb=>(k.g b hb).imp id (fun h=>Nat.le_trans f.le h)⟩
theorem Pst.and (h:Pst σ w u σ1 u1 L1) (f:Fr Nowhere σ1 σ2):Pst σ w u σ2 u1 L1:=⟨h.wr.fr f h.f.tidy,h.f.trans f (fun _ _ h=>h.elim),h.g⟩
theorem Pst.off (h:Pst σ w u σ1 u1 L1) {b:Nat} (o:Off σ w u b):Off σ1 w u1 b:=⟨Nat.lt_of_lt_of_le o.1 h.f.le,o.2.1,fun hb=>(h.g b hb).elim o.2.2 (by have:=o.1;omega)⟩
theorem Pst.at_ (h:Pst σ w u σ1 u1 L1) (ht:Tidy σ) {b:Nat} {l:List V} (o:Off σ w u b) (ha:Atc σ b l):Atc σ1 b l:=h.f.at_ ha ht o.not
theorem Off.pw (h:Pw σ w u L) (ht:Tidy σ) {b:Nat} (hb:σ.next≤b) (hb':b<σ1.next):Off σ1 w u b:=
 ⟨hb',fun e=>by have:=h.at_.lt ht;omega,fun hn=>by have:=h.d.lt ht hn;omega⟩
end
section
variable {E:List (Nat × Blk)} {D:Den} {W:DrawFn} {N:Nat}
end
section
variable {E:List (Nat × Blk)} {D:Den} {W:DrawFn} {N:Nat}
theorem Pw.by_ {σ:H} {w:Nat} {u:V} {L:List Nat} (h:Pw σ w u L):By σ u (nI (pack L)):=by
 have d:=h.d
 rw[octs_all]at d
 have:=d.src
 unfold By
 rw[nI_length,pack_length];exact this
end
theorem mkN {σ:H} (ht:Tidy σ) (z:List V):∃σ1,newB σ (.cells z)=σ1∧Fr Nowhere σ σ1∧Atc σ1 σ.next z∧σ1.next=σ.next+1:=⟨_,rfl,Fr.new ht _,Atc_newB _,rfl⟩
theorem mkS {σ:H} {b:Nat} {l:List V} (ht:Tidy σ) (h:Atc σ b l) (z:List V):∃σ1,setF σ b (.cells z)=σ1∧Fr (fun k=>k=b) σ σ1∧Atc σ1 b z:=⟨_,rfl,Fr.set ht (h.lt ht) _,Atc_setF _⟩
def letB (c:Nat):Bool:=(decide (97≤c)&&decide (c≤122)) || (decide (65≤c)&&decide (c≤90))
def digB (c:Nat):Bool:=decide (48≤c)&&decide (c≤57)
def isWs (c:Nat):Bool:=((decide (c=32) || decide (c=9)) || decide (c=10)) || decide (c=13)
def dash (c:Nat) (r:List Nat):Bool:=decide (c=45)&&decide (r.headD 0=45)
def rmk:List Nat→List Nat
 | []=>[]
 | c::r=>match decide (c=10)with
  | true=>c::r
  | false=>match dash c r with
   | true=>r.drop 1
   | false=>rmk r
def wht:Nat→List Nat→List Nat
 | 0,r=>r
 | _+1,[]=>[]
 | n+1,c::r=>match isWs c with
  | true=>wht n r
  | false=>match dash c r with
   | true=>wht n (rmk (r.drop 1))
   | false=>c::r
theorem rmk_le:∀r:List Nat,(rmk r).length≤r.length
 | []=>Nat.le_refl _
 | c::r=>by
  unfold rmk
  have:=rmk_le r
  split
  ·exact Nat.le_refl _
  ·split
   ·simp;omega
   ·simp;omega
theorem wht_le:∀(n:Nat) (r:List Nat),(wht n r).length≤r.length
 | 0,_=>Nat.le_refl _
 | _+1,[]=>Nat.le_refl _
 | n+1,c::r=>by
  unfold wht
  split
  ·exact Nat.le_succ_of_le (wht_le n r)
  ·split
   ·have h1:=wht_le n (rmk (r.drop 1))
    have h2:=rmk_le (r.drop 1)
    simp only[List.length_cons,List.length_drop]at *;omega
   ·exact Nat.le_refl _
structure At5 (s:BS) (i:Nat) (r:List Nat):Prop where
 r:Rst s i r
 few:s.len≤10000
section
variable {s:BS} {i c:Nat} {r:List Nat}
theorem At5.len (h:At5 s i r):i+r.length=s.len:=h.r.len
theorem At5.le (h:At5 s i r):i≤10000:=by have:=h.len;have:=h.few;omega
theorem At5.tl (h:At5 s i (c::r)):At5 s (i+1) r:=⟨h.r.tail,h.few⟩
theorem At5.dr (h:At5 s i r) {k:Nat} (hk:k≤r.length):At5 s (i+k) (r.drop k):=⟨h.r.drop hk,h.few⟩
theorem At5.lt (h:At5 s i (c::r)):i<s.len:=by have:=h.len;simp at this;omega
theorem At5.ix (h:At5 s i (c::r)) (κ:Int→Ans):idxStrX s (Int.ofNat i) κ=κ (Int.ofNat c):=by
 rw[idxStrX_nat h.lt]
 have:=h.r.getD_lt (k:=0) h.lt
 rw[Nat.add_zero]at this
 rw[←this];rfl
theorem At5.nil (h:At5 s i []):i=s.len:=by have:=h.len;simpa using this
theorem At5.hd (h:At5 s i r) (κ:Int→Ans) (hi:i<s.len):idxStrX s (Int.ofNat i) κ=κ (Int.ofNat (r.headD 0)):=by
 cases r with
 | nil=>have:=h.nil;omega
 | cons c r=>exact h.ix κ
end
def SpRat (F:List V→H→Ans):Prop:=∀(σ:H) (s:BS) (i:Nat) (r:List Nat),At5 s i r→F [.str s,.int .i64 (Int.ofNat i)] σ=some (.int .u8 (Int.ofNat (r.headD 0)),σ)
def SpLet (F:List V→H→Ans):Prop:=∀(σ:H) (c:Nat),F [.int .u8 (Int.ofNat c)] σ=some (.bool (letB c),σ)
def SpDig (F:List V→H→Ans):Prop:=∀(σ:H) (c:Nat),F [.int .u8 (Int.ofNat c)] σ=some (.bool (digB c),σ)
def SpWht (N:Nat) (F:List V→H→Ans):Prop:=∀(σ:H) (s:BS) (i:Nat) (r:List Nat),At5 s i r→∃k,k≤r.length∧wht N r=r.drop k∧F [.str s,.int .i64 (Int.ofNat i)] σ=some (.int .i64 (Int.ofNat (i+k)),σ)
section
variable {E:List (Nat × Blk)} {D:Den} {W:DrawFn} {N:Nat}
theorem rat_F:SpRat (F205 E D W N):=by
 intro σ s i r h
 show T205_0 E D W s (Int.ofNat i) σ=_
 unfold T205_0
 cases r with
 | nil=>
  have d2:decide (s.len≤i)=true:=decide_eq_true (by have:=h.nil;omega)
  simp -implicitDefEqProofs only [↓rP,rA,Nat.reduceEqDiff,Nat.reduceLT,Nat.reduceLeDiff,Nat.not_lt_zero,d2]
  rfl
 | cons c r=>
  have d2:decide (s.len≤i)=false:=decide_eq_false (by have:=h.lt;omega)
  have e:=h.ix
  simp -implicitDefEqProofs only [↓rP,rA,Nat.reduceEqDiff,Nat.reduceLT,Nat.reduceLeDiff,Nat.not_lt_zero,d2,↓e]
  rfl
theorem rlet_F:SpLet (F206 E D W N):=by
 intro σ c
 show T206_0 E D W (Int.ofNat c) σ=_
 unfold T206_0 letB
 simp -implicitDefEqProofs only [cells_agg,cells_int,cells_ptr,allOne_cons,allOne_nil,one_int,one_bool,one_str,one_nils,one_sl,one_ptr,Bool.and_true,chk_t,nthK_zero,nthK_succ,subK_2,subK_4,subK_5,subK_6,subK_13,subK_con,rtInt_int,rtBool_bool,rtStr_str,rtPtr_ptr,rtAgg_agg,rtTup_tup,rtCons_cons,rtNil_nil,rtOne_nils,rtOne_pt,rtOne_sl,slenK_nils,slenK_sl,callK_some_,condK_true,condK_false,join_or,join_and,join_id,Nat.add_eq,Nat.zero_add,Bool.not_true,Bool.not_false,rC,rQ,decide_false,decide_true,Nat.reduceEqDiff,Nat.reduceLT,Nat.reduceLeDiff]
theorem rdig_F:SpDig (F209 E D W N):=by
 intro σ c
 show T209_0 E D W (Int.ofNat c) σ=_
 unfold T209_0 digB
 simp -implicitDefEqProofs only [cells_agg,cells_int,cells_ptr,allOne_cons,allOne_nil,one_int,one_bool,one_str,one_nils,one_sl,one_ptr,Bool.and_true,chk_t,nthK_zero,nthK_succ,subK_2,subK_4,subK_5,subK_6,subK_13,subK_con,rtInt_int,rtBool_bool,rtStr_str,rtPtr_ptr,rtAgg_agg,rtTup_tup,rtCons_cons,rtNil_nil,rtOne_nils,rtOne_pt,rtOne_sl,slenK_nils,slenK_sl,callK_some_,condK_true,condK_false,join_or,join_and,join_id,Nat.add_eq,Nat.zero_add,Bool.not_true,Bool.not_false,rC,rQ,decide_false,decide_true,Nat.reduceEqDiff,Nat.reduceLT,Nat.reduceLeDiff]
theorem rmk_L (hA:SpRat (D 205)) (K:BS→Int→H→Ans) (σ:H) (s:BS):∀(r:List Nat) (n i:Nat),r.length<n→At5 s i r→∃k,k≤r.length∧rmk r=r.drop k∧L117_3 E D W N K n s (Int.ofNat i) σ=K s (Int.ofNat (i+k)) σ
 | [],n,i,hn,h=>by
  obtain⟨n,rfl⟩:∃m,n=m+1:=⟨n-1,by omega⟩
  refine⟨0,Nat.le_refl _,rfl,?_⟩
  show T117_3 E D W K _ s (Int.ofNat i) σ=_
  have d1:decide (i<s.len)=false:=decide_eq_false (by have:=h.nil;omega)
  have key:∀R,T117_3 E D W K R s (Int.ofNat i) σ=K s (Int.ofNat i) σ:=by
   intro R
   unfold T117_3
   simp -implicitDefEqProofs only [↓rP,rA,Nat.reduceEqDiff,Nat.reduceLT,Nat.reduceLeDiff,d1]
  exact key _
 | c::r,n,i,hn,h=>by
  obtain⟨n,rfl⟩:∃m,n=m+1:=⟨n-1,by omega⟩
  have e:=h.ix
  have hl:=h.lt
  have hle:=h.le
  have d1:decide (i<s.len)=true:=decide_eq_true hl
  have g:=hA σ s (i+1) r h.tl
  have a1:addF .i64 (Int.ofNat i) (Int.ofNat 1)=Int.ofNat (i+1):=addF_nat (by omega)
  have a2:addF .i64 (Int.ofNat i) (Int.ofNat 2)=Int.ofNat (i+2):=addF_nat (by omega)
  show ∃k,k≤_∧rmk (c::r)=_∧T117_3 E D W K (L117_3 E D W N K n) s (Int.ofNat i) σ=_
  by_cases h10:c=10
  ·refine⟨0,Nat.zero_le _,by unfold rmk;rw[decide_eq_true h10];rfl,?_⟩
   have d2:decide (c=10)=true:=decide_eq_true h10
   have key:∀R,T117_3 E D W K R s (Int.ofNat i) σ=K s (Int.ofNat i) σ:=by
    intro R
    unfold T117_3
    simp -implicitDefEqProofs only [↓rP,rA,Nat.reduceEqDiff,Nat.reduceLT,Nat.reduceLeDiff,d1,↓e,d2]
   exact key _
  ·have d2:decide (c=10)=false:=decide_eq_false h10
   cases hd:dash c r with
   | true=>
    obtain⟨k,hk,hk'⟩:∃k,k≤(c::r).length∧rmk (c::r)=(c::r).drop 2:=by
     refine⟨0,Nat.zero_le _,?_⟩
     unfold rmk;rw[d2,hd];rfl
    have hr:r≠[]:=fun e=>by subst e;simp[dash]at hd
    refine⟨2,by cases r with | nil=>exact absurd rfl hr | cons _ _=>simp,hk',?_⟩
    unfold dash at hd
    rw[Bool.and_eq_true]at hd
    have key:∀R,T117_3 E D W K R s (Int.ofNat i) σ=K s (Int.ofNat (i+2)) σ:=by
     intro R
     unfold T117_3
     simp -implicitDefEqProofs only [↓rP,rA,Nat.reduceEqDiff,Nat.reduceLT,Nat.reduceLeDiff,d1,↓e,d2,hd.1,a1,a2,↓g,hd.2]
    exact key _
   | false=>
    obtain⟨k,h1,h2,h3⟩:=rmk_L hA K σ s r n (i+1) (by simp at hn;omega) h.tl
    refine⟨k+1,by simp;omega,by unfold rmk;rw[d2,hd];exact h2,?_⟩
    unfold dash at hd
    have key:∀R,T117_3 E D W K R s (Int.ofNat i) σ=R s (Int.ofNat (i+1)) σ:=by
     intro R
     unfold T117_3
     cases h45:decide (c=45)with
     | true=>
      rw[h45,Bool.true_and]at hd
      simp -implicitDefEqProofs only [↓rP,rA,Nat.reduceEqDiff,Nat.reduceLT,Nat.reduceLeDiff,d1,↓e,d2,h45,a1,↓g,hd]
     | false=>simp -implicitDefEqProofs only [↓rP,rA,Nat.reduceEqDiff,Nat.reduceLT,Nat.reduceLeDiff,d1,↓e,d2,h45,a1]
    rw[key,h3,show i+1+k=i+(k+1)by omega]
theorem wht_L (hA:SpRat (D 205)) (hN:10000<N) (σ:H) (s:BS):∀(n:Nat) (r:List Nat) (i:Nat),r.length<n→At5 s i r→∃k,k≤r.length∧wht n r=r.drop k∧L117_2 E D W N n s (Int.ofNat i) σ=some (.int .i64 (Int.ofNat (i+k)),σ)
 | 0,r,i,hn,h=>by omega
 | n+1,[],i,hn,h=>by
  refine⟨0,Nat.le_refl _,rfl,?_⟩
  show T117_2 E D W (J117_1 E D W N) (L117_3 E D W N (L117_2 E D W N n) N) (L117_2 E D W N n) s (Int.ofNat i) σ=_
  have d1:decide (i<s.len)=false:=decide_eq_false (by have:=h.nil;omega)
  have key:∀K3 R,T117_2 E D W (T117_1 E D W) K3 R s (Int.ofNat i) σ=some (.int .i64 (Int.ofNat i),σ):=by
   intro K3 R
   unfold T117_2 T117_1
   simp -implicitDefEqProofs only [↓rP,rA,Nat.reduceEqDiff,Nat.reduceLT,Nat.reduceLeDiff,d1]
  exact key _ _
 | n+1,c::r,i,hn,h=>by
  have e:=h.ix
  have hl:=h.lt
  have hle:=h.le
  have d1:decide (i<s.len)=true:=decide_eq_true hl
  have g:=hA σ s (i+1) r h.tl
  have a1:addF .i64 (Int.ofNat i) (Int.ofNat 1)=Int.ofNat (i+1):=addF_nat (by omega)
  have a2:addF .i64 (Int.ofNat i) (Int.ofNat 2)=Int.ofNat (i+2):=addF_nat (by omega)
  show ∃k,k≤_∧wht (n+1) (c::r)=_∧T117_2 E D W (J117_1 E D W N) (L117_3 E D W N (L117_2 E D W N n) N) (L117_2 E D W N n) s (Int.ofNat i) σ=_
  have key:∀K1 K3 R,T117_2 E D W K1 K3 R s (Int.ofNat i) σ=condK (isWs c) (R s (Int.ofNat (i+1)) σ) (condK (dash c r) (K3 s (Int.ofNat (i+2)) σ) (some (.int .i64 (Int.ofNat i),σ))):=by
   intro K1 K3 R
   unfold T117_2 isWs dash
   simp -implicitDefEqProofs only [cells_agg,cells_int,cells_ptr,allOne_cons,allOne_nil,one_int,one_bool,one_str,one_nils,one_sl,one_ptr,Bool.and_true,chk_t,nthK_zero,nthK_succ,subK_2,subK_4,subK_5,subK_6,subK_13,subK_con,rtInt_int,rtBool_bool,rtStr_str,rtPtr_ptr,rtAgg_agg,rtTup_tup,rtCons_cons,rtNil_nil,rtOne_nils,rtOne_pt,rtOne_sl,slenK_nils,slenK_sl,callK_some_,condK_true,condK_false,join_or,join_and,join_id,Nat.add_eq,Nat.zero_add,Bool.not_true,Bool.not_false,rC,rQ,decide_false,decide_true,Nat.reduceEqDiff,Nat.reduceLT,Nat.reduceLeDiff,d1,e,a1,a2,g]
  rw[key]
  cases hw:isWs c with
  | true=>
   obtain⟨k,h1,h2,h3⟩:=wht_L hA hN σ s n r (i+1) (by simp at hn;omega) h.tl
   refine⟨k+1,by simp;omega,by unfold wht;rw[hw];exact h2,?_⟩
   rw[condK_true,h3,show i+1+k=i+(k+1)by omega]
  | false=>
   rw[condK_false]
   cases hd:dash c r with
   | true=>
    have hr:r≠[]:=fun e=>by subst e;simp[dash]at hd
    have hr1:1≤r.length:=by cases r with | nil=>exact absurd rfl hr | cons _ _=>simp
    have h2':At5 s (i+2) (r.drop 1):=h.tl.dr hr1
    obtain⟨k,h1,h2,h3⟩:=rmk_L (E:=E) (W:=W) (N:=N) hA (L117_2 E D W N n) σ s (r.drop 1) N (i+2) (by have:=h.len;have:=h.few;simp only[List.length_cons,List.length_drop]at *;omega) h2'
    have h4:=h2'.dr h1
    rw[←h2]at h4
    have hle':=rmk_le (r.drop 1)
    obtain⟨j,h5,h6,h7⟩:=wht_L hA hN σ s n (rmk (r.drop 1)) (i+2+k) (by simp only[List.length_cons,List.length_drop]at *;omega) h4
    have hkl:(rmk (r.drop 1)).length=r.length-1-k:=by rw[h2];simp only[List.length_drop]
    simp only[List.length_drop]at h1
    refine⟨2+k+j,by simp only[List.length_cons];omega,?_,?_⟩
    ·unfold wht
     rw[hw,hd]
     show wht n (rmk (r.drop 1))=_
     rw[h6,h2,List.drop_drop,List.drop_drop,show 2+k+j=(1+(k+j))+1 by omega,List.drop_succ_cons]
    ·rw[condK_true,h3,h7,show i+2+k+j=i+(2+k+j)by omega]
   | false=>exact⟨0,Nat.zero_le _,by unfold wht;rw[hw,hd];rfl,by rw[condK_false];rfl⟩
theorem wht_F (hA:SpRat (D 205)) (hN:10000<N):SpWht N (F117 E D W N):=by
 intro σ s i r h
 obtain⟨k,h1,h2,h3⟩:=wht_L (E:=E) (W:=W) hA hN σ s N r i (by have:=h.len;have:=h.few;omega) h
 exact⟨k,h1,h2,h3⟩
end
def wordsV:List BS:=[BS.mk 11 100710650190388740279911748,BS.mk 8 6073459554577832005,BS.mk 8 6073459554577829193,BS.mk 9 1241215773001651606849,BS.mk 4 1397178708,BS.mk 5 336236856642,BS.mk 3 4476485,BS.mk 7 22026814072246082,BS.mk 7 23157120498421321,BS.mk 10 322399817400452109389381,BS.mk 4 1280070990,BS.mk 5 361940403023,BS.mk 6 78401563153491,BS.mk 10 488440487847103610377301,BS.mk 8 4990918871747741011,BS.mk 3 5522771,BS.mk 6 76155295057987,BS.mk 2 17999,BS.mk 8 5494759122808361039,BS.mk 7 23727827094750532,BS.mk 4 1163544915,BS.mk 3 5130573,BS.mk 3 5783885,BS.mk 4 1163219540,BS.mk 5 297750249798]
def signsV:List BS:=[BS.mk 3 4012602,BS.mk 3 3026478,BS.mk 2 11822,BS.mk 2 23387,BS.mk 2 23901,BS.mk 1 123,BS.mk 1 125,BS.mk 1 91,BS.mk 1 93,BS.mk 1 40,BS.mk 1 41,BS.mk 1 44,BS.mk 1 58]
def wdB (t:BS):Bool:=wordsV.any fun w=>w.beq t
def nmC (c:Nat) (r:List Nat):Bool:=(letB c || digB c) || (decide (c=45) && !decide (r.headD 0=45))
def nmL:List Nat→Nat
 | []=>0
 | c::r=>match nmC c r with
  | true=>nmL r+1
  | false=>0
def nmBad (w:List Nat):Bool:=decide (w.getD (w.length-1) 0=45) || decide (60<w.length)
def sgIn:List BS→List Nat→Nat
 | [],_=>0
 | t::l,r=>match decide (t.len≤r.length)&&decide (r.take t.len=t.nats)with
  | true=>t.len
  | false=>sgIn l r
def valD:Nat→List Nat→Nat
 | a,[]=>a
 | a,d::l=>valD (10*a+(d-48)) l
structure NumOk (m:Bool) (ds r:List Nat):Prop where
 dig:∀d∈ds,digB d=true
 n1:1≤ds.length
 n19:ds.length≤19
 lead:ds.length=1∨ds.headD 0≠48
 mi:m=true→ds.headD 0≠48
 nd:digB (r.headD 0)=false
 nl:letB (r.headD 0)=false
 v:valD 0 ds≤9223372036854775808
 vp:m=false→valD 0 ds<9223372036854775808
def numT (m:Bool) (ds:List Nat):List Nat:=if m=true then 45::ds else ds
theorem nmL_cons (c:Nat) (r:List Nat):nmL (c::r)=match nmC c r with
 | true=>nmL r+1
 | false=>0:=rfl
theorem sgIn_cons (t:BS) (l:List BS) (r:List Nat):sgIn (t::l) r=match decide (t.len≤r.length)&&decide (r.take t.len=t.nats)with
 | true=>t.len
 | false=>sgIn l r:=rfl
theorem nmL_le:∀r:List Nat,nmL r≤r.length
 | []=>Nat.le_refl _
 | c::r=>by
  unfold nmL
  have:=nmL_le r
  split<;>simp only[List.length_cons]<;>omega
def SpInS (F:List V→H→Ans):Prop:=∀(σ:H) (v:V) (l:List BS) (b:BS),Src σ 1 l.length v (l.map .str)→l.length≤9000→F [v,.str b] σ=some (.bool (l.any fun x=>x.beq b),σ)
def SpRword (F:List V→H→Ans):Prop:=∀(σ:H) (b:BS),Tidy σ→∃σ',F [.str b] σ=some (.bool (wdB b),σ')∧Fr Nowhere σ σ'
def SpRname (F:List V→H→Ans):Prop:=∀(σ:H) (s:BS) (i c:Nat) (r:List Nat),At5 s i (c::r)→letB c=true →
 F [.str s,.int .i64 (Int.ofNat i)] σ=some (.int .i64 (if nmBad ((c::r).take (nmL (c::r)))=true then Int.negSucc 0 else Int.ofNat (i+nmL (c::r))),σ)
def SpRsign (F:List V→H→Ans):Prop:=∀(σ:H) (s:BS) (i:Nat) (r:List Nat),Tidy σ→At5 s i r→∃σ',F [.str s,.int .i64 (Int.ofNat i)] σ=some (.int .i64 (Int.ofNat (sgIn signsV r)),σ')∧Fr Nowhere σ σ'
def SpRnum (F:List V→H→Ans):Prop:=∀(σ:H) (s:BS) (i:Nat) (m:Bool) (ds r:List Nat),At5 s i (numT m ds++r)→NumOk m ds r →
 F [.str s,.int .i64 (Int.ofNat i)] σ=some (.int .i64 (Int.ofNat (i+(numT m ds).length)),σ)
section
variable {E:List (Nat × Blk)} {D:Den} {W:DrawFn} {N:Nat}
theorem inS_F (hN:10000<N):SpInS (F123 E D W N):=by
 intro σ v l b hv hl
 have key:∀(m i n:Nat),i+m=l.length→m<n→L123_2 E D W N n v b (Int.ofNat i) σ=some (.bool ((l.drop i).any fun x=>x.beq b),σ):=by
  intro m
  induction m with
  | zero=>
   intro i n hi hn
   obtain⟨n,rfl⟩:∃k,n=k+1:=⟨n-1,by omega⟩
   rw[List.drop_eq_nil_of_le (by omega)]
   show T123_2 E D W (T123_1 E D W) _ v b (Int.ofNat i) σ=_
   have d1:decide (i<l.length)=false:=decide_eq_false (by omega)
   have sl:∀κ:Nat→Ans,slenK v κ=κ l.length:=fun κ=>hv.slen
   have k:∀R,T123_2 E D W (T123_1 E D W) R v b (Int.ofNat i) σ=some (.bool false,σ):=by
    intro R
    unfold T123_2 T123_1
    simp -implicitDefEqProofs only [↓rP,rA,Nat.reduceEqDiff,Nat.reduceLT,Nat.reduceLeDiff,↓sl,d1]
   exact k _
  | succ m ih=>
   intro i n hi hn
   obtain⟨n,rfl⟩:∃k,n=k+1:=⟨n-1,by omega⟩
   have hlt:i<l.length:=by omega
   rw[List.drop_eq_getElem_cons hlt,List.any_cons]
   show T123_2 E D W (T123_1 E D W) (L123_2 E D W N n) v b (Int.ofNat i) σ=_
   have d1:decide (i<l.length)=true:=decide_eq_true hlt
   have sl:∀κ:Nat→Ans,slenK v κ=κ l.length:=fun κ=>hv.slen
   have rd:∀κ,iaddrSK 1 v (Int.ofNat i) (fun b o=>ldK E σ b o κ)=κ (.str l[i]):=fun κ=>by
    rcases hv with ⟨h0,_,_⟩|⟨bb,o,c,L,rfl,ha,hle,hm⟩
    ·omega
    ·rw[iaddrSK_lt hlt]
     refine ldK_get ha ?_
     have:(l.map V.str)[i]? = some (.str l[i]):=by rw[List.getElem?_map,List.getElem?_eq_getElem hlt];rfl
     rw[hm,List.getElem?_take,if_pos (by omega),List.getElem?_drop]at this
     show L[o+i*1]? = _
     rw[Nat.mul_one];exact this
   have k:∀K R,T123_2 E D W K R v b (Int.ofNat i) σ=condK (l[i].beq b) (some (.bool true,σ)) (R v b (Int.ofNat (i+1)) σ):=by
    intro K R
    unfold T123_2
    simp -implicitDefEqProofs only [↓rP,rA,Nat.reduceEqDiff,Nat.reduceLT,Nat.reduceLeDiff,↓sl,d1,↓rd,addF_nat (show i+1≤9223372036854775807 by omega)]
   rw[k,ih (i+1) n (by omega) (by omega)]
   cases l[i].beq b<;>rfl
 exact key l.length 0 N (by omega) (by omega)
theorem rword_F (hI:SpInS (D 123)) (hW:∀σ:H,D 274 [] σ=some (.sl σ.next 0 25 (.ex 25),newB σ (.cells (wordsV.map .str)))):SpRword (F208 E D W N):=by
 intro σ b ht
 obtain⟨σ1,e1,f1,a1,n1⟩:=mkN ht (wordsV.map .str)
 have g0:=hW σ
 rw[e1]at g0
 have g1:=hI σ1 (.sl σ.next 0 25 (.ex 25)) wordsV b (.inr ⟨σ.next,0,_,_,rfl,a1,by decide,rfl⟩) (by decide)
 refine⟨σ1,?_,f1⟩
 show T208_0 E D W b σ=_
 unfold T208_0
 simp -implicitDefEqProofs only [↓rP,rS,↓g0,↓g1]
 rfl
theorem rwords_F:∀σ:H,F274 E D W N [] σ=some (.sl σ.next 0 25 (.ex 25),newB σ (.cells (wordsV.map .str))):=fun _=>rfl
theorem nm_L (hA:SpRat (D 205)) (hL:SpLet (D 206)) (hD:SpDig (D 209)) (σ:H) (s:BS) (f:Int):∀(r:List Nat) (n i:Nat),r.length<n→At5 s i r→L207_2 E D W N n s (Int.ofNat i) f σ=J207_1 E D W N s (Int.ofNat (i+nmL r)) f σ
 | [],n,i,hn,h=>by
  obtain⟨n,rfl⟩:∃m,n=m+1:=⟨n-1,by omega⟩
  show T207_2 E D W (J207_1 E D W N) _ s (Int.ofNat i) f σ=_
  have d1:decide (i<s.len)=false:=decide_eq_false (by have:=h.nil;omega)
  have key:∀K R,T207_2 E D W K R s (Int.ofNat i) f σ=K s (Int.ofNat i) f σ:=by
   intro K R
   unfold T207_2
   simp -implicitDefEqProofs only [↓rP,rA,Nat.reduceEqDiff,Nat.reduceLT,Nat.reduceLeDiff,d1]
  exact key _ _
 | c::r,n,i,hn,h=>by
  obtain⟨n,rfl⟩:∃m,n=m+1:=⟨n-1,by omega⟩
  have e:=h.ix
  have hle:=h.le
  have d1:decide (i<s.len)=true:=decide_eq_true h.lt
  have g:=hA σ s (i+1) r h.tl
  have g1:=hL σ c
  have g2:=hD σ c
  have a1:addF .i64 (Int.ofNat i) (Int.ofNat 1)=Int.ofNat (i+1):=addF_nat (by omega)
  show T207_2 E D W (J207_1 E D W N) (L207_2 E D W N n) s (Int.ofNat i) f σ=_
  have key:∀K R,T207_2 E D W K R s (Int.ofNat i) f σ=condK (nmC c r) (R s (Int.ofNat (i+1)) f σ) (K s (Int.ofNat i) f σ):=by
   intro K R
   unfold T207_2 nmC
   cases h1:letB c<;>cases h2:digB c<;>cases h3:decide (c=45)<;>simp -implicitDefEqProofs only [↓rP,rA,Nat.reduceEqDiff,Nat.reduceLT,Nat.reduceLeDiff,d1,↓e,↓g1,↓g2,h1,h2,h3,a1,↓g]<;>rfl
  rw[key]
  cases hc:nmC c r with
  | true=>
   rw[condK_true,nm_L hA hL hD σ s f r n (i+1) (by simp at hn;omega) h.tl]
   rw[nmL_cons,hc]
   show J207_1 E D W N s (Int.ofNat (i+1+nmL r)) f σ=J207_1 E D W N s (Int.ofNat (i+(nmL r+1))) f σ
   rw[show i+1+nmL r=i+(nmL r+1)by omega]
  | false=>rw[condK_false,nmL_cons,hc];rfl
theorem rname_F (hA:SpRat (D 205)) (hL:SpLet (D 206)) (hD:SpDig (D 209)) (hN:10000<N):SpRname (F207 E D W N):=by
 intro σ s i c r h hc
 have hle:=h.le
 have hlen:=h.len
 have hfew:=h.few
 have hm:=nmL_le (c::r)
 have h1:nmC c r=true:=by unfold nmC;rw[hc];rfl
 have h0:1≤nmL (c::r):=by unfold nmL;rw[h1];exact Nat.succ_pos _
 obtain⟨m,hm'⟩:∃m,nmL (c::r)=m:=⟨_,rfl⟩
 rw[hm']at hm h0 ⊢
 have lt:((c::r).take m).length=m:=by rw[List.length_take];omega
 have h5:At5 s (i+(m-1)) ((c::r).drop (m-1)):=h.dr (by omega)
 have hd:((c::r).drop (m-1)).headD 0=((c::r).take m).getD (m-1) 0:=by
  rw[List.getD_eq_getElem?_getD,List.getElem?_take,if_pos (by omega),List.headD_eq_head?_getD,List.head?_drop]
 have e:=fun κ=>h5.hd κ (by omega)
 rw[hd]at e
 have a1:subF .i64 (Int.ofNat (i+m)) (Int.ofNat 1)=Int.ofNat (i+(m-1)):=by rw[subF_nat (by omega) (by omega),show i+m-1=i+(m-1)by omega]
 have a2:subF .i64 (Int.ofNat (i+m)) (Int.ofNat i)=Int.ofNat m:=by rw[subF_nat (by omega) (by omega),show i+m-i=m by omega]
 show L207_2 E D W N N s (Int.ofNat i) (Int.ofNat i) σ=_
 rw[nm_L hA hL hD σ s _ (c::r) N i (by omega) h,hm']
 show T207_1 E D W s (Int.ofNat (i+m)) (Int.ofNat i) σ=_
 unfold T207_1 nmBad
 rw[lt]
 cases h6:decide (((c::r).take m).getD (m-1) 0=45)<;>cases h7:decide (60<m)<;>simp -implicitDefEqProofs only [↓rP,rA,Nat.reduceEqDiff,Nat.reduceLT,Nat.reduceLeDiff,a1,a2,↓e,h6,h7]<;>rfl
theorem sg_L (hN:100<N) (σ:H) (r:List Nat) (hb:∀c∈r,c<256) (b:Nat) (ha:Atc σ b (signsV.map .str)):∀(m j n:Nat),j+m=13→m<n→L213_2 E D W N n (ofN r) (.sl b 0 13 (.ex 13)) (Int.ofNat j) σ=some (.int .i64 (Int.ofNat (sgIn (signsV.drop j) r)),σ)
 | 0,j,n,hj,hn=>by
  obtain⟨n,rfl⟩:∃k,n=k+1:=⟨n-1,by omega⟩
  obtain rfl:j=13:=by omega
  show T213_2 E D W (T213_1 E D W) _ (ofN r) (.sl b 0 13 (.ex 13)) (Int.ofNat 13) σ=_
  have key:∀R,T213_2 E D W (T213_1 E D W) R (ofN r) (.sl b 0 13 (.ex 13)) (Int.ofNat 13) σ=some (.int .i64 (Int.ofNat 0),σ):=by
   intro R
   unfold T213_2 T213_1
   simp -implicitDefEqProofs only [↓rP,rA,Nat.reduceEqDiff,Nat.reduceLT,Nat.reduceLeDiff,Nat.lt_irrefl]
  exact key _
 | m+1,j,n,hj,hn=>by
  obtain⟨n,rfl⟩:∃k,n=k+1:=⟨n-1,by omega⟩
  have hl:j<signsV.length:=by show j<13;omega
  rw[List.drop_eq_getElem_cons hl]
  have d1:decide (j<13)=true:=decide_eq_true (by omega)
  have rd:∀κ,iaddrSK 1 (.sl b 0 13 (.ex 13)) (Int.ofNat j) (fun b o=>ldK E σ b o κ)=κ (.str signsV[j]):=fun κ=>by
   rw[iaddrSK_lt (show j<13 by omega)]
   refine ldK_get ha ?_
   show (signsV.map V.str)[0+j*1]? = _
   rw[Nat.zero_add,Nat.mul_one,List.getElem?_map,List.getElem?_eq_getElem hl];rfl
  show T213_2 E D W (T213_1 E D W) (L213_2 E D W N n) (ofN r) (.sl b 0 13 (.ex 13)) (Int.ofNat j) σ=_
  have ih:=sg_L hN σ r hb b ha m (j+1) n (by omega) (by omega)
  generalize signsV[j]=t at rd ⊢
  have key:∀K R,T213_2 E D W K R (ofN r) (.sl b 0 13 (.ex 13)) (Int.ofNat j) σ=condK (decide (t.len≤r.length)&&decide (r.take t.len=t.nats)) (some (.int .i64 (Int.ofNat t.len),σ)) (R (ofN r) (.sl b 0 13 (.ex 13)) (Int.ofNat (j+1)) σ):=by
   intro K R
   have hn':(ofN r).len=r.length:=ofN_len r
   unfold T213_2
   by_cases h1:t.len≤r.length
   ·have sp:∀κ,sliceStrX (ofN r) none (some (.int .i64 (Int.ofNat t.len))) κ=κ ((ofN r).sub 0 t.len):=fun κ=>sliceStrX_to (by rw[hn'];exact h1)
    have eb:((ofN r).sub 0 t.len).beq t=decide (r.take t.len=t.nats):=by
     rw[BS.beq_nats,BS.nats_sub (by rw[hn'];exact h1),ofN_nats hb,List.drop_zero,Nat.sub_zero]
    simp -implicitDefEqProofs only [↓rP,rA,Nat.reduceEqDiff,Nat.reduceLT,Nat.reduceLeDiff,d1,↓rd,hn',decide_eq_true h1,↓sp,eb,addF_nat (show j+1≤9223372036854775807 by omega)]
   ·simp -implicitDefEqProofs only [↓rP,rA,Nat.reduceEqDiff,Nat.reduceLT,Nat.reduceLeDiff,d1,↓rd,hn',decide_eq_false h1,addF_nat (show j+1≤9223372036854775807 by omega)]
  rw[key,ih,sgIn_cons]
  cases decide (t.len≤r.length)&&decide (r.take t.len=t.nats)<;>rfl
theorem rsign_F (hN:100<N):SpRsign (F213 E D W N):=by
 intro σ s i r ht h
 obtain⟨σ1,e1,f1,a1,n1⟩:=mkN ht (signsV.map .str)
 refine⟨σ1,?_,f1⟩
 have sp:∀κ,sliceStrX s (some (.int .i64 (Int.ofNat i))) none κ=κ (ofN r):=fun κ=>by
  rw[sliceStrX_from (by have:=h.len;omega),h.r.subAll]
 have g:=sg_L (E:=E) (D:=D) (W:=W) (N:=N) hN σ1 r h.r.bd σ.next a1 13 0 N rfl (by omega)
 unfold signsV at e1
 simp only[List.map_cons,List.map_nil]at e1
 show T213_0 E D W (L213_2 E D W N N) s (Int.ofNat i) σ=_
 have key:∀K,T213_0 E D W K s (Int.ofNat i) σ=K (ofN r) (.sl σ.next 0 13 (.ex 13)) (Int.ofNat 0) σ1:=by
  intro K
  unfold T213_0
  simp -implicitDefEqProofs only [↓rP,rS,↓sp,↓e1]
 rw[key]
 exact g
end
theorem valD_ge (l:List Nat):∀a:Nat,a≤valD a l:=by
 induction l with
 | nil=>intro a;exact Nat.le_refl a
 | cons d l ih=>
  intro a
  have:=ih (10*a+(d-48))
  show a≤valD (10*a+(d-48)) l
  omega
theorem digB_of {c:Nat} (h:digB c=true):48≤c∧c≤57:=by
 unfold digB at h
 rwa [Bool.and_eq_true,decide_eq_true_eq,decide_eq_true_eq]at h
inductive Tk:List Nat→Nat→List Nat→List Nat→Prop
 | name {c:Nat} {r:List Nat} {k:Nat}:letB c=true→nmBad ((c::r).take (nmL (c::r)))=false→k=(if wdB (ofN ((c::r).take (nmL (c::r))))=true then 5 else if c≤90 then 1 else 2) →
   Tk (c::r) k ((c::r).take (nmL (c::r))) ((c::r).drop (nmL (c::r)))
 | num {m:Bool} {ds r:List Nat}:NumOk m ds r→Tk (numT m ds++r) 3 (numT m ds) r
 | sign {c:Nat} {r:List Nat}:letB c=false→digB c=false→(c=45→digB (r.headD 0)=false)→c≠39→c≠34→0<sgIn signsV (c::r) →
   Tk (c::r) 6 ((c::r).take (sgIn signsV (c::r))) ((c::r).drop (sgIn signsV (c::r)))
theorem sgIn_le:∀(l:List BS) (r:List Nat),sgIn l r≤r.length
 | [],_=>Nat.zero_le _
 | t::l,r=>by
  rw[sgIn_cons]
  cases h:decide (t.len≤r.length)&&decide (r.take t.len=t.nats)with
  | true=>
   rw[Bool.and_eq_true,decide_eq_true_eq]at h
   exact h.1
  | false=>exact sgIn_le l r
theorem Tk.app {r w r':List Nat} {k:Nat} (h:Tk r k w r'):r=w++r'∧0<w.length:=by
 cases h with
 | @name c r1 _ hc=>
  refine⟨(List.take_append_drop _ _).symm,?_⟩
  have h1:nmC c r1=true:=by unfold nmC;rw[hc];rfl
  have:=nmL_le (c::r1)
  rw[List.length_take,nmL_cons,h1]at *
  simp only[List.length_cons]at *;omega
 | num hn=>
  rename_i m ds
  have:=hn.n1
  exact⟨rfl,by unfold numT;split<;>(try simp only[List.length_cons])<;>omega⟩
 | @sign c r1 _ _ _ _ _ h0=>
  refine⟨(List.take_append_drop _ _).symm,?_⟩
  have:=sgIn_le signsV (c::r1)
  rw[List.length_take];omega
abbrev Tok:=Nat × List Nat × Nat
inductive Tks (N len:Nat):List Nat→List Tok→Prop
 | fin {r:List Nat}:wht N r=[]→Tks N len r [(0,[],len)]
 | one {r r1 w r2:List Nat} {k:Nat} {ts:List Tok}:wht N r=r1→Tk r1 k w r2→Tks N len r2 ts→Tks N len r ((k,w,len-r1.length)::ts)
def tkCells (ts:List Tok):List V:=ts.flatMap fun t=>[.int .i64 (Int.ofNat t.1),.str (ofN t.2.1),.int .i64 (Int.ofNat t.2.2)]
theorem tkCells_app (a b:List Tok):tkCells (a++b)=tkCells a++tkCells b:=List.flatMap_append
theorem Tks.len {N len:Nat} {r:List Nat} {ts:List Tok} (h:Tks N len r ts):ts.length≤r.length+1:=by
 induction h with
 | fin _=>exact Nat.succ_le_succ (Nat.zero_le _)
 | one h1 h2 _ ih=>
  rename_i r r1 w r2 k ts hh
  have h3:=wht_le N r
  obtain⟨h4,h5⟩:=h2.app
  rw[h1,h4,List.length_append]at h3
  simp only[List.length_cons];omega
def SpOne (F:List V→H→Ans):Prop:=∀(σ:H) (s:BS) (i k:Nat) (r w r':List Nat),Tidy σ→At5 s i r→Tk r k w r' →
 ∃σ',F [.str s,.int .i64 (Int.ofNat i)] σ=some (.tup [.agg [.int .i64 (Int.ofNat k),.str (ofN w),.int .i64 (Int.ofNat i)],.int .i64 (Int.ofNat (i+w.length))],σ')∧Fr Nowhere σ σ'
def SpTks (N:Nat) (F:List V→H→Ans):Prop:=∀(σ:H) (s:BS) (ts:List Tok),Tidy σ→s.len≤8000→Tks N s.len s.nats ts →
 ∃v σ',F [.str s] σ=some (.tup [v,.int .i64 (Int.ofNat 0),.int .i64 (Int.ofNat 0)],σ')∧Dst σ' 3 ts.length v (tkCells ts)∧(∀b,Names v b→σ.next≤b)∧Fr Nowhere σ σ'
section
variable {E:List (Nat × Blk)} {D:Den} {W:DrawFn} {N:Nat}
theorem num_L (hD:SpDig (D 209)) (σ:H) (s:BS) (m:Bool) (f:Nat) (r:List Nat) (hr:digB (r.headD 0)=false):∀(ds:List Nat) (n i k v:Nat),(∀d∈ds,digB d=true)→ds.length<n→At5 s i (ds++r)→i=f+k→k+ds.length≤19→valD v ds≤9223372036854775808 →
  L210_3 E D W N n s (Int.ofNat i) m (Int.ofNat f) (Int.ofNat v) σ=J210_2 E D W N s (Int.ofNat (i+ds.length)) m (Int.ofNat f) (Int.ofNat (valD v ds)) σ
 | [],n,i,k,v,hd,hn,h,hi,hk,hv=>by
  obtain⟨n,rfl⟩:∃j,n=j+1:=⟨n-1,by omega⟩
  show T210_3 E D W (J210_2 E D W N) _ s (Int.ofNat i) m (Int.ofNat f) (Int.ofNat v) σ=J210_2 E D W N s (Int.ofNat i) m (Int.ofNat f) (Int.ofNat v) σ
  have key:∀K R,T210_3 E D W K R s (Int.ofNat i) m (Int.ofNat f) (Int.ofNat v) σ=K s (Int.ofNat i) m (Int.ofNat f) (Int.ofNat v) σ:=by
   intro K R
   unfold T210_3
   cases r with
   | nil=>
    have d1:decide (i<s.len)=false:=decide_eq_false (by have:=h.nil;omega)
    simp -implicitDefEqProofs only [↓rP,rA,Nat.reduceEqDiff,Nat.reduceLT,Nat.reduceLeDiff,d1]
   | cons c r=>
    have d1:decide (i<s.len)=true:=decide_eq_true h.lt
    have e:=h.ix
    have g:=hD σ c
    have hr:digB c=false:=hr
    rw[hr]at g
    simp -implicitDefEqProofs only [↓rP,rA,Nat.reduceEqDiff,Nat.reduceLT,Nat.reduceLeDiff,d1,↓e,↓g]
  exact key _ _
 | c::ds,n,i,k,v,hd,hn,h,hi,hk,hv=>by
  obtain⟨n,rfl⟩:∃j,n=j+1:=⟨n-1,by omega⟩
  have hc:=hd c (List.mem_cons_self ..)
  have hc':=digB_of hc
  have hle:=h.le
  have e:=At5.ix (show At5 s i (c::(ds++r))from h)
  have hlt:=At5.lt (show At5 s i (c::(ds++r))from h)
  have htl:=At5.tl (show At5 s i (c::(ds++r))from h)
  have d1:decide (i<s.len)=true:=decide_eq_true hlt
  have g:=hD σ c
  rw[hc]at g
  have hv1:valD (10*v+(c-48)) ds≤9223372036854775808:=hv
  have hv2:=valD_ge ds (10*v+(c-48))
  simp only[List.length_cons]at hk hn
  have a1:addF .i64 (Int.ofNat i) (Int.ofNat 1)=Int.ofNat (i+1):=addF_nat (by omega)
  have a2:subF .i64 (Int.ofNat i) (Int.ofNat f)=Int.ofNat k:=by rw[subF_nat (by omega) (by omega),show i-f=k by omega]
  have a3:subF .u8 (Int.ofNat c) (Int.ofNat 48)=Int.ofNat (c-48):=by
   show wrapF .u8 (Int.ofNat c-Int.ofNat 48)=_
   rw[show Int.ofNat c-Int.ofNat 48=Int.ofNat (c-48)from(Int.ofNat_sub hc'.1).symm]
   exact wrapF_nat (show c-48≤255 by omega)
  have a4:wrapF .u64 (Int.ofNat (c-48))=Int.ofNat (c-48):=wrapF_nat (show c-48≤18446744073709551615 by omega)
  have a5:mulF .u64 (Int.ofNat 10) (Int.ofNat v)=Int.ofNat (10*v):=by
   show wrapF .u64 (Int.ofNat (10*v))=_
   exact wrapF_nat (show 10*v≤18446744073709551615 by omega)
  have a6:addF .u64 (Int.ofNat (10*v)) (Int.ofNat (c-48))=Int.ofNat (10*v+(c-48)):=by
   show wrapF .u64 (Int.ofNat (10*v+(c-48)))=_
   exact wrapF_nat (show 10*v+(c-48)≤18446744073709551615 by omega)
  have d2:decide (k<19)=true:=decide_eq_true (by omega)
  have ih:=num_L hD σ s m f r hr ds n (i+1) (k+1) (10*v+(c-48)) (fun d h=>hd d (List.mem_cons_of_mem _ h)) (by omega) htl (by omega) (by omega) hv1
  show T210_3 E D W (J210_2 E D W N) (T210_4 E D W (L210_3 E D W N n)) s (Int.ofNat i) m (Int.ofNat f) (Int.ofNat v) σ=J210_2 E D W N s (Int.ofNat (i+(ds.length+1))) m (Int.ofNat f) (Int.ofNat (valD (10*v+(c-48)) ds)) σ
  have key:∀K R,T210_3 E D W K (T210_4 E D W R) s (Int.ofNat i) m (Int.ofNat f) (Int.ofNat v) σ=R s (Int.ofNat (i+1)) m (Int.ofNat f) (Int.ofNat (10*v+(c-48))) σ:=by
   intro K R
   unfold T210_3 T210_4
   simp -implicitDefEqProofs only [↓rP,rA,Nat.reduceEqDiff,Nat.reduceLT,Nat.reduceLeDiff,d1,↓e,↓g,a1,a2,d2,a3,a4,a5,a6]
  rw[key,ih,show i+1+ds.length=i+(ds.length+1)by omega]
theorem rnum_F (hA:SpRat (D 205)) (hL:SpLet (D 206)) (hD:SpDig (D 209)) (hN:100<N):SpRnum (F210 E D W N):=by
  intro σ s i m ds r h hk
  have hle:=h.le
  have tail:∀f,At5 s f (ds++r)→f≤10001→J210_1 E D W N s (Int.ofNat f) m σ=some (.int .i64 (Int.ofNat (f+ds.length)),σ):=by
    intro f hf hfl
    show L210_3 E D W N N s (Int.ofNat f) m (Int.ofNat f) (Int.ofNat 0) σ=_
    have h19:=hk.n19
    have h1:=hk.n1
    rw[num_L hD σ s m f r hk.nd ds N f 0 0 hk.dig (by omega) hf rfl (by omega) hk.v]
    have hb:=hf.dr (k:=ds.length) (by simp)
    rw[List.drop_left]at hb
    have ga:=hA σ s (f+ds.length) r hb
    have gl:=hL σ (r.headD 0)
    rw[hk.nl]at gl
    have a2:subF .i64 (Int.ofNat (f+ds.length)) (Int.ofNat f)=Int.ofNat ds.length:=by rw[subF_nat (by omega) (by omega),show f+ds.length-f=ds.length by omega]
    have e:∀κ:Int→Ans,idxStrX s (Int.ofNat f) κ=κ (Int.ofNat (ds.headD 0)):=by
      obtain⟨d,l,rfl⟩:∃d l,ds=d::l:=by
        cases ds with
        | nil=>simp at h1
        | cons d l=>exact⟨d,l,rfl⟩
      exact At5.ix (show At5 s f (d::(l++r))from hf)
    have d1:decide (ds.length<1)=false:=decide_eq_false (by omega)
    have d2:decide (19<ds.length)=false:=decide_eq_false (by omega)
    have d6:decide (9223372036854775808<valD 0 ds)=false:=decide_eq_false (by have:=hk.v;omega)
    have d3:(decide (1<ds.length)&&decide (ds.headD 0=48))=false:=by
      rcases hk.lead with h|h
      · rw[decide_eq_false (by omega)];rfl
      · rw[decide_eq_false h,Bool.and_false]
    have d4:(m&&decide (ds.headD 0=48))=false:=by
      cases hm:m with
      | false=>rfl
      | true=>rw[decide_eq_false (hk.mi hm)];rfl
    have d5:(!m&&decide (valD 0 ds=9223372036854775808))=false:=by
      cases hm:m with
      | true=>rfl
      | false=>rw[decide_eq_false (by have:=hk.vp hm;omega)];rfl
    show T210_2 E D W s (Int.ofNat (f+ds.length)) m (Int.ofNat f) (Int.ofNat (valD 0 ds)) σ=_
    unfold T210_2
    cases h8:decide (1<ds.length)<;>cases h9:decide (ds.headD 0=48)<;>cases hm:m<;>(rw[h8,h9]at d3;rw[h9,hm]at d4;rw[hm]at d5) <;>
      first
      | (exact absurd d3 (by decide))
      | (exact absurd d4 (by decide))
      | (simp only[Bool.not_false,Bool.not_true,Bool.true_and,Bool.false_and]at d5
         simp -implicitDefEqProofs only [↓rP,rA,Nat.reduceEqDiff,Nat.reduceLT,Nat.reduceLeDiff,a2,d1,d2,h8,↓e,h9,↓ga,↓gl,d5,d6])
  cases m with
  | false=>
    have h':At5 s i (ds++r):=h
    obtain⟨d,l,rfl⟩:∃d l,ds=d::l:=by
      have:=hk.n1
      cases ds with
      | nil=>simp at this
      | cons d l=>exact⟨d,l,rfl⟩
    have e:=At5.ix (show At5 s i (d::(l++r))from h')
    have hd:=digB_of (hk.dig d (List.mem_cons_self ..))
    have d0:decide (d=45)=false:=decide_eq_false (by omega)
    show T210_0 E D W (J210_1 E D W N) s (Int.ofNat i) σ=_
    have key:∀K,T210_0 E D W K s (Int.ofNat i) σ=K s (Int.ofNat i) false σ:=by
      intro K
      unfold T210_0
      simp -implicitDefEqProofs only [↓rP,rA,Nat.reduceEqDiff,Nat.reduceLT,Nat.reduceLeDiff,↓e,d0]
    rw[key]
    exact tail i h' (by omega)
  | true=>
    have h':At5 s i (45::(ds++r)):=h
    have e:=h'.ix
    have a1:addF .i64 (Int.ofNat i) (Int.ofNat 1)=Int.ofNat (i+1):=addF_nat (by omega)
    show T210_0 E D W (J210_1 E D W N) s (Int.ofNat i) σ=_
    have key:∀K,T210_0 E D W K s (Int.ofNat i) σ=K s (Int.ofNat (i+1)) true σ:=by
      intro K
      unfold T210_0
      simp -implicitDefEqProofs only [↓rP,rA,Nat.reduceEqDiff,Nat.reduceLT,Nat.reduceLeDiff,↓e,a1]
    rw[key,tail (i+1) h'.tl (by omega)]
    show some (V.int .i64 (Int.ofNat (i+1+ds.length)),σ)=some (V.int .i64 (Int.ofNat (i+(ds.length+1))),σ)
    rw[show i+1+ds.length=i+(ds.length+1)by omega]
end
section
variable {E:List (Nat × Blk)} {D:Den} {W:DrawFn} {N:Nat}
theorem numT_ne (m:Bool) {ds r:List Nat} (h:NumOk m ds r):∃c l,numT m ds++r=c::l∧((m=false∧digB c=true)∨(m=true∧c=45∧digB (l.headD 0)=true)):=by
 obtain⟨d,ds',rfl⟩:∃d l,ds=d::l:=by
  have:=h.n1
  cases ds with
  | nil=>simp at this
  | cons d l=>exact⟨d,l,rfl⟩
 have hd:=h.dig d (List.mem_cons_self ..)
 cases m with
 | false=>exact⟨d,ds'++r,rfl,.inl ⟨rfl,hd⟩⟩
 | true=>exact⟨45,d::(ds'++r),rfl,.inr ⟨rfl,rfl,hd⟩⟩
theorem dig_let {c:Nat} (h:digB c=true):letB c=false:=by
 obtain⟨h1,h2⟩:=digB_of h
 unfold letB
 rw[decide_eq_false (show ¬97≤c by omega),decide_eq_false (show ¬65≤c by omega)];rfl
theorem one_F (hA:SpRat (D 205)) (hL:SpLet (D 206)) (hD:SpDig (D 209)) (hNm:SpRname (D 207)) (hW:SpRword (D 208)) (hNu:SpRnum (D 210)) (hS:SpRsign (D 213)):SpOne (F118 E D W N):=by
 intro σ s i k r w r' ht h hk
 have hle:=h.le
 have hlen:=h.len
 have hfew:=h.few
 have bd:=h.r.bd
 cases hk with
 | @name c r1 k hc hb hkk=>
  have e:=h.ix
  have g1:=hL σ c
  rw[hc]at g1
  have g2:=hNm σ s i c r1 h hc
  rw[hb,if_neg (by decide)]at g2
  have hm:=nmL_le (c::r1)
  obtain⟨m,hm'⟩:∃m,nmL (c::r1)=m:=⟨_,rfl⟩
  rw[hm']at g2 hm hkk ⊢
  have sp:∀κ,sliceStrX s (some (.int .i64 (Int.ofNat i))) (some (.int .i64 (Int.ofNat (i+m)))) κ=κ (ofN ((c::r1).take m)):=fun κ=>by
   rw[sliceStrX_both (by omega) (by omega),h.r.sub hm]
  obtain⟨σ3,g3,f3⟩:=hW σ (ofN ((c::r1).take m)) ht
  have lt:((c::r1).take m).length=m:=by rw[List.length_take];omega
  refine⟨σ3,?_,f3⟩
  rw[lt]
  show T118_0 E D W (J118_1 E D W N) (J118_2 E D W N) s (Int.ofNat i) σ=_
  have d0:ltF (Int.ofNat (i+m)) (Int.ofNat 0)=false:=by rw[ltF_nat];exact decide_eq_false (by omega)
  have k2:∀kk:Nat,J118_2 E D W N (Int.ofNat (i+m)) (Int.ofNat 0) (BS.mk 0 0) (Int.ofNat 0) (Int.ofNat kk) (ofN ((c::r1).take m)) (Int.ofNat i) σ=some (.tup [.agg [.int .i64 (Int.ofNat (if wdB (ofN ((c::r1).take m))=true then 5 else kk)),.str (ofN ((c::r1).take m)),.int .i64 (Int.ofNat i)],.int .i64 (Int.ofNat (i+m))],σ3):=by
   intro kk
   show T118_2 E D W (T118_1 E D W) _ _ _ _ _ _ _ σ=_
   unfold T118_2 T118_1
   cases hw:wdB (ofN ((c::r1).take m))<;>(rw[hw]at g3;simp -implicitDefEqProofs only [↓rP,rS,↓g3])<;>rfl
  have key:∀K1 K2,T118_0 E D W K1 K2 s (Int.ofNat i) σ=K2 (Int.ofNat (i+m)) (Int.ofNat 0) (BS.mk 0 0) (Int.ofNat 0) (Int.ofNat (if c≤90 then 1 else 2)) (ofN ((c::r1).take m)) (Int.ofNat i) σ:=by
   intro K1 K2
   unfold T118_0
   by_cases h9:c≤90
   ·rw[if_pos h9]
    simp -implicitDefEqProofs only [↓rP,rA,Nat.reduceEqDiff,Nat.reduceLT,Nat.reduceLeDiff,↓e,↓g1,↓g2,d0,Nat.not_lt_zero,↓sp,decide_eq_true h9]
   ·rw[if_neg h9]
    simp -implicitDefEqProofs only [↓rP,rA,Nat.reduceEqDiff,Nat.reduceLT,Nat.reduceLeDiff,↓e,↓g1,↓g2,d0,Nat.not_lt_zero,↓sp,decide_eq_false h9]
  rw[key,k2,hkk]
 | @num m ds _ hn=>
  obtain⟨c,l,hcl,hc⟩:=numT_ne m hn
  have g2:=hNu σ s i m ds r' h hn
  have hsub:∀κ,sliceStrX s (some (.int .i64 (Int.ofNat i))) (some (.int .i64 (Int.ofNat (i+(numT m ds).length)))) κ=κ (ofN (numT m ds)):=fun κ=>by
   rw[sliceStrX_both (by omega) (by rw[List.length_append]at hlen;omega),h.r.sub (k:=(numT m ds).length) (by rw[List.length_append];omega),List.take_left]
  have h':At5 s i (c::l):=hcl ▸ h
  have e:=h'.ix
  have g1:=hL σ c
  have gd:=hD σ c
  have a1:addF .i64 (Int.ofNat i) (Int.ofNat 1)=Int.ofNat (i+1):=addF_nat (by omega)
  have ga:=hA σ s (i+1) l h'.tl
  have gd2:=hD σ (l.headD 0)
  refine⟨σ,?_,Fr.refl ht⟩
  show T118_0 E D W (T118_1 E D W) (J118_2 E D W N) s (Int.ofNat i) σ=_
  rcases hc with ⟨_,hc⟩|⟨_,rfl,hc⟩
  ·rw[dig_let hc]at g1
   rw[hc]at gd
   unfold T118_0 T118_1
   simp -implicitDefEqProofs only [↓rP,rA,Nat.reduceEqDiff,Nat.reduceLT,Nat.reduceLeDiff,↓e,↓g1,↓gd,↓g2,Nat.not_lt_zero,↓hsub]
  ·rw[show letB 45=false from rfl]at g1
   rw[show digB 45=false from rfl]at gd
   rw[hc]at gd2
   unfold T118_0 T118_1
   simp -implicitDefEqProofs only [↓rP,rA,Nat.reduceEqDiff,Nat.reduceLT,Nat.reduceLeDiff,↓e,↓g1,↓gd,a1,↓ga,↓gd2,↓g2,Nat.not_lt_zero,↓hsub]
 | @sign c r1 hc hd hm h39 h34 h0=>
  have e:=h.ix
  have g1:=hL σ c
  rw[hc]at g1
  have gd:=hD σ c
  rw[hd]at gd
  have a1:addF .i64 (Int.ofNat i) (Int.ofNat 1)=Int.ofNat (i+1):=addF_nat (by omega)
  have ga:=hA σ s (i+1) r1 h.tl
  have gd2:=hD σ (r1.headD 0)
  obtain⟨σ2,g2,f2⟩:=hS σ s i (c::r1) ht h
  have hsl:=sgIn_le signsV (c::r1)
  obtain⟨m,hm'⟩:∃m,sgIn signsV (c::r1)=m:=⟨_,rfl⟩
  rw[hm']at g2 h0 hsl ⊢
  have lt:((c::r1).take m).length=m:=by rw[List.length_take];omega
  have lm:m≤10000:=by omega
  have a2:addF .i64 (Int.ofNat i) (Int.ofNat m)=Int.ofNat (i+m):=addF_nat (by omega)
  have sp:∀κ,sliceStrX s (some (.int .i64 (Int.ofNat i))) (some (.int .i64 (Int.ofNat (i+m)))) κ=κ (ofN ((c::r1).take m)):=fun κ=>by
   rw[sliceStrX_both (by omega) (by omega),h.r.sub hsl]
  refine⟨σ2,?_,f2⟩
  rw[lt]
  show T118_0 E D W (T118_1 E D W) (J118_2 E D W N) s (Int.ofNat i) σ=_
  unfold T118_0 T118_1
  by_cases h45:c=45
  ·rw[hm h45]at gd2
   simp -implicitDefEqProofs only [↓rP,rA,Nat.reduceEqDiff,Nat.reduceLT,Nat.reduceLeDiff,↓e,↓g1,↓gd,decide_eq_true h45,a1,↓ga,↓gd2,decide_eq_false h39,decide_eq_false h34,↓g2,decide_eq_true h0,a2,↓sp]
  ·simp -implicitDefEqProofs only [↓rP,rA,Nat.reduceEqDiff,Nat.reduceLT,Nat.reduceLeDiff,↓e,↓g1,↓gd,decide_eq_false h45,decide_eq_false h39,decide_eq_false h34,↓g2,decide_eq_true h0,a2,↓sp]
theorem tks_L (hW:SpWht N (D 117)) (hO:SpOne (D 118)) (s:BS) (hs:s.len≤8000) (σ0:H):∀(r:List Nat) (ts:List Tok),Tks N s.len r ts→∀(n i:Nat) (acc:List Tok) (v:V) (σ:H),ts.length<n→acc.length+ts.length≤9000→At5 s i r→Fr Nowhere σ0 σ→Dst σ 3 acc.length v (tkCells acc)→(∀b,Names v b→σ0.next≤b) →
  ∃u σ',L56_1 E D W N n s v (Int.ofNat i) σ=some (.tup [u,.int .i64 (Int.ofNat 0),.int .i64 (Int.ofNat 0)],σ')∧Dst σ' 3 (acc++ts).length u (tkCells (acc++ts))∧(∀b,Names u b→σ0.next≤b)∧Fr Nowhere σ0 σ':=by
 intro r ts hts
 have grow:∀k,k≤9001→growable k 32=true:=fun k hk=>by unfold growable;simp only[Bool.and_eq_true,Nat.ble_eq];omega
 have push:∀(t:Tok) (acc:List Tok) (v:V) (σ:H),acc.length+1≤9001→Fr Nowhere σ0 σ→Dst σ 3 acc.length v (tkCells acc)→(∀b,Names v b→σ0.next≤b) →
   ∃u σ1 σ2,newB σ (.cells [.int .i64 (Int.ofNat t.1),.str (ofN t.2.1),.int .i64 (Int.ofNat t.2.2)])=σ1∧(∀κ:V→H→Ans,appK E 3 32 v (.sl σ.next 0 1 (.ex 1)) σ1 κ=κ u σ2)∧Dst σ2 3 (acc++[t]).length u (tkCells (acc++[t]))∧(∀b,Names u b→σ0.next≤b)∧Fr Nowhere σ0 σ2:=by
  intro t acc v σ ha f hv hn
  obtain⟨σ1,e1,f1,a1,n1⟩:=mkN f.tidy [.int .i64 (Int.ofNat t.1),.str (ofN t.2.1),.int .i64 (Int.ofNat t.2.2)]
  have xs:Src σ1 3 1 (V.sl σ.next 0 1 (.ex 1)) [.int .i64 (Int.ofNat t.1),.str (ofN t.2.1),.int .i64 (Int.ofNat t.2.2)] := .inr ⟨_,_,_,_,rfl,a1,Nat.le_refl _,rfl⟩
  obtain⟨u,σ2,g,d,nm,f2⟩:=app_all (E:=E) (bytes:=32) (hv.fr f1 f.tidy (fun _ _ h=>h)) f1.tidy xs rfl (grow _ ha)
  have l1:=f1.le
  have l0:=f.le
  refine⟨u,σ1,σ2,e1,g,?_,fun b hb=>(nm b hb).elim (hn b) (fun h=>by omega),(f.trans f1 (fun _ _ h=>h)).trans f2 fun b hb h=>by have:=hn b h;omega⟩
  rw[tkCells_app,List.length_append];exact d
 induction hts with
 | @fin r hw=>
  intro n i acc v σ hn ha h f hv hnm
  obtain⟨n,rfl⟩:∃j,n=j+1:=⟨n-1,by omega⟩
  obtain⟨k,h1,h2,h3⟩:=hW σ s i r h
  have hik:i+k=s.len:=by
   rw[hw]at h2
   have:=congrArg List.length h2
   rw[List.length_drop,List.length_nil]at this
   have:=h.len
   omega
  rw[hik]at h3
  simp only[List.length_cons,List.length_nil]at ha
  obtain⟨u,σ1,σ2,e1,g,d,nm,f2⟩:=push (0,[],s.len) acc v σ (by omega) f hv hnm
  refine⟨u,σ2,?_,d,nm,f2⟩
  have e1':newB σ (.cells [.int .i64 (Int.ofNat 0),.str (BS.mk 0 0),.int .i64 (Int.ofNat s.len)])=σ1:=e1
  have d1:decide (s.len≤s.len)=true:=decide_eq_true (Nat.le_refl _)
  show T56_1 E D W _ s v (Int.ofNat i) σ=_
  have key:∀R,T56_1 E D W R s v (Int.ofNat i) σ=some (.tup [u,.int .i64 (Int.ofNat 0),.int .i64 (Int.ofNat 0)],σ2):=by
   intro R
   unfold T56_1
   simp -implicitDefEqProofs only [↓rP,rA,Nat.reduceEqDiff,Nat.reduceLT,Nat.reduceLeDiff,↓h3,d1,↓e1',↓g,↓rtOne_of d.one]
  exact key _
 | @one r r1 w r2 kd ts hw htk hrest ih=>
  intro n i acc v σ hn ha h f hv hnm
  obtain⟨n,rfl⟩:∃j,n=j+1:=⟨n-1,by omega⟩
  obtain⟨k,h1,h2,h3⟩:=hW σ s i r h
  have hb:=h.dr h1
  rw[←h2,hw]at hb
  obtain⟨happ,hw0⟩:=htk.app
  have hlen:=hb.len
  have hr1:0<r1.length:=by rw[happ,List.length_append];omega
  have eat:s.len-r1.length=i+k:=by omega
  obtain⟨σ1,g1,f1⟩:=hO σ s (i+k) kd r1 w r2 f.tidy hb htk
  have f01:=f.trans f1 (fun _ _ h=>h)
  simp only[List.length_cons]at ha hn
  obtain⟨u,σ2,σ3,e2,g,d,nm,f3⟩:=push (kd,w,s.len-r1.length) acc v σ1 (by omega) f01 (hv.fr f1 f.tidy (fun _ _ h=>h)) hnm
  have hnx:=hb.dr (k:=w.length) (by rw[happ,List.length_append];omega)
  rw[happ,List.drop_left]at hnx
  obtain⟨u',σ',g',d',nm',f'⟩:=ih n (i+k+w.length) (acc++[(kd,w,s.len-r1.length)]) u σ3 (by omega) (by rw[List.length_append,List.length_cons,List.length_nil];omega) hnx f3 d nm
  rw[List.append_assoc]at d'
  refine⟨u',σ',?_,d',nm',f'⟩
  rw[eat]at e2
  have e2':newB σ1 (.cells [.int .i64 (Int.ofNat kd),.str (ofN w),.int .i64 (Int.ofNat (i+k))])=σ2:=e2
  have d1:decide (s.len≤i+k)=false:=decide_eq_false (by omega)
  show T56_1 E D W (L56_1 E D W N n) s v (Int.ofNat i) σ=_
  have key:∀R,T56_1 E D W R s v (Int.ofNat i) σ=R s u (Int.ofNat (i+k+w.length)) σ3:=by
   intro R
   unfold T56_1
   simp -implicitDefEqProofs only [↓rP,rA,Nat.reduceEqDiff,Nat.reduceLT,Nat.reduceLeDiff,↓h3,d1,↓g1,Nat.not_lt_zero,↓e2',↓g,↓rtOne_of d.one]
  rw[key,g']
theorem rtokens_F (hW:SpWht N (D 117)) (hO:SpOne (D 118)) (hN:10000<N):SpTks N (F56 E D W N):=by
 intro σ s ts ht hs hts
 have hl:=hts.len
 rw[BS.length_nats]at hl
 obtain⟨u,σ',g,d,nm,f⟩:=tks_L (E:=E) (W:=W) hW hO s hs σ s.nats ts hts N 0 [] .nils σ (by omega) (by simp only[List.length_nil];omega) ⟨Rst.start s,by omega⟩ (Fr.refl ht) (Dst.nil σ 3) (fun _ h=>h.elim)
 refine⟨u,σ',?_,d,nm,f⟩
 have d1:decide (8000<s.len)=false:=decide_eq_false (by omega)
 show T56_0 E D W (L56_1 E D W N N) s σ=_
 have key:∀K,T56_0 E D W K s σ=K s .nils (Int.ofNat 0) σ:=by
  intro K
  unfold T56_0
  simp -implicitDefEqProofs only [↓rP,rA,Nat.reduceEqDiff,Nat.reduceLT,Nat.reduceLeDiff,d1]
 rw[key];exact g
end
def tokC (t:Tok):List V:=[.int .i64 (Int.ofNat t.1),.str (ofN t.2.1),.int .i64 (Int.ofNat t.2.2)]
theorem tk_sub:∀(ts:List Tok) (i:Nat) (t:Tok),ts[i]? = some t→((tkCells ts).drop (i*3)).take 3=tokC t
 | [],i,t,h=>by simp at h
 | u::ts,0,t,h=>by simp at h;subst h;rfl
 | u::ts,i+1,t,h=>by
  have:ts[i]? = some t:=by simpa using h
  show ((tokC u++tkCells ts).drop ((i+1)*3)).take 3=_
  rw[show (i+1)*3=3+i*3 by omega,←List.drop_drop,show (tokC u++tkCells ts).drop 3=tkCells ts from rfl]
  exact tk_sub ts i t this
structure Rs where
 nm:BS
 tg:Int
 nv:V
 tv:V
 dv:V
def pc (lv:V) (a:Nat) (R:Rs):List V:=[lv,.int .i64 (Int.ofNat a),.str R.nm,.int .i64 R.tg,R.nv,R.tv,R.dv,.int .i64 (Int.ofNat 0),.int .i64 (Int.ofNat 0)]
structure TsOk (ts:List Tok):Prop where
 few:ts.length≤9000
 fin:∃p e,ts=p++[e]∧e.1=0
 nums:∀t∈ts,t.1=3→∃m ds r,t.2.1=numT m ds∧NumOk m ds r
structure Pz (σ:H) (xb:Nat) (lv:V) (ts l:List Tok) (R:Rs):Prop where
 ex:∃a,Atc σ xb (pc lv a R)∧ts.drop a=l
 src:Src σ 3 ts.length lv (tkCells ts)
 ne:l≠[]
 nx:∀b,Names lv b→b≠xb
 ok:TsOk ts
 ht:Tidy σ
section
variable {E:List (Nat × Blk)} {σ σ':H} {xb:Nat} {lv:V} {ts l:List Tok} {R:Rs} {t t2:Tok}
theorem Pz.fr {S:Nat→Prop} (h:Pz σ xb lv ts l R) (f:Fr S σ σ') (h1:¬S xb) (h2:∀b,Names lv b→¬S b):Pz σ' xb lv ts l R:=by
 obtain⟨a,ha,hl⟩:=h.ex
 exact⟨⟨a,f.at_ ha h.ht h1,hl⟩,h.src.fr f h.ht h2,h.ne,h.nx,h.ok,f.tidy⟩
theorem tk_at {a:Nat} (h:Src σ 3 ts.length lv (tkCells ts)) (hl:ts.drop a=t::l) (κ:List V→Ans):iaddrSK 3 lv (Int.ofNat a) (fun b o=>ldnK E σ b o 3 κ)=κ (tokC t):=by
 have hlt:a<ts.length:=by
  have:=congrArg List.length hl
  simp only[List.length_drop,List.length_cons]at this;omega
 have hg:ts[a]? = some t:=by
  have:=congrArg (fun x:List Tok=>x[0]?) hl
  simpa using this
 rcases h with ⟨h0,_,_⟩|⟨b,o,c,L,rfl,ha,hle,hm⟩
 ·omega
 ·rw[iaddrSK_lt hlt]
  show ldnK E σ b (o+a*3) 3 κ=_
  rw[ldnK_is ha,subK_of (by omega)]
  have:=tk_sub ts a t hg
  rw[hm,List.drop_take,List.take_take,Nat.min_eq_left (by omega),List.drop_drop]at this
  rw[this]
theorem Pz.lt (h:Pz σ xb lv ts l R):xb<σ.next:=by
 obtain⟨a,ha,_⟩:=h.ex
 exact ha.lt h.ht
theorem Pz.adv (h:Pz σ xb lv ts (t::t2::l) R) {a:Nat} (ha:Atc σ xb (pc lv a R)) (hl:ts.drop a=t::t2::l) :
  ∃σ',(∀κ:H→Ans,stK 1 xb 1 (.int .i64 (Int.ofNat (a+1))) σ κ=κ σ')∧Pz σ' xb lv ts (t2::l) R∧Fr (fun k=>k=xb) σ σ':=by
 obtain⟨σ',e,f,a'⟩:=mkS h.ht ha (pc lv (a+1) R)
 refine⟨σ',fun κ=>?_,⟨⟨a+1,a',?_⟩,h.src.fr f h.ht fun b hb e=>h.nx b hb e,by simp,h.nx,h.ok,f.tidy⟩,f⟩
 ·rw[stK_at ha rfl]
  show κ (setF σ xb (.cells (pc lv (a+1) R)))=_
  rw[e]
 ·rw[←List.drop_drop,hl];rfl
end
def isP (s:BS):List Tok→Bool × List Tok
 | t::t2::l=>match (decide (t.1=5) || decide (t.1=6))&&(ofN t.2.1).beq s with
  | true=>(true,t2::l)
  | false=>(false,t::t2::l)
 | l=>(false,l)
theorem isP_cons (s:BS) (t t2:Tok) (l:List Tok):isP s (t::t2::l)=match (decide (t.1=5) || decide (t.1=6))&&(ofN t.2.1).beq s with
 | true=>(true,t2::l)
 | false=>(false,t::t2::l):=rfl
def mustP (s:BS) (l:List Tok):Option (List Tok):=match isP s l with
 | (true,l')=>some l'
 | (false,_)=>none
def kindP (k:Nat):List Tok→Option (List Nat × List Tok)
 | t::t2::l=>match decide (t.1=k)with
  | true=>some (t.2.1,t2::l)
  | false=>none
 | _=>none
def numI (w:List Nat):Int:=match w with
 | []=>0
 | c::ds=>match decide (c=45)with
  | true=>-Int.ofNat (valD 0 ds)
  | false=>Int.ofNat (valD 0 (c::ds))
def numP (l:List Tok):Option (Int × List Tok):=(kindP 3 l).map fun p=>(numI p.1,p.2)
def SpNow (F:List V→H→Ans):Prop:=∀{σ:H} {xb:Nat} {lv:V} {ts:List Tok} {l:List Tok} {R:Rs} {t:Tok},Pz σ xb lv ts (t::l) R→F [.ptr xb 0] σ=some (.agg (tokC t),σ)
def SpNext (F:List V→H→Ans):Prop:=∀{σ:H} {xb:Nat} {lv:V} {ts:List Tok} {l:List Tok} {R:Rs} {t t2:Tok},Pz σ xb lv ts (t::t2::l) R→∃σ',F [.ptr xb 0] σ=some (.agg (tokC t),σ')∧Pz σ' xb lv ts (t2::l) R∧Fr (fun k=>k=xb) σ σ'
def SpIs (F:List V→H→Ans):Prop:=∀{σ:H} {xb:Nat} {lv:V} {ts:List Tok} {l:List Tok} {R:Rs} (s:BS),Pz σ xb lv ts l R→∃σ',F [.ptr xb 0,.str s] σ=some (.bool (isP s l).1,σ')∧Pz σ' xb lv ts (isP s l).2 R∧Fr (fun k=>k=xb) σ σ'
def SpMust (F:List V→H→Ans):Prop:=∀{σ:H} {xb:Nat} {lv:V} {ts:List Tok} {l l':List Tok} {R:Rs} {s:BS},Pz σ xb lv ts l R→mustP s l=some l'→∃σ',F [.ptr xb 0,.str s] σ=some (.tup [],σ')∧Pz σ' xb lv ts l' R∧Fr (fun k=>k=xb) σ σ'
def SpKind (F:List V→H→Ans):Prop:=∀{σ:H} {xb:Nat} {lv:V} {ts:List Tok} {l l':List Tok} {R:Rs} {k:Nat} {w:List Nat},Pz σ xb lv ts l R→kindP k l=some (w,l')→∃σ',F [.ptr xb 0,.int .i64 (Int.ofNat k)] σ=some (.str (ofN w),σ')∧Pz σ' xb lv ts l' R∧Fr (fun k=>k=xb) σ σ'
def SpWhole (F:List V→H→Ans):Prop:=∀(σ:H) (m:Bool) (ds r:List Nat),NumOk m ds r→F [.str (ofN (numT m ds))] σ=some (.int .i64 (numI (numT m ds)),σ)
def SpNumb (F:List V→H→Ans):Prop:=∀{σ:H} {xb:Nat} {lv:V} {ts:List Tok} {l l':List Tok} {R:Rs} {v:Int},Pz σ xb lv ts l R→numP l=some (v,l')→∃σ',F [.ptr xb 0] σ=some (.int .i64 v,σ')∧Pz σ' xb lv ts l' R∧Fr (fun k=>k=xb) σ σ'
section
variable {E:List (Nat × Blk)} {D:Den} {W:DrawFn} {N:Nat}
theorem now_F:SpNow (F60 E D W N):=by
 intro σ xb lv ts l R t h
 obtain⟨a,ha,hl⟩:=h.ex
 have rd:=fun κ=>tk_at (E:=E) h.src hl κ
 unfold tokC at rd ⊢
 unfold pc at ha
 show T60_0 E D W xb 0 σ=_
 unfold T60_0
 simp -implicitDefEqProofs only [↓rP,rA,Nat.reduceEqDiff,Nat.reduceLT,Nat.reduceLeDiff,↓ldK_is ha,↓rd]
theorem next_F:SpNext (F119 E D W N):=by
 intro σ xb lv ts l R t t2 h
 obtain⟨a,ha,hl⟩:=h.ex
 obtain⟨σ',g,p,f⟩:=h.adv ha hl
 refine⟨σ',?_,p,f⟩
 have rd:=fun κ=>tk_at (E:=E) h.src hl κ
 have hlen:a+2≤ts.length:=by
  have:=congrArg List.length hl
  simp only[List.length_drop,List.length_cons]at this;omega
 have hf:=h.ok.few
 have d1:decide (a+1<ts.length)=true:=decide_eq_true (by omega)
 have a1:addF .i64 (Int.ofNat a) (Int.ofNat 1)=Int.ofNat (a+1):=addF_nat (by omega)
 have sl:∀κ:Nat→Ans,slenK lv κ=κ ts.length:=fun κ=>h.src.slen
 unfold tokC at rd ⊢
 unfold pc at ha
 show T119_0 E D W (T119_1 E D W) xb 0 σ=_
 unfold T119_0 T119_1
 simp -implicitDefEqProofs only [↓rP,rA,Nat.reduceEqDiff,Nat.reduceLT,Nat.reduceLeDiff,↓ldK_is ha,↓rd,a1,↓sl,d1,↓g]
theorem is_F (hN:SpNow (D 60)) (hX:SpNext (D 119)):SpIs (F59 E D W N):=by
  intro σ xb lv ts l R s h
  obtain⟨a,ha,hl⟩:=h.ex
  obtain⟨t,l1,rfl⟩:∃t l1,l=t::l1:=by
    cases l with
    | nil=>exact absurd rfl h.ne
    | cons t l1=>exact⟨t,l1,rfl⟩
  have gn:=hN h
  unfold tokC at gn
  unfold pc at ha
  show ∃σ',T59_0 E D W xb 0 s σ=_∧_
  cases l1 with
  | nil=>
    have h0:t.1=0:=by
      obtain⟨p,e,rfl,he⟩:=h.ok.fin
      have hlen:=congrArg List.length hl
      simp only[List.length_drop,List.length_append,List.length_cons,List.length_nil]at hlen
      have:a=p.length:=by omega
      rw[this,List.drop_left]at hl
      cases hl;exact he
    refine⟨σ,?_,h,Fr.refl h.ht⟩
    unfold T59_0
    simp -implicitDefEqProofs only [↓rP,rA,Nat.reduceEqDiff,Nat.reduceLT,Nat.reduceLeDiff,↓gn,↓ldK_is ha,h0,Nat.reduceEqDiff]
    rfl
  | cons t2 l2=>
    obtain⟨σ',g,p,f⟩:=hX h
    unfold tokC at g
    rw[isP_cons]
    unfold T59_0
    cases h5:decide (t.1=5)<;>cases h6:decide (t.1=6)<;>cases hb:(ofN t.2.1).beq s
    all_goals first
      | (refine⟨σ,?_,h,Fr.refl h.ht⟩
         simp -implicitDefEqProofs only [↓rP,rA,Nat.reduceEqDiff,Nat.reduceLT,Nat.reduceLeDiff,↓gn,↓ldK_is ha,h5,h6,hb];done)
      | (refine⟨σ',?_,p,f⟩
         simp -implicitDefEqProofs only [↓rP,rA,Nat.reduceEqDiff,Nat.reduceLT,Nat.reduceLeDiff,↓gn,↓ldK_is ha,h5,h6,hb,↓g];done)
theorem must_F (hI:SpIs (D 59)):SpMust (F58 E D W N):=by
 intro σ xb lv ts l l' R s h hm
 obtain⟨a,ha,hl⟩:=h.ex
 obtain⟨σ',g,p,f⟩:=hI s h
 unfold mustP at hm
 cases hi:isP s l with
 | mk c l1=>
  rw[hi]at hm g p
  cases c with
  | false=>cases hm
  | true=>
   cases hm
   refine⟨σ',?_,p,f⟩
   unfold pc at ha
   show T58_0 E D W xb 0 s σ=_
   unfold T58_0
   simp -implicitDefEqProofs only [↓rP,rA,Nat.reduceEqDiff,Nat.reduceLT,Nat.reduceLeDiff,↓ldK_is ha,↓g]
theorem kind_F (hN:SpNow (D 60)) (hX:SpNext (D 119)):SpKind (F57 E D W N):=by
 intro σ xb lv ts l l' R k w h hk
 obtain⟨a,ha,hl⟩:=h.ex
 cases l with
 | nil=>exact absurd rfl h.ne
 | cons t l1=>
  cases l1 with
  | nil=>cases hk
  | cons t2 l2=>
   have gn:=hN h
   obtain⟨σ',g,p,f⟩:=hX h
   unfold tokC at gn g
   have hk:(match decide (t.1=k)with | true=>some (t.2.1,t2::l2) | false=>none:Option (List Nat × List Tok))=some (w,l'):=hk
   cases hd:decide (t.1=k)with
   | false=>rw[hd]at hk;cases hk
   | true=>
    rw[hd]at hk
    cases hk
    refine⟨σ',?_,p,f⟩
    unfold pc at ha
    show T57_0 E D W xb 0 (Int.ofNat k) σ=_
    unfold T57_0
    simp -implicitDefEqProofs only [↓rP,rA,Nat.reduceEqDiff,Nat.reduceLT,Nat.reduceLeDiff,↓gn,↓ldK_is ha,hd,↓g]
theorem numT_lt {m:Bool} {ds r:List Nat} (h:NumOk m ds r):∀c∈numT m ds,c<256:=by
 intro c hc
 unfold numT at hc
 have hd:∀c∈ds,c<256:=fun c hc=>by have:=digB_of (h.dig c hc);omega
 split at hc
 ·rcases List.mem_cons.1 hc with rfl|hc
  ·decide
  ·exact hd c hc
 ·exact hd c hc
theorem wh_L (σ:H) (m:Bool) (s:BS) (hs:s.len≤100):∀(ds:List Nat) (n i v:Nat),(∀d∈ds,digB d=true)→ds.length<n→At5 s i ds→valD v ds≤9223372036854775808 →
  L214_3 E D W N n s m (Int.ofNat v) (Int.ofNat i) σ=J214_2 E D W N m (Int.ofNat (valD v ds)) σ
 | [],n,i,v,hd,hn,h,hv=>by
  obtain⟨n,rfl⟩:∃j,n=j+1:=⟨n-1,by omega⟩
  have d1:decide (i<s.len)=false:=decide_eq_false (by have:=h.nil;omega)
  show T214_3 E D W (J214_2 E D W N) _ s m (Int.ofNat v) (Int.ofNat i) σ=_
  have key:∀K R,T214_3 E D W K R s m (Int.ofNat v) (Int.ofNat i) σ=K m (Int.ofNat v) σ:=by
   intro K R
   unfold T214_3
   simp -implicitDefEqProofs only [↓rP,rA,Nat.reduceEqDiff,Nat.reduceLT,Nat.reduceLeDiff,d1]
  exact key _ _
 | c::ds,n,i,v,hd,hn,h,hv=>by
  obtain⟨n,rfl⟩:∃j,n=j+1:=⟨n-1,by omega⟩
  have hc':=digB_of (hd c (List.mem_cons_self ..))
  have hle:=h.le
  have e:=h.ix
  have d1:decide (i<s.len)=true:=decide_eq_true h.lt
  have hv1:valD (10*v+(c-48)) ds≤9223372036854775808:=hv
  have hv2:=valD_ge ds (10*v+(c-48))
  have a1:addF .i64 (Int.ofNat i) (Int.ofNat 1)=Int.ofNat (i+1):=addF_nat (by omega)
  have a3:subF .u8 (Int.ofNat c) (Int.ofNat 48)=Int.ofNat (c-48):=by
   show wrapF .u8 (Int.ofNat c-Int.ofNat 48)=_
   rw[show Int.ofNat c-Int.ofNat 48=Int.ofNat (c-48)from(Int.ofNat_sub hc'.1).symm]
   exact wrapF_nat (show c-48≤255 by omega)
  have a4:wrapF .u64 (Int.ofNat (c-48))=Int.ofNat (c-48):=wrapF_nat (show c-48≤18446744073709551615 by omega)
  have a5:mulF .u64 (Int.ofNat 10) (Int.ofNat v)=Int.ofNat (10*v):=by
   show wrapF .u64 (Int.ofNat (10*v))=_
   exact wrapF_nat (show 10*v≤18446744073709551615 by omega)
  have a6:addF .u64 (Int.ofNat (10*v)) (Int.ofNat (c-48))=Int.ofNat (10*v+(c-48)):=by
   show wrapF .u64 (Int.ofNat (10*v+(c-48)))=_
   exact wrapF_nat (show 10*v+(c-48)≤18446744073709551615 by omega)
  have ih:=wh_L σ m s hs ds n (i+1) (10*v+(c-48)) (fun d h=>hd d (List.mem_cons_of_mem _ h)) (by simp at hn;omega) h.tl hv1
  show T214_3 E D W (J214_2 E D W N) (L214_3 E D W N n) s m (Int.ofNat v) (Int.ofNat i) σ=J214_2 E D W N m (Int.ofNat (valD (10*v+(c-48)) ds)) σ
  have key:∀K R,T214_3 E D W K R s m (Int.ofNat v) (Int.ofNat i) σ=R s m (Int.ofNat (10*v+(c-48))) (Int.ofNat (i+1)) σ:=by
   intro K R
   unfold T214_3
   simp -implicitDefEqProofs only [↓rP,rA,Nat.reduceEqDiff,Nat.reduceLT,Nat.reduceLeDiff,d1,↓e,a1,a3,a4,a5,a6]
  rw[key,ih]
theorem wrap64 {z:Int} (h1 : -9223372036854775808≤z) (h2:z≤9223372036854775807):wrapF .i64 z=z:=by
 unfold wrapF
 have:inK .i64 z=true:=by
  cases z with
  | ofNat m=>
   show Nat.ble m 9223372036854775807=true
   rw[Nat.ble_eq];have h2:(m:Int)≤9223372036854775807:=h2;omega
  | negSucc m=>
   show Nat.blt m 9223372036854775808=true
   rw[Nat.blt_eq];have h1 : -9223372036854775808≤Int.negSucc m:=h1;omega
 rw[this]
theorem neg_val {v:Nat} (h1:1≤v) (h:v≤9223372036854775808):subF .i64 (negF .i64 (wrapF .i64 (subF .u64 (Int.ofNat v) (Int.ofNat 1)))) (Int.ofNat 1) = -Int.ofNat v:=by
 have e1:subF .u64 (Int.ofNat v) (Int.ofNat 1)=Int.ofNat (v-1):=by
  show wrapF .u64 (Int.ofNat v-Int.ofNat 1)=_
  rw[show Int.ofNat v-Int.ofNat 1=Int.ofNat (v-1)from(Int.ofNat_sub h1).symm]
  exact wrapF_nat (show v-1≤18446744073709551615 by omega)
 have e2:wrapF .i64 (Int.ofNat (v-1))=Int.ofNat (v-1):=wrapF_nat (show v-1≤9223372036854775807 by omega)
 rw[e1,e2]
 have e3:negF .i64 (Int.ofNat (v-1)) = -Int.ofNat (v-1):=by
  show wrapF .i64 (Int.sub 0 (Int.ofNat (v-1)))=_
  rw[show Int.sub 0 (Int.ofNat (v-1)) = -Int.ofNat (v-1)from Int.zero_sub _]
  exact wrap64 (z:=-((v-1:Nat):Int)) (by omega) (by omega)
 rw[e3]
 show wrapF .i64 (-Int.ofNat (v-1)-Int.ofNat 1)=_
 have e4 : -Int.ofNat (v-1)-Int.ofNat 1 = -(v:Int):=by
  show -((v-1:Nat):Int)-1=_
  omega
 rw[e4]
 exact wrap64 (by omega) (by omega)
end
structure ConS where
 has:Bool
 hasLow:Bool
 hasHigh:Bool
 more:Bool
 low:Int
 high:Int
def ConS.c (x:ConS):List V:=[.bool x.has,.bool x.hasLow,.bool x.hasHigh,.bool x.more,.int .i64 x.low,.int .i64 x.high]
def conZ:ConS:=⟨false,false,false,false,0,0⟩
def lowP (l:List Tok):Option (Bool × Int × List Tok):=match isP (BS.mk 3 5130573) l with
 | (true,l1)=>some (false,0,l1)
 | (false,l1)=>(numP l1).map fun p=>(true,p.1,p.2)
def highP (hl:Bool) (lo:Int) (l:List Tok):Option (Bool × Int × List Tok):=match isP (BS.mk 2 11822) l with
 | (true,l1)=>match isP (BS.mk 3 5783885) l1 with
  | (true,l2)=>some (false,0,l2)
  | (false,l2)=>(numP l2).map fun p=>(true,p.1,p.2)
 | (false,l1)=>some (if hl=true then(true,lo,l1)else(false,0,l1))
def dotsP (l:List Tok):Option (Bool × List Tok):=match isP (BS.mk 1 44) l with
 | (true,l1)=>(mustP (BS.mk 3 3026478) l1).map fun l2=>(true,l2)
 | (false,l1)=>some (false,l1)
def boundsP (l:List Tok):Option (ConS × List Tok):=(lowP l).bind fun a=>(highP a.1 a.2.1 a.2.2).bind fun b=>(dotsP b.2.2).map fun c=>(⟨true,a.1,b.1,c.1,a.2.1,b.2.1⟩,c.2)
def typeV:List BS:=[BS.mk 1 91,BS.mk 7 22026814072246082,BS.mk 4 1280070990,BS.mk 10 488440487847103610377301,BS.mk 7 23157120498421321,BS.mk 5 361940403023,BS.mk 10 322399817400452109389381,BS.mk 3 5522771,BS.mk 6 76155295057987,BS.mk 8 4990918871747741011]
def begB (t:Tok):Bool:=(typeV.any fun x=>x.beq (ofN t.2.1)&&(decide (t.1=5) || decide (t.1=6))) || decide (t.1=1)
def SpBounds (F:List V→H→Ans):Prop:=∀{σ:H} {xb:Nat} {lv:V} {ts:List Tok} {l l':List Tok} {R:Rs} {c:ConS},Pz σ xb lv ts l R→boundsP l=some (c,l')→∃σ',F [.ptr xb 0] σ=some (.agg c.c,σ')∧Pz σ' xb lv ts l' R∧Fr (fun k=>k=xb) σ σ'
def SpBeg (F:List V→H→Ans):Prop:=∀(σ:H) (t:Tok),Tidy σ→∃σ',F [.agg (tokC t)] σ=some (.bool (begB t),σ')∧Fr Nowhere σ σ'
section
variable {E:List (Nat × Blk)} {D:Den} {W:DrawFn} {N:Nat}
theorem whole_F (hN:200<N):SpWhole (F214 E D W N):=by
 intro σ m ds r h
 have hlt:=numT_lt h
 have hd:∀c∈ds,c<256:=fun c hc=>by have:=digB_of (h.dig c hc);omega
 have h1:=h.n1
 have h19:=h.n19
 have at0:∀w:List Nat,(∀c∈w,c<256)→w.length≤100→At5 (ofN w) 0 w:=fun w hw hl=>⟨by have:=Rst.start (ofN w);rwa [ofN_nats hw]at this,by rw[ofN_len];omega⟩
 have run:J214_1 E D W N (ofN ds) m σ=J214_2 E D W N m (Int.ofNat (valD 0 ds)) σ:=wh_L σ m (ofN ds) (by rw[ofN_len];omega) ds N 0 0 h.dig (by omega) (at0 ds hd (by omega)) h.v
 cases m with
 | false=>
  obtain⟨c,l,rfl⟩:∃c l,ds=c::l:=by
   cases ds with
   | nil=>simp at h1
   | cons c l=>exact⟨c,l,rfl⟩
  have hc:=digB_of (h.dig c (List.mem_cons_self ..))
  have d0:decide (c=45)=false:=decide_eq_false (by omega)
  have e:=(at0 (c::l) hd (by omega)).ix
  have hv:numI (numT false (c::l))=Int.ofNat (valD 0 (c::l)):=by
   show (match decide (c=45)with | true=>_ | false=>_:Int)=_
   rw[d0]
  rw[hv]
  show T214_0 E D W (J214_1 E D W N) (ofN (c::l)) σ=_
  have key:∀K,T214_0 E D W K (ofN (c::l)) σ=K (ofN (c::l)) false σ:=by
   intro K
   unfold T214_0
   simp -implicitDefEqProofs only [↓rP,rA,Nat.reduceEqDiff,Nat.reduceLT,Nat.reduceLeDiff,↓e,d0]
  rw[key,run]
  show T214_2 E D W false (Int.ofNat (valD 0 (c::l))) σ=_
  have ew:wrapF .i64 (Int.ofNat (valD 0 (c::l)))=Int.ofNat (valD 0 (c::l)):=wrapF_nat (show valD 0 (c::l)≤9223372036854775807 by have:=h.vp rfl;omega)
  unfold T214_2
  simp -implicitDefEqProofs only [↓rP,rS,ew]
 | true=>
  have hw:∀c∈45::ds,c<256:=hlt
  have e:=(at0 (45::ds) hw (by simp only[List.length_cons];omega)).ix
  have sp:∀κ,sliceStrX (ofN (45::ds)) (some (.int .i64 (Int.ofNat 1))) none κ=κ (ofN ds):=fun κ=>by
   rw[sliceStrX_from (by rw[ofN_len,List.length_cons];omega),((at0 (45::ds) hw (by simp only[List.length_cons];omega)).tl).r.subAll]
  show T214_0 E D W (J214_1 E D W N) (ofN (45::ds)) σ=some (.int .i64 (-Int.ofNat (valD 0 ds)),σ)
  have key:∀K,T214_0 E D W K (ofN (45::ds)) σ=K (ofN ds) true σ:=by
   intro K
   unfold T214_0
   simp -implicitDefEqProofs only [↓rP,rA,Nat.reduceEqDiff,Nat.reduceLT,Nat.reduceLeDiff,↓e,↓sp]
  rw[key,run]
  have hv1:1≤valD 0 ds:=by
   obtain⟨c,l,rfl⟩:∃c l,ds=c::l:=by
    cases ds with
    | nil=>simp at h1
    | cons c l=>exact⟨c,l,rfl⟩
   have hc:=digB_of (h.dig c (List.mem_cons_self ..))
   have h48:c≠48:=h.mi rfl
   have:=valD_ge l (10*0+(c-48))
   show 1≤valD (10*0+(c-48)) l
   omega
  have ev:=neg_val hv1 h.v
  show T214_2 E D W true (Int.ofNat (valD 0 ds)) σ=_
  unfold T214_2
  simp -implicitDefEqProofs only [↓rP,rS,ev]
theorem numb_F (hK:SpKind (D 57)) (hW:SpWhole (D 214)):SpNumb (F121 E D W N):=by
 intro σ xb lv ts l l' R v h hv
 obtain⟨a,ha,hl⟩:=h.ex
 unfold numP at hv
 cases hk:kindP 3 l with
 | none=>rw[hk]at hv;cases hv
 | some p=>
  obtain⟨w,l1⟩:=p
  rw[hk]at hv
  cases hv
  obtain⟨σ',g,p,f⟩:=hK h hk
  obtain⟨m,ds,r,hw,hn⟩:∃m ds r,w=numT m ds∧NumOk m ds r:=by
   cases l with
   | nil=>cases hk
   | cons t l2=>
    cases l2 with
    | nil=>cases hk
    | cons t2 l3=>
     have hk:(match decide (t.1=3)with | true=>some (t.2.1,t2::l3) | false=>none:Option (List Nat × List Tok))=some (w,l1):=hk
     cases hd:decide (t.1=3)with
     | false=>rw[hd]at hk;cases hk
     | true=>
      rw[hd]at hk
      cases hk
      exact h.ok.nums t (List.mem_of_mem_drop (hl ▸ List.mem_cons_self ..)) (of_decide_eq_true hd)
  subst hw
  have gw:=hW σ' m ds r hn
  have hne:(ofN (numT m ds)).beq (BS.mk 0 0)=false:=by
   rw[BS.beq_nats,ofN_nats (numT_lt hn)]
   refine decide_eq_false fun e=>?_
   have:=congrArg List.length e
   have h1:=hn.n1
   have h0:(BS.mk 0 0).nats.length=0:=rfl
   rw[h0]at this
   unfold numT at this
   split at this<;>(try simp only[List.length_cons]at this)<;>omega
  refine⟨σ',?_,p,f⟩
  show T121_0 E D W (.ptr xb 0) σ=_
  unfold T121_0
  simp -implicitDefEqProofs only [↓rP,rS,↓g,hne,↓gw]
theorem bounds_F (hI:SpIs (D 59)) (hM:SpMust (D 58)) (hN:SpNumb (D 121)):SpBounds (F216 E D W N):=by
 intro σ xb lv ts l l' R c h hb
 unfold boundsP at hb
 obtain⟨⟨hl,lo,l2⟩,ha,hb⟩:=Option.bind_eq_some_iff.1 hb
 obtain⟨⟨hh,hi,l4⟩,hb',hb⟩:=Option.bind_eq_some_iff.1 hb
 obtain⟨⟨mo,l6⟩,hc,hb⟩:=Option.map_eq_some_iff.1 hb
 cases hb
 obtain⟨σ2,p2,f2,k2⟩:∃σ2,Pz σ2 xb lv ts l2 R∧Fr (fun k=>k=xb) σ σ2∧∀K,T216_0 E D W K (.ptr xb 0) σ=K (.ptr xb 0) false false false false (Int.ofNat 0) (Int.ofNat 0) true hl false false lo (Int.ofNat 0) σ2:=by
  obtain⟨σ1,g1,p1,f1⟩:=hI (BS.mk 3 5130573) h
  have ha:lowP l=some (hl,lo,l2):=ha
  unfold lowP at ha
  cases hi:isP (BS.mk 3 5130573) l with
  | mk b l1=>
   rw[hi]at ha g1 p1
   cases b with
   | true=>
    cases ha
    refine⟨σ1,p1,f1,fun K=>?_⟩
    unfold T216_0
    simp -implicitDefEqProofs only [↓rP,rS,↓g1]
    rfl
   | false=>
    obtain⟨⟨v,l3⟩,hn,he⟩:=Option.map_eq_some_iff.1 ha
    cases he
    obtain⟨σ2,g2,p2,f2⟩:=hN p1 hn
    refine⟨σ2,p2,f1.trans f2 (fun _ _ h=>h),fun K=>?_⟩
    unfold T216_0
    simp -implicitDefEqProofs only [↓rP,rS,↓g1,↓g2]
 obtain⟨σ4,p4,f4,k4⟩:∃σ4,Pz σ4 xb lv ts l4 R∧Fr (fun k=>k=xb) σ2 σ4∧∀K,T216_1 E D W K (.ptr xb 0) false false false false (Int.ofNat 0) (Int.ofNat 0) true hl false false lo (Int.ofNat 0) σ2=K (.ptr xb 0) false false false false (Int.ofNat 0) (Int.ofNat 0) true hl hh false lo hi σ4:=by
  obtain⟨σ1,g1,p1,f1⟩:=hI (BS.mk 2 11822) p2
  have hb':highP hl lo l2=some (hh,hi,l4):=hb'
  unfold highP at hb'
  cases hq:isP (BS.mk 2 11822) l2 with
  | mk b l1=>
   rw[hq]at hb' g1 p1
   cases b with
   | false=>
    have hb':some (if hl=true then(true,lo,l1)else(false,0,l1))=some (hh,hi,l4):=hb'
    refine⟨σ1,?_,f1,fun K=>?_⟩
    ·cases hl<;>cases hb'<;>exact p1
    ·unfold T216_1
     cases hl<;>cases hb'<;>simp -implicitDefEqProofs only [↓rP,rS,↓g1]<;>rfl
   | true=>
    obtain⟨σ3,g3,p3,f3⟩:=hI (BS.mk 3 5783885) p1
    cases hq3:isP (BS.mk 3 5783885) l1 with
    | mk b3 l3=>
     have hb':(match isP (BS.mk 3 5783885) l1 with | (true,l2)=>some (false,0,l2) | (false,l2)=>(numP l2).map fun p=>(true,p.1,p.2):Option (Bool × Int × List Tok))=some (hh,hi,l4):=hb'
     rw[hq3]at hb' g3 p3
     cases b3 with
     | true=>
      cases hb'
      refine⟨σ3,p3,f1.trans f3 (fun _ _ h=>h),fun K=>?_⟩
      unfold T216_1
      simp -implicitDefEqProofs only [↓rP,rS,↓g1,↓g3]
      rfl
     | false=>
      obtain⟨⟨v,l5⟩,hn,he⟩:=Option.map_eq_some_iff.1 hb'
      cases he
      obtain⟨σ5,g5,p5,f5⟩:=hN p3 hn
      refine⟨σ5,p5,(f1.trans f3 (fun _ _ h=>h)).trans f5 (fun _ _ h=>h),fun K=>?_⟩
      unfold T216_1
      simp -implicitDefEqProofs only [↓rP,rS,↓g1,↓g3,↓g5]
 obtain⟨σ6,p6,f6,k6⟩:∃σ6,Pz σ6 xb lv ts l6 R∧Fr (fun k=>k=xb) σ4 σ6∧∀K,T216_2 E D W K (.ptr xb 0) false false false false (Int.ofNat 0) (Int.ofNat 0) true hl hh false lo hi σ4=K false false false false (Int.ofNat 0) (Int.ofNat 0) true hl hh mo lo hi σ6:=by
  obtain⟨σ1,g1,p1,f1⟩:=hI (BS.mk 1 44) p4
  have hc:dotsP l4=some (mo,l6):=hc
  unfold dotsP at hc
  cases hq:isP (BS.mk 1 44) l4 with
  | mk b l1=>
   rw[hq]at hc g1 p1
   cases b with
   | false=>
    cases hc
    refine⟨σ1,p1,f1,fun K=>?_⟩
    unfold T216_2
    simp -implicitDefEqProofs only [↓rP,rS,↓g1]
   | true=>
    obtain⟨l3,hn,he⟩:=Option.map_eq_some_iff.1 hc
    cases he
    obtain⟨σ3,g3,p3,f3⟩:=hM p1 hn
    refine⟨σ3,p3,f1.trans f3 (fun _ _ h=>h),fun K=>?_⟩
    unfold T216_2
    simp -implicitDefEqProofs only [↓rP,rS,↓g1,↓g3]
 refine⟨σ6,?_,p6,(f2.trans f4 (fun _ _ h=>h)).trans f6 (fun _ _ h=>h)⟩
 show T216_0 E D W (T216_1 E D W (T216_2 E D W (T216_3 E D W))) (.ptr xb 0) σ=_
 rw[k2,k4,k6]
 rfl
theorem beg_F (hN:100<N):SpBeg (F120 E D W N):=by
 intro σ t ht
 obtain⟨σ1,e1,f1,a1,n1⟩:=mkN ht (tokC t)
 obtain⟨σ2,e2,f2,a2,n2⟩:=mkN f1.tidy (typeV.map .str)
 have b1:=f2.at_ a1 f1.tidy (fun h=>h)
 refine⟨σ2,?_,f1.trans f2 (fun _ _ h=>h)⟩
 have run:∀(m j n:Nat),j+m=10→m<n→L120_2 E D W N n σ.next 0 (.sl σ1.next 0 10 (.ex 10)) (Int.ofNat j) σ2=some (.bool (((typeV.drop j).any fun x=>x.beq (ofN t.2.1)&&(decide (t.1=5) || decide (t.1=6))) || decide (t.1=1)),σ2):=by
  intro m
  induction m with
  | zero=>
   intro j n hj hn
   obtain⟨n,rfl⟩:∃k,n=k+1:=⟨n-1,by omega⟩
   obtain rfl:j=10:=by omega
   show T120_2 E D W (T120_1 E D W) _ σ.next 0 (.sl σ1.next 0 10 (.ex 10)) (Int.ofNat 10) σ2=_
   unfold tokC at b1
   have key:∀R,T120_2 E D W (T120_1 E D W) R σ.next 0 (.sl σ1.next 0 10 (.ex 10)) (Int.ofNat 10) σ2=some (.bool (decide (t.1=1)),σ2):=by
    intro R
    unfold T120_2 T120_1
    simp -implicitDefEqProofs only [↓rP,rA,Nat.reduceEqDiff,Nat.reduceLT,Nat.reduceLeDiff,Nat.lt_irrefl,↓ldK_is b1]
   rw[key];rfl
  | succ m ih=>
   intro j n hj hn
   obtain⟨n,rfl⟩:∃k,n=k+1:=⟨n-1,by omega⟩
   have hl:j<typeV.length:=by show j<10;omega
   rw[List.drop_eq_getElem_cons hl,List.any_cons]
   have d1:decide (j<10)=true:=decide_eq_true (by omega)
   have rd:∀κ,iaddrSK 1 (.sl σ1.next 0 10 (.ex 10)) (Int.ofNat j) (fun b o=>ldK E σ2 b o κ)=κ (.str typeV[j]):=fun κ=>by
    rw[iaddrSK_lt (show j<10 by omega)]
    refine ldK_get a2 ?_
    show (typeV.map V.str)[0+j*1]? = _
    rw[Nat.zero_add,Nat.mul_one,List.getElem?_map,List.getElem?_eq_getElem hl];rfl
   have ih':=ih (j+1) n (by omega) (by omega)
   show T120_2 E D W (T120_1 E D W) (L120_2 E D W N n) σ.next 0 (.sl σ1.next 0 10 (.ex 10)) (Int.ofNat j) σ2=_
   generalize typeV[j]=u at rd ⊢
   unfold tokC at b1
   have key:∀K R,T120_2 E D W K R σ.next 0 (.sl σ1.next 0 10 (.ex 10)) (Int.ofNat j) σ2=condK (u.beq (ofN t.2.1)&&(decide (t.1=5) || decide (t.1=6))) (some (.bool true,σ2)) (R σ.next 0 (.sl σ1.next 0 10 (.ex 10)) (Int.ofNat (j+1)) σ2):=by
    intro K R
    unfold T120_2
    cases h1:u.beq (ofN t.2.1)<;>cases h5:decide (t.1=5)<;>cases h6:decide (t.1=6)<;>simp -implicitDefEqProofs only [↓rP,rA,Nat.reduceEqDiff,Nat.reduceLT,Nat.reduceLeDiff,d1,↓rd,↓ldK_is b1,h1,h5,h6,addF_nat (show j+1≤9223372036854775807 by omega)]<;>rfl
   rw[key,ih']
   cases u.beq (ofN t.2.1)&&(decide (t.1=5) || decide (t.1=6))<;>rfl
 have g:=run 10 0 N rfl (by omega)
 unfold typeV at e2
 simp only[List.map_cons,List.map_nil]at e2
 unfold tokC at e1 ⊢
 show T120_0 E D W (L120_2 E D W N N) (Int.ofNat t.1) (ofN t.2.1) (Int.ofNat t.2.2) σ=_
 have key:∀K,T120_0 E D W K (Int.ofNat t.1) (ofN t.2.1) (Int.ofNat t.2.2) σ=K σ.next 0 (.sl σ1.next 0 10 (.ex 10)) (Int.ofNat 0) σ2:=by
  intro K
  unfold T120_0
  simp -implicitDefEqProofs only [↓rP,rS,↓e1,↓e2]
 rw[key,g];rfl
end
section
variable {E:List (Nat × Blk)} {D:Den} {N:Nat}
end
structure ItemS where
 name:List Nat
 num:Int
 has:Bool
def ItemS.c (x:ItemS):List V:=[.str (ofN x.name),.int .i64 x.num,.bool x.has]
structure FieldS where
 name:List Nat
 type:Nat
 opt:Bool
 group:Nat
def FieldS.c (x:FieldS):List V:=[.str (ofN x.name),.int .i64 (Int.ofNat x.type),.bool x.opt,.bool false,.int .i64 (Int.ofNat 0),.int .i64 (Int.ofNat 0),.nils,.nils,.int .i64 (Int.ofNat 0),.nils,.int .i64 (Int.ofNat x.group)]
structure NodeS where
 kind:Nat
 name:List Nat
 mHas:Bool
 mNum:Int
 mMode:Nat
 con:ConS
 items:List ItemS
 fields:List FieldS
 root:Nat
 more:Bool
 of_:Nat
def itC (l:List ItemS):List V:=l.flatMap ItemS.c
def fdC (l:List FieldS):List V:=l.flatMap FieldS.c
def NodeS.c (x:NodeS) (iv fv:V):List V:=[.int .i64 (Int.ofNat x.kind),.str (ofN x.name),.bool x.mHas,.int .i64 x.mNum,.int .i64 (Int.ofNat x.mMode),.bool x.con.has,.bool x.con.hasLow,.bool x.con.hasHigh,.bool x.con.more,.int .i64 x.con.low,.int .i64 x.con.high,iv,fv,.int .i64 (Int.ofNat x.root),.bool x.more,.int .i64 (Int.ofNat x.of_)]
structure Nq (σ:H) (nb:Nat) (nd:NodeS) (iv fv:V):Prop where
 a:Atc σ nb (nd.c iv fv)
 i:Dst σ 3 nd.items.length iv (itC nd.items)
 f:Dst σ 11 nd.fields.length fv (fdC nd.fields)
 ni:¬Names iv nb
 nf:¬Names fv nb
 d:∀b,Names iv b→¬Names fv b
structure Ap (xb:Nat) (lv:V) (nb:Nat) (iv fv:V):Prop where
 x:nb≠xb
 l:¬Names lv nb
 i:∀b,Names iv b→b≠xb∧¬Names lv b
 f:∀b,Names fv b→b≠xb∧¬Names lv b
theorem stz {σ:H} {b off:Nat} {y:V} {l:List V} (ht:Tidy σ) (a:Atc σ b l) (hy:y.one=true) (ho:off<l.length):∃σ',(∀κ:H→Ans,stK 1 b off y σ κ=κ σ')∧Fr (fun k=>k=b) σ σ'∧Atc σ' b (spl l off [y]):=by
 obtain⟨σ',e,f,a'⟩:=mkS ht a (spl l off [y])
 obtain⟨_,o2⟩:=one_live hy
 refine⟨σ',fun κ=>?_,f,a'⟩
 rw[stK_at a (by rw[o2];simp only[List.length_cons,List.length_nil,allOne_cons,allOne_nil,hy,Bool.and_true,Nat.zero_add,Nat.beq_refl,Bool.true_and,Nat.ble_eq,Nat.add_eq];omega),o2,e]
section
variable {σ σ':H} {nb:Nat} {nd:NodeS} {iv fv:V} {xb:Nat} {lv:V}
theorem Nq.fr {S:Nat→Prop} (h:Nq σ nb nd iv fv) (f:Fr S σ σ') (ht:Tidy σ) (h1:¬S nb) (h2:∀b,Names iv b→¬S b) (h3:∀b,Names fv b→¬S b):Nq σ' nb nd iv fv:=
 ⟨f.at_ h.a ht h1,h.i.fr f ht h2,h.f.fr f ht h3,h.ni,h.nf,h.d⟩
theorem Nq.frx (h:Nq σ nb nd iv fv) (f:Fr (fun k=>k=xb) σ σ') (ht:Tidy σ) (ap:Ap xb lv nb iv fv):Nq σ' nb nd iv fv:=
 h.fr f ht ap.x (fun b hb=>(ap.i b hb).1) (fun b hb=>(ap.f b hb).1)
theorem Nq.set (h:Nq σ nb nd iv fv) (ht:Tidy σ) {off:Nat} {y:V} (nd':NodeS) (hy:y.one=true) (ho:off<16) (hc:spl (nd.c iv fv) off [y]=nd'.c iv fv) (h1:nd'.items=nd.items) (h2:nd'.fields=nd.fields) :
  ∃σ',(∀κ:H→Ans,stK 1 nb off y σ κ=κ σ')∧Fr (fun k=>k=nb) σ σ'∧Nq σ' nb nd' iv fv:=by
 obtain⟨σ',g,f,a⟩:=stz ht h.a hy ho
 rw[hc]at a
 exact⟨σ',g,f,a,by rw[h1];exact h.i.fr f ht (fun b hb e=>h.ni (e ▸ hb)),by rw[h2];exact h.f.fr f ht (fun b hb e=>h.nf (e ▸ hb)),h.ni,h.nf,h.d⟩
end
section
variable {E:List (Nat × Blk)} {D:Den} {N:Nat}
end
def nodeZ:NodeS:=⟨0,[],false,0,0,conZ,[],[],0,false,0⟩
def ndCs:List NodeS→List (V × V)→List V
 | nd::ns,u::ws=>nd.c u.1 u.2++ndCs ns ws
 | _,_=>[]
theorem ndC_len (nd:NodeS) (iv fv:V):(nd.c iv fv).length=16:=rfl
theorem ndCs_app:∀(ns:List NodeS) (ws:List (V × V)) (nd:NodeS) (u:V × V),ws.length=ns.length→ndCs (ns++[nd]) (ws++[u])=ndCs ns ws++nd.c u.1 u.2
 | [],[],nd,u,_=>by simp[ndCs]
 | x::ns,y::ws,nd,u,h=>by
  have ih:=ndCs_app ns ws nd u (by simpa using h)
  show x.c y.1 y.2++ndCs (ns++[nd]) (ws++[u])=(x.c y.1 y.2++ndCs ns ws)++_
  rw[ih,List.append_assoc]
 | [],_::_,_,_,h=>by simp at h
 | _::_,[],_,_,h=>by simp at h
theorem ndCs_len:∀(ns:List NodeS) (ws:List (V × V)),ws.length=ns.length→(ndCs ns ws).length=ns.length*16
 | [],[],_=>rfl
 | x::ns,y::ws,h=>by
  have ih:=ndCs_len ns ws (by simpa using h)
  show (x.c y.1 y.2++ndCs ns ws).length=_
  rw[List.length_append,ih,ndC_len,List.length_cons];omega
 | [],_::_,h=>by simp at h
 | _::_,[],h=>by simp at h
theorem spl_app16:∀(a b:List V) (n:Nat) (cs:List V),spl (a++b) (a.length+n) cs=a++spl b n cs
 | [],b,n,cs=>by simp
 | x::a,b,n,cs=>by
  rw[List.length_cons,show a.length+1+n=(a.length+n)+1 by omega]
  show spl (x::(a++b)) (a.length+n+1) cs=x::(a++spl b n cs)
  rw[←spl_app16 a b n cs]
  cases cs with
  | nil=>simp[spl]
  | cons c cs=>rfl
theorem spl_here:∀(a b cs:List V),cs.length=a.length→spl (a++b) 0 cs=cs++b
 | [],b,[],_=>by cases b<;>rfl
 | x::a,b,c::cs,h=>by
  show c::spl (a++b) 0 cs=_
  rw[spl_here a b cs (by simpa using h)];rfl
 | [],_,_::_,h=>by simp at h
 | _::_,_,[],h=>by simp at h
theorem ndCs_set:∀(ns:List NodeS) (ws:List (V × V)) (i:Nat) (nd:NodeS) (u:V × V),ws.length=ns.length→i<ns.length→spl (ndCs ns ws) (i*16) (nd.c u.1 u.2)=ndCs (ns.set i nd) (ws.set i u)
 | x::ns,y::ws,0,nd,u,_,_=>by
  show spl (x.c y.1 y.2++ndCs ns ws) 0 _=nd.c u.1 u.2++ndCs ns ws
  exact spl_here _ _ _ rfl
 | x::ns,y::ws,i+1,nd,u,h,hi=>by
  have ih:=ndCs_set ns ws i nd u (by simpa using h) (by simpa using hi)
  show spl (x.c y.1 y.2++ndCs ns ws) ((i+1)*16) _=x.c y.1 y.2++ndCs (ns.set i nd) (ws.set i u)
  rw[←ih,show (i+1)*16=(x.c y.1 y.2).length+i*16 by rw[ndC_len];omega,spl_app16]
 | [],_,_,_,_,_,h=>by simp at h
 | _::_,[],_,_,_,h,_=>by simp at h
def PB (xb:Nat) (dv:V):Nat→Prop:=fun b=>b=xb∨Names dv b
def NdL (σ:H) (xb:Nat) (dv:V) (Q:Nat→Prop) (nd:NodeS) (u:V × V):Prop:=Src σ 3 nd.items.length u.1 (itC nd.items)∧Src σ 11 nd.fields.length u.2 (fdC nd.fields)∧∀b,Names u.1 b∨Names u.2 b→b≠xb∧¬Names dv b∧¬Q b
structure Pn (σ:H) (xb:Nat) (lv:V) (ts l:List Tok) (R:Rs) (ns:List NodeS) (Q:Nat→Prop):Prop where
 p:Pz σ xb lv ts l R
 w:∃ws:List (V × V),Dst σ 16 ns.length R.dv (ndCs ns ws)∧ws.length=ns.length∧∀(k:Nat) (nd:NodeS) (u:V × V),ns[k]? = some nd→ws[k]? = some u→NdL σ xb R.dv Q nd u
 dx:∀b,Names R.dv b→b≠xb∧¬Names lv b
structure Aq (xb:Nat) (lv dv:V) (nb:Nat) (iv fv:V):Prop where
 a:Ap xb lv nb iv fv
 d:¬Names dv nb
 i:∀b,Names iv b→¬Names dv b
 f:∀b,Names fv b→¬Names dv b
section
variable {σ σ':H} {nb:Nat} {nd:NodeS} {iv fv:V} {xb:Nat} {lv dv dv':V} {ts l l':List Tok} {R:Rs} {ns:List NodeS} {Q Q':Nat→Prop}
theorem NdL.lt {u:V × V} (h:NdL σ xb dv Q nd u) (ht:Tidy σ) {b:Nat} (hb:Names u.1 b∨Names u.2 b):b<σ.next:=hb.elim (h.1.lt ht) (h.2.1.lt ht)
theorem Pn.go (h:Pn σ xb lv ts l R ns Q) (p:Pz σ' xb lv ts l' R) (f:Fr (fun k=>k=xb) σ σ'):Pn σ' xb lv ts l' R ns Q:=by
 obtain⟨ws,h1,h2,h3⟩:=h.w
 refine⟨p,⟨ws,h1.fr f h.p.ht fun b hb e=>(h.dx b hb).1 e,h2,fun k nd u hn hu=>?_⟩,h.dx⟩
 obtain⟨a,b,c⟩:=h3 k nd u hn hu
 exact⟨a.fr f h.p.ht fun b hb e=>(c b (.inl hb)).1 e,b.fr f h.p.ht fun b hb e=>(c b (.inr hb)).1 e,c⟩
theorem Pn.fr {S:Nat→Prop} (h:Pn σ xb lv ts l R ns Q) (f:Fr S σ σ') (h1:¬S xb) (h2:∀b,Names lv b→¬S b) (h3:∀b,Names R.dv b→¬S b) (h4:∀b,b<σ.next→S b→Q b):Pn σ' xb lv ts l R ns Q:=by
 obtain⟨ws,k1,k2,k3⟩:=h.w
 refine⟨h.p.fr f h1 h2,⟨ws,k1.fr f h.p.ht h3,k2,fun k nd u hn hu=>?_⟩,h.dx⟩
 have hN:=k3 k nd u hn hu
 obtain⟨a,b,c⟩:=hN
 exact⟨a.fr f h.p.ht fun x hb e=>(c x (.inl hb)).2.2 (h4 x (a.lt h.p.ht hb) e),b.fr f h.p.ht fun x hb e=>(c x (.inr hb)).2.2 (h4 x (b.lt h.p.ht hb) e),c⟩
theorem Pn.mv {S:Nat→Prop} (h:Pn σ xb lv ts l R ns Q) (p:Pz σ' xb lv ts l' R) (f:Fr S σ σ') (h3:∀b,Names R.dv b→¬S b) (h4:∀b,b<σ.next→S b→b=xb∨Q b):Pn σ' xb lv ts l' R ns Q:=by
 obtain⟨ws,k1,k2,k3⟩:=h.w
 refine⟨p,⟨ws,k1.fr f h.p.ht h3,k2,fun k nd u hn hu=>?_⟩,h.dx⟩
 have hN:=k3 k nd u hn hu
 obtain⟨a,b,c⟩:=hN
 exact⟨a.fr f h.p.ht fun x hb e=>(h4 x (a.lt h.p.ht hb) e).elim (c x (.inl hb)).1 (c x (.inl hb)).2.2,b.fr f h.p.ht fun x hb e=>(h4 x (b.lt h.p.ht hb) e).elim (c x (.inr hb)).1 (c x (.inr hb)).2.2,c⟩
theorem Pn.dlt (h:Pn σ xb lv ts l R ns Q) {b:Nat} (hb:Names R.dv b):b<σ.next:=by
 obtain⟨ws,k1,_⟩:=h.w
 exact k1.lt h.p.ht hb
theorem Pn.llt (h:Pn σ xb lv ts l R ns Q) {b:Nat} (hb:Names lv b):b<σ.next:=h.p.src.lt h.p.ht hb
theorem Pn.ext (h:Pn σ xb lv ts l R ns Q) (hQ:∀b,Q' b→Q b∨σ.next≤b):Pn σ xb lv ts l R ns Q':=by
 obtain⟨ws,k1,k2,k3⟩:=h.w
 refine⟨h.p,⟨ws,k1,k2,fun k nd u hn hu=>?_⟩,h.dx⟩
 have hN:=k3 k nd u hn hu
 exact⟨hN.1,hN.2.1,fun b hb=>⟨(hN.2.2 b hb).1,(hN.2.2 b hb).2.1,fun q=>(hQ b q).elim (hN.2.2 b hb).2.2 fun h'=>by have:=hN.lt h.p.ht hb;omega⟩⟩
end
abbrev TypT:=Nat→List Tok→List NodeS→Option (Nat × List Tok × List NodeS)
abbrev NdT:=Option (NodeS × List Tok × List NodeS)
def LB (nb:Nat) (iv fv:V):Nat→Prop:=fun b=>b=nb∨Names iv b∨Names fv b
def Rs.wd (R:Rs) (dv:V):Rs:=⟨R.nm,R.tg,R.nv,R.tv,dv⟩
def SpTypT (T:TypT) (F:List V→H→Ans):Prop:=∀{σ:H} {xb:Nat} {lv:V} {ts l l':List Tok} {R:Rs} {ns ns':List NodeS} {Q:Nat→Prop} {d i:Nat},Pn σ xb lv ts l R ns Q→(∀b,Q b→b<σ.next)→d≤1000→T d l ns=some (i,l',ns') →
 ∃dv' σ',F [.ptr xb 0,.int .i64 (Int.ofNat d)] σ=some (.int .i64 (Int.ofNat i),σ')∧Pn σ' xb lv ts l' (R.wd dv') ns' Q∧Fr (PB xb R.dv) σ σ'∧(∀b,Names dv' b→Names R.dv b∨σ.next≤b)
section
variable {E:List (Nat × Blk)} {D:Den} {N:Nat}
end
structure FldSt (σ σ':H) (xb:Nat) (lv:V) (ts l':List Tok) (R:Rs) (ns':List NodeS) (Q:Nat→Prop) (nb:Nat) (nd':NodeS) (iv fv fv' dv':V):Prop where
 p:Pn σ' xb lv ts l' (R.wd dv') ns' (fun b=>Q b∨LB nb iv fv' b)
 q:Nq σ' nb nd' iv fv'
 ap:Aq xb lv dv' nb iv fv'
 mf:∀b,Names fv' b→Names fv b∨σ.next≤b
 md:∀b,Names dv' b→Names R.dv b∨σ.next≤b
 f:Fr (fun b=>PB xb R.dv b∨b=nb∨Names fv b) σ σ'
section
variable {σ σ1 σ2:H} {xb:Nat} {lv:V} {ts l l1 l2:List Tok} {R:Rs} {ns ns1 ns2:List NodeS} {Q:Nat→Prop} {nb:Nat} {nd nd1 nd2:NodeS} {iv fv fv1 fv2 dv1 dv2:V}
theorem FldSt.trans (h:FldSt σ σ1 xb lv ts l1 R ns1 Q nb nd1 iv fv fv1 dv1) (k:FldSt σ1 σ2 xb lv ts l2 (R.wd dv1) ns2 Q nb nd2 iv fv1 fv2 dv2):FldSt σ σ2 xb lv ts l2 R ns2 Q nb nd2 iv fv fv2 dv2:=by
 have le:=h.f.le
 refine⟨k.p,k.q,k.ap,fun b hb=>(k.mf b hb).elim (h.mf b) (fun e => .inr (by omega)),fun b hb=>(k.md b hb).elim (h.md b) (fun e => .inr (by omega)),h.f.trans k.f fun b hb e=>?_⟩
 rcases e with (e|e)|e|e
 ·exact .inl (.inl e)
 ·exact(h.md b e).elim (fun h => .inl (.inr h)) (fun h=>by omega)
 ·exact .inr (.inl e)
 ·exact(h.mf b e).elim (fun h => .inr (.inr h)) (fun h=>by omega)
theorem FldSt.go (h:Pn σ xb lv ts l R ns (fun b=>Q b∨LB nb iv fv b)) (q:Nq σ nb nd iv fv) (ap:Aq xb lv R.dv nb iv fv) (p:Pz σ1 xb lv ts l1 R) (f:Fr (fun k=>k=xb) σ σ1):FldSt σ σ1 xb lv ts l1 R ns Q nb nd iv fv fv R.dv:=
 ⟨h.go p f,q.frx f h.p.ht ap.a,ap,fun _ h => .inl h,fun _ h => .inl h,f.mono fun _ _ e => .inl (.inl e)⟩
theorem FldSt.own (h:Pn σ xb lv ts l R ns (fun b=>Q b∨LB nb iv fv b)) (ap:Aq xb lv R.dv nb iv fv) (q:Nq σ1 nb nd1 iv fv) (f:Fr (fun k=>k=nb) σ σ1):FldSt σ σ1 xb lv ts l R ns Q nb nd1 iv fv fv R.dv:=
 ⟨h.fr f (fun e=>ap.a.x e.symm) (fun b hb e=>ap.a.l (e ▸ hb)) (fun b hb e=>ap.d (e ▸ hb)) (fun b _ e => .inr (.inl e)),q,ap,fun _ h => .inl h,fun _ h => .inl h,f.mono fun _ _ e => .inr (.inl e)⟩
end
section
variable {E:List (Nat × Blk)} {D:Den} {N:Nat}
end
def baseP (T:TypT) (d:Nat) (nd:NodeS) (l:List Tok) (ns:List NodeS):NdT:=match isP (BS.mk 7 22026814072246082) l with
 | (true,_)=>none
 | (false,l1)=>match isP (BS.mk 4 1280070990) l1 with
 | (true,_)=>none
 | (false,l2)=>match isP (BS.mk 10 488440487847103610377301) l2 with
 | (true,_)=>none
 | (false,l3)=>match isP (BS.mk 7 23157120498421321) l3 with
 | (true,l4)=>(match isP (BS.mk 1 40) l4 with
  | (true,l5)=>(boundsP l5).bind fun c=>(mustP (BS.mk 1 41) c.2).map fun l6=>({ nd with kind:=2,con:=c.1 },l6,ns)
  | (false,l5)=>some ({ nd with kind:=2 },l5,ns))
 | (false,_)=>none
structure BaseSt (σ σ':H) (xb:Nat) (lv:V) (ts l':List Tok) (R:Rs) (ns':List NodeS) (Q:Nat→Prop) (nb:Nat) (nd':NodeS) (iv fv iv' fv' dv':V):Prop where
 p:Pn σ' xb lv ts l' (R.wd dv') ns' (fun b=>Q b∨LB nb iv' fv' b)
 q:Nq σ' nb nd' iv' fv'
 ap:Aq xb lv dv' nb iv' fv'
 mi:∀b,Names iv' b→Names iv b∨σ.next≤b
 mf:∀b,Names fv' b→Names fv b∨σ.next≤b
 md:∀b,Names dv' b→Names R.dv b∨σ.next≤b
 f:Fr (fun b=>PB xb R.dv b∨LB nb iv fv b) σ σ'
def SpBaseT (T:TypT) (F:List V→H→Ans):Prop:=∀{σ:H} {xb:Nat} {lv:V} {ts l l':List Tok} {R:Rs} {ns ns':List NodeS} {Q:Nat→Prop} {nb:Nat} {nd nd':NodeS} {iv fv:V} {d:Nat},
 Pn σ xb lv ts l R ns (fun b=>Q b∨LB nb iv fv b)→(∀b,Q b→b<σ.next)→Nq σ nb nd iv fv→Aq xb lv R.dv nb iv fv→nd.items=[]→nd.fields=[]→d≤900→baseP T d nd l ns=some (nd',l',ns') →
 ∃dv' iv' fv' σ',F [.ptr xb 0,.ptr nb 0,.int .i64 (Int.ofNat d)] σ=some (.tup [],σ')∧BaseSt σ σ' xb lv ts l' R ns' Q nb nd' iv fv iv' fv' dv'
section
variable {σ σ1 σ2:H} {xb:Nat} {lv:V} {ts l l1 l2:List Tok} {R:Rs} {ns ns1 ns2:List NodeS} {Q:Nat→Prop} {nb:Nat} {nd nd1 nd2:NodeS} {iv fv fv1 fv2 dv1 dv2:V}
theorem FldSt.base (h:FldSt σ σ1 xb lv ts l1 R ns1 Q nb nd1 iv fv fv1 dv1):BaseSt σ σ1 xb lv ts l1 R ns1 Q nb nd1 iv fv iv fv1 dv1:=
 ⟨h.p,h.q,h.ap,fun _ h => .inl h,h.mf,h.md,h.f.mono fun _ _ e=>e.imp id fun e=>e.imp id .inr⟩
theorem Nq.setc (h:Nq σ nb nd iv fv) (ht:Tidy σ) (c:ConS):∃σ',(∀κ:H→Ans,stK 6 nb 5 (.agg [.bool c.has,.bool c.hasLow,.bool c.hasHigh,.bool c.more,.int .i64 c.low,.int .i64 c.high]) σ κ=κ σ')∧Fr (fun k=>k=nb) σ σ'∧Nq σ' nb { nd with con:=c } iv fv:=by
 obtain⟨σ',e,f,a⟩:=mkS ht h.a (({ nd with con:=c }:NodeS).c iv fv)
 refine⟨σ',fun κ=>?_,f,a,h.i.fr f ht (fun b hb e=>h.ni (e ▸ hb)),h.f.fr f ht (fun b hb e=>h.nf (e ▸ hb)),h.ni,h.nf,h.d⟩
 rw[stK_at h.a rfl]
 show κ (setF σ nb (.cells (({ nd with con:=c }:NodeS).c iv fv)))=_
 rw[e]
end
section
variable {E:List (Nat × Blk)} {D:Den} {N:Nat}
theorem base_F {T:TypT} (hNow:SpNow (D 60)) (hI:SpIs (D 59)) (hM:SpMust (D 58)) (hB:SpBounds (D 216)):SpBaseT T (F122 E D (drawW E D) N):=by
 intro σ xb lv ts l l' R ns ns' Q nb nd nd' iv fv d h hQ q ap hi0 hf0 hd hs
 obtain⟨t,l0,rfl⟩:∃t l0,l=t::l0:=by
  cases l with
  | nil=>exact absurd rfl h.p.ne
  | cons t l0=>exact⟨t,l0,rfl⟩
 have gn:=hNow h.p
 obtain⟨σ1,e1,f1,a1,n1⟩:=mkN h.p.ht [.int .i64 (Int.ofNat 0),.str ⟨0,0⟩,.int .i64 (Int.ofNat 0)]
 obtain⟨σ2,e2,f2,a2⟩:=mkS f1.tidy a1 (tokC t)
 unfold tokC at gn e2 a2
 have s2:∀κ:H→Ans,stK 3 σ.next 0 (.agg [.int .i64 (Int.ofNat t.1),.str (ofN t.2.1),.int .i64 (Int.ofNat t.2.2)]) σ1 κ=κ σ2:=fun κ=>by
  rw[stK_at a1 rfl]
  show κ (setF σ1 σ.next (.cells [.int .i64 (Int.ofNat t.1),.str (ofN t.2.1),.int .i64 (Int.ofNat t.2.2)]))=_
  rw[e2]
 have f02:Fr Nowhere σ σ2:=f1.trans f2 (fun b hb e=>by omega)
 have le2:=f02.le
 have h2:=h.fr f02 (fun h=>h) (fun _ _ h=>h) (fun _ _ h=>h) (fun _ _ h=>h.elim)
 have q2:=q.fr f02 h.p.ht (fun h=>h) (fun _ _ h=>h) (fun _ _ h=>h)
 obtain⟨a,ha,_⟩:=h2.p.ex
 unfold pc at ha
 suffices key:∃dv' iv' fv' σ',F122 E D (drawW E D) N [.ptr xb 0,.ptr nb 0,.int .i64 (Int.ofNat d)] σ=some (.tup [],σ')∧BaseSt σ2 σ' xb lv ts l' R ns' Q nb nd' iv fv iv' fv' dv' by
  obtain⟨dv',iv',fv',σ',g,s⟩:=key
  exact⟨dv',iv',fv',σ',g,s.p,s.q,s.ap,fun b hb=>(s.mi b hb).imp id (fun e=>by omega),fun b hb=>(s.mf b hb).imp id (fun e=>by omega),fun b hb=>(s.md b hb).imp id (fun e=>by omega),(f02.mono (fun _ _ h=>h.elim):Fr (fun b=>PB xb R.dv b∨LB nb iv fv b) σ σ2).trans s.f (fun _ _ e=>e)⟩
 have hQ2:∀b,Q b→b<σ2.next:=fun b hb=>by have:=hQ b hb;omega
 show ∃dv' iv' fv' σ',T122_0 E D (drawW E D) xb 0 nb 0 (Int.ofNat d) σ=some (.tup [],σ')∧_
 have word:∀{σ':H} {l1:List Tok} (s:BS),FldSt σ2 σ' xb lv ts l1 R ns Q nb nd iv fv fv R.dv→∃σ'',D 59 [.ptr xb 0,.str s] σ'=some (.bool (isP s l1).1,σ'')∧FldSt σ2 σ'' xb lv ts (isP s l1).2 R ns Q nb nd iv fv fv R.dv:=by
  intro σ' l1 s st
  obtain⟨σ'',g,p,f⟩:=hI s st.p.p
  exact⟨σ'',g,st.trans (FldSt.go st.p st.q st.ap p f)⟩
 have kind:∀{σ':H} {l1:List Tok} (k:Nat),FldSt σ2 σ' xb lv ts l1 R ns Q nb nd iv fv fv R.dv→∃σ'',(∀κ:H→Ans,stK 1 nb 0 (.int .i64 (Int.ofNat k)) σ' κ=κ σ'')∧FldSt σ2 σ'' xb lv ts l1 R ns Q nb { nd with kind:=k } iv fv fv R.dv:=by
  intro σ' l1 k st
  obtain⟨σ'',g,f,q'⟩:=st.q.set (off:=0) (y := .int .i64 (Int.ofNat k)) st.p.p.ht { nd with kind:=k } rfl (by decide) rfl rfl rfl
  exact⟨σ'',g,st.trans (FldSt.own st.p st.ap q' f)⟩
 have must:∀{σ':H} {l1 l2:List Tok} {nd1:NodeS} {s:BS},FldSt σ2 σ' xb lv ts l1 R ns Q nb nd1 iv fv fv R.dv→mustP s l1=some l2→∃σ'',D 58 [.ptr xb 0,.str s] σ'=some (.tup [],σ'')∧FldSt σ2 σ'' xb lv ts l2 R ns Q nb nd1 iv fv fv R.dv:=by
  intro σ' l1 l2 nd1 s st hm
  obtain⟨σ'',g,p,f⟩:=hM st.p.p hm
  exact⟨σ'',g,st.trans (FldSt.go st.p st.q st.ap p f)⟩
 have con:∀{σ':H} {l1:List Tok} {nd1:NodeS} (c:ConS),FldSt σ2 σ' xb lv ts l1 R ns Q nb nd1 iv fv fv R.dv→∃σ'',(∀κ:H→Ans,stK 6 nb 5 (.agg [.bool c.has,.bool c.hasLow,.bool c.hasHigh,.bool c.more,.int .i64 c.low,.int .i64 c.high]) σ' κ=κ σ'')∧FldSt σ2 σ'' xb lv ts l1 R ns Q nb { nd1 with con:=c } iv fv fv R.dv:=by
  intro σ' l1 nd1 c st
  obtain⟨σ'',g,f,q'⟩:=st.q.setc st.p.p.ht c
  exact⟨σ'',g,st.trans (FldSt.own st.p st.ap q' f)⟩
 have bnds:∀{σ':H} {l1 l2:List Tok} {nd1:NodeS} {c:ConS},FldSt σ2 σ' xb lv ts l1 R ns Q nb nd1 iv fv fv R.dv→boundsP l1=some (c,l2)→∃σ'',D 216 [.ptr xb 0] σ'=some (.agg [.bool c.has,.bool c.hasLow,.bool c.hasHigh,.bool c.more,.int .i64 c.low,.int .i64 c.high],σ'')∧FldSt σ2 σ'' xb lv ts l2 R ns Q nb nd1 iv fv fv R.dv:=by
  intro σ' l1 l2 nd1 c st hm
  obtain⟨σ'',g,p,f⟩:=hB st.p.p hm
  exact⟨σ'',g,st.trans (FldSt.go st.p st.q st.ap p f)⟩
 have t0:FldSt σ2 σ2 xb lv ts (t::l0) R ns Q nb nd iv fv fv R.dv:=⟨h2,q2,ap,fun _ h => .inl h,fun _ h => .inl h,Fr.refl h2.p.ht⟩
 unfold baseP at hs
 unfold T122_0
 simp -implicitDefEqProofs only [↓rP,rA,Nat.reduceEqDiff,Nat.reduceLT,Nat.reduceLeDiff,↓gn,↓e1,↓s2,↓ldK_is ha]
 obtain⟨σ3,g3,t3⟩:=word (BS.mk 7 22026814072246082) t0
 cases c3:isP (BS.mk 7 22026814072246082) (t::l0)with
 | mk b l1=>
 rw[c3]at hs g3 t3
 rcases b with _|_
 rotate_left
 ·cases hs
 replace hs:(match isP (BS.mk 4 1280070990) l1 with | (true,_)=>_ | (false,_)=>_:NdT)=_:=hs
 obtain⟨σ4,g4,t4⟩:=word (BS.mk 4 1280070990) t3
 cases c4:isP (BS.mk 4 1280070990) l1 with
 | mk b l2=>
 rw[c4]at hs g4 t4
 rcases b with _|_
 rotate_left
 ·cases hs
 replace hs:(match isP (BS.mk 10 488440487847103610377301) l2 with | (true,_)=>_ | (false,_)=>_:NdT)=_:=hs
 obtain⟨σ5,g5,t5⟩:=word (BS.mk 10 488440487847103610377301) t4
 cases c5:isP (BS.mk 10 488440487847103610377301) l2 with
 | mk b l3=>
 rw[c5]at hs g5 t5
 rcases b with _|_
 rotate_left
 ·cases hs
 replace hs:(match isP (BS.mk 7 23157120498421321) l3 with | (true,_)=>_ | (false,_)=>_:NdT)=_:=hs
 obtain⟨σ6,g6,t6⟩:=word (BS.mk 7 23157120498421321) t5
 cases c6:isP (BS.mk 7 23157120498421321) l3 with
 | mk b l4=>
 rw[c6]at hs g6 t6
 rcases b with _|_
 rotate_left
 ·replace hs:(match isP (BS.mk 1 40) l4 with | (true,_)=>_ | (false,_)=>_:NdT)=_:=hs
  obtain⟨_,ga,ta⟩:=kind 2 t6
  obtain⟨σq,gq,pq,fq⟩:=hI (BS.mk 1 40) ta.p.p
  have tq:=ta.trans (FldSt.go ta.p ta.q ta.ap pq fq)
  cases cq:isP (BS.mk 1 40) l4 with
  | mk b lq=>
  rw[cq]at hs gq tq
  rcases b with _|_
  ·cases hs
   exact⟨_,_,_,_,by simp -implicitDefEqProofs only [↓rP,rS,↓g3,↓g4,↓g5,↓g6,↓ga,↓gq],tq.base⟩
  ·obtain⟨⟨c,lc⟩,hc,hs⟩:=Option.bind_eq_some_iff.1 hs
   obtain⟨lm,hm,he⟩:=Option.map_eq_some_iff.1 hs
   cases he
   obtain⟨_,gb,tb⟩:=bnds tq hc
   obtain⟨_,gc,tc⟩:=con c tb
   obtain⟨_,gd,td⟩:=must tc hm
   exact⟨_,_,_,_,by simp -implicitDefEqProofs only [↓rP,rS,↓g3,↓g4,↓g5,↓g6,↓ga,↓gq,↓gb,↓gc,↓gd],td.base⟩
 cases hs
end
def markP (l:List Tok):Option ((Bool × Int × Nat) × List Tok):=match isP (BS.mk 1 91) l with
 | (false,l1)=>some ((false,0,0),l1)
 | (true,_)=>none
def nodeM (m:Bool × Int × Nat):NodeS:={ nodeZ with mHas:=m.1,mNum:=m.2.1,mMode:=m.2.2 }
def typS (T:TypT):TypT:=fun d l ns=>match l with
 | []=>none
 | t::l0=>match begB t&&(decide (d≤16)&&decide (ns.length<300))with
  | true=>(markP (t::l0)).bind fun m=>(baseP T d (nodeM m.1) m.2 (ns++[nodeZ])).map fun s=>(ns.length,s.2.1,s.2.2.set ns.length s.1)
  | false=>none
def typP:Nat→TypT
 | 0=>fun _ _ _=>none
 | q+1=>typS (typP q)
def MonT (T:TypT):Prop:=∀{d:Nat} {l:List Tok} {ns:List NodeS} {i:Nat} {l':List Tok} {ns':List NodeS},T d l ns=some (i,l',ns')→ns.length≤ns'.length
section
variable {T:TypT} {d:Nat} {nd nd':NodeS} {l l':List Tok} {ns ns':List NodeS}
theorem baseP_mon (hT:MonT T) (hs:baseP T d nd l ns=some (nd',l',ns')):ns.length≤ns'.length:=by
 unfold baseP at hs
 split at hs
 ·cases hs
 split at hs
 ·cases hs
 split at hs
 ·cases hs
 split at hs
 ·split at hs
  ·obtain⟨_,_,hs⟩:=Option.bind_eq_some_iff.1 hs
   obtain⟨_,_,he⟩:=Option.map_eq_some_iff.1 hs
   cases he;exact Nat.le_refl _
  ·cases hs;exact Nat.le_refl _
 ·cases hs
theorem typS_mon (hT:MonT T):MonT (typS T):=by
 intro d l ns i l' ns' hs
 cases l with
 | nil=>cases hs
 | cons t l0=>
  unfold typS at hs
  dsimp only at hs
  split at hs
  ·obtain⟨_,_,hs⟩:=Option.bind_eq_some_iff.1 hs
   obtain⟨⟨nd,lb,nsb⟩,hb,he⟩:=Option.map_eq_some_iff.1 hs
   cases he
   have:=baseP_mon hT hb
   rw[List.length_append,List.length_cons,List.length_nil]at this
   show ns.length≤(nsb.set ns.length nd).length
   rw[List.length_set];omega
  ·cases hs
theorem typP_mon:∀q,MonT (typP q)
 | 0=>fun hs=>by cases hs
 | q+1=>typS_mon (typP_mon q)
end
def zC:List V:=[.int .i64 (Int.ofNat 0),.str (BS.mk 0 0),.bool false,.int .i64 (Int.ofNat 0),.int .i64 (Int.ofNat 0),.bool false,.bool false,.bool false,.bool false,.int .i64 (Int.ofNat 0),.int .i64 (Int.ofNat 0),.nils,.nils,.int .i64 (Int.ofNat 0),.bool false,.int .i64 (Int.ofNat 0)]
section
variable {E:List (Nat × Blk)} {σ σ':H} {nb:Nat} {nd:NodeS} {iv fv:V} {xb:Nat} {lv dv dv':V} {ts l l':List Tok} {R:Rs} {ns:List NodeS} {Q Q':Nat→Prop}
theorem Pn.push (h:Pn σ xb lv ts l R ns Q) (hQ:∀b,Q b→b<σ.next) (hl:ns.length<300):∃u σ1 σ2 σ3,newB σ (.cells zC)=σ1∧(∀κ:V→H→Ans,appK E 16 144 R.dv (.sl σ.next 0 1 (.ex 1)) σ1 κ=κ u σ2)∧u.one=true∧(∀κ:H→Ans,stK 1 xb 6 u σ2 κ=κ σ3) ∧
  Pn σ3 xb lv ts l (R.wd u) (ns++[nodeZ]) Q∧Fr (PB xb R.dv) σ σ3∧(∀b,Names u b→Names R.dv b∨σ.next≤b):=by
 obtain⟨ws,k1,k2,k3⟩:=h.w
 obtain⟨a,ha,hl'⟩:=h.p.ex
 obtain⟨σ1,e1,f1,a1,n1⟩:=mkN h.p.ht zC
 have xs:Src σ1 16 1 (V.sl σ.next 0 1 (.ex 1)) zC := .inr ⟨_,_,_,_,rfl,a1,Nat.le_refl _,rfl⟩
 obtain⟨u,σ2,g2,d2,m2,f2⟩:=app_all (E:=E) (bytes:=144) (k1.fr f1 h.p.ht (fun _ _ h=>h)) f1.tidy xs rfl (by unfold growable;simp only[Bool.and_eq_true,Nat.ble_eq];omega)
 have le1:=f1.le
 have le2:=f2.le
 have hx:=h.p.lt
 have ha2:=f2.at_ (f1.at_ ha h.p.ht (fun h=>h)) f1.tidy (fun e=>(h.dx xb e).1 rfl)
 obtain⟨σ3,g3,f3,a3⟩:=stz (off:=6) f2.tidy ha2 d2.one (show 6<9 by decide)
 have a3:Atc σ3 xb (pc lv a (R.wd u)):=a3
 have mu:∀b,Names u b→Names R.dv b∨σ.next≤b:=fun b hb=>(m2 b hb).imp id fun h=>by omega
 have ux:∀b,Names u b→b≠xb:=fun b hb=>(mu b hb).elim (fun e=>(h.dx b e).1) (fun e=>by omega)
 have f13:Fr (PB xb R.dv) σ σ3:=((f1.mono (fun _ _ h=>h.elim):Fr (PB xb R.dv) σ σ1).trans f2 (fun _ _ e => .inr e)).trans f3 (fun _ _ e => .inl e)
 refine⟨u,σ1,σ2,σ3,e1,g2,d2.one,g3,⟨⟨⟨a,a3,hl'⟩,h.p.src.fr f13 h.p.ht (fun b hb e=>e.elim (h.p.nx b hb) (fun e=>(h.dx b e).2 hb)),h.p.ne,h.p.nx,h.p.ok,f13.tidy⟩,⟨ws++[(.nils,.nils)],?_,by simp[k2],fun k nd w hn hw=>?_⟩,fun b hb=>⟨ux b hb,fun hn=>(mu b hb).elim (fun e=>(h.dx b e).2 hn) (fun e=>by have:=h.llt hn;omega)⟩⟩,f13,mu⟩
 ·rw[List.length_append,List.length_cons,List.length_nil,ndCs_app _ _ _ _ k2]
  exact d2.fr f3 f2.tidy (fun b hb e=>ux b hb e)
 ·rcases Nat.lt_or_ge k ns.length with hk|hk
  ·rw[List.getElem?_append_left hk]at hn
   rw[List.getElem?_append_left (by omega)]at hw
   have hN:=k3 k nd w hn hw
   exact⟨hN.1.fr f13 h.p.ht fun b hb e=>e.elim (hN.2.2 b (.inl hb)).1 (hN.2.2 b (.inl hb)).2.1,hN.2.1.fr f13 h.p.ht fun b hb e=>e.elim (hN.2.2 b (.inr hb)).1 (hN.2.2 b (.inr hb)).2.1,fun b hb=>⟨(hN.2.2 b hb).1,fun hu=>(mu b hu).elim (hN.2.2 b hb).2.1 (fun e=>by have:=hN.lt h.p.ht hb;omega),(hN.2.2 b hb).2.2⟩⟩
  ·rw[List.getElem?_append_right hk]at hn
   rw[List.getElem?_append_right (by omega),k2]at hw
   obtain⟨j,hj⟩:∃j,k-ns.length=j:=⟨_,rfl⟩
   rw[hj]at hn hw
   cases j with
   | succ j=>simp at hn
   | zero=>
    cases hn
    cases hw
    exact⟨.inl ⟨rfl,rfl,rfl⟩,.inl ⟨rfl,rfl,rfl⟩,fun b hb=>hb.elim (fun h=>h.elim) (fun h=>h.elim)⟩
theorem Pn.put (h:Pn σ xb lv ts l R ns (fun b=>Q b∨LB nb iv fv b)) (q:Nq σ nb nd iv fv) (ap:Aq xb lv R.dv nb iv fv) (hq:∀b,Names iv b∨Names fv b→¬Q b) {i:Nat} (hi:i<ns.length) :
    ∃b σ',(∀κ:Nat→Nat→Ans,iaddrSK 16 R.dv (Int.ofNat i) κ=κ b (i*16))∧(∀κ:H→Ans,stK 16 b (i*16) (.agg (nd.c iv fv)) σ κ=κ σ')∧Pn σ' xb lv ts l R (ns.set i nd) Q∧Fr (Names R.dv) σ σ':=by
  obtain⟨ws,k1,k2,k3⟩:=h.w
  have hlen:=ndCs_len ns ws k2
  obtain⟨b,cp,hdv,hb⟩:∃b cp,R.dv = .sl b 0 ns.length cp∧Atc σ b (ndCs ns ws):=by
    rcases k1 with (⟨h0,_⟩|⟨b,hv,ha,_⟩)|⟨b,hv,ha,_⟩
    · omega
    · exact⟨b,_,hv,ha⟩
    · exact⟨b,_,hv,ha⟩
  obtain⟨σ',e,f,a⟩:=mkS h.p.ht hb (ndCs (ns.set i nd) (ws.set i (iv,fv)))
  have nmb:∀x,Names R.dv x↔x=b:=fun x=>by rw[hdv];exact Iff.rfl
  have f':Fr (Names R.dv) σ σ':=f.mono fun x _ e=>(nmb x).2 e
  have ho:allOne (nd.c iv fv)=true:=by
    unfold NodeS.c
    simp only[allOne_cons,allOne_nil,one_int,one_str,one_bool,q.i.one,q.f.one,Bool.and_true]
  have hl16:i*16+16≤(ndCs ns ws).length:=by rw[hlen];omega
  refine⟨b,σ',fun κ=>?_,fun κ=>?_,⟨h.p.fr f' (fun e=>(h.dx xb e).1 rfl) (fun x hx e=>(h.dx x e).2 hx),⟨ws.set i (iv,fv),?_,by rw[List.length_set,List.length_set,k2],fun k nd1 w hn hw=>?_⟩,h.dx⟩,f'⟩
  · rw[hdv,iaddrSK_lt hi]
    show κ b (0+i*16)=_
    rw[Nat.zero_add]
  · rw[stK_at hb (by
      rw[cells_agg,ho,ndC_len]
      simp only[Nat.beq_refl,Bool.true_and,Bool.and_true,Nat.ble_eq];exact hl16),cells_agg,ndCs_set ns ws i nd (iv,fv) k2 hi,e]
  · rw[List.length_set]
    rcases k1 with (⟨h0,_⟩|⟨b',hv,ha,h0,hl⟩)|⟨b',hv,ha,hl⟩
    · omega
    · have:b'=b:=by rw[hdv]at hv;cases hv;rfl
      subst this
      exact .inl (.inr ⟨b',hv,a,h0,by rw[ndCs_len _ _ (by rw[List.length_set,List.length_set,k2]),List.length_set]⟩)
    · have:b'=b:=by rw[hdv]at hv;cases hv;rfl
      subst this
      exact .inr ⟨b',hv,a,by rw[ndCs_len _ _ (by rw[List.length_set,List.length_set,k2]),List.length_set]⟩
  · by_cases hk:i=k
    · subst hk
      rw[List.getElem?_set_self hi]at hn
      rw[List.getElem?_set_self (by omega)]at hw
      cases hn
      cases hw
      exact⟨q.i.src.fr f' h.p.ht (fun x hx e=>ap.i x hx e),q.f.src.fr f' h.p.ht (fun x hx e=>ap.f x hx e),fun x hx=>⟨hx.elim (fun e=>(ap.a.i x e).1) (fun e=>(ap.a.f x e).1),hx.elim (ap.i x) (ap.f x),hq x hx⟩⟩
    · rw[List.getElem?_set_ne hk]at hn hw
      have hN:=k3 k nd1 w hn hw
      exact⟨hN.1.fr f' h.p.ht fun x hb e=>(hN.2.2 x (.inl hb)).2.1 e,hN.2.1.fr f' h.p.ht fun x hb e=>(hN.2.2 x (.inr hb)).2.1 e,fun x hx=>⟨(hN.2.2 x hx).1,(hN.2.2 x hx).2.1,fun e=>(hN.2.2 x hx).2.2 (.inl e)⟩⟩
end
section
variable {E:List (Nat × Blk)} {D:Den} {W:DrawFn} {N:Nat}
theorem subK_16 {a b c d e f g h i j k l m n o p:V} {κ:List V→Ans}:subK [a,b,c,d,e,f,g,h,i,j,k,l,m,n,o,p] 0 16 κ=κ [a,b,c,d,e,f,g,h,i,j,k,l,m,n,o,p]:=rfl
theorem typ_F {T:TypT} (hMon:MonT T) (hNow:SpNow (D 60)) (hBe:SpBeg (D 120)) (hI:SpIs (D 59)) (hM:SpMust (D 58)) (hN:SpNumb (D 121)) (hB:SpBaseT T (D 122)):SpTypT (typS T) (F62 E D W N):=by
 intro σ xb lv ts l l' R ns ns' Q d i h hQ hd hs
 cases l with
 | nil=>cases hs
 | cons t l0=>
 replace hs:(match begB t&&(decide (d≤16)&&decide (ns.length<300))with
  | true=>(markP (t::l0)).bind fun m=>(baseP T d (nodeM m.1) m.2 (ns++[nodeZ])).map fun s=>(ns.length,s.2.1,s.2.2.set ns.length s.1)
  | false=>none:Option (Nat × List Tok × List NodeS))=some (i,l',ns'):=hs
 cases hb:begB t&&(decide (d≤16)&&decide (ns.length<300))with
 | false=>rw[hb]at hs;cases hs
 | true=>
 rw[hb]at hs
 simp only[Bool.and_eq_true,decide_eq_true_eq]at hb
 obtain⟨hb,hd16,hl⟩:=hb
 obtain⟨⟨m,lm⟩,hm,hs⟩:=Option.bind_eq_some_iff.1 hs
 obtain⟨⟨nd,lb,nsb⟩,hbase,he⟩:=Option.map_eq_some_iff.1 hs
 cases he
 have gn:=hNow h.p
 obtain⟨σ1,g1,f1⟩:=hBe σ t h.p.ht
 rw[hb]at g1
 have le1:=f1.le
 have h1:=h.fr f1 (fun h=>h) (fun _ _ h=>h) (fun _ _ h=>h) (fun _ _ h=>h.elim)
 obtain⟨a,ha,_⟩:=h.p.ex
 obtain⟨a1,ha1,_⟩:=h1.p.ex
 unfold pc at ha ha1
 have hQ1:∀b,Q b→b<σ1.next:=fun b hb=>by have:=hQ b hb;omega
 obtain⟨u,σ2,σ3,σ4,e2,g3,uo,g4,h4,f14,mu⟩:=h1.push (E:=E) hQ1 hl
 obtain⟨σ5,e5,f5,a5,n5⟩:=mkN h4.p.ht zC
 obtain⟨σ6,e6,f6,a6⟩:=mkS f5.tidy a5 zC
 have s6:∀κ:H→Ans,stK 16 σ4.next 0 (.agg zC) σ5 κ=κ σ6:=fun κ=>by
  rw[stK_at a5 rfl]
  show κ (setF σ5 σ4.next (.cells zC))=_
  rw[e6]
 have f46:Fr Nowhere σ4 σ6:=f5.trans f6 (fun b hb e=>by omega)
 have le14:=f14.le
 have le46:=f46.le
 have q6:Nq σ6 σ4.next nodeZ .nils .nils:=⟨a6,Dst.nil _ _,Dst.nil _ _,fun h=>h,fun h=>h,fun _ h=>h.elim⟩
 have lx4:=h4.p.lt
 have ap6:Aq xb lv u σ4.next .nils .nils:=⟨⟨by omega,fun hn=>by have:=h4.llt hn;omega,fun _ h=>h.elim,fun _ h=>h.elim⟩,fun hn=>by have:=h4.dlt (R:=R.wd u) hn;omega,fun _ h=>h.elim,fun _ h=>h.elim⟩
 have h6:Pn σ6 xb lv ts (t::l0) (R.wd u) (ns++[nodeZ]) (fun b=>Q b∨LB σ4.next .nils .nils b):=(h4.ext (Q':=fun b=>Q b∨LB σ4.next .nils .nils b) fun b hb=>by
  rcases hb with hb|hb|hb|hb
  ·exact .inl hb
  ·exact .inr (by omega)
  ·exact hb.elim
  ·exact hb.elim).fr f46 (fun h=>h) (fun _ _ h=>h) (fun _ _ h=>h) (fun _ _ h=>h.elim)
 have s0:FldSt σ6 σ6 xb lv ts (t::l0) (R.wd u) (ns++[nodeZ]) Q σ4.next nodeZ .nils .nils .nils u:=⟨h6,q6,ap6,fun _ h => .inl h,fun _ h => .inl h,Fr.refl h6.p.ht⟩
 obtain⟨σ7,s7,k7⟩:∃σ7,FldSt σ6 σ7 xb lv ts lm (R.wd u) (ns++[nodeZ]) Q σ4.next (nodeM m) .nils .nils .nils u ∧
   ∀K1:Nat→Nat→Int→Int→Nat→Nat→H→Ans,T62_0 E D W K1 (T62_2 E D W K1) xb 0 (Int.ofNat d) σ=K1 xb 0 (Int.ofNat d) (Int.ofNat ns.length) σ4.next 0 σ7:=by
  obtain⟨σ7,g7,p7,f7⟩:=hI (BS.mk 1 91) s0.p.p
  have s7:=s0.trans (FldSt.go s0.p s0.q s0.ap p7 f7)
  obtain⟨ws,k1,k2,k3⟩:=h1.w
  have sd:∀κ:Nat→Ans,slenK R.dv κ=κ ns.length:=fun κ=>k1.slen
  have d16:decide (16<d)=false:=decide_eq_false (by omega)
  have d300:decide (300≤ns.length)=false:=decide_eq_false (by omega)
  unfold tokC at gn g1
  unfold zC at e2 e5 s6
  have pre:∀K1 K2,T62_0 E D W K1 K2 xb 0 (Int.ofNat d) σ=condK (isP (BS.mk 1 91) (t::l0)).1
    (callK (D 60 [.ptr xb 0] σ7) fun u63 s64=>rtAgg u63 fun l65=>xcI .i64 l65 fun x68 l67=>xcS l67 fun x71 l70=>xcI .i64 l70 fun x74 l73=>rtNil l73 (
     callK (D 121 [.ptr xb 0] s64) fun u75 s76=>rtInt .i64 u75 fun x77=>ldK E s76 xb 7 fun u78=>rtInt .i64 u78 fun x79=>
     joinB (fun c80 s81=>condK c80 (callK (D 61 [.ptr xb 0,.int .i64 (Int.ofNat 12),.agg [.int .i64 x68,.str x71,.int .i64 x74]] s81) fun u83 s84=>rtTup u83 fun l85=>rtNil l85 (K2 xb 0 (Int.ofNat d) (Int.ofNat ns.length) σ4.next 0 x77 s84)) (K2 xb 0 (Int.ofNat d) (Int.ofNat ns.length) σ4.next 0 x77 s81)) fun k82=>
     condK (eqF x79 (Int.ofNat 0)) (joinB (fun c86 s87=>k82 c86 s87) fun k88=>condK (ltF x77 (Int.ofNat 0)) (k88 true s76) (k88 (ltF (Int.ofNat 268435456) x77) s76)) (k82 false s76)))
    (K1 xb 0 (Int.ofNat d) (Int.ofNat ns.length) σ4.next 0 σ7):=by
   intro K1 K2
   unfold T62_0
   simp -implicitDefEqProofs only [↓rP,rA,Nat.reduceEqDiff,Nat.reduceLT,Nat.reduceLeDiff,↓ldK_is ha,↓gn,↓g1,d16,↓ldK_is ha1,↓sd,d300,↓e2,↓g3,↓rtOne_of uo,↓g4,↓e5,↓s6,↓g7]
  unfold markP at hm
  cases hq:isP (BS.mk 1 91) (t::l0)with
  | mk b l1=>
   rw[hq]at hm g7 s7 pre p7
   cases b with
   | false=>
    cases hm
    refine⟨σ7,s7,fun K1=>?_⟩
    rw[pre];rfl
   | true=>cases hm
 have le7:=s7.f.le
 obtain⟨dv',iv',fv',σ8,g8,b8⟩:=hB s7.p (fun b hb=>by have:=hQ1 b hb;omega) s7.q s7.ap rfl rfl (by omega) hbase
 have hlen:ns.length<nsb.length:=by
  have:=baseP_mon hMon hbase
  rw[List.length_append,List.length_cons,List.length_nil]at this;omega
 have fr7:∀b,b<σ.next→(PB xb u b∨LB σ4.next .nils .nils b)→PB xb R.dv b:=fun b hb e=>by
  rcases e with (e|e)|e|e|e
  ·exact .inl e
  ·exact(mu b e).elim .inr (fun h=>by omega)
  ·omega
  ·exact e.elim
  ·exact e.elim
 have mdv:∀b,Names dv' b→Names R.dv b∨σ.next≤b:=fun b hb=>by
  rcases b8.md b hb with h|h
  ·exact(mu b h).imp id (fun h=>by omega)
  ·exact .inr (by omega)
 obtain⟨bb,σ9,ia,s9,p9,f9⟩:=b8.p.put b8.q b8.ap (fun b hb hq=>by
  have:=hQ b hq
  rcases hb with hb|hb
  ·exact(b8.mi b hb).elim (fun h=>h.elim) (fun h=>by omega)
  ·exact(b8.mf b hb).elim (fun h=>h.elim) (fun h=>by omega)) hlen
 refine⟨dv',σ9,?_,p9,(((((f1.mono (fun _ _ h=>h.elim):Fr (PB xb R.dv) σ σ1).trans f14 (fun _ _ e=>e)).trans f46 (fun _ _ e=>e.elim)).trans s7.f (fun b hb e=>fr7 b hb (e.imp id (fun e=>e.elim .inl fun e=>e.elim)))).trans b8.f (fun b hb e=>fr7 b hb e)).trans f9 (fun b hb e=>(mdv b e).elim .inr (fun h=>by omega)),mdv⟩
 obtain⟨a8,ha8,_⟩:=b8.p.p.ex
 unfold pc at ha8
 have qa:=b8.q.a
 unfold NodeS.c at qa s9
 have g8':D 122 [.ptr xb 0,.ptr σ4.next 0,.int .i64 (Int.ofNat d)] σ7=some (.tup [],σ8):=g8
 show T62_0 E D W (T62_1 E D W) (T62_2 E D W (T62_1 E D W)) xb 0 (Int.ofNat d) σ=_
 rw[k7]
 have ia':∀κ:Nat→Nat→Ans,iaddrSK 16 (((R.wd u).wd u).wd dv').dv (Int.ofNat ns.length) κ=κ bb (ns.length*16):=ia
 unfold T62_1
 simp -implicitDefEqProofs only [↓rP,rA,Nat.reduceEqDiff,Nat.reduceLT,Nat.reduceLeDiff,↓g8',↓ldK_is ha8,↓ldnK_is qa,subK_16,↓ia',↓s9]
end
structure ModS where
 nm:List Nat
 tg:Nat
 az:List (List Nat)
 ks:List Nat
 ns:List NodeS
def stC (az:List (List Nat)):List V:=az.map fun w => .str (ofN w)
def ksC (ks:List Nat):List V:=ks.map fun k => .int .i64 (Int.ofNat k)
def tagP (l:List Tok):Option (Nat × List Tok):=match isP (BS.mk 8 6073459554577832005) l with
 | (true,l1)=>(mustP (BS.mk 4 1397178708) l1).map fun l2=>(0,l2)
 | (false,l1)=>match isP (BS.mk 8 6073459554577829193) l1 with
  | (true,l2)=>(mustP (BS.mk 4 1397178708) l2).map fun l3=>(1,l3)
  | (false,l2)=>match isP (BS.mk 9 1241215773001651606849) l2 with
   | (true,l3)=>(mustP (BS.mk 4 1397178708) l3).map fun l4=>(2,l4)
   | (false,l3)=>some (0,l3)
def asgP (T:TypT):Nat→List (List Nat)→List Nat→List NodeS→List Tok→Option (List (List Nat) × List Nat × List NodeS × List Tok)
 | 0,_,_,_,_=>none
 | n+1,az,ks,ns,l=>match isP (BS.mk 3 4476485) l with
  | (true,l1)=>some (az,ks,ns,l1)
  | (false,l1)=>(kindP 1 l1).bind fun a=>match decide (40≤az.length)with
   | true=>none
   | false=>(mustP (BS.mk 3 4012602) a.2).bind fun l2=>(T 0 l2 ns).bind fun t=>asgP T n (az++[a.1]) (ks++[t.1]) t.2.2 t.2.1
def modP (T:TypT) (ts:List Tok):Option ModS:=
 (kindP 1 ts).bind fun a=>(mustP (BS.mk 11 100710650190388740279911748) a.2).bind fun l1=>(tagP l1).bind fun t=>
  (mustP (BS.mk 3 4012602) t.2).bind fun l2=>(mustP (BS.mk 5 336236856642) l2).bind fun l3=>(asgP T 50 [] [] [] l3).bind fun r=>
   match r.2.2.2 with
   | []=>none
   | e::_=>match decide (e.1=0)with
    | true=>some ⟨a.1,t.1,r.1,r.2.1,r.2.2.1⟩
    | false=>none
structure MdS (σ:H) (m:ModS) (nv tv dv:V):Prop where
 n:Dst σ 1 m.az.length nv (stC m.az)
 t:Src σ 1 m.ks.length tv (ksC m.ks)
 d:∃ws:List (V × V),Src σ 16 m.ns.length dv (ndCs m.ns ws)∧ws.length=m.ns.length∧∀(k:Nat) (nd:NodeS) (u:V × V),m.ns[k]? = some nd→ws[k]? = some u→Src σ 3 nd.items.length u.1 (itC nd.items)∧Src σ 11 nd.fields.length u.2 (fdC nd.fields)
def mdC (m:ModS) (nv tv dv:V):List V:=[.str (ofN m.nm),.int .i64 (Int.ofNat m.tg),nv,tv,dv]
def SpParse (N:Nat) (T:TypT) (F:List V→H→Ans):Prop:=∀(σ:H) (s:BS) (ts:List Tok) (m:ModS),Tidy σ→s.len≤8000→Tks N s.len s.nats ts→modP T ts=some m →
 ∃nv tv dv σ',F [.str s] σ=some (.tup [.agg (mdC m nv tv dv),.int .i64 (Int.ofNat 0),.int .i64 (Int.ofNat 0)],σ')∧MdS σ' m nv tv dv∧Fr Nowhere σ σ'
theorem Tks.fin_ {N len:Nat} {r:List Nat} {ts:List Tok} (h:Tks N len r ts):∃p e,ts=p++[e]∧e.1=0:=by
 induction h with
 | fin _=>exact⟨[],_,rfl,rfl⟩
 | one _ _ _ ih=>
  obtain⟨p,e,rfl,h⟩:=ih
  exact⟨_::p,e,rfl,h⟩
theorem Tk.num_ {r w r':List Nat} {k:Nat} (h:Tk r k w r') (hk:k=3):∃m ds r,w=numT m ds∧NumOk m ds r:=by
 cases h with
 | name _ _ he=>
  exfalso
  split at he
  ·omega
  ·split at he<;>omega
 | num h=>exact⟨_,_,_,rfl,h⟩
 | sign=>cases hk
theorem Tks.num_ {N len:Nat} {r:List Nat} {ts:List Tok} (h:Tks N len r ts):∀t∈ts,t.1=3→∃m ds r,t.2.1=numT m ds∧NumOk m ds r:=by
 induction h with
 | fin _=>
  intro t ht hk
  rw[List.mem_singleton]at ht
  subst ht;cases hk
 | one _ htk _ ih=>
  intro t ht hk
  rcases List.mem_cons.1 ht with rfl|ht
  ·exact htk.num_ hk
  ·exact ih t ht hk
theorem Tks.ok {N:Nat} {s:BS} {ts:List Tok} (h:Tks N s.len s.nats ts) (hs:s.len≤8000):TsOk ts:=by
 have:=h.len
 rw[BS.length_nats]at this
 exact⟨by omega,h.fin_,h.num_⟩
section
variable {σ σ':H} {xb:Nat} {lv:V} {ts l l':List Tok} {R:Rs} {ns:List NodeS} {Q:Nat→Prop}
theorem Pz.set (h:Pz σ xb lv ts l R) {off:Nat} {y:V} (R':Rs) (hy:y.one=true) (ho:off<9) (hc:∀a,spl (pc lv a R) off [y]=pc lv a R') :
  ∃σ',(∀κ:H→Ans,stK 1 xb off y σ κ=κ σ')∧Pz σ' xb lv ts l R'∧Fr (fun k=>k=xb) σ σ':=by
 obtain⟨a,ha,hl⟩:=h.ex
 obtain⟨σ',g,f,a'⟩:=stz h.ht ha hy ho
 rw[hc]at a'
 exact⟨σ',g,⟨⟨a,a',hl⟩,h.src.fr f h.ht (fun b hb e=>h.nx b hb e),h.ne,h.nx,h.ok,f.tidy⟩,f⟩
theorem Pn.set (h:Pn σ xb lv ts l R ns Q) {off:Nat} {y:V} (R':Rs) (hd:R'.dv=R.dv) (hy:y.one=true) (ho:off<9) (hc:∀a,spl (pc lv a R) off [y]=pc lv a R') :
  ∃σ',(∀κ:H→Ans,stK 1 xb off y σ κ=κ σ')∧Pn σ' xb lv ts l R' ns Q∧Fr (fun k=>k=xb) σ σ':=by
 obtain⟨σ',g,p,f⟩:=h.p.set R' hy ho hc
 obtain⟨ws,k1,k2,k3⟩:=h.w
 refine⟨σ',g,⟨p,⟨ws,by rw[hd];exact k1.fr f h.p.ht fun b hb e=>(h.dx b hb).1 e,k2,fun k nd u hn hu=>?_⟩,by rw[hd];exact h.dx⟩,f⟩
 rw[hd]
 obtain⟨a,b,c⟩:=k3 k nd u hn hu
 exact⟨a.fr f h.p.ht fun b hb e=>(c b (.inl hb)).1 e,b.fr f h.p.ht fun b hb e=>(c b (.inr hb)).1 e,c⟩
end
def rzC:List V:=[.str (BS.mk 0 0),.int .i64 (Int.ofNat 0),.nils,.nils,.nils]
structure Pm (σ:H) (xb rb:Nat) (lv:V) (ts l:List Tok) (R:Rs) (ns:List NodeS) (az:List (List Nat)) (ks:List Nat):Prop where
 p:Pn σ xb lv ts l R ns (fun b=>Names R.nv b∨Names R.tv b∨b=rb)
 r:Atc σ rb rzC
 n:Dst σ 1 az.length R.nv (stC az)
 t:Dst σ 1 ks.length R.tv (ksC ks)
 nx:∀b,Names R.nv b→b≠xb∧¬Names lv b∧¬Names R.dv b∧¬Names R.tv b∧b≠rb
 tx:∀b,Names R.tv b→b≠xb∧¬Names lv b∧¬Names R.dv b∧b≠rb
 rx:rb≠xb∧¬Names lv rb∧¬Names R.dv rb
section
variable {E:List (Nat × Blk)} {D:Den} {W:DrawFn} {N:Nat} {σ σ':H} {xb rb:Nat} {lv:V} {ts l l':List Tok} {R:Rs} {ns ns':List NodeS} {az:List (List Nat)} {ks:List Nat}
theorem Pm.go (h:Pm σ xb rb lv ts l R ns az ks) (p:Pz σ' xb lv ts l' R) (f:Fr (fun k=>k=xb) σ σ'):Pm σ' xb rb lv ts l' R ns az ks:=
 ⟨h.p.go p f,f.at_ h.r h.p.p.ht h.rx.1,h.n.fr f h.p.p.ht (fun b hb e=>(h.nx b hb).1 e),h.t.fr f h.p.p.ht (fun b hb e=>(h.tx b hb).1 e),h.nx,h.tx,h.rx⟩
theorem Pm.q (h:Pm σ xb rb lv ts l R ns az ks):∀b,(Names R.nv b∨Names R.tv b∨b=rb)→b<σ.next:=fun b hb=>by
 rcases hb with hb|hb|rfl
 ·exact h.n.lt h.p.p.ht hb
 ·exact h.t.lt h.p.p.ht hb
 ·exact h.r.lt h.p.p.ht
theorem Pm.typ (h:Pm σ xb rb lv ts l R ns az ks) {dv':V} (p:Pn σ' xb lv ts l' (R.wd dv') ns' (fun b=>Names R.nv b∨Names R.tv b∨b=rb)) (f:Fr (PB xb R.dv) σ σ') (m:∀b,Names dv' b→Names R.dv b∨σ.next≤b):Pm σ' xb rb lv ts l' (R.wd dv') ns' az ks:=by
 have ht:=h.p.p.ht
 have lt:=h.q
 refine⟨p,f.at_ h.r ht (fun e=>e.elim h.rx.1 h.rx.2.2),h.n.fr f ht (fun b hb e=>e.elim (h.nx b hb).1 (h.nx b hb).2.2.1),h.t.fr f ht (fun b hb e=>e.elim (h.tx b hb).1 (h.tx b hb).2.2.1),fun b hb=>?_,fun b hb=>?_,?_⟩
 ·obtain⟨h1,h2,h3,h4,h5⟩:=h.nx b hb
  exact⟨h1,h2,fun e=>(m b e).elim h3 (fun e=>by have:=lt b (.inl hb);omega),h4,h5⟩
 ·obtain⟨h1,h2,h3,h4⟩:=h.tx b hb
  exact⟨h1,h2,fun e=>(m b e).elim h3 (fun e=>by have:=lt b (.inr (.inl hb));omega),h4⟩
 ·exact⟨h.rx.1,h.rx.2.1,fun e=>(m _ e).elim h.rx.2.2 (fun e=>by have:=lt rb (.inr (.inr rfl));omega)⟩
theorem Pm.name (h:Pm σ xb rb lv ts l R ns az ks) (w:List Nat) (hl:az.length≤4000):∃u σ1 σ2 σ3,newB σ (.cells [.str (ofN w)])=σ1∧(∀κ:V→H→Ans,appK E 1 16 R.nv (.sl σ.next 0 1 (.ex 1)) σ1 κ=κ u σ2)∧u.one=true∧(∀κ:H→Ans,stK 1 xb 4 u σ2 κ=κ σ3) ∧
  Pm σ3 xb rb lv ts l { R with nv:=u } ns (az++[w]) ks∧Fr (fun b=>b=xb∨Names R.nv b) σ σ3∧(∀b,Names u b→Names R.nv b∨σ.next≤b):=by
 have ht:=h.p.p.ht
 have lt:=h.q
 obtain⟨σ1,e1,f1,a1,n1⟩:=mkN ht [.str (ofN w)]
 have xs:Src σ1 1 1 (V.sl σ.next 0 1 (.ex 1)) [.str (ofN w)] := .inr ⟨_,_,_,_,rfl,a1,Nat.le_refl _,rfl⟩
 obtain⟨u,σ2,g2,d2,m2,f2⟩:=app_all (E:=E) (bytes:=16) (h.n.fr f1 ht (fun _ _ h=>h)) f1.tidy xs rfl (by unfold growable;simp only[Bool.and_eq_true,Nat.ble_eq];omega)
 have le1:=f1.le
 have mu:∀b,Names u b→Names R.nv b∨σ.next≤b:=fun b hb=>(m2 b hb).imp id fun h=>by omega
 have f12:Fr (Names R.nv) σ σ2:=(f1.mono (fun _ _ h=>h.elim):Fr (Names R.nv) σ σ1).trans f2 (fun _ _ e=>e)
 have p2:Pn σ2 xb lv ts l R ns (fun b=>(Names R.nv b∨Names R.tv b∨b=rb)∨σ.next≤b):=(h.p.ext (Q':=fun b=>(Names R.nv b∨Names R.tv b∨b=rb)∨σ.next≤b) fun _ h=>h).fr f12 (fun e=>(h.nx _ e).1 rfl) (fun b hb e=>(h.nx b e).2.1 hb) (fun b hb e=>(h.nx b e).2.2.1 hb) (fun b _ e => .inl (.inl e))
 obtain⟨σ3,g3,p3,f3⟩:=p2.set (off:=4) (y:=u) { R with nv:=u } rfl d2.one (by decide) (fun _=>rfl)
 have lx:=h.p.p.lt
 have f13:Fr (fun b=>b=xb∨Names R.nv b) σ σ3:=(f12.mono (fun _ _ e => .inr e):Fr (fun b=>b=xb∨Names R.nv b) σ σ2).trans f3 (fun _ _ e => .inl e)
 refine⟨u,σ1,σ2,σ3,e1,g2,d2.one,g3,⟨p3.ext (fun b hb=>?_),f13.at_ h.r ht (fun e=>e.elim h.rx.1 fun e=>(h.nx _ e).2.2.2.2 rfl),?_,h.t.fr f13 ht (fun b hb e=>e.elim (h.tx b hb).1 fun e=>(h.nx b e).2.2.2.1 hb),fun b hb=>?_,h.tx,h.rx⟩,f13,mu⟩
 ·rcases hb with hb|hb
  ·exact(mu b hb).elim (fun e => .inl (.inl (.inl e))) (fun e => .inl (.inr e))
  ·exact .inl (.inl (.inr hb))
 ·have d3:=d2.fr f3 f2.tidy (fun b hb e=>(mu b hb).elim (fun h'=>(h.nx b h').1 e) (fun h=>by omega))
  rw[List.length_append]
  show Dst σ3 1 (az.length+1) u (stC (az++[w]))
  rw[show stC (az++[w])=stC az++[.str (ofN w)] by unfold stC;simp]
  exact d3
 ·rcases mu b hb with e|e
  ·exact h.nx b e
  ·exact⟨by omega,fun hn=>by have:=h.p.llt hn;omega,fun hn=>by have:=h.p.dlt hn;omega,fun hn=>by have:=lt b (.inr (.inl hn));omega,fun hn=>by have:=lt b (.inr (.inr hn));omega⟩
theorem Pm.more (h:Pm σ xb rb lv ts l R ns az ks) (k:Nat) (hl:ks.length≤4000):∃u σ1 σ2 σ3,newB σ (.cells [.int .i64 (Int.ofNat k)])=σ1∧(∀κ:V→H→Ans,appK E 1 8 R.tv (.sl σ.next 0 1 (.ex 1)) σ1 κ=κ u σ2)∧u.one=true∧(∀κ:H→Ans,stK 1 xb 5 u σ2 κ=κ σ3) ∧
  Pm σ3 xb rb lv ts l { R with tv:=u } ns az (ks++[k])∧Fr (fun b=>b=xb∨Names R.tv b) σ σ3∧(∀b,Names u b→Names R.tv b∨σ.next≤b):=by
 have ht:=h.p.p.ht
 have lt:=h.q
 obtain⟨σ1,e1,f1,a1,n1⟩:=mkN ht [.int .i64 (Int.ofNat k)]
 have xs:Src σ1 1 1 (V.sl σ.next 0 1 (.ex 1)) [.int .i64 (Int.ofNat k)] := .inr ⟨_,_,_,_,rfl,a1,Nat.le_refl _,rfl⟩
 obtain⟨u,σ2,g2,d2,m2,f2⟩:=app_all (E:=E) (bytes:=8) (h.t.fr f1 ht (fun _ _ h=>h)) f1.tidy xs rfl (by unfold growable;simp only[Bool.and_eq_true,Nat.ble_eq];omega)
 have le1:=f1.le
 have mu:∀b,Names u b→Names R.tv b∨σ.next≤b:=fun b hb=>(m2 b hb).imp id fun h=>by omega
 have f12:Fr (Names R.tv) σ σ2:=(f1.mono (fun _ _ h=>h.elim):Fr (Names R.tv) σ σ1).trans f2 (fun _ _ e=>e)
 have p2:Pn σ2 xb lv ts l R ns (fun b=>(Names R.nv b∨Names R.tv b∨b=rb)∨σ.next≤b):=(h.p.ext (Q':=fun b=>(Names R.nv b∨Names R.tv b∨b=rb)∨σ.next≤b) fun _ h=>h).fr f12 (fun e=>(h.tx _ e).1 rfl) (fun b hb e=>(h.tx b e).2.1 hb) (fun b hb e=>(h.tx b e).2.2.1 hb) (fun b _ e => .inl (.inr (.inl e)))
 obtain⟨σ3,g3,p3,f3⟩:=p2.set (off:=5) (y:=u) { R with tv:=u } rfl d2.one (by decide) (fun _=>rfl)
 have lx:=h.p.p.lt
 have f13:Fr (fun b=>b=xb∨Names R.tv b) σ σ3:=(f12.mono (fun _ _ e => .inr e):Fr (fun b=>b=xb∨Names R.tv b) σ σ2).trans f3 (fun _ _ e => .inl e)
 refine⟨u,σ1,σ2,σ3,e1,g2,d2.one,g3,⟨p3.ext (fun b hb=>?_),f13.at_ h.r ht (fun e=>e.elim h.rx.1 fun e=>(h.tx _ e).2.2.2 rfl),h.n.fr f13 ht (fun b hb e=>e.elim (h.nx b hb).1 (h.nx b hb).2.2.2.1),?_,fun b hb=>?_,fun b hb=>?_,h.rx⟩,f13,mu⟩
 ·rcases hb with hb|hb|hb
  ·exact .inl (.inl (.inl hb))
  ·exact(mu b hb).elim (fun e => .inl (.inl (.inr (.inl e)))) (fun e => .inl (.inr e))
  ·exact .inl (.inl (.inr (.inr hb)))
 ·have d3:=d2.fr f3 f2.tidy (fun b hb e=>(mu b hb).elim (fun h'=>(h.tx b h').1 e) (fun h=>by omega))
  rw[List.length_append]
  show Dst σ3 1 (ks.length+1) u (ksC (ks++[k]))
  rw[show ksC (ks++[k])=ksC ks++[.int .i64 (Int.ofNat k)] by unfold ksC;simp]
  exact d3
 ·obtain⟨h1,h2,h3,h4,h5⟩:=h.nx b hb
  exact⟨h1,h2,h3,fun e=>(mu b e).elim h4 (fun e=>by have:=lt b (.inl hb);omega),h5⟩
 ·rcases mu b hb with e|e
  ·exact h.tx b e
  ·exact⟨by omega,fun hn=>by have:=h.p.llt hn;omega,fun hn=>by have:=h.p.dlt hn;omega,fun hn=>by have:=lt b (.inr (.inr hn));omega⟩
end
section
variable {E:List (Nat × Blk)} {D:Den} {N:Nat}
theorem par_end {σ:H} {xb rb:Nat} {lv:V} {ts l:List Tok} {nm:List Nat} {tg:Nat} {nv tv dv:V} {ns:List NodeS} {az:List (List Nat)} {ks:List Nat} {e:Tok} (hN:SpNow (D 60)) (h:Pm σ xb rb lv ts (e::l) ⟨ofN nm,Int.ofNat tg,nv,tv,dv⟩ ns az ks) (he:decide (e.1=0)=true) :
    ∃σ',T34_2 E D (drawW E D) (T34_5 E D (drawW E D)) rb 0 xb 0 σ=some (.tup [.agg (mdC ⟨nm,tg,az,ks,ns⟩ nv tv dv),.int .i64 (Int.ofNat 0),.int .i64 (Int.ofNat 0)],σ')∧MdS σ' ⟨nm,tg,az,ks,ns⟩ nv tv dv∧Fr (fun k=>k=rb) σ σ':=by
  have ht:=h.p.p.ht
  obtain⟨a,ha,_⟩:=h.p.p.ex
  unfold pc at ha
  obtain⟨ws,k1,k2,k3⟩:=h.p.w
  have gn:=hN h.p.p
  unfold tokC at gn
  have ho:allOne (mdC ⟨nm,tg,az,ks,ns⟩ nv tv dv)=true:=by
    unfold mdC
    simp only[allOne_cons,allOne_nil,one_int,one_str,h.n.one,h.t.one,k1.one,Bool.and_true]
  obtain⟨σ',e1,f1,a1⟩:=mkS ht h.r (mdC ⟨nm,tg,az,ks,ns⟩ nv tv dv)
  have hr:=h.r
  have g1:∀κ:H→Ans,stK 5 rb 0 (.agg [.str (ofN nm),.int .i64 (Int.ofNat tg),nv,tv,dv]) σ κ=κ σ':=fun κ=>by
    rw[stK_at hr (show _=true by
      rw[cells_agg]
      show (true&&true&&allOne (mdC ⟨nm,tg,az,ks,ns⟩ nv tv dv))=true
      rw[ho];rfl)]
    show κ (setF σ rb (.cells (mdC ⟨nm,tg,az,ks,ns⟩ nv tv dv)))=_
    rw[e1]
  refine⟨σ',?_,⟨h.n.fr f1 ht (fun b hb e=>(h.nx b hb).2.2.2.2 e),(h.t.fr f1 ht (fun b hb e=>(h.tx b hb).2.2.2 e)).src,ws,(k1.fr f1 ht (fun b hb e=>h.rx.2.2 (e ▸ hb))).src,k2,fun k nd u hn hu=>?_⟩,f1⟩
  · have sub:∀κ:List V→Ans,subK [lv,.int .i64 (Int.ofNat a),.str (ofN nm),.int .i64 (Int.ofNat tg),nv,tv,dv,.int .i64 (Int.ofNat 0),.int .i64 (Int.ofNat 0)] 2 5 κ=κ [.str (ofN nm),.int .i64 (Int.ofNat tg),nv,tv,dv]:=fun κ=>by
      rw[subK_of (by simp)];rfl
    have sub5:∀κ:List V→Ans,subK [.str (ofN nm),.int .i64 (Int.ofNat tg),nv,tv,dv] 0 5 κ=κ [.str (ofN nm),.int .i64 (Int.ofNat tg),nv,tv,dv]:=fun κ=>by
      rw[subK_of (by simp)];rfl
    unfold mdC at a1
    unfold T34_2 T34_5
    simp -implicitDefEqProofs only [↓rP,rA,Nat.reduceEqDiff,Nat.reduceLT,Nat.reduceLeDiff,↓ldK_is ha,↓ldnK_is ha,↓gn,he,↓sub,↓g1,↓ldnK_is a1,↓sub5]
    rfl
  · obtain⟨x1,x2,x3⟩:=k3 k nd u hn hu
    exact⟨x1.fr f1 ht (fun b hb e=>(x3 b (.inl hb)).2.2 (.inr (.inr e))),x2.fr f1 ht (fun b hb e=>(x3 b (.inr hb)).2.2 (.inr (.inr e)))⟩
theorem asg_L {T:TypT} (hN:SpNow (D 60)) (hI:SpIs (D 59)) (hM:SpMust (D 58)) (hK:SpKind (D 57)) (hT:SpTypT T (D 62)) {xb rb:Nat} {lv:V} {ts:List Tok} {nm:List Nat} {tg:Nat}:∀(n k:Nat) {σ:H} {l:List Tok} {nv tv dv:V} {ns:List NodeS} {az:List (List Nat)} {ks:List Nat} {r:List (List Nat) × List Nat × List NodeS × List Tok} {e:Tok} {l':List Tok},
  Pm σ xb rb lv ts l ⟨ofN nm,Int.ofNat tg,nv,tv,dv⟩ ns az ks→n<k→ks.length=az.length→asgP T n az ks ns l=some r→r.2.2.2=e::l'→decide (e.1=0)=true →
  ∃nv' tv' dv' σ',L34_3 E D (drawW E D) N k rb 0 xb 0 σ=some (.tup [.agg (mdC ⟨nm,tg,r.1,r.2.1,r.2.2.1⟩ nv' tv' dv'),.int .i64 (Int.ofNat 0),.int .i64 (Int.ofNat 0)],σ')∧MdS σ' ⟨nm,tg,r.1,r.2.1,r.2.2.1⟩ nv' tv' dv'∧Fr (fun b=>b=rb∨b=xb∨Names nv b∨Names tv b∨Names dv b) σ σ':=by
 intro n
 induction n with
 | zero=>intro k σ l nv tv dv ns az ks r e l' h hk hs0 hs;cases hs
 | succ n ih=>
  intro k σ l nv tv dv ns az ks r e l' h hk hs0 hs hr he
  obtain⟨k,rfl⟩:∃j,k=j+1:=⟨k-1,by omega⟩
  obtain⟨a,ha,_⟩:=h.p.p.ex
  unfold pc at ha
  obtain⟨σ1,g1,p1,f1⟩:=hI (BS.mk 3 4476485) h.p.p
  show ∃nv' tv' dv' σ',T34_3 E D (drawW E D) (T34_2 E D (drawW E D) (T34_5 E D (drawW E D))) (T34_4 E D (drawW E D) (L34_3 E D (drawW E D) N k)) rb 0 xb 0 σ=_∧_
  have hs:(match isP (BS.mk 3 4476485) l with
   | (true,l1)=>some (az,ks,ns,l1)
   | (false,l1)=>(kindP 1 l1).bind fun a=>match decide (40≤az.length)with
    | true=>none
    | false=>(mustP (BS.mk 3 4012602) a.2).bind fun l2=>(T 0 l2 ns).bind fun t=>asgP T n (az++[a.1]) (ks++[t.1]) t.2.2 t.2.1:Option (List (List Nat) × List Nat × List NodeS × List Tok))=some r:=hs
  cases hp:isP (BS.mk 3 4476485) l with
  | mk c l1=>
   rw[hp]at hs g1 p1
   have h1:=h.go p1 f1
   cases c with
   | true=>
    cases hs
    have hr:l1=e::l':=hr
    subst hr
    obtain⟨σ2,g2,m2,f2⟩:=par_end (E:=E) hN h1 he
    refine⟨nv,tv,dv,σ2,?_,m2,(f1.mono (fun _ _ e => .inr (.inl e)):Fr (fun b=>b=rb∨b=xb∨Names nv b∨Names tv b∨Names dv b) σ σ1).trans f2 (fun _ _ e => .inl e)⟩
    have key:∀K4,T34_3 E D (drawW E D) (T34_2 E D (drawW E D) (T34_5 E D (drawW E D))) K4 rb 0 xb 0 σ=T34_2 E D (drawW E D) (T34_5 E D (drawW E D)) rb 0 xb 0 σ1:=by
     intro K4
     unfold T34_3
     simp -implicitDefEqProofs only [↓rP,rA,Nat.reduceEqDiff,Nat.reduceLT,Nat.reduceLeDiff,↓ldK_is ha,↓g1]
    rw[key];exact g2
   | false=>
    have hs:((kindP 1 l1).bind fun a=>match decide (40≤az.length)with
     | true=>none
     | false=>(mustP (BS.mk 3 4012602) a.2).bind fun l2=>(T 0 l2 ns).bind fun t=>asgP T n (az++[a.1]) (ks++[t.1]) t.2.2 t.2.1:Option (List (List Nat) × List Nat × List NodeS × List Tok))=some r:=hs
    obtain⟨⟨w,l2⟩,hw,hs⟩:=Option.bind_eq_some_iff.1 hs
    have hs:(match decide (40≤az.length)with
     | true=>none
     | false=>(mustP (BS.mk 3 4012602) l2).bind fun l2=>(T 0 l2 ns).bind fun t=>asgP T n (az++[w]) (ks++[t.1]) t.2.2 t.2.1:Option (List (List Nat) × List Nat × List NodeS × List Tok))=some r:=hs
    cases hd:decide (40≤az.length)with
    | true=>rw[hd]at hs;cases hs
    | false=>
     rw[hd]at hs
     obtain⟨l3,hm,hs⟩:=Option.bind_eq_some_iff.1 hs
     obtain⟨⟨i,l4,ns4⟩,ht,hs⟩:=Option.bind_eq_some_iff.1 hs
     have hs9:asgP T n (az++[w]) (ks++[i]) ns4 l4=some r:=hs
     have hlen:az.length<40:=by have:=of_decide_eq_false hd;omega
     obtain⟨t1,l1',rfl⟩:∃t1 l1',l1=t1::l1':=by
      cases l1 with
      | nil=>cases hw
      | cons t l1=>exact⟨t,l1,rfl⟩
     have gn:=hN p1
     unfold tokC at gn
     obtain⟨σ2,g2,p2,f2⟩:=hK p1 hw
     have h2:=h1.go p2 f2
     obtain⟨a2,ha2,_⟩:=p2.ex
     unfold pc at ha2
     obtain⟨σ3,g3,p3,f3⟩:=hM p2 hm
     have h3:=h2.go p3 f3
     obtain⟨dv4,σ4,g4,p4,f4,m4⟩:=hT (d:=0) h3.p h3.q (by omega) ht
     have h4:Pm σ4 xb rb lv ts l4 ⟨ofN nm,Int.ofNat tg,nv,tv,dv4⟩ ns4 az ks:=h3.typ p4 f4 m4
     obtain⟨a4,ha4,_⟩:=h4.p.p.ex
     unfold pc at ha4
     obtain⟨u5,σ5,σ6,σ7,e5,g5,o5,s5,h7,f7,m7⟩:=h4.name (E:=E) w (by omega)
     have h7:Pm σ7 xb rb lv ts l4 ⟨ofN nm,Int.ofNat tg,u5,tv,dv4⟩ ns4 (az++[w]) ks:=h7
     obtain⟨a7,ha7,_⟩:=h7.p.p.ex
     unfold pc at ha7
     obtain⟨u8,σ8,σ9,σ10,e8,g8,o8,s8,h10,f10,m10⟩:=h7.more (E:=E) i (by omega)
     have h10:Pm σ10 xb rb lv ts l4 ⟨ofN nm,Int.ofNat tg,u5,u8,dv4⟩ ns4 (az++[w]) (ks++[i]):=h10
     obtain⟨nv',tv',dv',σ',g',m',f'⟩:=ih k h10 (by omega) (by simp[hs0]) hs9 hr he
     refine⟨nv',tv',dv',σ',?_,m',?_⟩
     ·have key:∀K2 R3,T34_3 E D (drawW E D) K2 (T34_4 E D (drawW E D) R3) rb 0 xb 0 σ=R3 rb 0 xb 0 σ10:=by
       intro K2 R3
       unfold T34_3 T34_4
       simp -implicitDefEqProofs only [↓rP,rA,Nat.reduceEqDiff,Nat.reduceLT,Nat.reduceLeDiff,↓ldK_is ha,↓g1,↓gn,↓g2,↓ldK_is ha2,h2.n.slen,hd,↓g3,↓g4,↓ldK_is ha4,↓e5,↓g5,↓rtOne_of o5,↓s5,↓ldK_is ha7,↓e8,↓g8,↓rtOne_of o8,↓s8]
      rw[key];exact g'
     ·have le1:=f1.le
      have le2:=f2.le
      have le3:=f3.le
      have le4:=f4.le
      have le7:=f7.le
      have m7:∀b,Names u5 b→Names nv b∨σ4.next≤b:=m7
      have m10:∀b,Names u8 b→Names tv b∨σ7.next≤b:=m10
      have m4:∀b,Names dv4 b→Names dv b∨σ3.next≤b:=m4
      refine((((((f1.mono (fun _ _ e => .inr (.inl e)):Fr (fun b=>b=rb∨b=xb∨Names nv b∨Names tv b∨Names dv b) σ σ1).trans f2 (fun _ _ e => .inr (.inl e))).trans f3 (fun _ _ e => .inr (.inl e))).trans f4 (fun b _ e=>e.elim (fun e => .inr (.inl e)) fun e => .inr (.inr (.inr (.inr e))))).trans f7 (fun b _ e=>e.elim (fun e => .inr (.inl e)) fun e => .inr (.inr (.inl e)))).trans f10 (fun b _ e=>e.elim (fun e => .inr (.inl e)) fun e => .inr (.inr (.inr (.inl e))))).trans f' (fun b hb e=>?_)
      rcases e with e|e|e|e|e
      ·exact .inl e
      ·exact .inr (.inl e)
      ·exact(m7 b e).elim (fun e => .inr (.inr (.inl e))) (fun e=>by omega)
      ·exact(m10 b e).elim (fun e => .inr (.inr (.inr (.inl e)))) (fun e=>by omega)
      ·exact(m4 b e).elim (fun e => .inr (.inr (.inr (.inr e)))) (fun e=>by omega)
theorem fill1 {u a b c d e f g i:V} (h:u.one=true) (κ:List V→Ans):fillK [(0,1,u)] [.nils,a,b,c,d,e,f,g,i] κ=κ [u,a,b,c,d,e,f,g,i]:=by
 obtain⟨h1,h2⟩:=one_live h
 unfold fillK fillA
 rw[h1,h2]
 rfl
theorem par_open (hN:SpNow (D 60)) (hI:SpIs (D 59)) (hM:SpMust (D 58)) (hK:SpKind (D 57)) (hR:SpTks N (D 56)) {σ:H} {s:BS} {ts l l1:List Tok} {w:List Nat} {t:Nat × List Tok} (ht:Tidy σ) (hs:s.len≤8000) (hts:Tks N s.len s.nats ts) (h1:kindP 1 ts=some (w,l)) (h2:mustP (BS.mk 11 100710650190388740279911748) l=some l1) (h3:tagP l1=some t) :
  ∃xb lv σ',(∀K1,T34_0 E D (drawW E D) K1 s σ=K1 σ.next 0 xb 0 σ')∧Pm σ' xb σ.next lv ts t.2 ⟨ofN w,Int.ofNat t.1,.nils,.nils,.nils⟩ [] [] []∧σ.next≤xb∧Fr Nowhere σ σ':=by
 obtain⟨σ1,e1,f1,a1,n1⟩:=mkN ht rzC
 obtain⟨lv,σ2,g2,d2,m2,f2⟩:=hR σ1 s ts f1.tidy hs hts
 have le1:=f1.le
 have le2:=f2.le
 have a2:=f2.at_ a1 f1.tidy (fun h=>h)
 obtain⟨σ3,e3,f3,a3,n3⟩:=mkN f2.tidy (pc lv 0 ⟨BS.mk 0 0,Int.ofNat 0,.nils,.nils,.nils⟩)
 have ll:∀b,Names lv b→b<σ2.next:=fun b hb=>d2.lt f2.tidy hb
 have p3:Pz σ3 σ2.next lv ts ts ⟨BS.mk 0 0,Int.ofNat 0,.nils,.nils,.nils⟩:=⟨⟨0,a3,rfl⟩,(d2.fr f3 f2.tidy (fun _ _ h=>h)).src,(fun e=>by subst e;cases h1),fun b hb=>by have:=ll b hb;omega,hts.ok hs,f3.tidy⟩
 obtain⟨σ4,g4,p4,f4⟩:=hK p3 h1
 obtain⟨σ5,g5,p5,f5⟩:=p4.set (off:=2) (y := .str (ofN w)) ⟨ofN w,Int.ofNat 0,.nils,.nils,.nils⟩ rfl (by decide) (fun _=>rfl)
 obtain⟨σ6,g6,p6,f6⟩:=hM p5 h2
 have f36:=(f4.trans f5 (fun _ _ e=>e)).trans f6 (fun _ _ e=>e)
 obtain⟨σ7,g7,p7,f7⟩:=hI (BS.mk 8 6073459554577832005) p6
 have f37:=f36.trans f7 (fun _ _ e=>e)
 have fin:∀{σ':H} {t:Nat × List Tok},Pz σ' σ2.next lv ts t.2 ⟨ofN w,Int.ofNat t.1,.nils,.nils,.nils⟩→Fr (fun k=>k=σ2.next) σ3 σ'→Pm σ' σ2.next σ.next lv ts t.2 ⟨ofN w,Int.ofNat t.1,.nils,.nils,.nils⟩ [] [] []∧σ.next≤σ2.next∧Fr Nowhere σ σ':=by
  intro σ' t p f
  refine⟨⟨⟨p,⟨[],Dst.nil _ _,rfl,fun k nd u h=>by simp at h⟩,fun b hb=>hb.elim⟩,f.at_ (f3.at_ a2 f2.tidy (fun h=>h)) f3.tidy (fun e=>by omega),Dst.nil _ _,Dst.nil _ _,fun b hb=>hb.elim,fun b hb=>hb.elim,by omega,fun hn=>?_,fun h=>h⟩,by omega,((f1.trans f2 (fun _ _ h=>h)).trans f3 (fun _ _ h=>h)).trans f (fun b hb e=>by omega)⟩
  have:=m2 _ hn;omega
 unfold pc at e3
 have e3':newB σ2 (.cells [lv,.int .i64 (Int.ofNat 0),.str ⟨0,0⟩,.int .i64 (Int.ofNat 0),.nils,.nils,.nils,.int .i64 (Int.ofNat 0),.int .i64 (Int.ofNat 0)])=σ3:=e3
 have e1':newB σ (.cells [.str ⟨0,0⟩,.int .i64 (Int.ofNat 0),.nils,.nils,.nils])=σ1:=e1
 unfold T34_0
 cases hp:isP (BS.mk 8 6073459554577832005) l1 with
 | mk c l2=>
  rw[hp]at g7 p7
  have h3:(match isP (BS.mk 8 6073459554577832005) l1 with
   | (true,l1)=>(mustP (BS.mk 4 1397178708) l1).map fun l2=>(0,l2)
   | (false,l1)=>match isP (BS.mk 8 6073459554577829193) l1 with
    | (true,l2)=>(mustP (BS.mk 4 1397178708) l2).map fun l3=>(1,l3)
    | (false,l2)=>match isP (BS.mk 9 1241215773001651606849) l2 with
     | (true,l3)=>(mustP (BS.mk 4 1397178708) l3).map fun l4=>(2,l4)
     | (false,l3)=>some (0,l3):Option (Nat × List Tok))=some t:=h3
  rw[hp]at h3
  cases c with
  | true=>
   obtain⟨l3,hm,he⟩:=Option.map_eq_some_iff.1 h3
   cases he
   obtain⟨σ8,g8,p8,f8⟩:=hM p7 hm
   obtain⟨q1,q2,q3⟩:=fin (t:=(0,l3)) p8 (f37.trans f8 (fun _ _ e=>e))
   refine⟨_,lv,σ8,fun K1=>?_,q1,q2,q3⟩
   simp -implicitDefEqProofs only [↓rP,rA,Nat.reduceEqDiff,Nat.reduceLT,Nat.reduceLeDiff,↓e1',↓g2,↓fill1 d2.one,d2.one,↓e3',↓g4,↓g5,↓g6,↓g7,↓g8]
  | false=>
   obtain⟨σ8,g8,p8,f8⟩:=hI (BS.mk 8 6073459554577829193) p7
   have f38:=f37.trans f8 (fun _ _ e=>e)
   cases hp8:isP (BS.mk 8 6073459554577829193) l2 with
   | mk c l3=>
    rw[hp8]at g8 p8
    have h3:(match isP (BS.mk 8 6073459554577829193) l2 with
     | (true,l2)=>(mustP (BS.mk 4 1397178708) l2).map fun l3=>(1,l3)
     | (false,l2)=>match isP (BS.mk 9 1241215773001651606849) l2 with
      | (true,l3)=>(mustP (BS.mk 4 1397178708) l3).map fun l4=>(2,l4)
      | (false,l3)=>some (0,l3):Option (Nat × List Tok))=some t:=h3
    rw[hp8]at h3
    cases c with
    | true=>
     obtain⟨l4,hm,he⟩:=Option.map_eq_some_iff.1 h3
     cases he
     obtain⟨σ9,g9,p9,f9⟩:=p8.set (off:=3) (y := .int .i64 (Int.ofNat 1)) ⟨ofN w,Int.ofNat 1,.nils,.nils,.nils⟩ rfl (by decide) (fun _=>rfl)
     obtain⟨σ10,g10,p10,f10⟩:=hM p9 hm
     obtain⟨q1,q2,q3⟩:=fin (t:=(1,l4)) p10 ((f38.trans f9 (fun _ _ e=>e)).trans f10 (fun _ _ e=>e))
     refine⟨_,lv,σ10,fun K1=>?_,q1,q2,q3⟩
     simp -implicitDefEqProofs only [↓rP,rA,Nat.reduceEqDiff,Nat.reduceLT,Nat.reduceLeDiff,↓e1',↓g2,↓fill1 d2.one,d2.one,↓e3',↓g4,↓g5,↓g6,↓g7,↓g8,↓g9,↓g10]
    | false=>
     obtain⟨σ9,g9,p9,f9⟩:=hI (BS.mk 9 1241215773001651606849) p8
     have f39:=f38.trans f9 (fun _ _ e=>e)
     cases hp9:isP (BS.mk 9 1241215773001651606849) l3 with
     | mk c l4=>
      rw[hp9]at g9 p9
      have h3:(match isP (BS.mk 9 1241215773001651606849) l3 with
       | (true,l3)=>(mustP (BS.mk 4 1397178708) l3).map fun l4=>(2,l4)
       | (false,l3)=>some (0,l3):Option (Nat × List Tok))=some t:=h3
      rw[hp9]at h3
      cases c with
      | true=>
       obtain⟨l5,hm,he⟩:=Option.map_eq_some_iff.1 h3
       cases he
       obtain⟨σ10,g10,p10,f10⟩:=p9.set (off:=3) (y := .int .i64 (Int.ofNat 2)) ⟨ofN w,Int.ofNat 2,.nils,.nils,.nils⟩ rfl (by decide) (fun _=>rfl)
       obtain⟨σ11,g11,p11,f11⟩:=hM p10 hm
       obtain⟨q1,q2,q3⟩:=fin (t:=(2,l5)) p11 ((f39.trans f10 (fun _ _ e=>e)).trans f11 (fun _ _ e=>e))
       refine⟨_,lv,σ11,fun K1=>?_,q1,q2,q3⟩
       simp -implicitDefEqProofs only [↓rP,rA,Nat.reduceEqDiff,Nat.reduceLT,Nat.reduceLeDiff,↓e1',↓g2,↓fill1 d2.one,d2.one,↓e3',↓g4,↓g5,↓g6,↓g7,↓g8,↓g9,↓g10,↓g11]
      | false=>
       cases h3
       obtain⟨q1,q2,q3⟩:=fin (t:=(0,l4)) p9 f39
       refine⟨_,lv,σ9,fun K1=>?_,q1,q2,q3⟩
       simp -implicitDefEqProofs only [↓rP,rA,Nat.reduceEqDiff,Nat.reduceLT,Nat.reduceLeDiff,↓e1',↓g2,↓fill1 d2.one,d2.one,↓e3',↓g4,↓g5,↓g6,↓g7,↓g8,↓g9]
theorem parse_F {T:TypT} (hN:SpNow (D 60)) (hI:SpIs (D 59)) (hM:SpMust (D 58)) (hK:SpKind (D 57)) (hR:SpTks N (D 56)) (hT:SpTypT T (D 62)) (hF:1000<N):SpParse N T (F34 E D (drawW E D) N):=by
 intro σ s ts m ht hs hts hm
 obtain⟨⟨w,l⟩,h1,hm⟩:=Option.bind_eq_some_iff.1 hm
 obtain⟨l1,h2,hm⟩:=Option.bind_eq_some_iff.1 hm
 obtain⟨⟨tg,l2⟩,h3,hm⟩:=Option.bind_eq_some_iff.1 hm
 obtain⟨l3,h4,hm⟩:=Option.bind_eq_some_iff.1 hm
 obtain⟨l4,h5,hm⟩:=Option.bind_eq_some_iff.1 hm
 obtain⟨r,h6,hm⟩:=Option.bind_eq_some_iff.1 hm
 obtain⟨xb,lv,σ1,g1,p1,lx,f1⟩:=par_open (E:=E) hN hI hM hK hR ht hs hts h1 h2 h3
 obtain⟨σ2,g2,p2,f2⟩:=hM p1.p.p h4
 obtain⟨σ3,g3,p3,f3⟩:=hM p2 h5
 have q3:=(p1.go p2 f2).go p3 f3
 cases he:r.2.2.2 with
 | nil=>rw[he]at hm;cases hm
 | cons e l'=>
  rw[he]at hm
  have hm:(match decide (e.1=0)with
   | true=>some (⟨w,tg,r.1,r.2.1,r.2.2.1⟩:ModS)
   | false=>none)=some m:=hm
  cases h0:decide (e.1=0)with
  | false=>rw[h0]at hm;cases hm
  | true=>
   rw[h0]at hm
   cases hm
   obtain⟨nv,tv,dv,σ4,g4,m4,f4⟩:=asg_L (E:=E) (N:=N) hN hI hM hK hT 50 N q3 (by omega) rfl h6 he h0
   refine⟨nv,tv,dv,σ4,?_,m4,((f1.trans f2 (fun b hb e=>by omega)).trans f3 (fun b hb e=>by omega)).trans f4 (fun b hb e=>?_)⟩
   ·show T34_0 E D (drawW E D) (T34_1 E D (drawW E D) (L34_3 E D (drawW E D) N N)) s σ=_
    rw[g1]
    have key:∀K3,T34_1 E D (drawW E D) K3 σ.next 0 xb 0 σ1=K3 σ.next 0 xb 0 σ3:=by
     intro K3
     unfold T34_1
     simp -implicitDefEqProofs only [↓rP,rA,Nat.reduceEqDiff,Nat.reduceLT,Nat.reduceLeDiff,↓g2,↓g3]
    rw[key];exact g4
   ·rcases e with e|e|e|e|e
    ·omega
    ·omega
    ·exact e.elim
    ·exact e.elim
    ·exact e.elim
end
section
variable {E:List (Nat × Blk)} {D:Den} {N:Nat}
theorem type_reg {σ:H} {nb ib:Nat} {l:List V} {v:V} {k:Nat} {m:List V} {kd z1 z2 ro dd ii:Int} {tb eb:Nat} {y1 y2 y3 y4 mo:Bool}  (ht:Tidy σ) (ha:Atc σ nb l) (hv:l[5]? = some v) (hi:Atc σ ib [.int .i64 kd,.sl tb 0 1 (.ex 1),.bool y1,.bool y2,.bool y3,.bool y4,.int .i64 z1,.int .i64 z2,.nils,.nils,.int .i64 ro,.bool mo,.int .i64 (Int.ofNat 0)]) (hd:Dst σ 13 k v m) (hk:k≤9000) (hne:nb≠ib) (nv:¬Names v nb) (ni:¬Names v ib) :
    ∃e' u σ',drawW E D G127_0 H127_0 [(0,.ptr nb 0),(2,.int .i64 dd),(4,.ptr eb 0),(7,.int .i64 ii),(8,.ptr ib 0)] σ=some (e',σ')∧Go.Og.look e' 0=some (.ptr nb 0)∧Go.Og.look e' 2=some (.int .i64 dd)∧Go.Og.look e' 4=some (.ptr eb 0)∧Go.Og.look e' 7=some (.int .i64 ii)∧Atc σ' nb (spl l 5 [u])∧Dst σ' 13 (k+1) u (m++[.int .i64 kd,.sl tb 0 1 (.ex 1),.bool y1,.bool y2,.bool y3,.bool y4,.int .i64 z1,.int .i64 z2,.nils,.nils,.int .i64 ro,.bool mo,.int .i64 (Int.ofNat 0)])∧(∀b,Names u b→Names v b∨σ.next≤b)∧¬Names u nb∧Fr (fun b=>b=nb∨Names v b) σ σ':=by
  have fw:Fr Nowhere σ ⟨σ.next+11,σ.bl⟩:=(go_start (E:=E) (n:=11) (S:=Nowhere) ht).fr
  have lb:=ha.lt ht
  have li:=hi.lt ht
  obtain⟨σa,ha'⟩:∃σa,σa=(⟨σ.next+11,(σ.next+6,.cells [.int .i64 kd,.sl tb 0 1 (.ex 1),.bool y1,.bool y2,.bool y3,.bool y4,.int .i64 z1,.int .i64 z2,.nils,.nils,.int .i64 ro,.bool mo,.int .i64 (Int.ofNat 0)])::σ.bl⟩:H):=⟨_,rfl⟩
  have fa:Fr Nowhere σ σa:=by
    rw[ha']
    refine⟨fun b hb=>?_,Nat.le_add_right _ _,fun b hb hn=>?_⟩
    · have hb:σ.next+11≤b:=hb
      show lookF ((σ.next+6,_)::σ.bl) b=none
      rw[lookF_cons,if_neg (by simp only[];omega)]
      exact ht b (by omega)
    · show lookF ((σ.next+6,_)::σ.bl) b=_
      rw[lookF_cons,if_neg (by simp only[];omega)]
  have aa:Atc σa (σ.next+6) [.int .i64 kd,.sl tb 0 1 (.ex 1),.bool y1,.bool y2,.bool y3,.bool y4,.int .i64 z1,.int .i64 z2,.nils,.nils,.int .i64 ro,.bool mo,.int .i64 (Int.ofNat 0)]:=by
    rw[ha']
    show lookF ((σ.next+6,_)::σ.bl) _=_
    rw[lookF_cons,if_pos rfl]
  have xs:Src σa 13 1 (V.sl (σ.next+6) 0 1 (.ex 1)) [.int .i64 kd,.sl tb 0 1 (.ex 1),.bool y1,.bool y2,.bool y3,.bool y4,.int .i64 z1,.int .i64 z2,.nils,.nils,.int .i64 ro,.bool mo,.int .i64 (Int.ofNat 0)] := .inr ⟨_,_,_,_,rfl,aa,Nat.le_refl _,rfl⟩
  have ho:allOne [.int .i64 kd,.sl tb 0 1 (.ex 1),.bool y1,.bool y2,.bool y3,.bool y4,.int .i64 z1,.int .i64 z2,.nils,.nils,.int .i64 ro,.bool mo,.int .i64 (Int.ofNat 0)]=true:=by simp only[allOne_cons,allOne_nil,one_str,one_int,one_bool,one_nils,Bool.and_true];rfl
  obtain⟨u,σ2,g2,d2,m2,f2⟩:=app_all (E:=E) (bytes:=128) (hd.fr fa ht (fun _ _ h=>h)) fa.tidy xs ho (by unfold growable;simp only[Bool.and_eq_true,Nat.ble_eq];omega)
  have na:σa.next=σ.next+11:=by rw[ha']
  have vl:∀b,Names v b→b<σ.next:=fun b hb=>hd.lt ht hb
  have a2:Atc σ2 nb l:=f2.at_ (fa.at_ ha ht (fun h=>h)) fa.tidy nv
  obtain⟨o1,o2⟩:=one_live d2.one
  have st:∃σ3,den1 E D (.store 1 (.tmp 54) (.tmp 52)) [(54,.ptr nb 5),(52,u)] σ2=some (.dead,σ3)∧Fr (fun k=>k=nb) σ2 σ3∧Atc σ3 nb (spl l 5 [u]):=by
    obtain⟨σ3,q1,q2,q3⟩:=st_den (E:=E) (D:=D) (n:=1) (x := .tmp 54) (y := .tmp 52) (e:=[(54,.ptr nb 5),(52,u)]) f2.tidy a2 rfl (show (opv [(54,.ptr nb 5),(52,u)] (.tmp 52)).cells=[u] from o2) (by
      have:5<l.length:=by
        rcases Nat.lt_or_ge 5 l.length with h|h
        · exact h
        · rw[List.getElem?_eq_none h]at hv;cases hv
      simp only[allOne_cons,allOne_nil,d2.one,Bool.and_true,List.length_cons,List.length_nil,Nat.zero_add,Nat.beq_refl,Bool.true_and,Nat.ble_eq];omega)
    exact⟨σ3,q1,q2,q3⟩
  obtain⟨σ3,g3,f3,c3⟩:=st
  have un:¬Names u nb:=fun h=>(m2 nb h).elim nv fun h=>by omega
  have vb:V.beq v v=true:=by
    rcases hd with h|⟨b,rfl,_⟩
    · rcases h with ⟨_,rfl,_⟩ | ⟨_,rfl,_⟩<;>exact beq_self _ rfl
    · exact beq_self _ rfl
  have go:GoesQ (EndSt E σ 11 H127_0 _ σ3) E D σ 11 0 G127_0 H127_0 ⟨[(0,.ptr nb 0),(2,.int .i64 dd),(4,.ptr eb 0),(7,.int .i64 ii),(8,.ptr ib 0)],σ.next+11,[σ.bl],[],0,[]⟩:=
    goq_p (.ptr nb 0) rfl rfl <|
    goq_p (.ptr nb 0) rfl rfl <|
    goq_p (.ptr nb 0) rfl rfl <|
    goq_p (.ptr nb 5) rfl rfl <|
    goq_l v (go_start (S:=Names v) ht) rfl (old_ld1 (b:=nb) (off:=5) rfl ha hv ht nv vb) fun r1=>
    goq_l (.agg [.int .i64 kd,.sl tb 0 1 (.ex 1),.bool y1,.bool y2,.bool y3,.bool y4,.int .i64 z1,.int .i64 z2,.nils,.nils,.int .i64 ro,.bool mo,.int .i64 (Int.ofNat 0)]) r1 rfl (old_ldn (b:=ib) (off:=0) rfl hi rfl rfl ht ni (beq_self _ rfl)) fun r2=>
    goq_a (.sl (σ.next+6) 0 1 (.ex 1)) (.cells [.int .i64 kd,.sl tb 0 1 (.ex 1),.bool y1,.bool y2,.bool y3,.bool y4,.int .i64 z1,.int .i64 z2,.nils,.nils,.int .i64 ro,.bool mo,.int .i64 (Int.ofNat 0)]) 64 r2 rfl (by decide) (by decide) rfl fun _ r3=>
    goq_k u (by rw[←ha']at r3;exact r3) rfl (by decide) (S':=Names v) f2 (fun _ _ h=>h) (fun b h h1 _=>by have:=vl b h;omega) (app_den rfl rfl g2) fun _ _ r4=>
    goq_p (.ptr nb 0) rfl rfl <|
    goq_p (.ptr nb 5) rfl rfl <|
    goq_end .dead r4 rfl (by decide) f3 (fun b h h1 _=>by omega) g3 (fun x hx=>by
      simp only[List.mem_cons,List.not_mem_nil,or_false]at hx
      rcases hx with rfl|rfl
      · show legal H127_0 5 [10,7] []=false
        decide
      · show legal H127_0 4 [10,7] []=false
        decide)
  have d:=goq_draw (ops:=G127_0) go
  refine⟨_,u,σ3,d,rfl,rfl,rfl,rfl,c3,d2.fr f3 f2.tidy (fun b hb e=>un (e ▸ hb)),fun b hb=>(m2 b hb).elim .inl (fun h => .inr (by omega)),un,?_⟩
  exact((fa.mono (fun _ _ h=>h.elim):Fr (fun b=>b=nb∨Names v b) σ σa).trans f2 (fun _ _ h => .inr h)).trans f3 (fun _ _ h => .inl h)
def checkP (c:ConS) (sz:Bool):Bool:=!c.has || !(((c.hasLow&&c.hasHigh)&&ltF c.high c.low) || (sz&&(((!c.hasLow || ltF c.low (Int.ofNat 0)) || ltF (Int.ofNat 70000) c.low) || (c.hasHigh&&(ltF c.high (Int.ofNat 0) || ltF (Int.ofNat 70000) c.high)))))
def conA (c:ConS):List V:=[.bool c.has,.bool c.hasLow,.bool c.hasHigh,.bool c.more,.int .i64 c.low,.int .i64 c.high]
def SpCheck (F:List V→H→Ans):Prop:=∀(σ:H) (c:ConS) (sz:Bool),Tidy σ→checkP c sz=true→∃σ',F [.agg (conA c),.bool sz] σ=some (.int .i64 (Int.ofNat 0),σ')∧Fr Nowhere σ σ'
theorem check_F {W:DrawFn}:SpCheck (F221 E D W N):=by
 intro σ c sz ht hc
 obtain⟨ha,hl,hh,mo,lo,hi⟩:=c
 obtain⟨σ1,e1,f1,a1,n1⟩:=mkN ht [.bool ha,.bool hl,.bool hh,.bool mo,.int .i64 lo,.int .i64 hi]
 refine⟨σ1,?_,f1⟩
 unfold checkP at hc
 dsimp only at hc
 show T221_0 E D W ha hl hh mo lo hi sz σ=_
 unfold T221_0
 generalize h1:ltF hi lo=b1 at hc ⊢
 generalize h2:ltF lo (Int.ofNat 0)=b2 at hc ⊢
 generalize h3:ltF (Int.ofNat 70000) lo=b3 at hc ⊢
 generalize h4:ltF hi (Int.ofNat 0)=b4 at hc ⊢
 generalize h5:ltF (Int.ofNat 70000) hi=b5 at hc ⊢
 cases ha
 ·simp -implicitDefEqProofs only [↓rP,rA,Nat.reduceEqDiff,Nat.reduceLT,Nat.reduceLeDiff,↓e1,↓ldK_is a1]
 ·cases hl<;>cases hh<;>cases sz<;>(try cases b1)<;>(try cases b2)<;>(try cases b3)<;>(try cases b4)<;>(try cases b5)<;>first
   | exact absurd hc (by decide)
   | (simp -implicitDefEqProofs only [↓rP,rA,Nat.reduceEqDiff,Nat.reduceLT,Nat.reduceLeDiff,↓e1,↓ldK_is a1,h1,h2,h3,h4,h5];done)
def uniP (k:Nat):Nat:=match k with
 | 1=>1 | 2=>2 | 3=>10 | 4=>5 | 5=>4 | 6=>12 | 7=>16 | 8=>17 | 10=>16 | _=>0
def SpUni (F:List V→H→Ans):Prop:=∀(σ:H) (k:Nat),k≤10→F [.int .i64 (Int.ofNat k)] σ=some (.agg [.int .i64 (Int.ofNat 0),.int .i64 (Int.ofNat (uniP k))],σ)
theorem uni_F {W:DrawFn}:SpUni (F220 E D W N):=by
 intro σ k hk
 match k,hk with
 | 0,_=>rfl
 | 1,_=>rfl
 | 2,_=>rfl
 | 3,_=>rfl
 | 4,_=>rfl
 | 5,_=>rfl
 | 6,_=>rfl
 | 7,_=>rfl
 | 8,_=>rfl
 | 9,_=>rfl
 | 10,_=>rfl
theorem ndC_sub:∀(ns:List NodeS) (ws:List (V × V)) (i:Nat) (nd:NodeS) (u:V × V),ns[i]? = some nd→ws[i]? = some u→((ndCs ns ws).drop (i*16)).take 16=nd.c u.1 u.2
 | [],_,i,nd,u,h,_=>by simp at h
 | _::_,[],i,nd,u,_,h=>by simp at h
 | x::ns,y::ws,0,nd,u,h,h'=>by simp at h h';subst h;subst h';rfl
 | x::ns,y::ws,i+1,nd,u,h,h'=>by
  have h:ns[i]? = some nd:=by simpa using h
  have h':ws[i]? = some u:=by simpa using h'
  show ((x.c y.1 y.2++ndCs ns ws).drop ((i+1)*16)).take 16=_
  rw[show (i+1)*16=16+i*16 by omega,←List.drop_drop,show (x.c y.1 y.2++ndCs ns ws).drop 16=ndCs ns ws from rfl]
  exact ndC_sub ns ws i nd u h h'
theorem src_at {σ:H} {esz n i:Nat} {v:V} {m c:List V} (h:Src σ esz n v m) (hi:i<n) (hc:(m.drop (i*esz)).take esz=c) (hz:0<esz) (κ:List V→Ans):iaddrSK esz v (Int.ofNat i) (fun b o=>ldnK E σ b o esz κ)=κ c:=by
 rcases h with ⟨h0,_,_⟩|⟨b,o,cp,L,rfl,ha,hle,hm⟩
 ·omega
 ·rw[iaddrSK_lt hi]
  show ldnK E σ b (o+i*esz) esz κ=_
  have hmul:i*esz+esz≤n*esz:=by rw[←Nat.succ_mul];exact Nat.mul_le_mul_right _ hi
  rw[ldnK_is ha,subK_of (by omega)]
  rw[hm,List.drop_take,List.take_take,Nat.min_eq_left (by omega),List.drop_drop]at hc
  rw[hc]
theorem src_ld {σ:H} {n i:Nat} {v w:V} {m:List V} (h:Src σ 1 n v m) (hi:i<n) (hc:m[i]? = some w) (κ:V→Ans):iaddrSK 1 v (Int.ofNat i) (fun b o=>ldK E σ b o κ)=κ w:=by
 rcases h with ⟨h0,_,_⟩|⟨b,o,cp,L,rfl,ha,hle,hm⟩
 ·omega
 ·rw[iaddrSK_lt hi]
  show ldK E σ b (o+i*1) κ=_
  have:L[o+i*1]? = some w:=by
   rw[hm,List.getElem?_take_of_lt (by omega),List.getElem?_drop]at hc
   rw[Nat.mul_one];exact hc
  rw[ldK_is ha,nthK_of (by rw[nthF_eq];exact this)]
end
def SpInI (F:List V→H→Ans):Prop:=∀(σ:H) (v:V) (l:List Nat) (x:Nat),Src σ 1 l.length v (ksC l)→l.length≤9000→F [v,.int .i64 (Int.ofNat x)] σ=some (.bool (l.any fun y=>decide (y=x)),σ)
structure MdOk (m:ModS):Prop where
 kinds:∀nd∈m.ns,nd.kind≠11∧nd.kind≤10∧nd.fields.length≤5000
 few:m.ns.length≤300∧m.az.length≤40
 as_many:m.ks.length=m.az.length
 apart:∀i,i<m.az.length→((m.az.take i).map ofN).any (fun x=>x.beq (ofN (m.az[i]?.getD [])))=false
def SpUses (m:ModS) (q:Nat) (F:List V→H→Ans):Prop:=∀(σ:H) (nv tv dv:V) (k d:Nat),Tidy σ→MdS σ m nv tv dv→17≤d+q→d≤1000 →
 ∃σ',F [.agg (mdC m nv tv dv),.int .i64 (Int.ofNat k),.int .i64 (Int.ofNat d),.nils] σ=some (.tup [.nils,.bool false],σ')∧Fr Nowhere σ σ'
theorem MdS.fr {σ σ':H} {m:ModS} {nv tv dv:V} (h:MdS σ m nv tv dv) (f:Fr Nowhere σ σ') (ht:Tidy σ):MdS σ' m nv tv dv:=by
 obtain⟨ws,h1,h2,h3⟩:=h.d
 refine⟨h.n.fr f ht (fun _ _ h=>h),h.t.fr f ht (fun _ _ h=>h),ws,h1.fr f ht (fun _ _ h=>h),h2,fun k nd u hn hu=>?_⟩
 obtain⟨a,b⟩:=h3 k nd u hn hu
 exact⟨a.fr f ht (fun _ _ h=>h),b.fr f ht (fun _ _ h=>h)⟩
theorem MdS.nd {σ:H} {m:ModS} {nv tv dv:V} (h:MdS σ m nv tv dv) {k:Nat} {nd:NodeS} (hk:m.ns[k]? = some nd) :
  ∃iv fv,(∀(E:List (Nat × Blk)) (κ:List V→Ans),iaddrSK 16 dv (Int.ofNat k) (fun b o=>ldnK E σ b o 16 κ)=κ (nd.c iv fv))∧Src σ 3 nd.items.length iv (itC nd.items)∧Src σ 11 nd.fields.length fv (fdC nd.fields):=by
 obtain⟨ws,h1,h2,h3⟩:=h.d
 have hlt:k<m.ns.length:=(List.getElem?_eq_some_iff.1 hk).1
 obtain⟨u,hu⟩:∃u,ws[k]? = some u:=⟨ws[k],List.getElem?_eq_getElem (by omega)⟩
 obtain⟨a,b⟩:=h3 k nd u hk hu
 exact⟨u.1,u.2,fun E κ=>src_at (E:=E) h1 hlt (ndC_sub _ _ _ _ _ hk hu) (by decide) κ,a,b⟩
theorem fd_ty:∀(l:List FieldS) (i:Nat) (f:FieldS),l[i]? = some f→(fdC l)[i*11+1]? = some (.int .i64 (Int.ofNat f.type))
 | [],i,f,h=>by simp at h
 | x::l,0,f,h=>by simp at h;subst h;rfl
 | x::l,i+1,f,h=>by
  have h:l[i]? = some f:=by simpa using h
  show (x.c++fdC l)[(i+1)*11+1]? = _
  rw[List.getElem?_append_right (by show 11≤_;omega),show (i+1)*11+1-x.c.length=i*11+1 by show (i+1)*11+1-11=_;omega]
  exact fd_ty l i f h
section
variable {E:List (Nat × Blk)} {D:Den} {W:DrawFn} {N:Nat}
theorem src_ldo {σ:H} {esz n i off:Nat} {v w:V} {m:List V} (h:Src σ esz n v m) (hi:i<n) (ho:off<esz) (hc:m[i*esz+off]? = some w) (κ:V→Ans):iaddrSK esz v (Int.ofNat i) (fun b o=>ldK E σ b (Nat.add o off) κ)=κ w:=by
 rcases h with ⟨h0,_,_⟩|⟨b,o,cp,L,rfl,ha,hle,hm⟩
 ·omega
 ·rw[iaddrSK_lt hi]
  show ldK E σ b (o+i*esz+off) κ=_
  have hmul:i*esz+esz≤n*esz:=by rw[←Nat.succ_mul];exact Nat.mul_le_mul_right _ hi
  have:L[o+i*esz+off]? = some w:=by
   rw[hm,List.getElem?_take_of_lt (by omega),List.getElem?_drop]at hc
   rw[Nat.add_assoc];exact hc
  exact ldK_get ha this
theorem inI_F (hN:10000<N):SpInI (F29 E D W N):=by
 intro σ v l x hv hl
 have key:∀(m i n:Nat),i+m=l.length→m<n→L29_2 E D W N n v (Int.ofNat x) (Int.ofNat i) σ=some (.bool ((l.drop i).any fun y=>decide (y=x)),σ):=by
  intro m
  induction m with
  | zero=>
   intro i n hi hn
   obtain⟨n,rfl⟩:∃k,n=k+1:=⟨n-1,by omega⟩
   rw[List.drop_eq_nil_of_le (by omega)]
   show T29_2 E D W (T29_1 E D W) _ v (Int.ofNat x) (Int.ofNat i) σ=_
   have d1:decide (i<l.length)=false:=decide_eq_false (by omega)
   have sl:∀κ:Nat→Ans,slenK v κ=κ l.length:=fun κ=>hv.slen
   have k:∀R,T29_2 E D W (T29_1 E D W) R v (Int.ofNat x) (Int.ofNat i) σ=some (.bool false,σ):=by
    intro R
    unfold T29_2 T29_1
    simp -implicitDefEqProofs only [↓rP,rA,Nat.reduceEqDiff,Nat.reduceLT,Nat.reduceLeDiff,↓sl,d1]
   exact k _
  | succ m ih=>
   intro i n hi hn
   obtain⟨n,rfl⟩:∃k,n=k+1:=⟨n-1,by omega⟩
   have hlt:i<l.length:=by omega
   rw[List.drop_eq_getElem_cons hlt,List.any_cons]
   show T29_2 E D W (T29_1 E D W) (L29_2 E D W N n) v (Int.ofNat x) (Int.ofNat i) σ=_
   have d1:decide (i<l.length)=true:=decide_eq_true hlt
   have a1:addF .i64 (Int.ofNat i) (Int.ofNat 1)=Int.ofNat (i+1):=addF_nat (by omega)
   have sl:∀κ:Nat→Ans,slenK v κ=κ l.length:=fun κ=>hv.slen
   have rd:∀κ,iaddrSK 1 v (Int.ofNat i) (fun b o=>ldK E σ b o κ)=κ (.int .i64 (Int.ofNat l[i])):=fun κ=>src_ld hv hlt (by unfold ksC;rw[List.getElem?_map,List.getElem?_eq_getElem hlt];rfl) κ
   have k:∀R,T29_2 E D W (T29_1 E D W) R v (Int.ofNat x) (Int.ofNat i) σ=condK (decide (l[i]=x)) (some (.bool true,σ)) (R v (Int.ofNat x) (Int.ofNat (i+1)) σ):=by
    intro R
    unfold T29_2
    simp -implicitDefEqProofs only [↓rP,rA,Nat.reduceEqDiff,Nat.reduceLT,Nat.reduceLeDiff,↓sl,d1,↓rd,a1]
   rw[k,ih (i+1) n (by omega) (by omega)]
   cases decide (l[i]=x)<;>rfl
 exact key l.length 0 N (by omega) (by omega)
theorem uses_L {m:ModS} {q:Nat} (hU:SpUses m q (D 124)) (hN:6000<N) {nd:NodeS} {iv fv nv tv dv:V} {mb d:Nat} (hk11:nd.kind≠11) (hq:17≤d+1+q) (hd:d≤16) (hfl:nd.fields.length≤5000):∀(n i k:Nat) {σ:H},i+n=nd.fields.length→n<k→Tidy σ→Atc σ mb (mdC m nv tv dv)→MdS σ m nv tv dv→Src σ 11 nd.fields.length fv (fdC nd.fields) →
  ∃σ',L124_4 E D W N k (Int.ofNat d) .nils mb 0 false (Int.ofNat i) (Int.ofNat nd.kind) (ofN nd.name) nd.mHas nd.mNum (Int.ofNat nd.mMode) nd.con.has nd.con.hasLow nd.con.hasHigh nd.con.more nd.con.low nd.con.high iv fv (Int.ofNat nd.root) nd.more (Int.ofNat nd.of_) σ=some (.tup [.nils,.bool false],σ')∧Fr Nowhere σ σ':=by
 have ad:addF .i64 (Int.ofNat d) (Int.ofNat 1)=Int.ofNat (d+1):=addF_nat (by omega)
 intro n
 induction n with
 | zero=>
  intro i k σ hi hk ht ha hm hf
  obtain⟨k,rfl⟩:∃j,k=j+1:=⟨k-1,by omega⟩
  have d1:decide (i<nd.fields.length)=false:=decide_eq_false (by omega)
  have sl:∀κ:Nat→Ans,slenK fv κ=κ nd.fields.length:=fun κ=>hf.slen
  unfold mdC at ha
  have sub:∀κ:List V→Ans,subK [.str (ofN m.nm),.int .i64 (Int.ofNat m.tg),nv,tv,dv] 0 5 κ=κ [.str (ofN m.nm),.int .i64 (Int.ofNat m.tg),nv,tv,dv]:=fun κ=>by
   rw[subK_of (by simp)];rfl
  obtain⟨σ',g,f⟩:=hU σ nv tv dv nd.of_ (d+1) ht hm (by omega) (by omega)
  unfold mdC at g
  cases h10:decide (nd.kind=10)with
  | false=>
   refine⟨σ,?_,Fr.refl ht⟩
   show T124_4 E D W (T124_3 E D W (T124_5 E D W)) _ _ _ _ _ _ _ _ _ _ _ _ _ _ _ _ _ _ _ _ _ _ _ _=_
   have key:∀R,T124_4 E D W (T124_3 E D W (T124_5 E D W)) R (Int.ofNat d) .nils mb 0 false (Int.ofNat i) (Int.ofNat nd.kind) (ofN nd.name) nd.mHas nd.mNum (Int.ofNat nd.mMode) nd.con.has nd.con.hasLow nd.con.hasHigh nd.con.more nd.con.low nd.con.high iv fv (Int.ofNat nd.root) nd.more (Int.ofNat nd.of_) σ=some (.tup [.nils,.bool false],σ):=by
    intro R
    unfold T124_4 T124_3 T124_5
    simp -implicitDefEqProofs only [↓rP,rA,Nat.reduceEqDiff,Nat.reduceLT,Nat.reduceLeDiff,↓sl,d1,h10]
   exact key _
  | true=>
   refine⟨σ',?_,f⟩
   show T124_4 E D W (T124_3 E D W (T124_5 E D W)) _ _ _ _ _ _ _ _ _ _ _ _ _ _ _ _ _ _ _ _ _ _ _ _=_
   have key:∀R,T124_4 E D W (T124_3 E D W (T124_5 E D W)) R (Int.ofNat d) .nils mb 0 false (Int.ofNat i) (Int.ofNat nd.kind) (ofN nd.name) nd.mHas nd.mNum (Int.ofNat nd.mMode) nd.con.has nd.con.hasLow nd.con.hasHigh nd.con.more nd.con.low nd.con.high iv fv (Int.ofNat nd.root) nd.more (Int.ofNat nd.of_) σ=some (.tup [.nils,.bool false],σ'):=by
    intro R
    unfold T124_4 T124_3 T124_5
    simp -implicitDefEqProofs only [↓rP,rA,Nat.reduceEqDiff,Nat.reduceLT,Nat.reduceLeDiff,↓sl,d1,h10,↓ldnK_is ha,↓sub,ad,↓g]
   exact key _
 | succ n ih=>
  intro i k σ hi hk ht ha hm hf
  obtain⟨k,rfl⟩:∃j,k=j+1:=⟨k-1,by omega⟩
  have hlt:i<nd.fields.length:=by omega
  have d1:decide (i<nd.fields.length)=true:=decide_eq_true hlt
  have a1:addF .i64 (Int.ofNat i) (Int.ofNat 1)=Int.ofNat (i+1):=addF_nat (by omega)
  have sl:∀κ:Nat→Ans,slenK fv κ=κ nd.fields.length:=fun κ=>hf.slen
  have rd:∀κ,iaddrSK 11 fv (Int.ofNat i) (fun b o=>ldK E σ b (Nat.add o 1) κ)=κ (.int .i64 (Int.ofNat nd.fields[i].type)):=fun κ=>src_ldo hf hlt (by decide) (fd_ty _ _ _ (List.getElem?_eq_getElem hlt)) κ
  obtain⟨σ1,g,f1⟩:=hU σ nv tv dv nd.fields[i].type (d+1) ht hm (by omega) (by omega)
  obtain⟨σ',g',f'⟩:=ih (i+1) k (σ:=σ1) (by omega) (by omega) f1.tidy (f1.at_ ha ht (fun h=>h)) (hm.fr f1 ht) (hf.fr f1 ht (fun _ _ h=>h))
  refine⟨σ',?_,f1.trans f' (fun _ _ h=>h)⟩
  unfold mdC at ha g
  have sub:∀κ:List V→Ans,subK [.str (ofN m.nm),.int .i64 (Int.ofNat m.tg),nv,tv,dv] 0 5 κ=κ [.str (ofN m.nm),.int .i64 (Int.ofNat m.tg),nv,tv,dv]:=fun κ=>by
   rw[subK_of (by simp)];rfl
  show T124_4 E D W (T124_3 E D W (T124_5 E D W)) (L124_4 E D W N k) _ _ _ _ _ _ _ _ _ _ _ _ _ _ _ _ _ _ _ _ _ _ _=_
  have key:∀K R,T124_4 E D W K R (Int.ofNat d) .nils mb 0 false (Int.ofNat i) (Int.ofNat nd.kind) (ofN nd.name) nd.mHas nd.mNum (Int.ofNat nd.mMode) nd.con.has nd.con.hasLow nd.con.hasHigh nd.con.more nd.con.low nd.con.high iv fv (Int.ofNat nd.root) nd.more (Int.ofNat nd.of_) σ=R (Int.ofNat d) .nils mb 0 false (Int.ofNat (i+1)) (Int.ofNat nd.kind) (ofN nd.name) nd.mHas nd.mNum (Int.ofNat nd.mMode) nd.con.has nd.con.hasLow nd.con.hasHigh nd.con.more nd.con.low nd.con.high iv fv (Int.ofNat nd.root) nd.more (Int.ofNat nd.of_) σ1:=by
   intro K R
   unfold T124_4
   simp -implicitDefEqProofs only [↓rP,rA,Nat.reduceEqDiff,Nat.reduceLT,Nat.reduceLeDiff,↓sl,d1,↓ldnK_is ha,↓sub,↓rd,ad,a1,↓g]
  rw[key];exact g'
theorem uses_F {m:ModS} {q:Nat} (hm:MdOk m) (hN:6000<N) (hU:∀p,q=p+1→SpUses m p (D 124)):SpUses m q (F124 E D W N):=by
 intro σ nv tv dv k d ht hs hq hd
 obtain⟨σ1,e1,f1,a1,n1⟩:=mkN ht (mdC m nv tv dv)
 have sl:∀κ:Nat→Ans,slenK dv κ=κ m.ns.length:=fun κ=>by
  obtain⟨ws,h1,_⟩:=hs.d
  exact h1.slen
 have od:dv.one=true:=by
  obtain⟨ws,h1,_⟩:=hs.d
  exact h1.one
 have d0:decide (k<0)=false:=decide_eq_false (by omega)
 unfold mdC at e1 a1
 have s1:=hs.fr f1 ht
 show ∃σ',T124_0 E D W (T124_1 E D W (L124_4 E D W N N)) (T124_2 E D W) (ofN m.nm) (Int.ofNat m.tg) nv tv dv (Int.ofNat k) (Int.ofNat d) .nils σ=_∧_
 cases h1:decide (m.ns.length≤k)with
 | true=>
  refine⟨σ1,?_,f1⟩
  unfold T124_0
  simp -implicitDefEqProofs only [↓rP,rA,Nat.reduceEqDiff,Nat.reduceLT,Nat.reduceLeDiff,hs.n.one,hs.t.one,od,d0,↓e1,↓ldK_is a1,↓sl,h1]
 | false=>
  cases h2:decide (16<d)with
  | true=>
   refine⟨σ1,?_,f1⟩
   unfold T124_0
   simp -implicitDefEqProofs only [↓rP,rA,Nat.reduceEqDiff,Nat.reduceLT,Nat.reduceLeDiff,hs.n.one,hs.t.one,od,d0,↓e1,↓ldK_is a1,↓sl,h1,h2]
  | false=>
   have hk:k<m.ns.length:=by have:=of_decide_eq_false h1;omega
   have hd16:d≤16:=by have:=of_decide_eq_false h2;omega
   obtain⟨p,rfl⟩:∃p,q=p+1:=⟨q-1,by omega⟩
   obtain⟨iv,fv,rd,hi,hf⟩:=s1.nd (List.getElem?_eq_getElem hk)
   have hkd:=hm.kinds _ (List.getElem_mem hk)
   have a1':=a1
   obtain⟨nd,hnd⟩:∃nd,nd=m.ns[k]:=⟨_,rfl⟩
   rw[←hnd]at rd hi hf hkd
   obtain⟨σ2,g2,f2⟩:=uses_L (E:=E) (W:=W) (N:=N) (hU p rfl) hN (mb:=σ.next) (iv:=iv) hkd.1 (by omega) hd16 hkd.2.2 nd.fields.length 0 N (by omega) (by omega) f1.tidy a1 s1 hf
   refine⟨σ2,?_,f1.trans f2 (fun _ _ h=>h)⟩
   have h11:decide (nd.kind=11)=false:=decide_eq_false hkd.1
   have rd':=rd E
   unfold NodeS.c at rd'
   have key:∀K1 K2,T124_0 E D W K1 K2 (ofN m.nm) (Int.ofNat m.tg) nv tv dv (Int.ofNat k) (Int.ofNat d) .nils σ=K1 (Int.ofNat d) .nils σ.next 0 (Int.ofNat nd.kind) (ofN nd.name) nd.mHas nd.mNum (Int.ofNat nd.mMode) nd.con.has nd.con.hasLow nd.con.hasHigh nd.con.more nd.con.low nd.con.high iv fv (Int.ofNat nd.root) nd.more (Int.ofNat nd.of_) σ1:=by
    intro K1 K2
    unfold T124_0
    simp -implicitDefEqProofs only [↓rP,rA,Nat.reduceEqDiff,Nat.reduceLT,Nat.reduceLeDiff,hs.n.one,hs.t.one,od,d0,↓e1,↓ldK_is a1,↓sl,h1,h2,↓rd',h11,allOne_cons,allOne_nil,one_int,one_str,one_bool,hi.one,hf.one]
   rw[key];exact g2
end
def SpReach (F:List V→H→Ans):Prop:=∀(σ:H) (g:V) (n i j:Nat),Tidy σ→Src σ 1 n g (List.replicate n .nils)→i<n→∃σ',F [g,.int .i64 (Int.ofNat i),.int .i64 (Int.ofNat j)] σ=some (.bool false,σ')∧Fr Nowhere σ σ'
def SpOrder (m:ModS) (F:List V→H→Ans):Prop:=∀(σ:H) (nv tv dv:V),Tidy σ→MdS σ m nv tv dv→∃v σ',F [.agg (mdC m nv tv dv)] σ=some (.tup [v,.int .i64 (Int.ofNat 0),.int .i64 (Int.ofNat 0)],σ')∧v.one=true∧Fr Nowhere σ σ'
theorem zbnd (k d:Nat):bnd (some (.int .i64 (Int.ofNat k))) d=some k:=by
 show (if(0:Int)≤Int.ofNat k then some (Int.ofNat k).toNat else none)=_
 exact if_pos (Int.natCast_nonneg k)
theorem zpre {b n k:Nat} {c:Cap} (hc:c = .op 1∨c = .ex n) (hk:k≤n) (h0:0<n):sliceV 1 (.sl b 0 n c) none (some (.int .i64 (Int.ofNat k))) none=some (.sl b 0 k c):=by
 rcases hc with rfl|rfl
 ·unfold sliceV
  simp only[zbnd,show bnd none 0=some 0 from rfl]
  rw[if_pos (by simp;omega),if_neg (by simp;omega)]
  simp
 ·unfold sliceV
  simp only[zbnd,show bnd none 0=some 0 from rfl,show bnd none n=some n from rfl]
  rw[if_pos (by simp;omega)]
  simp
theorem dst_pre {σ:H} {n k:Nat} {v:V} {l:List V} (h:Dst σ 1 n v l) (hk:k≤n):∃u,sliceV 1 v none (some (.int .i64 (Int.ofNat k))) none=some u∧Src σ 1 k u (l.take k):=by
 have go:∀{b:Nat} {c:Cap},(c = .op 1∨c = .ex n)→0<n→Atc σ b l→v = .sl b 0 n c→∃u,sliceV 1 v none (some (.int .i64 (Int.ofNat k))) none=some u∧Src σ 1 k u (l.take k):=by
  intro b c hc h0 ha hv
  subst hv
  refine⟨_,zpre hc hk h0,.inr ⟨b,0,c,l,rfl,ha,?_,?_⟩⟩
  ·have:=h.length;omega
  ·rw[List.drop_zero,Nat.mul_one]
 rcases h with (⟨h0,hv,hl⟩|⟨b,hv,ha,h0,hl⟩)|⟨b,hv,ha,hl⟩
 ·subst h0;subst hv
  have:k=0:=by omega
  subst this
  exact⟨.nils,rfl,.inl ⟨rfl,rfl,by simp⟩⟩
 ·exact go (.inl rfl) h0 ha hv
 ·rcases Nat.eq_zero_or_pos n with h0|h0
  ·subst h0
   have:k=0:=by omega
   subst this
   subst hv
   exact⟨.sl b 0 0 (.ex 0),rfl,.inr ⟨b,0,_,l,rfl,ha,Nat.zero_le _,by simp⟩⟩
  ·exact go (.inr rfl) h0 ha hv
section
variable {E:List (Nat × Blk)} {D:Den} {W:DrawFn} {N:Nat}
theorem reach_F (hN:10<N):SpReach (F125 E D W N):=by
 intro σ g n i j ht hg hi
 obtain⟨N,rfl⟩:∃k,N=k+1:=⟨N-1,by omega⟩
 obtain⟨σ1,e1,f1,a1,n1⟩:=mkN ht []
 refine⟨σ1,?_,f1⟩
 have rd:∀κ:V→Ans,iaddrSK 1 g (Int.ofNat i) (fun b o=>ldK E σ1 b o κ)=κ .nils:=fun κ=>src_ld (hg.fr f1 ht (fun _ _ h=>h)) hi (by rw[List.getElem?_replicate,if_pos hi]) κ
 have ap:∀κ:V→H→Ans,appK E 1 8 .nils .nils σ1 κ=κ .nils σ1:=fun κ=>rfl
 show T125_0 E D W (T125_2 E D W (T125_1 E D W) _) g (Int.ofNat i) (Int.ofNat j) σ=_
 have key:∀R,T125_0 E D W (T125_2 E D W (T125_1 E D W) R) g (Int.ofNat i) (Int.ofNat j) σ=some (.bool false,σ1):=by
  intro R
  unfold T125_0 T125_2 T125_1
  simp -implicitDefEqProofs only [↓rP,rA,Nat.reduceEqDiff,Nat.reduceLT,Nat.reduceLeDiff,↓e1,↓rd,↓ap]
 exact key _
theorem ord_2 {m:ModS} (hm:MdOk m) (hS:SpInS (D 123)) {σ:H} {nv tv dv:V} {mb:Nat} (ha:Atc σ mb (mdC m nv tv dv)) (hs:MdS σ m nv tv dv):∀(n i k:Nat),i+n=m.az.length→n<k→∀K1,(Nat.rec (fun _ _ _ _ _ _=>none) (fun _ ih=>T63_2 E D W K1 ih) k:Nat→Nat→V→Int→Int→H→Ans) mb 0 .nils (Int.negSucc 0) (Int.ofNat i) σ=K1 mb 0 .nils (Int.negSucc 0) σ:=by
 have hfew:=hm.few.2
 have sl:∀κ:Nat→Ans,slenK nv κ=κ m.az.length:=fun κ=>hs.n.slen
 unfold mdC at ha
 intro n
 induction n with
 | zero=>
  intro i k hi hk K1
  obtain⟨k,rfl⟩:∃j,k=j+1:=⟨k-1,by omega⟩
  have d1:decide (i<m.az.length)=false:=decide_eq_false (by omega)
  show T63_2 E D W K1 _ mb 0 .nils (Int.negSucc 0) (Int.ofNat i) σ=_
  have key:∀R,T63_2 E D W K1 R mb 0 .nils (Int.negSucc 0) (Int.ofNat i) σ=K1 mb 0 .nils (Int.negSucc 0) σ:=by
   intro R
   unfold T63_2
   simp -implicitDefEqProofs only [↓rP,rA,Nat.reduceEqDiff,Nat.reduceLT,Nat.reduceLeDiff,↓ldK_is ha,↓sl,d1]
  exact key _
 | succ n ih=>
  intro i k hi hk K1
  obtain⟨k,rfl⟩:∃j,k=j+1:=⟨k-1,by omega⟩
  have hlt:i<m.az.length:=by omega
  have d1:decide (i<m.az.length)=true:=decide_eq_true hlt
  have a1:addF .i64 (Int.ofNat i) (Int.ofNat 1)=Int.ofNat (i+1):=addF_nat (by omega)
  obtain⟨u,hu,su⟩:=dst_pre hs.n (k:=i) (by omega)
  have gu:∀κ:V→Ans,gK (sliceV 1 nv none (some (.int .i64 (Int.ofNat i))) none) κ=κ u:=fun κ=>by rw[hu];rfl
  have rd:∀κ:V→Ans,iaddrSK 1 nv (Int.ofNat i) (fun b o=>ldK E σ b o κ)=κ (.str (ofN m.az[i])):=fun κ=>src_ld hs.n.src hlt (by unfold stC;rw[List.getElem?_map,List.getElem?_eq_getElem hlt];rfl) κ
  have gi:=hS σ u ((m.az.take i).map ofN) (ofN m.az[i]) (by
   rw[List.length_map,List.length_take,Nat.min_eq_left (by omega),List.map_map]
   have:stC m.az=m.az.map (V.str ∘ ofN):=rfl
   rw[this,←List.map_take]at su
   exact su) (by rw[List.length_map,List.length_take];omega)
  have:=hm.apart i hlt
  rw[List.getElem?_eq_getElem hlt]at this
  have this:((m.az.take i).map ofN).any (fun x=>x.beq (ofN m.az[i]))=false:=this
  rw[this]at gi
  show T63_2 E D W K1 _ mb 0 .nils (Int.negSucc 0) (Int.ofNat i) σ=_
  have key:∀R,T63_2 E D W K1 R mb 0 .nils (Int.negSucc 0) (Int.ofNat i) σ=R mb 0 .nils (Int.negSucc 0) (Int.ofNat (i+1)) σ:=by
   intro R
   unfold T63_2
   simp -implicitDefEqProofs only [↓rP,rA,Nat.reduceEqDiff,Nat.reduceLT,Nat.reduceLeDiff,↓ldK_is ha,↓sl,d1,↓gu,↓rd,↓gi,a1]
  rw[key]
  exact ih (i+1) k (by omega) (by omega) K1
theorem repl_snoc {α:Type} (n:Nat) (x:α):List.replicate n x++[x]=List.replicate (n+1) x:=by
 rw[List.replicate_succ']
theorem ord_4 {m:ModS} (hm:MdOk m) (hU:SpUses m 17 (D 124)) {nv tv dv:V} {mb:Nat} {σb:H} (htb:Tidy σb) (hab:Atc σb mb (mdC m nv tv dv)) (hsb:MdS σb m nv tv dv):∀(n i k:Nat) {σ:H} {u:V},i+n=m.az.length→n<k→Fr Nowhere σb σ→Dst σ 1 i u (List.replicate i .nils)→(∀b,Names u b→σb.next≤b) →
  ∃u' σ',(∀K3,(Nat.rec (fun _ _ _ _ _ _=>none) (fun _ ih=>T63_4 E D W K3 (T63_5 E D W ih)) k:Nat→Nat→V→Int→Int→H→Ans) mb 0 u (Int.negSucc 0) (Int.ofNat i) σ=K3 mb 0 u' (Int.negSucc 0) σ')∧Dst σ' 1 m.az.length u' (List.replicate m.az.length .nils)∧(∀b,Names u' b→σb.next≤b)∧Fr Nowhere σb σ':=by
 have hfew:=hm.few.2
 intro n
 induction n with
 | zero=>
  intro i k σ u hi hk f hu hmb
  obtain⟨k,rfl⟩:∃j,k=j+1:=⟨k-1,by omega⟩
  have hi:i=m.az.length:=by omega
  subst hi
  have ha:=f.at_ hab htb (fun h=>h)
  have sl:∀κ:Nat→Ans,slenK nv κ=κ m.az.length:=fun κ=>hsb.n.slen
  have d1:decide (m.az.length<m.az.length)=false:=decide_eq_false (by omega)
  unfold mdC at ha
  refine⟨u,σ,fun K3=>?_,hu,hmb,f⟩
  show T63_4 E D W K3 _ mb 0 u (Int.negSucc 0) (Int.ofNat m.az.length) σ=_
  have key:∀R,T63_4 E D W K3 R mb 0 u (Int.negSucc 0) (Int.ofNat m.az.length) σ=K3 mb 0 u (Int.negSucc 0) σ:=by
   intro R
   unfold T63_4
   simp -implicitDefEqProofs only [↓rP,rA,Nat.reduceEqDiff,Nat.reduceLT,Nat.reduceLeDiff,↓ldK_is ha,↓sl,d1]
  exact key _
 | succ n ih=>
  intro i k σ u hi hk f hu hmb
  obtain⟨k,rfl⟩:∃j,k=j+1:=⟨k-1,by omega⟩
  have hlt:i<m.az.length:=by omega
  have ha:=f.at_ hab htb (fun h=>h)
  have hs:=hsb.fr f htb
  have d1:decide (i<m.az.length)=true:=decide_eq_true hlt
  have a1:addF .i64 (Int.ofNat i) (Int.ofNat 1)=Int.ofNat (i+1):=addF_nat (by omega)
  have hks:i<m.ks.length:=by have:=hm.as_many;omega
  have rd:∀κ:V→Ans,iaddrSK 1 tv (Int.ofNat i) (fun b o=>ldK E σ b o κ)=κ (.int .i64 (Int.ofNat m.ks[i])):=fun κ=>src_ld hs.t hks (by unfold ksC;rw[List.getElem?_map,List.getElem?_eq_getElem hks];rfl) κ
  have sl:∀κ:Nat→Ans,slenK nv κ=κ m.az.length:=fun κ=>hsb.n.slen
  obtain⟨σ1,g1,f1⟩:=hU σ nv tv dv m.ks[i] 0 f.tidy hs (by omega) (by omega)
  obtain⟨σ2,e2,f2,a2,n2⟩:=mkN f1.tidy [.nils]
  have xs:Src σ2 1 1 (V.sl σ1.next 0 1 (.ex 1)) [.nils] := .inr ⟨_,_,_,_,rfl,a2,Nat.le_refl _,rfl⟩
  have f12:=f1.trans f2 (fun _ _ h=>h)
  obtain⟨u3,σ3,g3,d3,m3,f3⟩:=app_all (E:=E) (bytes:=24) (hu.fr f12 f.tidy (fun _ _ h=>h)) f2.tidy xs rfl (by unfold growable;simp only[Bool.and_eq_true,Nat.ble_eq];omega)
  have le:=f.le
  have le1:=f1.le
  have le2:=f2.le
  have f3':Fr Nowhere σb σ3:=((f.trans f12 (fun _ _ h=>h))).trans f3 (fun b hb h=>by have:=hmb b h;omega)
  rw[repl_snoc]at d3
  obtain⟨u',σ',g',d',m',f'⟩:=ih (i+1) k (by omega) (by omega) f3' d3 (fun b hb=>(m3 b hb).elim (hmb b) (fun h=>by omega))
  refine⟨u',σ',fun K3=>?_,d',m',f'⟩
  rw[←g' K3]
  unfold mdC at ha g1
  have sub:∀κ:List V→Ans,subK [.str (ofN m.nm),.int .i64 (Int.ofNat m.tg),nv,tv,dv] 0 5 κ=κ [.str (ofN m.nm),.int .i64 (Int.ofNat m.tg),nv,tv,dv]:=fun κ=>by
   rw[subK_of (by simp)];rfl
  have fl:∀κ:List V→Ans,fillK [(0,1,.nils)] [V.nils] κ=κ [.nils]:=fun κ=>rfl
  show T63_4 E D W K3 (T63_5 E D W _) mb 0 u (Int.negSucc 0) (Int.ofNat i) σ=_
  have key:∀R,T63_4 E D W K3 (T63_5 E D W R) mb 0 u (Int.negSucc 0) (Int.ofNat i) σ=R mb 0 u3 (Int.negSucc 0) (Int.ofNat (i+1)) σ3:=by
   intro R
   unfold T63_4 T63_5
   simp -implicitDefEqProofs only [↓rP,rA,Nat.reduceEqDiff,Nat.reduceLT,Nat.reduceLeDiff,↓ldK_is ha,↓ldnK_is ha,↓sub,↓sl,d1,↓rd,↓g1,↓fl,↓e2,↓g3,↓rtOne_of d3.one,a1]
  exact key _
theorem ord_7 {m:ModS} (hm:MdOk m) (hR:SpReach (D 125)) {nv tv dv u:V} {mb:Nat} {σb:H} (htb:Tidy σb) (hab:Atc σb mb (mdC m nv tv dv)) (hsb:MdS σb m nv tv dv) (hub:Src σb 1 m.az.length u (List.replicate m.az.length .nils)):∀(n i k:Nat) {σ:H},i+n=m.az.length→n<k→Fr Nowhere σb σ →
  ∃σ',(∀K6,(Nat.rec (fun _ _ _ _ _=>none) (fun _ ih=>T63_7 E D W K6 ih) k:Nat→Nat→V→Int→H→Ans) mb 0 u (Int.ofNat i) σ=K6 mb 0 u σ')∧Fr Nowhere σb σ':=by
 have hfew:=hm.few.2
 have sl:∀κ:Nat→Ans,slenK nv κ=κ m.az.length:=fun κ=>hsb.n.slen
 intro n
 induction n with
 | zero=>
  intro i k σ hi hk f
  obtain⟨k,rfl⟩:∃j,k=j+1:=⟨k-1,by omega⟩
  have ha:=f.at_ hab htb (fun h=>h)
  have d1:decide (i<m.az.length)=false:=decide_eq_false (by omega)
  unfold mdC at ha
  refine⟨σ,fun K6=>?_,f⟩
  show T63_7 E D W K6 _ mb 0 u (Int.ofNat i) σ=_
  have key:∀R,T63_7 E D W K6 R mb 0 u (Int.ofNat i) σ=K6 mb 0 u σ:=by
   intro R
   unfold T63_7
   simp -implicitDefEqProofs only [↓rP,rA,Nat.reduceEqDiff,Nat.reduceLT,Nat.reduceLeDiff,↓ldK_is ha,↓sl,d1]
  exact key _
 | succ n ih=>
  intro i k σ hi hk f
  obtain⟨k,rfl⟩:∃j,k=j+1:=⟨k-1,by omega⟩
  have ha:=f.at_ hab htb (fun h=>h)
  have d1:decide (i<m.az.length)=true:=decide_eq_true (by omega)
  have a1:addF .i64 (Int.ofNat i) (Int.ofNat 1)=Int.ofNat (i+1):=addF_nat (by omega)
  unfold mdC at ha
  obtain⟨σ1,g1,f1⟩:=hR σ u m.az.length i i f.tidy (hub.fr f htb (fun _ _ h=>h)) (by omega)
  obtain⟨σ',g',f'⟩:=ih (i+1) k (by omega) (by omega) (f.trans f1 (fun _ _ h=>h))
  refine⟨σ',fun K6=>?_,f'⟩
  rw[←g' K6]
  show T63_7 E D W K6 _ mb 0 u (Int.ofNat i) σ=_
  have key:∀R,T63_7 E D W K6 R mb 0 u (Int.ofNat i) σ=R mb 0 u (Int.ofNat (i+1)) σ1:=by
   intro R
   unfold T63_7
   simp -implicitDefEqProofs only [↓rP,rA,Nat.reduceEqDiff,Nat.reduceLT,Nat.reduceLeDiff,↓ldK_is ha,↓sl,d1,↓g1,a1]
  exact key _
theorem any_range (j x:Nat):(List.range j).any (fun y=>decide (y=x))=decide (x<j):=by
 rw[Bool.eq_iff_iff]
 simp
theorem ord_10 {m:ModS} (hm:MdOk m) (hI:SpInI (D 29)) (hN:10<N) {nv tv dv u:V} {mb:Nat} {σb:H} (htb:Tidy σb) (hab:Atc σb mb (mdC m nv tv dv)) (hsb:MdS σb m nv tv dv) (hub:Src σb 1 m.az.length u (List.replicate m.az.length .nils)) {σ:H} {v:V} {j:Nat} (f:Fr Nowhere σb σ) (hv:Dst σ 1 j v (ksC (List.range j))) (hn:∀b,Names v b→σb.next≤b) (hj:j<m.az.length) :
  ∃v' σ',(∀(n i k:Nat) R9,i+n=j→n<k→L63_10 E D W N R9 k mb 0 u v (Int.ofNat i) σ=R9 mb 0 u v' σ')∧Fr Nowhere σb σ'∧Dst σ' 1 (j+1) v' (ksC (List.range (j+1)))∧(∀b,Names v' b→σb.next≤b):=by
 have hfew:=hm.few.2
 have sl:∀κ:Nat→Ans,slenK nv κ=κ m.az.length:=fun κ=>hsb.n.slen
 have ha:=f.at_ hab htb (fun h=>h)
 have hu:=hub.fr f htb (fun _ _ h=>h)
 unfold mdC at ha
 have rd:∀i,i<m.az.length→∀κ:V→Ans,iaddrSK 1 u (Int.ofNat i) (fun b o=>ldK E σ b o κ)=κ .nils:=fun i hi κ=>src_ld hu hi (by rw[List.getElem?_replicate,if_pos hi]) κ
 have gi:∀i,D 29 [v,.int .i64 (Int.ofNat i)] σ=some (.bool (decide (i<j)),σ):=fun i=>by
  rw[hI σ v (List.range j) i (by rw[List.length_range];exact hv.src) (by rw[List.length_range];omega),any_range]
 obtain⟨σ2,e2,f2,a2,n2⟩:=mkN f.tidy [.int .i64 (Int.ofNat j)]
 have xs:Src σ2 1 1 (V.sl σ.next 0 1 (.ex 1)) [.int .i64 (Int.ofNat j)] := .inr ⟨_,_,_,_,rfl,a2,Nat.le_refl _,rfl⟩
 obtain⟨v3,σ3,g3,d3,m3,f3⟩:=app_all (E:=E) (bytes:=8) (hv.fr f2 f.tidy (fun _ _ h=>h)) f2.tidy xs rfl (by unfold growable;simp only[Bool.and_eq_true,Nat.ble_eq];omega)
 have le:=f.le
 refine⟨v3,σ3,?_,(f.trans f2 (fun _ _ h=>h)).trans f3 (fun b hb h=>by have:=hn b h;omega),by
  rw[show ksC (List.range (j+1))=ksC (List.range j)++[.int .i64 (Int.ofNat j)] by unfold ksC;rw[List.range_succ];simp]
  exact d3,fun b hb=>(m3 b hb).elim (hn b) (fun h=>by omega)⟩
 intro n
 induction n with
 | zero=>
  intro i k R9 hi hk
  obtain⟨k,rfl⟩:∃j,k=j+1:=⟨k-1,by omega⟩
  have hi:i=j:=by omega
  subst hi
  have d1:decide (i<m.az.length)=true:=decide_eq_true hj
  have d2:decide (i<i)=false:=decide_eq_false (by omega)
  have g:=gi i
  have r:=rd i hj
  obtain⟨N,rfl⟩:∃k,N=k+1:=⟨N-1,by omega⟩
  show T63_10 E D W (T63_13 E D W (T63_12 E D W (T63_11 E D W _) R9) _) R9 mb 0 u v (Int.ofNat i) σ=_
  have key:∀R R',T63_10 E D W (T63_13 E D W (T63_12 E D W (T63_11 E D W R) R9) R') R9 mb 0 u v (Int.ofNat i) σ=R9 mb 0 u v3 σ3:=by
   intro R R'
   unfold T63_10 T63_13 T63_12
   simp -implicitDefEqProofs only [↓rP,rA,Nat.reduceEqDiff,Nat.reduceLT,Nat.reduceLeDiff,↓ldK_is ha,↓sl,d1,↓g,↓r,d2,↓e2,↓g3,↓rtOne_of d3.one]
  exact key _ _
 | succ n ih=>
  intro i k R9 hi hk
  obtain⟨k,rfl⟩:∃j,k=j+1:=⟨k-1,by omega⟩
  have d1:decide (i<m.az.length)=true:=decide_eq_true (by omega)
  have d2:decide (i<j)=true:=decide_eq_true (by omega)
  have a1:addF .i64 (Int.ofNat i) (Int.ofNat 1)=Int.ofNat (i+1):=addF_nat (by omega)
  have g:=gi i
  have r:=rd i (by omega)
  rw[←ih (i+1) k R9 (by omega) (by omega)]
  obtain⟨N',hN'⟩:∃k,N=k+1:=⟨N-1,by omega⟩
  have key:∀R R',T63_10 E D W (T63_13 E D W (T63_12 E D W (T63_11 E D W R) R9) R') R9 mb 0 u v (Int.ofNat i) σ=R mb 0 u v (Int.ofNat (i+1)) σ:=by
   intro R R'
   unfold T63_10 T63_13 T63_12 T63_11
   simp -implicitDefEqProofs only [↓rP,rA,Nat.reduceEqDiff,Nat.reduceLT,Nat.reduceLeDiff,↓ldK_is ha,↓sl,d1,↓g,↓r,d2,a1]
  show T63_10 E D W (L63_13 E D W N R9 (L63_10 E D W N R9 k) N) R9 mb 0 u v (Int.ofNat i) σ=_
  have hL:L63_13 E D W N R9 (L63_10 E D W N R9 k) N=T63_13 E D W (T63_12 E D W (T63_11 E D W (L63_10 E D W N R9 k)) R9) (L63_13 E D W N R9 (L63_10 E D W N R9 k) N'):=by
   conv=>lhs;arg 7;rw[hN']
   rfl
  rw[hL]
  exact key _ _
theorem ord_9 {m:ModS} (hm:MdOk m) (hI:SpInI (D 29)) (hN:1000<N) {nv tv dv u:V} {mb:Nat} {σb:H} (htb:Tidy σb) (hab:Atc σb mb (mdC m nv tv dv)) (hsb:MdS σb m nv tv dv) (hub:Src σb 1 m.az.length u (List.replicate m.az.length .nils)):∀(n j k:Nat) {σ:H} {v:V},j+n=m.az.length→n<k→Fr Nowhere σb σ→Dst σ 1 j v (ksC (List.range j))→(∀b,Names v b→σb.next≤b) →
  ∃v' σ',L63_9 E D W N k mb 0 u v σ=some (.tup [v',.int .i64 (Int.ofNat 0),.int .i64 (Int.ofNat 0)],σ')∧v'.one=true∧Fr Nowhere σb σ':=by
 have hfew:=hm.few.2
 have sl:∀κ:Nat→Ans,slenK nv κ=κ m.az.length:=fun κ=>hsb.n.slen
 intro n
 induction n with
 | zero=>
  intro j k σ v hj hk f hv hn
  obtain⟨k,rfl⟩:∃i,k=i+1:=⟨k-1,by omega⟩
  have ha:=f.at_ hab htb (fun h=>h)
  unfold mdC at ha
  have sv:∀κ:Nat→Ans,slenK v κ=κ j:=fun κ=>hv.slen
  have d1:decide (j<m.az.length)=false:=decide_eq_false (by omega)
  refine⟨v,σ,?_,hv.one,f⟩
  show T63_9 E D W (T63_8 E D W) _ mb 0 u v σ=_
  have key:∀R,T63_9 E D W (T63_8 E D W) R mb 0 u v σ=some (.tup [v,.int .i64 (Int.ofNat 0),.int .i64 (Int.ofNat 0)],σ):=by
   intro R
   unfold T63_9 T63_8
   simp -implicitDefEqProofs only [↓rP,rA,Nat.reduceEqDiff,Nat.reduceLT,Nat.reduceLeDiff,↓ldK_is ha,↓sl,↓sv,d1]
  exact key _
 | succ n ih=>
  intro j k σ v hj hk f hv hn
  obtain⟨k,rfl⟩:∃i,k=i+1:=⟨k-1,by omega⟩
  have ha:=f.at_ hab htb (fun h=>h)
  unfold mdC at ha
  have sv:∀κ:Nat→Ans,slenK v κ=κ j:=fun κ=>hv.slen
  have d1:decide (j<m.az.length)=true:=decide_eq_true (by omega)
  obtain⟨v1,σ1,g1,f1,d1',n1⟩:=ord_10 (E:=E) (W:=W) (N:=N) hm hI (by omega) htb hab hsb hub f hv hn (by omega)
  obtain⟨v',σ',g',o',f'⟩:=ih (j+1) k (by omega) (by omega) f1 d1' n1
  refine⟨v',σ',?_,o',f'⟩
  rw[←g',←g1 j 0 N (L63_9 E D W N k) (by omega) (by omega)]
  show T63_9 E D W _ (L63_10 E D W N (L63_9 E D W N k) N) mb 0 u v σ=_
  have key:∀K8 R,T63_9 E D W K8 R mb 0 u v σ=R mb 0 u v (Int.ofNat 0) σ:=by
   intro K8 R
   unfold T63_9
   simp -implicitDefEqProofs only [↓rP,rA,Nat.reduceEqDiff,Nat.reduceLT,Nat.reduceLeDiff,↓ldK_is ha,↓sl,↓sv,d1]
  exact key _ _
theorem order_F {m:ModS} (hm:MdOk m) (hS:SpInS (D 123)) (hI:SpInI (D 29)) (hU:SpUses m 17 (D 124)) (hR:SpReach (D 125)) (hN:1000<N):SpOrder m (F63 E D W N):=by
 intro σ nv tv dv ht hs
 have hfew:=hm.few.2
 obtain⟨σ1,e1,f1,a1,n1⟩:=mkN ht (mdC m nv tv dv)
 have od:dv.one=true:=by
  obtain⟨ws,h1,_⟩:=hs.d
  exact h1.one
 have s1:=hs.fr f1 ht
 obtain⟨u4,σ4,g4,d4,m4,f4⟩:=ord_4 (E:=E) (W:=W) hm hU f1.tidy a1 s1 m.az.length 0 N (by omega) (by omega) (Fr.refl f1.tidy) (Dst.nil _ _) (fun b hb=>hb.elim)
 have a4:=f4.at_ a1 f1.tidy (fun h=>h)
 have s4:=s1.fr f4 f1.tidy
 obtain⟨σ7,g7,f7⟩:=ord_7 (E:=E) (W:=W) hm hR f4.tidy a4 s4 d4.src m.az.length 0 N (by omega) (by omega) (Fr.refl f4.tidy)
 obtain⟨v9,σ9,g9,o9,f9⟩:=ord_9 (E:=E) (W:=W) (N:=N) hm hI hN f7.tidy (f7.at_ a4 f4.tidy (fun h=>h)) (s4.fr f7 f4.tidy) (d4.src.fr f7 f4.tidy (fun _ _ h=>h)) m.az.length 0 N (by omega) (by omega) (Fr.refl f7.tidy) (Dst.nil _ _) (fun b hb=>hb.elim)
 refine⟨v9,σ9,?_,o9,((f1.trans f4 (fun _ _ h=>h)).trans f7 (fun _ _ h=>h)).trans f9 (fun _ _ h=>h)⟩
 have g2:=ord_2 (E:=E) (W:=W) hm hS a1 s1 m.az.length 0 N (by omega) (by omega)
 unfold mdC at e1
 have key0:∀K2,T63_0 E D W K2 (ofN m.nm) (Int.ofNat m.tg) nv tv dv σ=K2 σ.next 0 .nils (Int.negSucc 0) (Int.ofNat 0) σ1:=by
  intro K2
  unfold T63_0
  simp -implicitDefEqProofs only [↓rP,rA,Nat.reduceEqDiff,Nat.reduceLT,Nat.reduceLeDiff,hs.n.one,hs.t.one,od,↓e1]
 show T63_0 E D W (L63_2 E D W N N) (ofN m.nm) (Int.ofNat m.tg) nv tv dv σ=_
 rw[key0]
 refine(g2 (J63_1 E D W N)).trans ?_
 show L63_4 E D W N N σ.next 0 .nils (Int.negSucc 0) (Int.ofNat 0) σ1=_
 refine(g4 (J63_3 E D W N)).trans ?_
 show T63_3 E D W (L63_7 E D W N N) σ.next 0 u4 (Int.negSucc 0) σ4=_
 have key3:∀K7,T63_3 E D W K7 σ.next 0 u4 (Int.negSucc 0) σ4=K7 σ.next 0 u4 (Int.ofNat 0) σ4:=fun K7=>rfl
 rw[key3]
 exact(g7 (J63_6 E D W N)).trans g9
end
structure TyS where
 kind:Nat
 tags:List (Nat × Nat)
 con:ConS
 items:List ItemS
 fields:List FieldS
 root:Nat
 more:Bool
 of_:Nat
def tgC (l:List (Nat × Nat)):List V:=l.flatMap fun t=>[.int .i64 (Int.ofNat t.1),.int .i64 (Int.ofNat t.2)]
def TyS.c (t:TyS) (u:V × V × V):List V:=[.int .i64 (Int.ofNat t.kind),u.1,.bool t.con.has,.bool t.con.hasLow,.bool t.con.hasHigh,.bool t.con.more,.int .i64 t.con.low,.int .i64 t.con.high,u.2.1,u.2.2,.int .i64 (Int.ofNat t.root),.bool t.more,.int .i64 (Int.ofNat t.of_)]
def tyCs:List TyS→List (V × V × V)→List V
 | t::tl,u::ws=>t.c u++tyCs tl ws
 | _,_=>[]
theorem tyCs_app:∀(tl:List TyS) (ws:List (V × V × V)) (t:TyS) (u:V × V × V),ws.length=tl.length→tyCs (tl++[t]) (ws++[u])=tyCs tl ws++t.c u
 | [],[],t,u,_=>by simp[tyCs]
 | x::tl,y::ws,t,u,h=>by
  have ih:=tyCs_app tl ws t u (by simpa using h)
  show x.c y++tyCs (tl++[t]) (ws++[u])=(x.c y++tyCs tl ws)++_
  rw[ih,List.append_assoc]
 | [],_::_,_,_,h=>by simp at h
 | _::_,[],_,_,h=>by simp at h
theorem tyCs_len:∀(tl:List TyS) (ws:List (V × V × V)),ws.length=tl.length→(tyCs tl ws).length=tl.length*13
 | [],[],_=>rfl
 | x::tl,y::ws,h=>by
  have ih:=tyCs_len tl ws (by simpa using h)
  show (x.c y++tyCs tl ws).length=_
  rw[List.length_append,ih,List.length_cons]
  show 13+_=_
  omega
 | [],_::_,h=>by simp at h
 | _::_,[],h=>by simp at h
theorem tyCs_of (r:Nat):∀(tl:List TyS) (ws:List (V × V × V)) (i:Nat) (t:TyS),ws.length=tl.length→tl[i]? = some t→spl (tyCs tl ws) (i*13+12) [.int .i64 (Int.ofNat r)]=tyCs (tl.set i { t with of_:=r }) ws
 | x::tl,y::ws,0,t,_,h=>by
  simp at h;subst h
  show spl (x.c y++tyCs tl ws) 12 _=({ x with of_:=r }:TyS).c y++tyCs tl ws
  generalize tyCs tl ws=z
  cases z<;>rfl
 | x::tl,y::ws,i+1,t,h,hi=>by
  have ih:=tyCs_of r tl ws i t (by simpa using h) (by simpa using hi)
  show spl (x.c y++tyCs tl ws) ((i+1)*13+12) _=x.c y++tyCs (tl.set i { t with of_:=r }) ws
  rw[←ih,show (i+1)*13+12=(x.c y).length+(i*13+12)by show _=13+_;omega,spl_app16]
 | [],_,_,_,_,h=>by simp at h
 | _::_,[],_,_,h,_=>by simp at h
def mkC (m:ModS) (nv tv dv lv:V):List V:=[.str (ofN m.nm),.int .i64 (Int.ofNat m.tg),nv,tv,dv,lv,.int .i64 (Int.ofNat 0)]
structure Mk (σ0 σ:H) (xb:Nat) (m:ModS) (nv tv dv:V) (tl:List TyS) (lv:V) (Q:Nat→Prop):Prop where
 a:Atc σ xb (mkC m nv tv dv lv)
 w:∃ws:List (V × V × V),Dst σ 13 tl.length lv (tyCs tl ws)∧ws.length=tl.length∧∀(k:Nat) (t:TyS) (u:V × V × V),tl[k]? = some t→ws[k]? = some u→Src σ 2 t.tags.length u.1 (tgC t.tags)∧Src σ 3 t.items.length u.2.1 (itC t.items)∧Src σ 11 t.fields.length u.2.2 (fdC t.fields)∧∀b,(Names u.1 b∨Names u.2.1 b∨Names u.2.2 b)→b≠xb∧¬Names lv b∧¬Q b
 lx:∀b,Names lv b→b≠xb∧σ0.next≤b∧¬Q b
 qx:¬Q xb
 x0:σ0.next≤xb
 f:Fr Nowhere σ0 σ
abbrev NodT:=Nat→Nat→List TyS→Option (Nat × List TyS)
def mkTy (nd:NodeS):TyS:=⟨nd.kind,[(0,uniP nd.kind)],nd.con,[],[],nd.root,nd.more,0⟩
def leafB (k:Nat):Bool:=k==1 || k==2 || k==4 || k==5 || k==6 || k==10
def conB (k:Nat):Bool:=k==2 || k==5 || k==6 || k==10
def madeS (T:NodT) (d:Nat) (nd:NodeS) (tl:List TyS):Option (Nat × List TyS):=
 match leafB nd.kind&&(decide (d≤16)&&(decide (tl.length<300)&&(!conB nd.kind || checkP nd.con (!decide (nd.kind=2)))))with
 | false=>none
 | true=>match decide (nd.kind=10)with
  | false=>some (tl.length,tl++[mkTy nd])
  | true=>(T (d+1) nd.of_ (tl++[mkTy nd])).bind fun r=>match r.2[tl.length]? with
   | none=>none
   | some t=>some (tl.length,r.2.set tl.length { t with of_:=r.1 })
def nodeS (m:ModS) (T:NodT):NodT:=fun d k tl=>match m.ns[k]? with
 | none=>none
 | some nd=>match decide (nd.kind=11) || nd.mHas with
  | true=>none
  | false=>madeS T d nd tl
def nodP (m:ModS):Nat→NodT
 | 0=>fun _ _ _=>none
 | q+1=>nodeS m (nodP m q)
def SpMnode (m:ModS) (T:NodT) (F:List V→H→Ans):Prop:=∀{σ0 σ:H} {xb:Nat} {nv tv dv lv:V} {tl tl':List TyS} {d k i:Nat} {Q:Nat→Prop},Tidy σ0→MdS σ0 m nv tv dv→Mk σ0 σ xb m nv tv dv tl lv Q→(∀b,Q b→b<σ.next)→d≤900→T d k tl=some (i,tl') →
 ∃lv' σ',F [.ptr xb 0,.int .i64 (Int.ofNat k),.int .i64 (Int.ofNat d)] σ=some (.int .i64 (Int.ofNat i),σ')∧Mk σ0 σ' xb m nv tv dv tl' lv' Q∧(∀b,Names lv' b→Names lv b∨σ.next≤b)∧Fr (fun b=>b=xb∨Names lv b) σ σ'
def SpMmade (m:ModS) (T:NodT) (F:List V→H→Ans):Prop:=∀{σ0 σ:H} {xb:Nat} {nv tv dv lv iv fv:V} {tl tl':List TyS} {d i:Nat} {nd:NodeS} {Q:Nat→Prop},Tidy σ0→MdS σ0 m nv tv dv→Mk σ0 σ xb m nv tv dv tl lv Q→(∀b,Q b→b<σ.next)→d≤900→iv.one=true→fv.one=true→madeS T d nd tl=some (i,tl') →
 ∃lv' σ',F [.ptr xb 0,.agg (nd.c iv fv),.int .i64 (Int.ofNat d)] σ=some (.int .i64 (Int.ofNat i),σ')∧Mk σ0 σ' xb m nv tv dv tl' lv' Q∧(∀b,Names lv' b→Names lv b∨σ.next≤b)∧Fr (fun b=>b=xb∨Names lv b) σ σ'
section
variable {E:List (Nat × Blk)} {D:Den} {N:Nat} {σ0 σ σ':H} {xb:Nat} {m:ModS} {nv tv dv lv:V} {tl:List TyS} {Q Q':Nat→Prop}
theorem Mk.ht (h:Mk σ0 σ xb m nv tv dv tl lv Q):Tidy σ:=h.f.tidy
theorem Mk.len (h:Mk σ0 σ xb m nv tv dv tl lv Q) {κ:Nat→Ans}:slenK lv κ=κ tl.length:=by
 obtain⟨ws,h1,_⟩:=h.w
 exact h1.slen
theorem Mk.llt (h:Mk σ0 σ xb m nv tv dv tl lv Q) {b:Nat} (hb:Names lv b):b<σ.next:=by
 obtain⟨ws,h1,_⟩:=h.w
 exact h1.lt h.ht hb
theorem Mk.fr {S:Nat→Prop} (h:Mk σ0 σ xb m nv tv dv tl lv Q) (f:Fr S σ σ') (hS:∀b,S b→σ.next≤b∨Q b) (hS0:∀b,S b→σ0.next≤b):Mk σ0 σ' xb m nv tv dv tl lv Q:=by
 have ht:=h.ht
 have le:=h.f.le
 obtain⟨ws,h1,h2,h3⟩:=h.w
 refine⟨f.at_ h.a ht (fun e=>(hS _ e).elim (fun e=>by have:=h.a.lt ht;omega) h.qx),⟨ws,h1.fr f ht (fun b hb e=>(hS _ e).elim (fun e=>by have:=h1.lt ht hb;omega) (h.lx b hb).2.2),h2,fun k t u hk hu=>?_⟩,h.lx,h.qx,h.x0,h.f.trans f (fun b hb e=>by have:=hS0 b e;omega)⟩
 obtain⟨a,b,c,d⟩:=h3 k t u hk hu
 exact⟨a.fr f ht (fun x hx e=>(hS _ e).elim (fun e=>by have:=a.lt ht hx;omega) (d x (.inl hx)).2.2),b.fr f ht (fun x hx e=>(hS _ e).elim (fun e=>by have:=b.lt ht hx;omega) (d x (.inr (.inl hx))).2.2),c.fr f ht (fun x hx e=>(hS _ e).elim (fun e=>by have:=c.lt ht hx;omega) (d x (.inr (.inr hx))).2.2),d⟩
theorem Mk.ext (h:Mk σ0 σ xb m nv tv dv tl lv Q) (hQ:∀b,Q' b→Q b∨σ.next≤b):Mk σ0 σ xb m nv tv dv tl lv Q':=by
 have ht:=h.ht
 obtain⟨ws,h1,h2,h3⟩:=h.w
 refine⟨h.a,⟨ws,h1,h2,fun k t u hk hu=>?_⟩,fun b hb=>⟨(h.lx b hb).1,(h.lx b hb).2.1,fun q=>(hQ b q).elim (h.lx b hb).2.2 (fun e=>by have:=h1.lt ht hb;omega)⟩,fun q=>(hQ _ q).elim h.qx (fun e=>by have:=h.a.lt ht;omega),h.x0,h.f⟩
 obtain⟨a,b,c,d⟩:=h3 k t u hk hu
 have nn:∀x,(Names u.1 x∨Names u.2.1 x∨Names u.2.2 x)→x<σ.next:=fun x hx=>by
  rcases hx with hx|hx|hx
  ·exact a.lt ht hx
  ·exact b.lt ht hx
  ·exact c.lt ht hx
 exact⟨a,b,c,fun x hx=>⟨(d x hx).1,(d x hx).2.1,fun q=>(hQ x q).elim (d x hx).2.2 (fun e=>by have:=nn x hx;omega)⟩⟩
theorem Mk.push (h:Mk σ0 σ xb m nv tv dv tl lv Q) {nd:NodeS} {gb tb eb:Nat} {dd ii:Int} (hl:tl.length<300) (hg:Atc σ gb ((mkTy nd).c (.sl tb 0 1 (.ex 1),.nils,.nils))) (ht:Atc σ tb [.int .i64 (Int.ofNat 0),.int .i64 (Int.ofNat (uniP nd.kind))]) (hgx:gb≠xb) (hgl:¬Names lv gb) (htx:tb≠xb) (htl:¬Names lv tb) (htq:¬Q tb) (hQ:∀b,Q b→b<σ.next) :
  ∃e' u σ',drawW E D G127_0 H127_0 [(0,.ptr xb 0),(2,.int .i64 dd),(4,.ptr eb 0),(7,.int .i64 ii),(8,.ptr gb 0)] σ=some (e',σ')∧Go.Og.look e' 0=some (.ptr xb 0)∧Go.Og.look e' 2=some (.int .i64 dd)∧Go.Og.look e' 4=some (.ptr eb 0)∧Go.Og.look e' 7=some (.int .i64 ii) ∧
   Mk σ0 σ' xb m nv tv dv (tl++[mkTy nd]) u Q∧(∀b,Names u b→Names lv b∨σ.next≤b)∧Fr (fun b=>b=xb∨Names lv b) σ σ':=by
 obtain⟨ws,h1,h2,h3⟩:=h.w
 have hx:=h.a
 unfold mkC at hx
 obtain⟨e',u,σ',g,t0,t2,t4,t7,a',d',m',n',f'⟩:=type_reg (E:=E) (D:=D) (v:=lv) (dd:=dd) (ii:=ii) (eb:=eb) h.ht hx rfl hg h1 (by omega) (fun e=>hgx e.symm) (fun e=>(h.lx _ e).1 rfl) hgl
 have le:=h.f.le
 have lx:=h.a.lt h.ht
 refine⟨e',u,σ',g,t0,t2,t4,t7,⟨a',⟨ws++[(.sl tb 0 1 (.ex 1),.nils,.nils)],?_,by simp[h2],fun k t w hk hw=>?_⟩,fun b hb=>⟨fun e=>n' (e ▸ hb),(m' b hb).elim (fun e=>(h.lx b e).2.1) (fun e=>by omega),fun q=>(m' b hb).elim (fun e=>(h.lx b e).2.2 q) (fun e=>by have:=hQ b q;omega)⟩,h.qx,h.x0,h.f.trans f' (fun b hb e=>e.elim (fun e=>by have:=h.x0;omega) (fun e=>by have:=(h.lx b e).2.1;omega))⟩,m',f'⟩
 ·rw[List.length_append,List.length_cons,List.length_nil,tyCs_app _ _ _ _ h2]
  exact d'
 ·rcases Nat.lt_or_ge k tl.length with hlt|hge
  ·rw[List.getElem?_append_left hlt]at hk
   rw[List.getElem?_append_left (by omega)]at hw
   obtain⟨a,b,c,d⟩:=h3 k t w hk hw
   have nn:∀x,(Names w.1 x∨Names w.2.1 x∨Names w.2.2 x)→x<σ.next:=fun x hx=>by
    rcases hx with hx|hx|hx
    ·exact a.lt h.ht hx
    ·exact b.lt h.ht hx
    ·exact c.lt h.ht hx
   exact⟨a.fr f' h.ht (fun x hx e=>e.elim (d x (.inl hx)).1 (d x (.inl hx)).2.1),b.fr f' h.ht (fun x hx e=>e.elim (d x (.inr (.inl hx))).1 (d x (.inr (.inl hx))).2.1),c.fr f' h.ht (fun x hx e=>e.elim (d x (.inr (.inr hx))).1 (d x (.inr (.inr hx))).2.1),fun x hx=>⟨(d x hx).1,fun hu=>(m' x hu).elim (d x hx).2.1 (fun e=>by have:=nn x hx;omega),(d x hx).2.2⟩⟩
  ·rw[List.getElem?_append_right hge]at hk
   rw[List.getElem?_append_right (by omega),h2]at hw
   obtain⟨j,hj⟩:∃j,k-tl.length=j:=⟨_,rfl⟩
   rw[hj]at hk hw
   cases j with
   | succ j=>simp at hk
   | zero=>
    cases hk
    cases hw
    have ltb:=ht.lt h.ht
    have a2:=f'.at_ ht h.ht (fun e=>e.elim htx htl)
    refine⟨.inr ⟨tb,0,_,_,rfl,a2,Nat.le_refl _,rfl⟩,.inl ⟨rfl,rfl,rfl⟩,.inl ⟨rfl,rfl,rfl⟩,fun x hx=>?_⟩
    have:x=tb:=by
     rcases hx with hx|hx|hx
     ·exact hx
     ·exact hx.elim
     ·exact hx.elim
    subst this
    exact⟨htx,fun hu=>(m' _ hu).elim htl (fun e=>by omega),htq⟩
theorem Mk.of (h:Mk σ0 σ xb m nv tv dv tl lv Q) {i r:Nat} {t:TyS} (hi:tl[i]? = some t) :
  ∃b σ',(∀κ:Nat→Nat→Ans,iaddrSK 13 lv (Int.ofNat i) κ=κ b (i*13))∧(∀κ:H→Ans,stK 1 b (Nat.add (i*13) 12) (.int .i64 (Int.ofNat r)) σ κ=κ σ')∧Mk σ0 σ' xb m nv tv dv (tl.set i { t with of_:=r }) lv Q∧Fr (Names lv) σ σ':=by
 obtain⟨ws,h1,h2,h3⟩:=h.w
 have hlt:i<tl.length:=(List.getElem?_eq_some_iff.1 hi).1
 have hlen:=tyCs_len tl ws h2
 obtain⟨b,cp,hv,hb⟩:∃b cp,lv = .sl b 0 tl.length cp∧Atc σ b (tyCs tl ws):=by
  rcases h1 with (⟨h0,_⟩|⟨b,hv,ha,_⟩)|⟨b,hv,ha,_⟩
  ·omega
  ·exact⟨b,_,hv,ha⟩
  ·exact⟨b,_,hv,ha⟩
 obtain⟨σ',g,f,a⟩:=stz (off:=i*13+12) (y := .int .i64 (Int.ofNat r)) h.ht hb rfl (by omega)
 rw[tyCs_of r tl ws i t h2 hi]at a
 have nmb:∀x,Names lv x↔x=b:=fun x=>by rw[hv];exact Iff.rfl
 have f':Fr (Names lv) σ σ':=f.mono fun x _ e=>(nmb x).2 e
 refine⟨b,σ',fun κ=>?_,g,⟨f'.at_ h.a h.ht (fun e=>(h.lx _ e).1 rfl),⟨ws,?_,by rw[List.length_set,h2],fun k t1 w hk hw=>?_⟩,h.lx,h.qx,h.x0,h.f.trans f' (fun x _ e=>by have:=(h.lx x e).2.1;omega)⟩,f'⟩
 ·rw[hv,iaddrSK_lt hlt]
  show κ b (0+i*13)=_
  rw[Nat.zero_add]
 ·rw[List.length_set]
  have e13:(tyCs (tl.set i { t with of_:=r }) ws).length=tl.length*13:=by rw[tyCs_len _ _ (by rw[List.length_set,h2]),List.length_set]
  rcases h1 with (⟨h0,_⟩|⟨b',hv',ha,h0,hl⟩)|⟨b',hv',ha,hl⟩
  ·omega
  ·have:b'=b:=by rw[hv]at hv';cases hv';rfl
   subst this
   exact .inl (.inr ⟨b',hv',a,h0,e13⟩)
  ·have:b'=b:=by rw[hv]at hv';cases hv';rfl
   subst this
   exact .inr ⟨b',hv',a,e13⟩
 ·by_cases hk':i=k
  ·subst hk'
   rw[List.getElem?_set_self hlt]at hk
   cases hk
   obtain⟨x1,x2,x3,x4⟩:=h3 i t w hi hw
   exact⟨x1.fr f' h.ht (fun x hx e=>(x4 x (.inl hx)).2.1 e),x2.fr f' h.ht (fun x hx e=>(x4 x (.inr (.inl hx))).2.1 e),x3.fr f' h.ht (fun x hx e=>(x4 x (.inr (.inr hx))).2.1 e),x4⟩
  ·rw[List.getElem?_set_ne hk']at hk
   obtain⟨x1,x2,x3,x4⟩:=h3 k t1 w hk hw
   exact⟨x1.fr f' h.ht (fun x hx e=>(x4 x (.inl hx)).2.1 e),x2.fr f' h.ht (fun x hx e=>(x4 x (.inr (.inl hx))).2.1 e),x3.fr f' h.ht (fun x hx e=>(x4 x (.inr (.inr hx))).2.1 e),x4⟩
end
section
variable {E:List (Nat × Blk)} {D:Den} {N:Nat}
theorem made_F {m:ModS} {T:NodT} (hU:SpUni (D 220)) (hC:SpCheck (D 221)) (hT:SpMnode m T (D 64)):SpMmade m T (F127 E D (drawW E D) N):=by
  intro σ0 σ xb nv tv dv lv iv fv tl tl' d i nd Q ht0 hs0 h hQ hd io fo hs
  unfold madeS at hs
  cases hgd:(leafB nd.kind&&(decide (d≤16)&&(decide (tl.length<300)&&(!conB nd.kind || checkP nd.con (!decide (nd.kind=2))))))with
  | false=>rw[hgd]at hs;cases hs
  | true=>
    rw[hgd]at hs
    simp only[Bool.and_eq_true,decide_eq_true_eq]at hgd
    obtain⟨hleaf,hd16,hl,hcon⟩:=hgd
    have hkind:nd.kind=1∨nd.kind=2∨nd.kind=4∨nd.kind=5∨nd.kind=6∨nd.kind=10:=by
      unfold leafB at hleaf
      simp only[Bool.or_eq_true,beq_iff_eq]at hleaf
      omega
    have ht:=h.ht
    obtain⟨σ1,e1,f1,a1,n1⟩:=mkN ht (nd.c iv fv)
    obtain⟨σ2,e2,f2,a2,n2⟩:=mkN f1.tidy [.int .i64 (Int.ofNat 0),.nils,.bool false,.bool false,.bool false,.bool false,.int .i64 (Int.ofNat 0),.int .i64 (Int.ofNat 0),.nils,.nils,.int .i64 (Int.ofNat 0),.bool false,.int .i64 (Int.ofNat 0)]
    obtain⟨σ3,e3,f3,a3⟩:=mkS f2.tidy a2 ((mkTy nd).c (.nils,.nils,.nils))
    have s3:∀κ:H→Ans,stK 13 σ1.next 0 (.agg [.int .i64 (Int.ofNat nd.kind),.nils,.bool nd.con.has,.bool nd.con.hasLow,.bool nd.con.hasHigh,.bool nd.con.more,.int .i64 nd.con.low,.int .i64 nd.con.high,.nils,.nils,.int .i64 (Int.ofNat nd.root),.bool nd.more,.int .i64 (Int.ofNat 0)]) σ2 κ=κ σ3:=fun κ=>by
      rw[stK_at a2 rfl]
      show κ (setF σ2 σ1.next (.cells ((mkTy nd).c (.nils,.nils,.nils))))=_
      rw[e3]
    have gU:=hU σ3 nd.kind (by omega)
    obtain⟨σ4,e4,f4,a4,n4⟩:=mkN f3.tidy [.int .i64 (Int.ofNat 0),.int .i64 (Int.ofNat (uniP nd.kind))]
    have a34:=f4.at_ a3 f3.tidy (fun h=>h)
    obtain⟨σ5,g5,f5,a5⟩:=stz (off:=1) (y := .sl σ3.next 0 1 (.ex 1)) f4.tidy a34 rfl (show 1<13 by decide)
    have a5:Atc σ5 σ1.next ((mkTy nd).c (.sl σ3.next 0 1 (.ex 1),.nils,.nils)):=a5
    have le1:=f1.le
    have le2:=f2.le
    have le3:=f3.le
    have le4:=f4.le
    have lg:σ1.next<σ2.next:=a2.lt f2.tidy
    have lt4:σ3.next<σ4.next:=a4.lt f4.tidy
    have a45:=f5.at_ a4 f4.tidy (by omega)
    have f05:Fr (fun b=>σ.next≤b) σ σ5:=((((f1.mono (fun _ _ h=>h.elim):Fr (fun b=>σ.next≤b) σ σ1).trans f2 (fun _ _ h=>h.elim)).trans f3 (fun b _ e=>by omega)).trans f4 (fun _ _ h=>h.elim)).trans f5 (fun b _ e=>by omega)
    have h5:=h.fr f05 (fun _ h => .inl h) (fun b e=>by have:=h.f.le;omega)
    have lx:=h.a.lt ht
    obtain⟨e',u,σ6,g6,t0,t2,t4,t7,h6,m6,f6⟩:=h5.push (E:=E) (D:=D) (nd:=nd) (gb:=σ1.next) (tb:=σ3.next) (eb:=σ.next) (dd:=Int.ofNat d) (ii:=Int.ofNat tl.length) hl a5 a45 (by omega) (fun e=>by have:=h.llt e;omega) (by omega) (fun e=>by have:=h.llt e;omega) (fun q=>by have:=hQ _ q;omega) (fun b q=>by have:=hQ b q;have:=f05.le;omega)
    have le05:=f05.le
    have a15:Atc σ5 σ.next (nd.c iv fv):=f5.at_ (f4.at_ (f3.at_ (f2.at_ a1 f1.tidy (fun h=>h)) f2.tidy (by omega)) f3.tidy (fun h=>h)) f4.tidy (by omega)
    have a16:=f6.at_ a15 f5.tidy (fun e=>e.elim (by omega) (fun e=>by have:=h.llt e;omega))
    have f06:Fr (fun b=>b=xb∨Names lv b) σ σ6:=by
      refine Fr.trans (f05.mono fun b hb e=>?_) f6 (fun b _ e=>e)
      omega
    have hx:=h.a
    have hx1:=f1.at_ hx ht (fun h=>h)
    unfold mkC at hx1
    unfold NodeS.c at a1 a16 e1
    unfold mkTy TyS.c at a3
    have sl1:∀κ:Nat→Ans,slenK lv κ=κ tl.length:=fun κ=>h.len
    have d1:decide (16<d)=false:=decide_eq_false (by omega)
    have d2:decide (300≤tl.length)=false:=decide_eq_false (by omega)
    have h9:decide (nd.kind=9)=false:=decide_eq_false (by omega)
    have sub1:∀κ:List V→Ans,subK [.int .i64 (Int.ofNat nd.kind),.str (ofN nd.name),.bool nd.mHas,.int .i64 nd.mNum,.int .i64 (Int.ofNat nd.mMode),.bool nd.con.has,.bool nd.con.hasLow,.bool nd.con.hasHigh,.bool nd.con.more,.int .i64 nd.con.low,.int .i64 nd.con.high,iv,fv,.int .i64 (Int.ofNat nd.root),.bool nd.more,.int .i64 (Int.ofNat nd.of_)] 5 6 κ=κ [.bool nd.con.has,.bool nd.con.hasLow,.bool nd.con.hasHigh,.bool nd.con.more,.int .i64 nd.con.low,.int .i64 nd.con.high]:=fun κ=>by
      rw[subK_of (by simp)];rfl
    have a13:=f3.at_ (f2.at_ a1 f1.tidy (fun h=>h)) f2.tidy (by omega)
    have key0:∀K1,T127_0 E D (drawW E D) K1 xb 0 (Int.ofNat nd.kind) (ofN nd.name) nd.mHas nd.mNum (Int.ofNat nd.mMode) nd.con.has nd.con.hasLow nd.con.hasHigh nd.con.more nd.con.low nd.con.high iv fv (Int.ofNat nd.root) nd.more (Int.ofNat nd.of_) (Int.ofNat d) σ=K1 xb 0 (Int.ofNat d) σ.next 0 (Int.ofNat tl.length) σ1.next 0 σ5:=by
      intro K1
      unfold T127_0
      simp -implicitDefEqProofs only [↓rP,rA,Nat.reduceEqDiff,Nat.reduceLT,Nat.reduceLeDiff,io,fo,↓e1,d1,↓ldK_is hx1,↓sl1,d2,↓ldK_is a1,↓ldnK_is a1,↓sub1,↓e2,↓s3,↓ldK_is a13,h9,↓gU,↓e4,↓g5]
    have gd:∀κ:Env→H→Ans,gdrawK (drawW E D G127_0 H127_0 [(0,.ptr xb 0),(2,.int .i64 (Int.ofNat d)),(4,.ptr σ.next 0),(7,.int .i64 (Int.ofNat tl.length)),(8,.ptr σ1.next 0)] σ5) κ=κ e' σ6:=fun κ=>by rw[g6];rfl
    have m0:∀κ:V→Ans,getL e' 0 κ=κ (.ptr xb 0):=fun κ=>getL_of t0 rfl
    have m2:∀κ:V→Ans,getL e' 2 κ=κ (.int .i64 (Int.ofNat d)):=fun κ=>getL_of t2 rfl
    have m4:∀κ:V→Ans,getL e' 4 κ=κ (.ptr σ.next 0):=fun κ=>getL_of t4 rfl
    have m7:∀κ:V→Ans,getL e' 7 κ=κ (.int .i64 (Int.ofNat tl.length)):=fun κ=>getL_of t7 rfl
    show ∃lv' σ',T127_0 E D (drawW E D) (T127_1 E D (drawW E D) (T127_3 E D (drawW E D) (T127_2 E D (drawW E D)) (T127_4 E D (drawW E D) (T127_2 E D (drawW E D))) (T127_5 E D (drawW E D) (T127_2 E D (drawW E D))))) xb 0 (Int.ofNat nd.kind) (ofN nd.name) nd.mHas nd.mNum (Int.ofNat nd.mMode) nd.con.has nd.con.hasLow nd.con.hasHigh nd.con.more nd.con.low nd.con.high iv fv (Int.ofNat nd.root) nd.more (Int.ofNat nd.of_) (Int.ofNat d) σ=_∧_
    rw[key0]
    have mu:∀b,Names u b→Names lv b∨σ.next≤b:=fun b hb=>(m6 b hb).imp id (fun h=>by omega)
    have plain:nd.kind=1∨nd.kind=4→∃lv' σ',T127_1 E D (drawW E D) (T127_3 E D (drawW E D) (T127_2 E D (drawW E D)) (T127_4 E D (drawW E D) (T127_2 E D (drawW E D))) (T127_5 E D (drawW E D) (T127_2 E D (drawW E D)))) xb 0 (Int.ofNat d) σ.next 0 (Int.ofNat tl.length) σ1.next 0 σ5=some (.int .i64 (Int.ofNat i),σ')∧Mk σ0 σ' xb m nv tv dv tl' lv' Q∧(∀b,Names lv' b→Names lv b∨σ.next≤b)∧Fr (fun b=>b=xb∨Names lv b) σ σ':=by
      intro hk
      have h10:decide (nd.kind=10)=false:=decide_eq_false (by omega)
      rw[h10]at hs
      cases hs
      refine⟨u,σ6,?_,h6,mu,f06⟩
      rcases hk with hk|hk <;>
      (unfold T127_1 T127_3 T127_5 T127_2
       simp -implicitDefEqProofs only [↓rP,rA,Nat.reduceEqDiff,Nat.reduceLT,Nat.reduceLeDiff,↓gd,↓m0,↓m2,↓m4,↓m7,↓ldK_is a16,hk])
    have boundd:nd.kind=2∨nd.kind=5∨nd.kind=6∨nd.kind=10→∃lv' σ',T127_1 E D (drawW E D) (T127_3 E D (drawW E D) (T127_2 E D (drawW E D)) (T127_4 E D (drawW E D) (T127_2 E D (drawW E D))) (T127_5 E D (drawW E D) (T127_2 E D (drawW E D)))) xb 0 (Int.ofNat d) σ.next 0 (Int.ofNat tl.length) σ1.next 0 σ5=some (.int .i64 (Int.ofNat i),σ')∧Mk σ0 σ' xb m nv tv dv tl' lv' Q∧(∀b,Names lv' b→Names lv b∨σ.next≤b)∧Fr (fun b=>b=xb∨Names lv b) σ σ':=by
      intro hk
      have hc:checkP nd.con (!decide (nd.kind=2))=true:=by
        rcases hk with hk|hk|hk|hk<;>(rw[hk]at hcon ⊢;simpa[conB]using hcon)
      obtain⟨σ7,g7,f7⟩:=hC σ6 nd.con (!decide (nd.kind=2)) h6.ht hc
      unfold conA at g7
      have h7:=h6.fr f7 (fun _ h=>h.elim) (fun _ h=>h.elim)
      have a17:=f7.at_ a16 f6.tidy (fun h=>h)
      have f07:Fr (fun b=>b=xb∨Names lv b) σ σ7:=f06.trans f7 (fun _ _ h=>h.elim)
      have key1:T127_1 E D (drawW E D) (T127_3 E D (drawW E D) (T127_2 E D (drawW E D)) (T127_4 E D (drawW E D) (T127_2 E D (drawW E D))) (T127_5 E D (drawW E D) (T127_2 E D (drawW E D)))) xb 0 (Int.ofNat d) σ.next 0 (Int.ofNat tl.length) σ1.next 0 σ5=T127_4 E D (drawW E D) (T127_2 E D (drawW E D)) xb 0 (Int.ofNat d) σ.next 0 (Int.ofNat tl.length) σ7:=by
        have g7f:nd.kind=2→D 221 [.agg [.bool nd.con.has,.bool nd.con.hasLow,.bool nd.con.hasHigh,.bool nd.con.more,.int .i64 nd.con.low,.int .i64 nd.con.high],.bool false] σ6=some (.int .i64 (Int.ofNat 0),σ7):=fun e=>by
          rw[show (!decide (nd.kind=2))=false by rw[e];rfl]at g7
          exact g7
        have g7t:nd.kind≠2→D 221 [.agg [.bool nd.con.has,.bool nd.con.hasLow,.bool nd.con.hasHigh,.bool nd.con.more,.int .i64 nd.con.low,.int .i64 nd.con.high],.bool true] σ6=some (.int .i64 (Int.ofNat 0),σ7):=fun e=>by
          rw[show (!decide (nd.kind=2))=true by rw[decide_eq_false e];rfl]at g7
          exact g7
        rcases hk with hk|hk|hk|hk
        · have g7:=g7f hk
          unfold T127_1 T127_3
          simp -implicitDefEqProofs only [↓rP,rA,Nat.reduceEqDiff,Nat.reduceLT,Nat.reduceLeDiff,↓gd,↓m0,↓m2,↓m4,↓m7,↓ldK_is a16,↓ldnK_is a16,↓sub1,hk,↓g7]
        all_goals
        (have g7:=g7t (by omega)
         unfold T127_1 T127_3
         simp -implicitDefEqProofs only [↓rP,rA,Nat.reduceEqDiff,Nat.reduceLT,Nat.reduceLeDiff,↓gd,↓m0,↓m2,↓m4,↓m7,↓ldK_is a16,↓ldnK_is a16,↓sub1,hk,↓g7])
      rw[key1]
      cases h10:decide (nd.kind=10)with
      | false=>
        rw[h10]at hs
        cases hs
        refine⟨u,σ7,?_,h7,mu,f07⟩
        unfold T127_4 T127_2
        simp -implicitDefEqProofs only [↓rP,rA,Nat.reduceEqDiff,Nat.reduceLT,Nat.reduceLeDiff,↓ldK_is a17,h10]
      | true=>
        rw[h10]at hs
        obtain⟨⟨r,tl8⟩,h8,hs⟩:=Option.bind_eq_some_iff.1 hs
        obtain⟨lv8,σ8,g8,k8,m8,f8⟩:=hT ht0 hs0 h7 (fun b q=>by have:=hQ b q;have:=f07.le;omega) (by omega) h8
        have ad:addF .i64 (Int.ofNat d) (Int.ofNat 1)=Int.ofNat (d+1):=addF_nat (by omega)
        dsimp only at hs
        cases ht8:tl8[tl.length]? with
        | none=>rw[ht8]at hs;cases hs
        | some t=>
          rw[ht8]at hs
          cases hs
          obtain⟨b,σ9,g9,s9,k9,f9⟩:=k8.of (r:=r) ht8
          have hx8:=k8.a
          unfold mkC at hx8
          have le07:=f07.le
          refine⟨lv8,σ9,?_,k9,fun b hb=>(m8 b hb).elim (mu b) (fun h => .inr (by omega)),(f07.trans f8 (fun b hb e=>e.elim .inl (fun e=>(mu b e).elim .inr (fun h=>by omega)))).trans f9 (fun b hb e=>(m8 b e).elim (fun e=>(mu b e).elim .inr (fun h=>by omega)) (fun h=>by omega))⟩
          unfold T127_4 T127_2
          simp -implicitDefEqProofs only [↓rP,rA,Nat.reduceEqDiff,Nat.reduceLT,Nat.reduceLeDiff,↓ldK_is a17,h10,ad,↓g8,↓ldK_is hx8,↓g9,↓s9]
    rcases hkind with hk|hk|hk|hk|hk|hk
    · exact plain (.inl hk)
    · exact boundd (.inl hk)
    · exact plain (.inr hk)
    · exact boundd (.inr (.inl hk))
    · exact boundd (.inr (.inr (.inl hk)))
    · exact boundd (.inr (.inr (.inr hk)))
theorem node_F {m:ModS} {T:NodT} (hM:SpMmade m T (D 127)):SpMnode m (nodeS m T) (F64 E D (drawW E D) N):=by
 intro σ0 σ xb nv tv dv lv tl tl' d k i Q ht0 hs0 h hQ hd hs
 unfold nodeS at hs
 cases hn:m.ns[k]? with
 | none=>rw[hn]at hs;cases hs
 | some nd=>
  rw[hn]at hs
  dsimp only at hs
  cases hg:decide (nd.kind=11) || nd.mHas with
  | true=>rw[hg]at hs;cases hs
  | false=>
   rw[hg]at hs
   rw[Bool.or_eq_false_iff]at hg
   obtain⟨h11,hm⟩:=hg
   have ht:=h.ht
   obtain⟨iv,fv,rd,hi,hf⟩:=(hs0.fr h.f ht0).nd hn
   have rd:=rd E
   obtain⟨σ1,e1,f1,a1,n1⟩:=mkN ht [.int .i64 (Int.ofNat 0),.str ⟨0,0⟩,.bool false,.int .i64 (Int.ofNat 0),.int .i64 (Int.ofNat 0),.bool false,.bool false,.bool false,.bool false,.int .i64 (Int.ofNat 0),.int .i64 (Int.ofNat 0),.nils,.nils,.int .i64 (Int.ofNat 0),.bool false,.int .i64 (Int.ofNat 0)]
   obtain⟨σ2,e2,f2,a2⟩:=mkS f1.tidy a1 (nd.c iv fv)
   have ho:allOne (nd.c iv fv)=true:=by
    unfold NodeS.c
    simp only[allOne_cons,allOne_nil,one_int,one_str,one_bool,hi.one,hf.one,Bool.and_true]
   have s2:∀κ:H→Ans,stK 16 σ.next 0 (.agg (nd.c iv fv)) σ1 κ=κ σ2:=fun κ=>by
    rw[stK_at a1 (by
     rw[cells_agg,ho,ndC_len]
     rfl),cells_agg]
    show κ (setF σ1 σ.next (.cells (nd.c iv fv)))=_
    rw[e2]
   have f02:Fr (fun b=>σ.next≤b) σ σ2:=(f1.mono (fun _ _ h=>h.elim):Fr (fun b=>σ.next≤b) σ σ1).trans f2 (fun b _ e=>by omega)
   have h2:=h.fr f02 (fun _ h => .inl h) (fun b e=>by have:=h.f.le;omega)
   have le:=f02.le
   obtain⟨lv',σ3,g3,h3,m3,f3⟩:=hM ht0 hs0 h2 (fun b q=>by have:=hQ b q;omega) hd hi.one hf.one hs
   have lx:=h.a.lt ht
   have a3:=f3.at_ a2 f2.tidy (fun e=>e.elim (by omega) (fun e=>by have:=h.llt e;omega))
   have hx:=h.a
   have hx3:=h3.a
   refine⟨lv',σ3,?_,h3,fun b hb=>(m3 b hb).imp id (fun h=>by omega),Fr.trans (f02.mono fun b hb e=>by omega) f3 (fun b _ e=>e)⟩
   unfold mkC at hx hx3
   unfold NodeS.c at rd s2 a2 a3 g3
   have sub:∀κ:List V→Ans,subK [.int .i64 (Int.ofNat nd.kind),.str (ofN nd.name),.bool nd.mHas,.int .i64 nd.mNum,.int .i64 (Int.ofNat nd.mMode),.bool nd.con.has,.bool nd.con.hasLow,.bool nd.con.hasHigh,.bool nd.con.more,.int .i64 nd.con.low,.int .i64 nd.con.high,iv,fv,.int .i64 (Int.ofNat nd.root),.bool nd.more,.int .i64 (Int.ofNat nd.of_)] 0 16 κ=κ [.int .i64 (Int.ofNat nd.kind),.str (ofN nd.name),.bool nd.mHas,.int .i64 nd.mNum,.int .i64 (Int.ofNat nd.mMode),.bool nd.con.has,.bool nd.con.hasLow,.bool nd.con.hasHigh,.bool nd.con.more,.int .i64 nd.con.low,.int .i64 nd.con.high,iv,fv,.int .i64 (Int.ofNat nd.root),.bool nd.more,.int .i64 (Int.ofNat nd.of_)]:=fun κ=>by
    rw[subK_of (by simp)];rfl
   simp only[hm]at rd s2 a2 a3 g3 sub
   show T64_0 E D (drawW E D) (T64_1 E D (drawW E D) (T64_2 E D (drawW E D)) (T64_3 E D (drawW E D) (T64_2 E D (drawW E D)))) xb 0 (Int.ofNat k) (Int.ofNat d) σ=_
   unfold T64_0 T64_1 T64_2
   simp -implicitDefEqProofs only [↓rP,rA,Nat.reduceEqDiff,Nat.reduceLT,Nat.reduceLeDiff,↓ldK_is hx,↓rd,↓e1,↓s2,↓ldK_is a2,h11,↓ldnK_is a2,↓sub,↓g3,↓ldK_is hx3,↓ldK_is a3]
end
end
end Go.Proofs.YtgjjnbddbbhloaaGreatDoor
namespace Go.Og
noncomputable section
section
variable {Q:DS→Prop} {E:List (Nat × Blk)} {D:Den} {σ σc σ':H} {n i:Nat} {S:Nat→Prop} {d:Option Nat} {o:AOp} {l:List AOper} {anc:Nat} {lk:List Nat} {pl:List DP} {e env:Env} {nx am:Nat} {ss:List (List (Nat × Blk))} {ks:List Nat} {ls:List (Nat × AOp × Env × V)}
theorem goq_end2 {pl0:List DP} {S2:Nat→Prop} {σ2:H} (v:V) (hr:RegOk E σ n S nx ss am ls σc) (hc:o.cls = .k) (hva:∀j,j<n→am.testBit j=true→anc.testBit j=true) (hf:Fr S2 σc σ2) (hg:∀j,j<n→S2 (σ.next+j)→am.testBit j=true)
  (hv:den1 E D o (restr lk e) σc=some (v,σ2)) (hl:∀x∈ls,legal pl0 x.1 (i::ks) []=false):GoesQ (EndSt E σ n pl0 (putE e d v) σ2) E D σ n i [⟨d,o,none⟩] [⟨anc,lk⟩] ⟨e,nx,ss,ks,am,ls⟩:=by
 obtain⟨⟨hn,r,rfl⟩,h2,h3,h4,h5,h6⟩:=hr
 subst hn
 refine⟨_,(dk v σ2.next σ2.bl hc (hide_keep fun j hj hp=>?_) hv).trans dsteps_nil,rfl,rfl,⟨_,rfl⟩,?_,fun j hj hb=>?_⟩
 ·refine h5 _ List.mem_cons_self j hj ?_
  cases ha:am.testBit j with
  | false=>rfl
  | true=>
   exfalso
   unfold visK at hp
   rw[ha,hva j hj ha]at hp
   cases hp
 ·refine List.all_eq_true.2 fun x hx=>?_
  show checkL E σ.next n pl0 am x.1 x.2.1 x.2.2.1 x.2.2.2 (σ2.bl::σc.bl::r) (i::ks) []=true
  rw[check_skip (hl x hx)]
  exact check_all (h6 x hx) _ _ _ h4
 ·have hb:am.testBit j=false:=hb
  have:=hf.same (σ.next+j) (by omega) (fun hs=>by have:=hg j hj hs;rw[hb]at this;cases this)
  rw[←lookF_eq,this,lookF_eq]
  exact h5 _ List.mem_cons_self j hj hb
end
theorem bld2 {x y:AO} {em:Env} {s:BS} {u:V} (hx:opv em x = .str s) (hy:opv em y=u) (h:u.one=true):aopP (.build [.str ⟨0,0⟩,.nils,.nils,.nils] [(0,1,x),(1,1,y)]) em=some (.agg [.str s,u,.nils,.nils]):=by
 obtain⟨h1,h2⟩:=one_live h
 show (match fillA [(0,1,opv em x),(1,1,opv em y)] [.str ⟨0,0⟩,.nils,.nils,.nils]with
  | some l=>some (V.agg l)
  | none=>none)=_
 rw[hx,hy]
 show (match fillA [(1,1,u)] [.str s,.nils,.nils,.nils]with
  | some l=>some (V.agg l)
  | none=>none)=_
 unfold fillA
 rw[h1,h2]
 rfl
theorem iaddr_of {esz:Nat} {x y:AO} {em:Env} {b o n i:Nat} {c:Cap} (hx:opv em x = .sl b o n c) (hy:opv em y = .int .i64 (Int.ofNat i)) (hi:i<n):aopP (.iaddrS esz x y) em=some (.ptr b (o+i*esz)):=by
 show (match opv em x,opv em y with
  | .sl b off len _,.int _ n=>if 0≤n∧n<len then some (V.ptr b (off+n.toNat*esz))else none
  | _,_=>none)=_
 rw[hx,hy]
 show (if 0≤Int.ofNat i∧Int.ofNat i<(n:Int)then some (V.ptr b (o+i*esz))else none)=_
 rw[if_pos ⟨Int.natCast_nonneg i,Int.ofNat_lt.2 hi⟩]
end
end Go.Og
namespace Go.Proofs.YtgjjnbddbbhloaaGreatDoor
open Go Go.Og
noncomputable section
section
variable {E:List (Nat × Blk)} {D:Den} {N:Nat}
theorem zdbeq {σ:H} {esz k:Nat} {v:V} {m:List V} (hd:Dst σ esz k v m):V.beq v v=true:=by
 rcases hd with h|⟨b,rfl,_⟩
 ·rcases h with ⟨_,rfl,_⟩|⟨_,rfl,_⟩<;>exact beq_self _ rfl
 ·exact beq_self _ rfl
theorem make_reg0 {σ:H} {cb:Nat} {m:ModS} {nv tv dv p2 p8:V} (ht:Tidy σ) (ha:Atc σ cb (mdC m nv tv dv)) (hn:Dst σ 1 m.az.length nv (stC m.az)) (hl:m.az.length≤40) :
    ∃e' u σ',drawW E D G35_0 H35_0 [(1,.ptr cb 0),(2,p2),(8,p8)] σ=some (e',σ')∧Go.Og.look e' 1=some (.ptr cb 0)∧Go.Og.look e' 2=some p2∧Go.Og.look e' 8=some p8∧Go.Og.look e' 9=some (.ptr (σ.next+6) 0)∧Atc σ' (σ.next+6) [.str (ofN m.nm),u,.nils,.nils]∧Dst σ' 1 m.az.length u (stC m.az)∧(∀b,Names u b→σ.next+8≤b)∧σ.next+8≤σ'.next∧Fr Nowhere σ σ':=by
  have fw:Fr Nowhere σ ⟨σ.next+8,σ.bl⟩:=(go_start (E:=E) (n:=8) (S:=Nowhere) ht).fr
  have xs:=(hn.fr fw ht (fun _ _ h=>h)).src
  have ho:allOne (stC m.az)=true:=by
    unfold stC
    generalize m.az=l
    induction l with
    | nil=>rfl
    | cons x l ih=>show (true&&allOne (l.map _))=true;rw[Bool.true_and];exact ih
  obtain⟨u,σ2,g2,d2,m2,f2⟩:=app_all (E:=E) (bytes:=16) (Dst.nil ⟨σ.next+8,σ.bl⟩ 1) fw.tidy xs ho (by unfold growable;simp only[Bool.and_eq_true,Nat.ble_eq];omega)
  rw[Nat.zero_add,List.nil_append]at d2
  have le2:σ.next+8≤σ2.next:=f2.le
  have ul:∀b,Names u b→σ.next+8≤b:=fun b hb=>(m2 b hb).elim (fun h=>h.elim) (fun h=>h)
  obtain⟨σ3,h3⟩:∃σ3,σ3=(⟨σ2.next,(σ.next+6,.cells [.str ⟨0,0⟩,.nils,.nils,.nils])::σ2.bl⟩:H):=⟨_,rfl⟩
  have f3:Fr (fun k=>k=σ.next+6) σ2 σ3:=by
    rw[h3]
    refine⟨fun b hb=>?_,Nat.le_refl _,fun b hb hn=>?_⟩
    · have hb:σ2.next≤b:=hb
      show lookF ((σ.next+6,_)::σ2.bl) b=none
      rw[lookF_cons,if_neg (by simp only[];omega)]
      exact f2.tidy b hb
    · show lookF ((σ.next+6,_)::σ2.bl) b=_
      rw[lookF_cons,if_neg (by simp only[];omega)]
  have a3:Atc σ3 (σ.next+6) [.str ⟨0,0⟩,.nils,.nils,.nils]:=by
    rw[h3]
    show lookF ((σ.next+6,_)::σ2.bl) _=_
    rw[lookF_cons,if_pos rfl]
  have hoc:allOne [.str (ofN m.nm),u,.nils,.nils]=true:=by simp only[allOne_cons,allOne_nil,one_str,one_nils,d2.one,Bool.and_true]
  have st:∃σ4,den1 E D (.store 4 (.tmp 9) (.tmp 30)) [(9,.ptr (σ.next+6) 0),(30,.agg [.str (ofN m.nm),u,.nils,.nils])] σ3=some (.dead,σ4)∧Fr (fun k=>k=σ.next+6) σ3 σ4∧Atc σ4 (σ.next+6) [.str (ofN m.nm),u,.nils,.nils]:=by
    obtain⟨σ4,q1,q2,q3⟩:=st_den (E:=E) (D:=D) (n:=4) (x := .tmp 9) (y := .tmp 30) (e:=[(9,.ptr (σ.next+6) 0),(30,.agg [.str (ofN m.nm),u,.nils,.nils])]) f3.tidy a3 rfl (show (opv [(9,.ptr (σ.next+6) 0),(30,.agg [.str (ofN m.nm),u,.nils,.nils])] (.tmp 30)).cells=[.str (ofN m.nm),u,.nils,.nils] from rfl) (by
      rw[hoc];rfl)
    exact⟨σ4,q1,q2,q3⟩
  obtain⟨σ4,g4,f4,a4⟩:=st
  have uo:=d2.one
  have go:GoesQ (EndSt E σ 8 H35_0 _ σ4) E D σ 8 0 G35_0 H35_0 ⟨[(1,.ptr cb 0),(2,p2),(8,p8)],σ.next+8,[σ.bl],[],0,[]⟩:=
    goq_p (.ptr cb 0) rfl rfl <|
    goq_l (.str (ofN m.nm)) (go_start (S:=Nowhere) ht) rfl (old_ld1 (b:=cb) (off:=0) rfl ha rfl ht (fun h=>h) (beq_self _ rfl)) fun r1=>
    goq_p (.ptr cb 2) rfl rfl <|
    goq_l nv r1 rfl (old_ld1 (b:=cb) (off:=2) rfl ha rfl ht (fun h=>h) (zdbeq hn)) fun r2=>
    goq_k u r2 rfl (by decide) (S':=Nowhere) (f2.mono fun _ _ h=>h.elim) (fun _ _ h=>h.elim) (fun _ h _ _=>h) (app_den rfl rfl g2) fun _ _ r4=>
    goq_p (.agg [.str (ofN m.nm),u,.nils,.nils]) rfl (bld2 rfl rfl uo) <|
    goq_a (.ptr (σ.next+6) 0) (.cells [.str ⟨0,0⟩,.nils,.nils,.nils]) 64 r4 rfl (by decide) (by decide) rfl fun _ r5=>
    goq_end2 .dead (by rw[←h3]at r5;exact r5) rfl (by decide) f4 (fun j hj e=>by
      have:j=6:=by omega
      subst this;decide) g4 (fun x hx=>by
      simp only[List.mem_cons,List.not_mem_nil,or_false]at hx
      rcases hx with rfl|rfl
      · show legal H35_0 3 [7,4] []=false
        decide
      · show legal H35_0 1 [7,4] []=false
        decide)
  have d:=goq_draw (ops:=G35_0) go
  refine⟨_,u,σ4,d,rfl,rfl,rfl,rfl,a4,?_,ul,?_,?_⟩
  · exact(d2.fr f3 f2.tidy (fun b hb e=>by have:=ul b hb;omega)).fr f4 f3.tidy (fun b hb e=>by have:=ul b hb;omega)
  · have:=f3.le
    have:=f4.le
    omega
  · exact((fw.trans (f2.mono fun _ _ h=>h.elim:Fr Nowhere _ σ2) (fun _ _ h=>h)).trans f3 (fun b hb e=>by omega)).trans f4 (fun b hb e=>by omega)
theorem make_reg1 {m:ModS} {T:NodT} (hT:SpMnode m T (D 64)) {σ0 σ:H} {cb xb tb:Nat} {nv tv dv lv u rv p2:V} {tl tl':List TyS} {rs:List Nat} {i k r:Nat} {nm:BS} {P:Nat→Prop} (hP:∀b,P b→b<σ.next) (ht0:Tidy σ0) (hs0:MdS σ0 m nv tv dv) (h:Mk σ0 σ xb m nv tv dv tl lv (fun b=>b=tb∨Names rv b∨P b)) (hc:Atc σ cb (mdC m nv tv dv)) (ht:Atc σ tb [.str nm,u,rv,.nils]) (hr:Dst σ 1 rs.length rv (ksC rs)) (hrl:rs.length≤40) (hk:m.ks[i]? = some k)
    (cx:cb≠xb) (cl:¬Names lv cb) (cr:¬Names rv cb) (ct:cb≠tb) (tr:¬Names rv tb) (rx:∀b,Names rv b→σ0.next≤b) (t0:σ0.next≤tb) (hd:T 0 k tl=some (r,tl')) :
    ∃e' lv' rv' σ',drawW E D G35_1 H35_1 [(1,.ptr cb 0),(2,p2),(8,.ptr xb 0),(9,.ptr tb 0),(10,.int .i64 (Int.ofNat i))] σ=some (e',σ')∧Go.Og.look e' 1=some (.ptr cb 0)∧Go.Og.look e' 2=some p2∧Go.Og.look e' 8=some (.ptr xb 0)∧Go.Og.look e' 9=some (.ptr tb 0)∧Go.Og.look e' 10=some (.int .i64 (Int.ofNat i)) ∧
      Mk σ0 σ' xb m nv tv dv tl' lv' (fun b=>b=tb∨Names rv' b∨P b)∧Atc σ' tb [.str nm,u,rv',.nils]∧Dst σ' 1 (rs.length+1) rv' (ksC (rs++[r]))∧(∀b,Names lv' b→Names lv b∨σ.next≤b)∧(∀b,Names rv' b→Names rv b∨σ.next≤b)∧Fr (fun b=>b=xb∨b=tb∨Names lv b∨Names rv b) σ σ':=by
  have hti:=h.ht
  have le0:=h.f.le
  have fw:Fr Nowhere σ ⟨σ.next+13,σ.bl⟩:=(go_start (E:=E) (n:=13) (S:=Nowhere) hti).fr
  have rl:∀b,Names rv b→b<σ.next:=fun b hb=>hr.lt hti hb
  have tl_lt:=ht.lt hti
  have cl_lt:=hc.lt hti
  have xl:=h.a.lt hti
  have hw:=(h.ext (Q':=fun b=>(b=tb∨Names rv b∨P b)∨(σ.next≤b∧b<σ.next+13)) (fun b q=>q.imp id (fun q=>q.1))).fr fw (fun _ h=>h.elim) (fun _ h=>h.elim)
  obtain⟨lv',σ1,g1,h1,m1,f1⟩:=hT ht0 hs0 hw (fun b q=>by
    show b<σ.next+13
    rcases q with (q|q|q)|q
    · omega
    · have:=rl b q;omega
    · have:=hP b q;omega
    · omega) (by omega) hd
  have le1:σ.next+13≤σ1.next:=f1.le
  have lxq:∀b,Names lv b→b≠tb∧¬Names rv b:=fun b hb=>⟨fun e=>(h.lx b hb).2.2 (.inl e),fun e=>(h.lx b hb).2.2 (.inr (.inl e))⟩
  obtain⟨σ2,h2⟩:∃σ2,σ2=(⟨σ1.next,(σ.next+9,.cells [.int .i64 (Int.ofNat r)])::σ1.bl⟩:H):=⟨_,rfl⟩
  have f2:Fr (fun k=>k=σ.next+9) σ1 σ2:=by
    rw[h2]
    refine⟨fun b hb=>?_,Nat.le_refl _,fun b hb hn=>?_⟩
    · have hb:σ1.next≤b:=hb
      show lookF ((σ.next+9,_)::σ1.bl) b=none
      rw[lookF_cons,if_neg (by simp only[];omega)]
      exact f1.tidy b hb
    · show lookF ((σ.next+9,_)::σ1.bl) b=_
      rw[lookF_cons,if_neg (by simp only[];omega)]
  have a2:Atc σ2 (σ.next+9) [.int .i64 (Int.ofNat r)]:=by
    rw[h2]
    show lookF ((σ.next+9,_)::σ1.bl) _=_
    rw[lookF_cons,if_pos rfl]
  have xs:Src σ2 1 1 (V.sl (σ.next+9) 0 1 (.ex 1)) [.int .i64 (Int.ofNat r)] := .inr ⟨_,_,_,_,rfl,a2,Nat.le_refl _,rfl⟩
  have hr1:Dst σ1 1 rs.length rv (ksC rs):=(hr.fr fw hti (fun _ _ h=>h)).fr f1 fw.tidy (fun b hb e=>e.elim (fun e=>h.qx (.inr (.inl (e ▸ hb)))) (fun e=>(lxq b e).2 hb))
  obtain⟨rv',σ3,g3,d3,m3,f3⟩:=app_all (E:=E) (bytes:=8) (hr1.fr f2 f1.tidy (fun b hb e=>by have:=rl b hb;omega)) f2.tidy xs rfl (by unfold growable;simp only[Bool.and_eq_true,Nat.ble_eq];omega)
  have n2:σ2.next=σ1.next:=by rw[h2]
  have t1:Atc σ1 tb [.str nm,u,rv,.nils]:=f1.at_ (fw.at_ ht hti (fun h=>h)) fw.tidy (fun e=>e.elim (fun e=>h.qx (.inl e.symm)) (fun e=>(lxq tb e).1 rfl))
  have t3:=f3.at_ (f2.at_ t1 f1.tidy (by omega)) f2.tidy tr
  obtain⟨o1,o2⟩:=one_live d3.one
  have st:∃σ4,den1 E D (.store 1 (.tmp 49) (.tmp 48)) [(49,.ptr tb 2),(48,rv')] σ3=some (.dead,σ4)∧Fr (fun k=>k=tb) σ3 σ4∧Atc σ4 tb [.str nm,u,rv',.nils]:=by
    obtain⟨σ4,q1,q2,q3⟩:=st_den (E:=E) (D:=D) (n:=1) (x := .tmp 49) (y := .tmp 48) (e:=[(49,.ptr tb 2),(48,rv')]) f3.tidy t3 rfl (show (opv [(49,.ptr tb 2),(48,rv')] (.tmp 48)).cells=[rv'] from o2) (by
      simp only[allOne_cons,allOne_nil,d3.one,Bool.and_true];rfl)
    exact⟨σ4,q1,q2,q3⟩
  obtain⟨σ4,g4,f4,a4⟩:=st
  have le3:=f3.le
  have le2:=f2.le
  have hs:=hs0.fr h.f ht0
  have hkl:i<m.ks.length:=(List.getElem?_eq_some_iff.1 hk).1
  have mr:∀b,Names rv' b→Names rv b∨σ1.next≤b:=fun b hb=>(m3 b hb).imp id (fun h=>by omega)
  have ml:∀b,Names lv' b→Names lv b∨σ.next≤b:=fun b hb=>(m1 b hb).imp id (fun h=>by have h:σ.next+13≤b:=h;omega)
  have h4:Mk σ0 σ4 xb m nv tv dv tl' lv' (fun b=>((b=tb∨Names rv b∨P b)∨(σ.next≤b∧b<σ.next+13))∨σ1.next≤b):=(((h1.ext (Q':=fun b=>((b=tb∨Names rv b∨P b)∨(σ.next≤b∧b<σ.next+13))∨σ1.next≤b) (fun b q=>q)).fr f2 (fun b e => .inr (.inl (.inr (by omega)))) (fun b e=>by omega)).fr f3 (fun b e => .inr (.inl (.inl (.inr (.inl e))))) (fun b e=>rx b e)).fr f4 (fun b e => .inr (.inl (.inl (.inl e)))) (fun b e=>by omega)
  obtain⟨vb,vo,vc,L,htv,hva,hvle,hvm⟩:∃vb vo vc L,tv = .sl vb vo m.ks.length vc∧Atc σ vb L∧vo+m.ks.length*1≤L.length∧ksC m.ks=(L.drop vo).take (m.ks.length*1):=by
    rcases hs.t with ⟨h0,_,_⟩|⟨b,o,c,L,e1,e2,e3,e4⟩
    · omega
    · exact⟨b,o,c,L,e1,e2,e3,e4⟩
  have hvb:vb<σ0.next:=hs0.t.lt ht0 (by rw[htv];rfl)
  have hLk:L[vo+i*1]? = some (.int .i64 (Int.ofNat k)):=by
    have:(ksC m.ks)[i]? = some (.int .i64 (Int.ofNat k)):=by unfold ksC;rw[List.getElem?_map,hk];rfl
    rw[hvm,List.getElem?_take_of_lt (by omega),List.getElem?_drop]at this
    rw[Nat.mul_one];exact this
  have hct:=hc
  unfold mdC at hct
  rw[htv]at hct
  have go:GoesQ (EndSt E σ 13 H35_1 _ σ4) E D σ 13 0 G35_1 H35_1 ⟨[(1,.ptr cb 0),(2,p2),(8,.ptr xb 0),(9,.ptr tb 0),(10,.int .i64 (Int.ofNat i))],σ.next+13,[σ.bl],[],0,[]⟩:=
    goq_p (.ptr tb 2) rfl rfl <|
    goq_l rv (go_start (S:=fun b=>b=xb∨Names lv b∨Names rv b) hti) rfl (old_ld1 (b:=tb) (off:=2) rfl ht rfl hti (fun e=>by
      rcases e with e|e|e
      · exact h.qx (.inl e.symm)
      · exact(lxq _ e).1 rfl
      · exact tr e) (zdbeq hr)) fun r1=>
    goq_p (.ptr xb 0) rfl rfl <|
    goq_p (.ptr cb 3) rfl rfl <|
    goq_l (.sl vb vo m.ks.length vc) r1 rfl (old_ld1 (b:=cb) (off:=3) rfl hct rfl hti (fun e=>by
      rcases e with e|e|e
      · exact cx e
      · exact cl e
      · exact cr e) (beq_self _ rfl)) fun r2=>
    goq_p (.int .i64 (Int.ofNat i)) rfl rfl <|
    goq_p (.ptr vb (vo+i*1)) rfl (iaddr_of rfl rfl hkl) <|
    goq_l (.int .i64 (Int.ofNat k)) r2 rfl (old_ld1 (b:=vb) (off:=vo+i*1) rfl hva hLk hti (fun e=>by
      rcases e with e|e|e
      · have:=h.x0;omega
      · have:=(h.lx _ e).2.1;omega
      · have:=rx _ e;omega) (beq_self _ rfl)) fun r3=>
    goq_k (.int .i64 (Int.ofNat r)) r3 rfl (by decide) (S':=fun b=>b=xb∨Names lv b) f1 (fun b _ e=>e.imp id .inl) (fun b e e1 e2=>by
      rcases e with e|e
      · omega
      · have:=h.llt e;omega) (call_of (vs:=[.ptr xb 0,.int .i64 (Int.ofNat k),.int .i64 (Int.ofNat 0)]) rfl rfl g1) fun _ _ r4=>
    goq_a (.sl (σ.next+9) 0 1 (.ex 1)) (.cells [.int .i64 (Int.ofNat r)]) 512 r4 rfl (by decide) (by decide) rfl fun _ r5=>
    goq_k (S:=fun b=>b=xb∨Names lv b∨Names rv b) rv' (by rw[←h2]at r5;exact r5) rfl (by decide) (S':=Names rv) f3 (fun _ _ e=>Or.inr (Or.inr e)) (fun b e e1 e2=>by have:=rl b e;omega) (app_den rfl rfl g3) fun _ _ r6=>
    goq_p (.ptr tb 2) rfl rfl <|
    goq_end .dead r6 rfl (by decide) f4 (fun b e e1 _=>by omega) g4 (fun x hx=>by
      simp only[List.mem_cons,List.not_mem_nil,or_false]at hx
      rcases hx with rfl|rfl|rfl
      · show legal H35_1 7 [12,10,8] []=false
        decide
      · show legal H35_1 4 [12,10,8] []=false
        decide
      · show legal H35_1 1 [12,10,8] []=false
        decide)
  have d:=goq_draw (ops:=G35_1) go
  refine⟨_,lv',rv',σ4,d,rfl,rfl,rfl,rfl,rfl,h4.ext (fun b q=>?_),a4,?_,ml,fun b hb=>(mr b hb).imp id (fun h=>by omega),?_⟩
  · rcases q with q | q | q
    · exact .inl (.inl (.inl (.inl q)))
    · exact(mr b q).elim (fun e=>Or.inl (Or.inl (Or.inl (Or.inr (Or.inl e))))) (fun e=>Or.inl (Or.inr e))
    · exact .inl (.inl (.inl (.inr (.inr q))))
  · have d4:=d3.fr f4 f3.tidy (fun b hb e=>(mr b hb).elim (fun h=>tr (e ▸ h)) (fun h=>by omega))
    rw[show ksC (rs++[r])=ksC rs++[.int .i64 (Int.ofNat r)] by unfold ksC;simp]
    exact d4
  · have F1:Fr (fun b=>b=xb∨b=tb∨Names lv b∨Names rv b) σ ⟨σ.next+13,σ.bl⟩:=fw.mono (fun _ _ h=>h.elim)
    have F2:Fr (fun b=>b=xb∨b=tb∨Names lv b∨Names rv b) σ σ1:=F1.trans f1 (fun b _ e=>e.elim Or.inl (fun e=>Or.inr (Or.inr (Or.inl e))))
    have F3:Fr (fun b=>b=xb∨b=tb∨Names lv b∨Names rv b) σ σ2:=F2.trans f2 (fun b hb e=>by omega)
    have F4:Fr (fun b=>b=xb∨b=tb∨Names lv b∨Names rv b) σ σ3:=F3.trans f3 (fun b _ e=>Or.inr (Or.inr (Or.inr e)))
    exact F4.trans f4 (fun b _ e=>Or.inr (Or.inl e))
end
end
end Go.Proofs.YtgjjnbddbbhloaaGreatDoor
