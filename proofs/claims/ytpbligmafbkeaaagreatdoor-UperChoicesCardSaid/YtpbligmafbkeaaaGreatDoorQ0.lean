/- What the last text leans on, part 1 of 8: merged out of smaller texts. No condition. -/
import Derived.Tactics2
import Derived.Laws.Append
import Derived.Laws.Slices
import Derived.Laws.Build
import Derived.Laws.Pointers
import Derived.Laws.Small
import Derived.Laws.StructEq
import Derived.WalkSpells
import Derived.Laws.BytesArg
import Derived.Laws.IdiomCopy
import Derived.Lib.ConvBytes
import Derived.IntWalk
import Derived.LoopN
open Nat renaming le_refl -> AL,add -> AM,beq_eq -> AW,ble -> Am,beq -> Ar,lt_or_ge -> A2,le_trans -> BE,zero_add -> BV,ble_eq -> Bn,blt -> B9,zero_le -> CA,mul_one -> CB,eq_of_beq_eq_true -> CJ,blt_eq -> Co,mod_eq_of_lt -> Dn,add_assoc -> D4,sub_self -> Ec,le_succ -> El,mul_le_mul_right -> Fm,min -> Ga,mul_div_cancel -> Gz,min_eq_left -> Ha,eq_of_testBit_eq -> Hm,mod_lt -> Jr,sub_zero -> NH,mul -> NJ,testBit_or -> WW,add_sub_add_right -> Y3,add_mul -> nP,mul_comm -> ABv,add_zero -> ABw,eq_zero_or_pos -> AJB,add_lt_add_iff_right -> AY1
open List renaming getElem?_eq_getElem -> AI,length_append -> AP,length_cons -> Ag,getElem?_map -> As,getElem?_append_right -> Aw,mem_cons -> A0,getElem?_eq_none -> A4,eq_nil_of_length_eq_zero -> Ba,replicate -> Bf,getElem?_cons_succ -> Bh,length_map -> Bp,getElem?_drop -> B6,getElem?_append_left -> CH,mem_append -> CN,range -> CW,map_cons -> C7,length_take -> DM,drop_eq_getElem_cons -> Db,cons_append -> D9,mem_of_getElem? -> Em,getElem?_take -> G0,nil_append -> Hb,ext_getElem? -> Hp,take_of_length_le -> Js,map_nil -> WZ,mapM_cons -> Wa,drop_take -> Wb,all_cons -> kN,replicate_succ -> xm,getElem?_range -> xn
open Bool renaming and_eq_true -> AQ,or_eq_false_iff -> CX,or_eq_true -> Cn,eq_false_iff -> EP,false_eq_true -> FV,false_or -> Fc,not_eq_true -> fA,eq_iff_iff -> xd
open Option renaming bind_eq_some_iff -> AU,some -> AY,map_eq_some_iff -> Aa,bind_some -> Bk,map_some -> Cl
open Array renaming getElem?_setIfInBounds -> BT,getElem?_eq_none -> CR,size_setIfInBounds -> EY,getD_eq_getD_getElem? -> Ep,ext' -> G1,replicate -> Hc,getElem?_append_left -> MX,mapM_eq_mapM_toList -> NK,getElem?_toList -> Y4,map -> ADh,getElem?_eq_some_iff -> AJF
open BitVec renaming ofInt -> BY
namespace Go.Og
structure BS where
 len:Nat
 val:Nat
 deriving DecidableEq,Inhabited
def BS.get(s:BS)(i:Nat):Nat:=Nat.mod (Nat.shiftRight s.val (NJ 8 i)) 256
def BS.toList(s:BS):List UInt8:=(CW s.len).map λi=>UInt8.ofNat (s.get i)
def BS.low(s:BS):Nat:=Nat.mod s.val (Nat.pow 2 (NJ 8 s.len))
def BS.beq(a b:BS):Bool:=Ar a.len b.len&&Ar a.low b.low
def BS.cat(a b:BS):BS:=⟨AM a.len b.len,Nat.lor a.low (Nat.shiftLeft b.val (NJ 8 a.len))⟩
def BS.sub(s:BS)(lo a:Nat):BS:=⟨Nat.sub a lo,Nat.mod (Nat.shiftRight s.val (NJ 8 lo)) (Nat.pow 2 (NJ 8 (Nat.sub a lo)))⟩
def BS.ofList:List UInt8->BS
 | []=>⟨0,0⟩
 | c::l=>⟨Nat.succ (BS.ofList l).len,AM c.toNat (NJ 256 (BS.ofList l).val)⟩
theorem BS.get_lt(s:BS) i:s.get i<256:=Jr _ (by decide)
theorem BS.length_toList(s:BS):s.toList.length=s.len:=by simp[BS.toList]
theorem BS.getElem?_toList(s:BS) i:s.toList[i]? = if i<s.len then some (UInt8.ofNat (s.get i))else none:=by
 simp only[BS.toList,As];by_cases h:i<s.len
 ·rw[if_pos h,xn h];rfl
 ·rw[if_neg h,A4 (by simpa using h)];rfl
theorem BS.ofNat_inj{a b:Nat}(f:a<256)(e:b<256)(h:UInt8.ofNat a=UInt8.ofNat b):a=b:=by
 have:=congrArg UInt8.toNat h;simp at this;omega
theorem BS.ww(s:BS) i j:(s.get i).testBit j=(decide (j<8)&&s.val.testBit (8*i+j)):=by
 show Nat.testBit ((s.val >>> (8*i)) % (2 ^ 8)) j=_;rw[Nat.testBit_mod_two_pow,Nat.testBit_shiftRight]
theorem BS.testBit_low(s:BS) j:s.low.testBit j=(decide (j<8*s.len)&&s.val.testBit j):=by
 show Nat.testBit (s.val % (2 ^ (8*s.len))) j=_;rw[Nat.testBit_mod_two_pow]
theorem BS.ext_get{a b:BS}(k:a.len=b.len)(h:∀i,i<a.len->a.get i=b.get i):a.toList=b.toList:=by
 apply Hp;intro i;rw[BS.getElem?_toList,BS.getElem?_toList,k];by_cases d:i<b.len
 ·rw[if_pos d,if_pos d,h i (by omega)]
 ·rw[if_neg d,if_neg d]
theorem BS.get_eq{a b:BS}(h:a.toList=b.toList):a.len=b.len/\∀i,i<a.len->a.get i=b.get i:=by
 have k:a.len=b.len:=by rw[<-BS.length_toList,h,BS.length_toList]
 refine⟨k,λi l=>?_⟩;have:=congrArg (·[i]?) h;simp only[BS.getElem?_toList]at this;rw[if_pos l,if_pos (by omega)]at this;exact BS.ofNat_inj (a.get_lt i) (b.get_lt i) (AY.inj this)
theorem BS.low_eq{a b:BS}(q:a.len=b.len):a.low=b.low↔∀i,i<a.len->a.get i=b.get i:=by
 constructor
 ·intro h i s
  apply Hm;intro j;rw[BS.ww,BS.ww];by_cases m:j<8
  ·have:=congrArg (λn=>n.testBit (8*i+j)) h
   simp only[BS.testBit_low]at this;have h1:(8*i+j<8*a.len):=by omega
   have r:(8*i+j<8*b.len):=by omega
   simpa[m,h1,r]using this
  ·simp[m]
 ·intro h
  apply Hm;intro j;rw[BS.testBit_low,BS.testBit_low,<-q];by_cases m:j<8*a.len
  ·have:=congrArg (λn=>n.testBit (j % 8)) (h (j / 8) (by omega))
   simp only[BS.ww]at this;have h1:j % 8<8:=by omega
   rw[Nat.div_add_mod]at this;simpa[h1,m]using this
  ·simp[m]
theorem BS.beq_iff{a b:BS}:a.beq b=true↔a.toList=b.toList:=by
 simp only[BS.beq,AQ,AW];constructor
 ·rintro⟨e,h⟩;exact BS.ext_get e ((BS.low_eq e).1 h)
 ·intro h
  have ⟨e,k⟩:=BS.get_eq h;exact⟨e,(BS.low_eq e).2 k⟩
theorem BS.beq_eq(a b:BS):a.beq b=decide (a.toList=b.toList):=by
 by_cases h:a.toList=b.toList
 ·rw[BS.beq_iff.2 h];simp[h]
 ·rw[decide_eq_false h,EP];exact λf=>h (BS.beq_iff.1 f)
theorem BS.get_cat_left{a b:BS}{i}(h:i<a.len):(a.cat b).get i=a.get i:=by
 apply Hm;intro j;rw[BS.ww,BS.ww];by_cases k:j<8
 ·show (decide (j<8)&&Nat.testBit (a.low ||| b.val <<< (8*a.len)) (8*i+j))=_
  rw[WW,BS.testBit_low,Nat.testBit_shiftLeft];have h1:8*i+j<8*a.len:=by omega
  have m:¬(8*a.len<=8*i+j):=by omega
  simp[h1,m]
 ·simp[k]
theorem BS.get_cat_right{a b:BS}{i}(h:a.len<=i):(a.cat b).get i=b.get (i-a.len):=by
 apply Hm;intro j;rw[BS.ww,BS.ww];by_cases m:j<8
 ·show (decide (j<8)&&Nat.testBit (a.low ||| b.val <<< (8*a.len)) (8*i+j))=_
  rw[WW,BS.testBit_low,Nat.testBit_shiftLeft];have h1:¬(8*i+j<8*a.len):=by omega
  have n:8*i+j ≥ 8*a.len:=by omega
  have l:8*i+j-8*a.len=8*(i-a.len)+j:=by omega
  simp[h1,n,l]
 ·simp[m]
theorem BS.toList_cat(a b:BS):(a.cat b).toList=a.toList++b.toList:=by
 apply Hp;intro i;rw[List.getElem?_append,BS.length_toList,BS.getElem?_toList,BS.getElem?_toList,BS.getElem?_toList];have k:(a.cat b).len=a.len+b.len:=rfl;rw[k];by_cases h:i<a.len
 ·rw[if_pos h,if_pos (by omega),if_pos h,BS.get_cat_left h]
 ·rw[if_neg h]
  by_cases j:i<a.len+b.len
  ·rw[if_pos j,if_pos (by omega),BS.get_cat_right (by omega)]
  ·rw[if_neg j,if_neg (by omega)]
theorem BS.get_sub{s:BS}{lo d i}(h:i<d-lo):(s.sub lo d).get i=s.get (lo+i):=by
 apply Hm;intro j;rw[BS.ww,BS.ww];by_cases g:j<8
 ·show (decide (j<8)&&Nat.testBit ((s.val >>> (8*lo)) % (2 ^ (8*(d-lo)))) (8*i+j))=_
  have h1:8*i+j<8*(d-lo):=by omega
  have k:8*lo+(8*i+j)=8*(lo+i)+j:=by omega
  simp[h1,k]
 ·simp[g]
theorem BS.toList_sub{s:BS}{lo b}(h:b<=s.len):(s.sub lo b).toList=(s.toList.drop lo).take (b-lo):=by
 apply Hp;intro i;rw[G0,B6,BS.getElem?_toList,BS.getElem?_toList];have g:(s.sub lo b).len=b-lo:=rfl;rw[g];by_cases h1:i<b-lo
 ·rw[if_pos h1,if_pos h1,if_pos (by omega),BS.get_sub h1]
 ·rw[if_neg h1,if_neg h1]
theorem BS.len_ofList:∀l,(BS.ofList l).len=l.length
 | []=>rfl | _::l=>by simp[BS.ofList,BS.len_ofList l]
theorem BS.get_ofList:∀l i (c:UInt8),l[i]? = some c->(BS.ofList l).get i=c.toNat
 | [],i,c,h=>by simp at h
 | d::l,0,c,h=>by
  simp at h;subst h;show ((d.toNat+256*(BS.ofList l).val) >>> (8*0)) % 256=_;have:=d.toNat_lt;omega
 | d::l,i+1,c,h=>by
  rw[<-BS.get_ofList l i c h];show ((d.toNat+256*(BS.ofList l).val) >>> (8*(i+1))) % 256=((BS.ofList l).val >>> (8*i)) % 256;have g:=d.toNat_lt;rw[Nat.mul_succ,Nat.add_comm (8*i) 8,Nat.shiftRight_add];have:(d.toNat+256*(BS.ofList l).val) >>> 8=(BS.ofList l).val:=by
   rw[Nat.shiftRight_eq_div_pow];omega
  rw[this]
theorem BS.toList_ofList(l:List UInt8):(BS.ofList l).toList=l:=by
 apply Hp;intro i;rw[BS.getElem?_toList,BS.len_ofList];by_cases h:i<l.length
 ·rw[if_pos h]
  have f:=AI h;rw[BS.get_ofList l i _ f,f];simp
 ·rw[if_neg h,A4 (by omega)]
structure BI where
 i2:Nat
 shift:Nat
 endc:Nat
inductive Vy where
 | ex (c:Nat)
 | op (esz:Nat)
 deriving DecidableEq,Inhabited
abbrev DN:=Nat->Option BI
inductive V where
 | i5
 | bool (b:Bool)
 | int (k:IntKind) (n:Int)
 | N (s:BS)
 | nilp
 | o (b off:Nat)
 | h
 | D (b off len:Nat) (cap:Vy)
 | sle (b off k esz:Nat)
 | nilm
 | mp (b:Nat)
 | fn (f:FuncId) (first captured:List V)
 | nilf
 | ifc (t:TypeId) (v:V)
 | nili
 | agg (l:List V)
 | B (l:List V)
 deriving Inhabited
def BI.cap(i:BI)(a off:Nat):Nat:=(i.endc-off) / a
mutual
def Av(R:DN):V->Option Value
 | .i5=>none
 | .bool b=>some (.bool b)
 | .int k n=>some (.int k n)
 | .N l=>some (.string ⟨l.toList.toArray⟩)
 | .nilp=>some (.pointer none)
 | .o b off=>(R b).map λi => .pointer (some ⟨i.i2,i.shift+off,none⟩)
 | .h=>some (.slice none 0 0)
 | .D b off len (.ex c)=>(R b).map λi => .slice (some ⟨i.i2,i.shift+off,none⟩) len c
 | .D b off len (.op e)=>(R b).bind λi=>if len<=i.cap e off/\i.cap e off<=9223372036854775807 then some (.slice (some ⟨i.i2,i.shift+off,none⟩) len (i.cap e off))else none
 | .sle b off k e=>(R b).bind λi=>if k<=i.cap e off then some (.slice (some (if i.cap e off=k then⟨i.i2,i.shift+off,none⟩else(⟨i.i2,i.shift+off,none⟩:Addr).add (k*e))) 0 (i.cap e off-k))else none
 | .nilm=>some (.map none)
 | .mp b=>(R b).map λi => .map (some i.i2)
 | .fn f a c=>match BF R a,BF R c with
  | some x,some y=>some (.func (.func f) x.toArray y.toArray)
  | _,_=>none
 | .nilf=>some .nilFunc
 | .ifc t v=>match Av R v with
  | some x=>some (.iface t x)
  | none=>none
 | .nili=>some .nilIface
 | .agg l=>match BF R l with
  | some x=>some (.agg x.toArray)
  | none=>none
 | .B l=>match BF R l with
  | some x=>some (.tuple x.toArray)
  | none=>none
def BF(R:DN):List V->Option (List Value)
 | []=>some []
 | v::l=>match Av R v,BF R l with
  | some x,some y=>some (x::y)
  | _,_=>none
end
def Le(R a:DN):Prop:=∀b i,R b=some i->a b=some i
theorem Le.refl R:Le R R:=λ_ _ h=>h
theorem Le.trans{R S T}(h:Le R S)(k:Le S T):Le R T:=λb i x=>k b i (h b i x)
mutual
theorem DA{R R':DN}(h:Le R R'):∀(v:V) (x:Value),Av R v=some x->Av R' v=some x
 | .i5,x,e=>by simp[Av]at e
 | .bool b,x,e=>by simpa[Av]using e
 | .int k n,x,e=>by simpa[Av]using e
 | .N l,x,e=>by simpa[Av]using e
 | .nilp,x,e=>by simpa[Av]using e
 | .o b off,x,e=>by
  simp only[Av,Aa]at e ⊢
  obtain⟨i,hi,rfl⟩:=e;exact⟨i,h b i hi,rfl⟩
 | .h,x,e=>by simpa[Av]using e
 | .D b off len (.ex c),x,e=>by
  simp only[Av,Aa]at e ⊢
  obtain⟨i,hi,rfl⟩:=e;exact⟨i,h b i hi,rfl⟩
 | .D b off len (.op _),x,e=>by
  simp only[Av,AU]at e ⊢
  obtain⟨i,hi,e⟩:=e;exact⟨i,h b i hi,e⟩
 | .sle b off k _,x,e=>by
  simp only[Av,AU]at e ⊢
  obtain⟨i,hi,e⟩:=e;exact⟨i,h b i hi,e⟩
 | .nilm,x,e=>by simpa[Av]using e
 | .mp b,x,e=>by
  simp only[Av,Aa]at e ⊢
  obtain⟨i,hi,rfl⟩:=e;exact⟨i,h b i hi,rfl⟩
 | .fn f a c,x,e=>by
  simp only[Av]at e ⊢
  cases ha:BF R a<;>simp only[ha]at e
  ·cases e
  ·cases hc:BF R c<;>simp only[hc]at e
   ·cases e
   ·rw[E3 h a _ ha,E3 h c _ hc];exact e
 | .nilf,x,e=>by simpa[Av]using e
 | .ifc t v,x,e=>by
  simp only[Av]at e ⊢
  cases hv:Av R v<;>simp only[hv]at e
  ·cases e
  ·rw[DA h v _ hv];exact e
 | .nili,x,e=>by simpa[Av]using e
 | .agg l,x,e=>by
  simp only[Av]at e ⊢
  cases hl:BF R l<;>simp only[hl]at e
  ·cases e
  ·rw[E3 h l _ hl];exact e
 | .B l,x,e=>by
  simp only[Av]at e ⊢
  cases hl:BF R l<;>simp only[hl]at e
  ·cases e
  ·rw[E3 h l _ hl];exact e
theorem E3{R R':DN}(h:Le R R'):∀(l:List V) (x:List Value),BF R l=some x->BF R' l=some x
 | [],x,e=>by simpa[BF]using e
 | v::l,x,e=>by
  simp only[BF]at e ⊢
  cases hv:Av R v<;>simp only[hv]at e
  ·cases e
  ·cases hl:BF R l<;>simp only[hl]at e
   ·cases e
   ·rw[DA h v _ hv,E3 h l _ hl];exact e
end
theorem B2{R}:∀{l:List V}{x:List Value},BF R l=some x->x.length=l.length
 | [],x,e=>by simp only[BF,AY.injEq]at e;subst e;rfl
 | v::l,x,e=>by
  simp only[BF]at e;cases g:Av R v<;>simp only[g]at e
  ·cases e
  ·cases f:BF R l<;>simp only[f]at e
   ·cases e
   ·cases e;simp[B2 f]
theorem Bl{R v l x}:BF R (v::l)=some x↔∃a b,Av R v=some a/\BF R l=some b/\x=a::b:=by
 simp only[BF];cases f:Av R v<;>cases g:BF R l<;>simp[eq_comm]
theorem Eu{R}:∀{l x},BF R l=some x->∀{k:Nat}{v},l[k]? = some v->∃a,Av R v=some a/\x[k]? = some a
 | [],x,e,k,v,h=>by simp at h
 | v::l,x,e,k,u,h=>by
  obtain⟨a,b,r,s,rfl⟩:=Bl.1 e;cases k with
  | zero=>simp at h;subst h;exact⟨a,r,rfl⟩ | succ k=>simp at h;have ⟨c,q,p⟩:=Eu s h;exact⟨c,q,by simpa using p⟩
theorem M0{R}:∀{l:List V}{x:List Value},x.length=l.length->(∀(k:Nat) v,l[k]? = some v->∃a,Av R v=some a/\x[k]? = some a)->BF R l=some x
 | [],x,e,h=>by simp at e;subst e;rfl
 | v::l,[],e,h=>by simp at e
 | v::l,a::x,e,h=>by
  have ⟨b,n,m⟩:=h 0 v rfl;simp at m;subst m;refine Bl.2 ⟨a,x,n,M0 (by simpa using e) (λk u p=>?_),rfl⟩;have ⟨c,q,o⟩:=h (k+1) u (by simpa using p);exact⟨c,q,by simpa using o⟩
theorem Hj{R l m x y}(h:BF R l=some x)(k:BF R m=some y):BF R (l++m)=some (x++y):=by
 induction l generalizing x with
 | nil=>simp only[BF,AY.injEq]at h;subst h;simpa using k | cons v l q=>obtain⟨a,b,p,n,rfl⟩:=Bl.1 h;exact Bl.2 ⟨a,b++y,p,q n,rfl⟩
theorem QY{R}{l:List V}{x:List Value}(h:BF R l=some x) n:BF R (l.take n)=some (x.take n):=by
 induction l generalizing x n with
 | nil=>simp only[BF,AY.injEq]at h;subst h;simp[BF] | cons v l o=>
  obtain⟨a,b,q,p,rfl⟩:=Bl.1 h;cases n with
  | zero=>simp[BF] | succ n=>exact Bl.2 ⟨a,b.take n,q,o p n,rfl⟩
theorem Zm{R}{l:List V}{x:List Value}(h:BF R l=some x) n:BF R (l.drop n)=some (x.drop n):=by
 induction l generalizing x n with
 | nil=>simp only[BF,AY.injEq]at h;subst h;simp[BF] | cons v l q=>
  obtain⟨a,b,r,o,rfl⟩:=Bl.1 h;cases n with
  | zero=>simpa using h | succ n=>simpa using q o n
def V.S:V->Bool
 | .agg _ | .B _ | .i5=>false
 | _=>true
def V.cells:V->List V
 | .agg l=>l
 | v=>[v]
theorem IG{R l a}(h:Av R (.agg l)=some a):∃x,BF R l=some x/\a = .agg x.toArray:=by
 simp only[Av]at h;cases f:BF R l<;>simp only[f]at h
 ·cases h
 ·cases h;exact⟨_,rfl,rfl⟩
theorem Xm{R l a}(h:Av R (.B l)=some a):∃x,BF R l=some x/\a = .tuple x.toArray:=by
 simp only[Av]at h;cases f:BF R l<;>simp only[f]at h
 ·cases h
 ·cases h;exact⟨_,rfl,rfl⟩
theorem EE{R l}{x:List Value}(h:BF R l=some x):Av R (.agg l)=some (.agg x.toArray):=by simp only[Av,h]
theorem KU{R l}{x:List Value}(h:BF R l=some x):Av R (.B l)=some (.tuple x.toArray):=by simp only[Av,h]
theorem Xn{R}{v:V}{a:Value}(s:v.S=true)(h:Av R v=some a):a.cells=#[a]/\a.oneCell'=true:=by
 cases v with
 | i5=>cases s | agg l=>cases s | B l=>cases s | bool b=>cases h;exact⟨rfl,rfl⟩ | int k n=>cases h;exact⟨rfl,rfl⟩ | N l=>cases h;exact⟨rfl,rfl⟩ | nilp=>cases h;exact⟨rfl,rfl⟩ | h=>cases h;exact⟨rfl,rfl⟩ | nilm=>cases h;exact⟨rfl,rfl⟩ | nilf=>cases h;exact⟨rfl,rfl⟩ | nili=>cases h;exact⟨rfl,rfl⟩ | o b off=>
  simp only[Av,Aa]at h;obtain⟨i,_,rfl⟩:=h;exact⟨rfl,rfl⟩
 | mp b=>
  simp only[Av,Aa]at h;obtain⟨i,_,rfl⟩:=h;exact⟨rfl,rfl⟩
 | D b off len cap=>
  cases cap with
  | ex c=>
   simp only[Av,Aa]at h;obtain⟨i,_,rfl⟩:=h;exact⟨rfl,rfl⟩
  | op e=>
   simp only[Av,AU]at h;have ⟨i,_,h⟩:=h;by_cases r:len<=i.cap e off/\i.cap e off<=9223372036854775807
   ·rw[if_pos r]at h;cases h;exact⟨rfl,rfl⟩
   ·rw[if_neg r]at h;cases h
 | sle b off k e=>
  simp only[Av,AU]at h;have ⟨i,_,h⟩:=h;by_cases r:k<=i.cap e off
  ·rw[if_pos r]at h;cases h;exact⟨rfl,rfl⟩
  ·rw[if_neg r]at h;cases h
 | ifc t v=>
  simp only[Av]at h;cases u:Av R v<;>simp only[u]at h
  ·cases h
  ·cases h;exact⟨rfl,rfl⟩
 | fn f x y=>
  simp only[Av]at h;cases u:BF R x<;>simp only[u]at h
  ·cases h
  ·cases J:BF R y<;>simp only[J]at h
   ·cases h
   ·cases h;exact⟨rfl,rfl⟩
theorem IF{R}{v:V}{a:Value}(h:Av R v=some a):BF R v.cells=some a.cells.toList:=by
 cases v with
 | i5=>cases h | agg l=>obtain⟨x,f,rfl⟩:=IG h;simpa[V.cells,Value.cells]using f | B l=>
  obtain⟨x,f,rfl⟩:=Xm h;exact Bl.2 ⟨_,[],h,rfl,rfl⟩
 | _=>
  rw[(Xn rfl h).1];exact Bl.2 ⟨a,[],h,rfl,rfl⟩
inductive G5 where
 | cells (l:List V)
 | map (l:List (V × V))
 | siter (s:List UInt8) (pos:Nat)
 | unit (t:TypeId)
 deriving Inhabited
def look{α:Type}:List (Nat × α)->Nat->Option α
 | [],_=>none
 | (k,b)::l,id=>if Ar k id then some b else look l id
def LO{α:Type}:List (Nat × α)->Nat->α->List (Nat × α)
 | [],_,_=>[]
 | (k,b)::l,id,c=>if Ar k id then(k,c)::l else(k,b)::LO l id c
def drop{α:Type}:List (Nat × α)->Nat->List (Nat × α)
 | [],_=>[]
 | (k,b)::l,id=>if Ar k id then drop l id else(k,b)::drop l id
theorem Hu{α} l id e (c:α):look (LO l id c) e=if id=e then(look l e).map (λ_=>c)else look l e:=by
 induction l with
 | nil=>simp[LO,look] | cons p l n=>
  have ⟨k,b⟩:=p;by_cases h:k=id
  ·subst h
   by_cases i:k=e
   ·simp[LO,look,i]
   ·simp[LO,look,i]
  ·simp only[LO,look,AW,h,if_false,n]
   by_cases i:k=e
   ·subst i;simp[Ne.symm h]
   ·simp[i]
theorem NT{α}(l:List (Nat × α)) id d:look (drop l id) d=if id=d then none else look l d:=by
 induction l with
 | nil=>simp[drop,look] | cons p l j=>
  have ⟨k,b⟩:=p;by_cases h:k=id
  ·subst h
   simp only[drop,AW,if_true,j,look];by_cases i:k=d<;>simp[i]
  ·simp only[drop,look,AW,h,if_false,j]
   by_cases i:k=d
   ·subst i;simp[Ne.symm h]
   ·simp[i]
abbrev EB:=List (Nat × G5)
structure H where
 j:Nat
 F:EB
 deriving Inhabited
def H.add(U:H)(b:G5):H:=⟨U.j+1,(U.j,b)::U.F⟩
def H.set(U:H)(id:Nat)(b:G5):H:=⟨U.j,LO U.F id b⟩
def H.del(U:H)(id:Nat):H:=⟨U.j,drop U.F id⟩
def II(R:DN)(s:Nat)(l:List V)(b:Array Value):Prop:=
 ∀k v,l[k]? = some v->∃a,Av R v=some a/\a.oneCell'=true/\b[s+k]? = some a
theorem II.mono{R d s l b}(h:II R s l b)(c:Le R d):II d s l b:=λk v e=>
 let ⟨a,g,h1,f⟩:=h k v e;⟨a,DA c v a g,h1,f⟩
def DV(R:DN):List (V × V)->List MapEntry->Prop
 | [],[]=>True
 | (k,v)::l,e::a=>Av R k=some e.key/\Av R v=some e.val/\DV R l a
 | _,_=>False
theorem DV.mono{R c}(a:Le R c):∀{l b},DV R l b->DV c l b
 | [],[],_=>trivial | (_,_)::_,_::_,⟨h1,e,d⟩=>⟨DA a _ _ h1,DA a _ _ e,DV.mono a d⟩ | [],_::_,h=>h.elim | _::_,[],h=>h.elim
def Ff(R:DN)(i:BI)(b:G5)(w:World):Prop:=
 match b with
 | .cells l=>∃a f lo d,w.heap[i.i2]? = some (.cells a f (lo,d))/\II R i.shift l a/\i.shift+i.endc<=a.size/\l.length<=i.endc /\
   (∀off,off<a.size->¬(lo<=off/\off<d))
 | .map l=>∃e c,w.heap[i.i2]? = some (.map e c)/\DV R l e.toList
 | .siter s p=>w.heap[i.i2]? = some (.stringIter ⟨s.toArray⟩ p)
 | .unit t=>∃g,w.heap[i.i2]? = some (.cells #[] t g)
def JS(R:DN)(i:BI)(b:G5)(w:World):Prop:=
 match b with
 | .cells l=>∃a d c,w.heap[i.i2]? = some (.cells a d c)/\II R i.shift l a
 | _=>False
theorem Ff.mono{R o}{i:BI}{b}{w w':World}(h:Ff R i b w)(d:Le R o)(e:w'.heap[i.i2]? = w.heap[i.i2]?):Ff o i b w':=by
 cases b with
 | cells l=>
  have ⟨m,r,lo,y,h1,j,u,z,q⟩:=h;exact⟨m,r,lo,y,e.trans h1,j.mono d,u,z,q⟩
 | map l=>
  have ⟨A,c,h1,j⟩:=h;exact⟨A,c,e.trans h1,j.mono d⟩
 | siter s p=>exact e.trans h | unit t=>have ⟨x,h1⟩:=h;exact⟨x,e.trans h1⟩
theorem JS.mono{R g}{i:BI}{b}{w w':World}(h:JS R i b w)(d:Le R g)(j:w'.heap[i.i2]? = w.heap[i.i2]?):JS g i b w':=by
 cases b with
 | cells l=>
  have ⟨e,k,m,h1,n⟩:=h;exact⟨e,k,m,j.trans h1,n.mono d⟩
 | _=>exact h.elim
theorem Ff.lt{R}{i:BI}{b}{w:World}(h:Ff R i b w):i.i2<w.heap.size:=by
 have:∃o,w.heap[i.i2]? = some o:=by
  cases b with
  | cells l=>have ⟨q,v,lo,x,h1,_⟩:=h;exact⟨_,h1⟩ | map l=>have ⟨r,c,h1,_⟩:=h;exact⟨_,h1⟩ | siter s p=>exact⟨_,h⟩ | unit t=>have ⟨u,h1⟩:=h;exact⟨_,h1⟩
 have ⟨o,m⟩:=this;rcases A2 i.i2 w.heap.size with h|h
 ·exact h
 ·simp[CR h]at m
structure Cx where
 O:Nat->Prop
 w0:World
 E:EB
 G:Nat->Bool
structure EN(C:Cx)(R:DN)(U:H)(w:World):Prop where
 kw:∀id,U.j<=id->R id=none
 own:∀id b,look U.F id=some b->∃i,R id=some i/\C.O i.i2/\Ff R i b w
 inj:∀id id' b b' i i',look U.F id=some b->look U.F id'=some b'->R id=some i->R id'=some i'->i.i2=i'.i2->id=id'
 ext:∀id b,look C.E id=some b->∃i,R id=some i/\¬C.O i.i2/\JS R i b w
 glob:∀g,C.G g=true->∃i,R g=some i/\i.i2=g/\i.shift=0
 Z:∀i2,¬C.O i2->w.heap[i2]? = C.w0.heap[i2]?
 size:C.w0.heap.size<=w.heap.size
 new:∀i2,C.w0.heap.size<=i2->C.O i2
 os:w.os=C.w0.os
 tape:w.tape=C.w0.tape
 output:w.output=C.w0.output
def HU(n:Nat)(R a:DN):Prop:=∀id,id<n->a id=R id
theorem HU.refl n R:HU n R R:=λ_ _=>rfl
theorem HU.trans{n m R S T}(h:HU n R S)(k:HU m S T)(c:n<=m):HU n R T:=λid b=>(k id (by omega)).trans (h id b)
theorem HU.le{n R f}(h:HU n R f)(g:∀id,n<=id->R id=none):Le R f:=λid i d=>by
 rcases A2 id n with e|e
 ·rw[h id e];exact d
 ·rw[g id e]at d;cases d
def I1(R:DN)(id:Nat)(i:BI):DN:=λk=>if k=id then some i else R k
theorem CZ R id i:I1 R id i id=some i:=by simp[I1]
theorem Bw{R id k i}(h:k≠id):I1 R id i k=R k:=by simp[I1,h]
theorem FX R n i:HU n R (I1 R n i):=λid b=>Bw (by omega)
theorem EN.next_of_own{C R}{U:H}{w}(h:EN C R U w){id b}(g:look U.F id=some b):id<U.j:=by
 rcases A2 id U.j with c|c
 ·exact c
 ·have ⟨i,f,_⟩:=h.own id b g
  rw[h.kw id c]at f;cases f
theorem EN.drawn{C R U w}(h:EN C R U w) d:EN C R U { w with drawn:=d }:=
 ⟨h.kw,h.own,h.inj,h.ext,h.glob,h.Z,h.size,h.new,h.os,h.tape,h.output⟩
structure Fi(w w':World):Prop where
 old:∀k,k<w.heap.size->w'.heap[k]? = w.heap[k]?
 size:w'.heap.size=w.heap.size+1
 os:w'.os=w.os
 tape:w'.tape=w.tape
 output:w'.output=w.output
theorem Fi.of_alloc(w:World) o:Fi w (w.alloc o):=
 ⟨λk b=>by show (w.heap.push o)[k]? = _;rw[Array.getElem?_push,if_neg (by omega)],World.size_alloc w o,rfl,rfl,rfl⟩
theorem EN.alloc{C:Cx}{R}{U:H}{w w':World}(h:EN C R U w)(J:Fi w w') b (i:BI)(S:i.i2=w.heap.size)
  (O:Ff (I1 R U.j i) i b w'):EN C (I1 R U.j i) (U.add b) w':=by
 have B:=(FX R U.j i).le h.kw;have y:=J.old;have T:=h.new _ h.size;refine⟨?_,?_,?_,?_,?_,?_,?_,h.new,J.os.trans h.os,J.tape.trans h.tape,J.output.trans h.output⟩
 ·intro id M
  have P:U.j+1<=id:=M;rw[Bw (by omega)];exact h.kw id (by omega)
 ·intro id c v
  by_cases A:id=U.j
  ·subst A
   simp only[H.add,look,AW,if_true,AY.injEq]at v;subst v;exact⟨i,CZ _ _ _,S ▸ T,O⟩
  ·simp only[H.add,look,AW,Ne.symm A,]at v
   have ⟨j,t,L,l⟩:=h.own id c v;exact⟨j,by rw[Bw A];exact t,L,l.mono B (y _ l.lt)⟩
 ·intro id D c Q j X v F t m K
  by_cases A:id=U.j
  ·by_cases o:D=U.j
   ·rw[A,o]
   ·exfalso
    subst A;rw[CZ]at t;cases t;simp only[H.add,look,AW,Ne.symm o,if_false]at F;rw[Bw o]at m;have ⟨k,N,_,l⟩:=h.own D Q F;rw[N]at m;cases m;have:=l.lt;omega
  ·by_cases o:D=U.j
   ·exfalso
    subst o;rw[CZ]at m;cases m;simp only[H.add,look,AW,Ne.symm A,if_false]at v;rw[Bw A]at t;have ⟨k,N,_,l⟩:=h.own id c v;rw[N]at t;cases t;have:=l.lt;omega
   ·simp only[H.add,look,AW,Ne.symm A,Ne.symm o,if_false]at v F
    rw[Bw A]at t;rw[Bw o]at m;exact h.inj id D c Q j X v F t m K
 ·intro id c v
  have ⟨j,t,z,l⟩:=h.ext id c v;refine⟨j,B _ _ t,z,l.mono B (y _ ?_)⟩;rcases A2 j.i2 w.heap.size with G|G
  ·exact G
  ·exact absurd (h.new _ (BE h.size G)) z
 ·intro g W
  have ⟨j,t,O⟩:=h.glob g W;exact⟨j,B _ _ t,O⟩
 ·intro I z
  rw[<-h.Z I z];refine y _ ?_;rcases A2 I w.heap.size with G|G
  ·exact G
  ·exact absurd (h.new _ (BE h.size G)) z
 ·rw[J.size];have:=h.size;omega
theorem EN.write{C:Cx}{R}{U:H}{w w':World}(h:EN C R U w){id b c}{i:BI}(K:look U.F id=some b)(L:R id=some i)
  (W:Ff R i c w') (p:∀k,k≠i.i2->w'.heap[k]? = w.heap[k]?) (F:w'.heap.size=w.heap.size)
  (J:w'.os=w.os) (y:w'.tape=w.tape) (B:w'.output=w.output):EN C R (U.set id c) w':=by
 have r:∀k,look (U.set id c).F k=if id=k then(look U.F k).map (λ_=>c)else look U.F k:=λk=>Hu U.F id k c;have x:C.O i.i2:=by have ⟨j,t,N,_⟩:=h.own id b K;rw[L]at t;cases t;exact N
 refine⟨h.kw,?_,?_,?_,h.glob,?_,?_,h.new,J.trans h.os,y.trans h.tape,B.trans h.output⟩
 ·intro k d q
  rw[r]at q;by_cases z:id=k
  ·subst z
   rw[if_pos rfl,K]at q;cases q;exact⟨i,L,x,W⟩
  ·rw[if_neg z]at q
   have ⟨j,t,N,v⟩:=h.own k d q;refine⟨j,t,N,v.mono (Le.refl _) (p _ λg=>z (h.inj id k b d i j K q L t g.symm))⟩
 ·intro k P d S j Y q D t G g
  rw[r]at q D;have Q:∀m e,(if id=m then(look U.F m).map (λ_=>c)else look U.F m)=some e->∃f,look U.F m=some f:=λm e E=>by
   by_cases z:id=m
   ·rw[if_pos z]at E
    cases X:look U.F m with
    | none=>rw[X]at E;cases E | some f=>exact⟨f,rfl⟩
   ·rw[if_neg z]at E;exact⟨e,E⟩
  have ⟨f,T⟩:=Q k d q;have ⟨Z,M⟩:=Q P S D;exact h.inj k P f Z j Y T M t G g
 ·intro k d q
  have ⟨j,t,A,v⟩:=h.ext k d q;exact⟨j,t,A,v.mono (Le.refl _) (p _ λg=>A (g ▸ x))⟩
 ·intro I A
  rw[<-h.Z I A];exact p _ λg=>A (g ▸ x)
 ·rw[F];exact h.size
theorem EN.del{C R}{U:H}{w}(h:EN C R U w) id:EN C R (U.del id) w:=by
 have b:∀k,look (U.del id).F k=if id=k then none else look U.F k:=λk=>NT U.F id k;have j:∀k c,look (U.del id).F k=some c->look U.F k=some c:=λk c a=>by
  rw[b]at a;by_cases m:id=k
  ·rw[if_pos m]at a;cases a
  ·rwa [if_neg m]at a
 exact⟨h.kw,λk c a=>h.own k c (j k c a),λk l c n i o a f=>h.inj k l c n i o (j k c a) (j l n f),h.ext,h.glob,h.Z,h.size,h.new,h.os,h.tape,h.output⟩
theorem EN.rename{C:Cx}{R}{U:H}{w w':World}(h:EN C R U w){id b c}{i:BI}(K:look U.F id=some b)(S:R id=some i)
  (hc:Ff (I1 R U.j i) i c w') (u:∀k,k≠i.i2->w'.heap[k]? = w.heap[k]?) (W:w'.heap.size=w.heap.size)
  (Z:w'.os=w.os) (D:w'.tape=w.tape) (P:w'.output=w.output):EN C (I1 R U.j i) ((U.del id).add c) w':=by
 have A:=(FX R U.j i).le h.kw;have I:C.O i.i2:=by have ⟨j,n,hO,_⟩:=h.own id b K;rw[S]at n;cases n;exact hO
 have F:∀k,look (U.del id).F k=if id=k then none else look U.F k:=λk=>NT U.F id k;have M:∀k d,k≠U.j->look ((U.del id).add c).F k=some d->id≠k/\look U.F k=some d:=λk d X y=>by
  simp only[H.add,H.del,look,AW,Ne.symm X,]at y;have l:look (U.del id).F k=some d:=y;rw[F]at l;by_cases s:id=k
  ·rw[if_pos s]at l;cases l
  ·rw[if_neg s]at l;exact⟨s,l⟩
 refine⟨?_,?_,?_,?_,?_,?_,?_,h.new,Z.trans h.os,D.trans h.tape,P.trans h.output⟩
 ·intro k X
  have aa:U.j+1<=k:=X;rw[Bw (by omega)];exact h.kw k (by omega)
 ·intro k d y
  by_cases s:k=U.j
  ·subst s
   simp only[H.add,H.del,look,AW,if_true,AY.injEq]at y;subst y;exact⟨i,CZ _ _ _,I,hc⟩
  ·have ⟨z,l⟩:=M k d s y
   have ⟨j,n,hO,E⟩:=h.own k d l;refine⟨j,A _ _ n,hO,E.mono A (u _ λm=>z (h.inj id k b d i j K l S n m.symm))⟩
 ·intro k J d T j j' y l n t m
  by_cases s:k=U.j
  ·by_cases q:J=U.j
   ·rw[s,q]
   ·exfalso
    subst s;rw[CZ]at n;cases n;have ⟨z,v⟩:=M J T q l;rw[Bw q]at t;exact z (h.inj id J b T _ j' K v S t m)
  ·by_cases q:J=U.j
   ·exfalso
    subst q;rw[CZ]at t;cases t;have ⟨z,v⟩:=M k d s y;rw[Bw s]at n;exact z (h.inj id k b d _ j K v S n m.symm)
   ·have ⟨_,v⟩:=M k d s y
    have ⟨_,N⟩:=M J T q l;rw[Bw s]at n;rw[Bw q]at t;exact h.inj k J d T j j' v N n t m
 ·intro k d y
  have ⟨j,n,Q,E⟩:=h.ext k d y;exact⟨j,A _ _ n,Q,E.mono A (u _ λm=>Q (m ▸ I))⟩
 ·intro g hg
  have ⟨j,n,K⟩:=h.glob g hg;exact⟨j,A _ _ n,K⟩
 ·intro Y Q
  rw[<-h.Z Y Q];exact u _ λm=>Q (m ▸ I)
 ·rw[W];exact h.size
def rd(E:EB)(U:H)(id:Nat):Option (List V):=
 match look U.F id with
 | some (.cells l)=>some l
 | some _=>none
 | none=>match look E id with
  | some (.cells l)=>some l
  | _=>none
theorem EN.read{C:Cx}{R}{U:H}{w:World}(h:EN C R U w){id l}(c:rd C.E U id=some l):
  ∃i d k y,R id=some i/\w.heap[i.i2]? = some (.cells d k y)/\II R i.shift l d:=by
 unfold rd at c;cases v:look U.F id with
 | some b=>
  rw[v]at c;have ⟨i,r,_,j⟩:=h.own id b v;cases b with
  | cells m=>cases c;have ⟨d,k,lo,A,h1,q,_⟩:=j;exact⟨i,d,k,_,r,h1,q⟩ | map m=>cases c | siter s p=>cases c | unit t=>cases c
 | none=>
  rw[v]at c;cases x:look C.E id with
  | none=>rw[x]at c;cases c | some b=>
   rw[x]at c;have ⟨i,r,_,j⟩:=h.ext id b x;cases b with
   | cells m=>cases c;have ⟨d,k,y,h1,q⟩:=j;exact⟨i,d,k,y,r,h1,q⟩ | map m=>cases c | siter s p=>cases c | unit t=>cases c
inductive AO where
 | tmp (i:Nat)
 | T (v:V)
 deriving Inhabited
inductive FK where
 | int | bool | N
 deriving DecidableEq,Inhabited
inductive Gf where
 | bool | o | slice | map | func
 | iface (lit:Bool)
 | pm (l:List (Nat × FK))
 | none
 deriving DecidableEq,Inhabited
inductive ARs where
 | jp (k:IntKind)
 | same
 | toBytes (el:TypeId)
 | toStr
 | pu
 deriving DecidableEq,Inhabited
inductive Ek where
 | L (x:AO)
 | pick (c a b:AO)
 | alloc (el:TypeId) (z:List V)
 | box (el:TypeId) (x:AO)
 | build (z:List V) (KF:List (Nat × Nat × AO))
 | buildSlice (el:TypeId) (n:Nat) (z:List V) (KF:List (Nat × Nat × AO))
 | load (n:Option Nat) (x:AO)
 | store (n:Nat) (x v:AO)
 | rg (x:AO)
 | pp (op:BinOp) (t:Gf) (x y:AO)
 | un (op:UnOp) (x:AO)
 | i7 (t:ARs) (x:AO)
 | mkifc (t:TypeId) (x:AO)
 | mkfn (f:FuncId) (first captured:List AO)
 | mkslice (el:TypeId) (esz bytes:Nat) (z:List V) (len cap:AO)
 | sliceStr (x:AO) (lo hi:Option AO)
 | sliceSl (esz:Nat) (x:AO) (lo hi mx:Option AO)
 | sliceArr (n esz:Nat) (x:AO) (lo hi mx:Option AO)
 | C (off:Nat) (x:AO)
 | field (off:Nat) (n:Option Nat) (x:AO)
 | qr (esz:Nat) (x i:AO)
 | iaddrA (n esz:Nat) (x i:AO)
 | idxStr (x i:AO)
 | extract (i:Nat) (x:AO)
 | len (str:Bool) (x:AO)
 | lenC (n:Nat)
 | cap (x:AO)
 | append (el:TypeId) (esz bytes:Nat) (s x:AO)
 | copy (esz:Nat) (d s:AO)
 | min (x:AO) (l:List AO)
 | max (x:AO) (l:List AO)
 | call (f:FuncId) (args:List AO)
 | callv (f:AO) (args:List AO)
 | mkmap
 | lookup (t:Gf) (z:V) (m x:AO)
 | mapset (t:Gf) (m k v:AO)
 | alloc0 (el:TypeId)
 | box0 (el:TypeId) (x:AO)
 | load0 (x:AO)
 | store0 (x v:AO)
 | faddr0 (t:TypeId) (x:AO)
 | idxArr (n esz:Nat) (s:Option Nat) (x i:AO)
 | pu
 deriving Inhabited
structure BO where
 dst:Option Nat
 op:Ek
 guard:Option (Nat × Bool)
 deriving Inhabited
structure DP where
 wt:Nat
 looks:List Nat
 deriving Inhabited
inductive AC where
 | skip
 | region (ops:List BO)
 | us (ops:List BO) (plan:List DP)
 | seq (a b:AC)
 | cond (c:AO) (a b:AC)
 | block (id:Nat) (c:AC)
 | loop (c:AC)
 | exit (id:Nat)
 | ret
 | Q (ts:List Nat) (c:AC)
 | pu
 deriving Inhabited
inductive AR where
 | tmp (t:Nat)
 | cell (t:Nat) (n:Option Nat)
 deriving Inhabited
structure nN where
 ntmps:Nat
 results:List AR
 frees:List Nat
 body:AC
 deriving Inhabited
abbrev CF:=List (Nat × V)
def Gu(e:CF)(t:Nat):V:=
 match look e t with
 | some v=>v
 | none => .i5
def Ca(e:CF):AO->V
 | .tmp i=>Gu e i
 | .T v=>v
def GM(e:CF)(l:List AO):List V:=l.map (Ca e)
def D6(e:CF):Option AO->Option V
 | some x=>some (Ca e x)
 | none=>none
def V.J:V->Bool
 | .i5=>false
 | _=>true
def FW:List V->Nat->List V->List V
 | l,_,[]=>l
 | [],_,_::_=>[]
 | _::l,0,c::b=>c::FW l 0 b
 | a::l,n+1,c::b=>a::FW l n (c::b)
def GK:List (Nat × Nat × V)->List V->Option (List V)
 | [],z=>some z
 | (off,a,v)::r,z=>
  if v.J&&Ar v.cells.length a&&Am (off+a) z.length then GK r (FW z off v.cells)else none
def KF(e:CF)(l:List (Nat × Nat × AO)):List (Nat × Nat × V):=l.map λ(o,s,x)=>(o,s,Ca e x)
def BH:List V->Bool
 | []=>true
 | v::l=>v.S&&BH l
def bi(b:Bool):V := .bool b
def Zq(c:BinOp)(a b:Int):Option Bool:=
 match c with
 | .eql=>some (a==b)
 | .neq=>some (a != b)
 | .lss=>some (decide (a<b))
 | .leq=>some (decide (a<=b))
 | .gtr=>some (decide (a > b))
 | .geq=>some (decide (a ≥ b))
 | _=>none
def rU(c:BinOp)(k:IntKind)(a b:Int):Option Int:=
 match c with
 | .add=>some (k.wrap (a+b))
 | .sub=>some (k.wrap (a-b))
 | .mul=>some (k.wrap (a*b))
 | .quo=>if b=0 then none else some (k.wrap (a.tdiv b))
 | .rem=>if b=0 then none else some (a.tmod b)
 | .and=>some (k.wrap (BY k.bits a &&& BY k.bits b).toNat)
 | .or=>some (k.wrap (BY k.bits a ||| BY k.bits b).toNat)
 | .xor=>some (k.wrap (BY k.bits a ^^^ BY k.bits b).toNat)
 | .andNot=>some (k.wrap (BY k.bits a &&& ~~~BY k.bits b).toNat)
 | _=>none
def Pu(c:BinOp)(k:IntKind)(a b:Int):Option Int:=
 if b<0 then none else
 match c with
 | .shl=>some (k.wrap (a*2 ^ (Ga b.toNat k.bits)))
 | .shr=>some (a.fdiv (2 ^ (Ga b.toNat k.bits)))
 | _=>none
def pB(c:BinOp)(a b:BS):Option V:=
 match c with
 | .add=>match Am (AM a.len b.len) 1000000000000 with
  | true=>some (.N (a.cat b))
  | false=>none
 | .eql=>some (.bool (a.beq b))
 | .neq=>some (.bool (not (a.beq b)))
 | .lss=>some (.bool (Op.bytesLess a.toList b.toList))
 | .leq=>some (.bool (Op.bytesLess a.toList b.toList || a.beq b))
 | .gtr=>some (.bool (not (Op.bytesLess a.toList b.toList || a.beq b)))
 | .geq=>some (.bool (not (Op.bytesLess a.toList b.toList)))
 | _=>none
def B8(a b:Int):Bool:=match a,b with
 | .ofNat m,.ofNat n=>Ar m n
 | .negSucc m,.negSucc n=>Ar m n
 | _,_=>false
theorem NX a b:B8 a b=(a==b):=by
 cases a<;>cases b<;>simp only[B8]<;>(rw[xd];simp[AW])<;>omega
def L9:FK->V->V->Option Bool
 | .int,.int k a,.int c b=>if k=c then some (B8 a b)else none
 | .bool,.bool a,.bool b=>some (a==b)
 | .N,.N a,.N b=>some (a.beq b)
 | _,_,_=>none
def Jo:List V->Nat->V
 | [],_ => .i5
 | v::_,0=>v
 | _::l,n+1=>Jo l n
def HQ:List (Nat × FK)->List V->List V->Option Bool
 | [],_,_=>some true
 | (o,k)::r,xs,c=>match L9 k (Jo xs o) (Jo c o)with
  | some a=>match HQ r xs c with
   | some b=>some (a&&b)
   | none=>none
  | none=>none
def eqM:Gf->V->V->Option Bool
 | .pm l,.agg xs,.agg a=>HQ l xs a
 | _,_,_=>none
def Sj(t:Gf)(x:V):Bool:=match eqM t x x with
 | some _=>true
 | none=>false
def So(t:Gf)(k:V):List (V × V)->Option (Option V)
 | []=>some none
 | (q,v)::l=>match eqM t k q with
  | some true=>some (some v)
  | some false=>So t k l
  | none=>none
def KQ:Gf->V->V->Option Bool
 | .pm l,.agg xs,.agg c=>HQ l xs c
 | .bool,.bool a,.bool b=>some (a==b)
 | .o,.nilp,.nilp=>some true
 | .o,.nilp,.o _ _=>some false
 | .o,.o _ _,.nilp=>some false
 | .slice,.h,.h=>some true
 | .slice,.h,.D _ _ _ _=>some false
 | .slice,.D _ _ _ _,.h=>some false
 | .slice,.h,.sle _ _ _ _=>some false
 | .slice,.sle _ _ _ _,.h=>some false
 | .map,.nilm,.nilm=>some true
 | .map,.nilm,.mp _=>some false
 | .map,.mp _,.nilm=>some false
 | .func,.nilf,.nilf=>some true
 | .func,.nilf,.fn _ _ _=>some false
 | .func,.fn _ _ _,.nilf=>some false
 | .iface true,.nili,.nili=>some true
 | .iface _,.nili,.ifc _ _=>some false
 | .iface _,.ifc _ _,.nili=>some false
 | _,_,_=>none
def HR(c:BinOp)(t:Gf)(x y:V):Option V:=
 match x,y with
 | .int k a,.int d b=>
  match c with
  | .shl | .shr=>(Pu c k a b).map (.int k)
  | .add | .sub | .mul | .quo | .rem | .and | .or | .xor | .andNot=>if k=d then(rU c k a b).map (.int k)else none
  | _=>if k=d then(Zq c a b).map .bool else none
 | .N a,.N b=>pB c a b
 | x,y=>
  match c with
  | .eql=>(KQ t x y).map .bool
  | .neq=>(KQ t x y).map λb => .bool !b
  | _=>none
def unV(a:UnOp)(x:V):Option V:=
 match a,x with
 | .neg,.int k n=>some (.int k (k.wrap (0-n)))
 | .xor,.int k n=>some (.int k (k.wrap (BY k.bits (if k.signed then -1 else k.max) ^^^ BY k.bits n).toNat))
 | .not,.bool b=>some (.bool !b)
 | _,_=>none
def lK(l:List UInt8):List V:=l.map λb => .int .u8 b.toNat
def Fv:List V->Option (List UInt8)
 | []=>some []
 | .int .u8 n::l=>(Fv l).map (UInt8.ofNat n.toNat::·)
 | _=>none
def P0(E:EB)(U:H)(b off n:Nat):Option (List V):=
 match rd E U b with
 | some l=>if Am (off+n) l.length then some ((l.drop off).take n)else none
 | none=>none
def V.isStr:V->Bool
 | .N _=>true
 | _=>false
def C4(E:EB)(U:H)(a:Nat):V->Option (Nat × List V)
 | .h=>some (0,[])
 | .sle _ _ _ _=>some (0,[])
 | .D b off len _=>(P0 E U b off (len*a)).map λl=>(len,l)
 | .N l=>if a=1 then some (l.len,lK l.toList)else none
 | _=>none
def Bu(a bytes:Nat):Bool:=Am (a*bytes) 140737488355328&&Am a 9223372036854775807
def Eo(E:EB)(a bytes:Nat)(s x:V)(U:H):Option (V × H):=
 match C4 E U a x with
 | none=>none
 | some (n,d)=>
  match s with
  | .h=>
   if n=0 then some (.h,U)
   else if Bu n bytes then some (.D U.j 0 n (.op a),U.add (.cells d))else none
  | .D b off len (.ex c)=>
   if Am (len+n) c then
    if n=0 then some (s,U)else
    match look U.F b with
    | some (.cells l)=>if Am (off+(len+n)*a) l.length&&BH d then some (.D b off (len+n) (.ex c),U.set b (.cells (FW l (off+len*a) d)))else none
    | _=>none
   else if Bu (len+n) bytes then
    match P0 E U b off (len*a)with
    | some old=>some (.D U.j 0 (len+n) (.op a),U.add (.cells (old++d)))
    | none=>none
   else none
  | .D b 0 len (.op e)=>
   if n=0 then some (s,U)else
   match look U.F b with
   | some (.cells l)=>
    if Ar l.length (len*a)&&Ar e a&&Bu (len+n) bytes&&BH d then some (.D U.j 0 (len+n) (.op a),(U.del b).add (.cells (l++d)))else none
   | _=>none
  | .D _ _ _ (.op _)=>if n=0 then some (s,U)else none
  | _=>none
def GX:Option V->Nat->Option Nat
 | none,d=>some d
 | some (.int _ n),_=>if 0<=n then some n.toNat else none
 | _,_=>none
def CT(a:Nat)(x:V)(lo d mx:Option V):Option V:=
 match x with
 | .h=>
  match GX mx 0 with
  | none=>none
  | some m=>match GX d 0 with
   | none=>none
   | some h=>match GX lo 0 with
    | none=>none
    | some l=>if Am l h&&Am h m&&Ar m 0 then some .h else none
 | .D b off len (.ex c)=>
  match GX mx c with
  | none=>none
  | some m=>match GX d len with
   | none=>none
   | some h=>match GX lo 0 with
    | none=>none
    | some l=>if Am l h&&Am h m&&(mx.isNone || Am m c)then some (.D b (if Ar m l then off else off+l*a) (h-l) (.ex (m-l)))else none
 | .D b off len (.op e)=>
  match GX d len with
  | none=>none
  | some h=>match GX lo 0 with
   | none=>none
   | some l=>
    match mx with
    | none=>
     if Am l h&&Am h len&&Ar e a then
      if Ar l len then(if Ar l 0 then some x else some (.sle b off l e))else some (.D b (off+l*a) (h-l) (.op e))
     else none
    | some v=>match GX (some v) 0 with
     | none=>none
     | some m=>if Am l h&&Am h m&&Am m len then some (.D b (if Ar m l then off else off+l*a) (h-l) (.ex (m-l)))else none
 | .sle _ _ _ _=>
  match GX d 0 with
  | none=>none
  | some h=>match GX lo 0 with
   | none=>none
   | some l=>match mx with
    | none=>if Ar h 0&&Ar l 0 then some x else none
    | some _=>none
 | _=>none
def I7(n a:Nat)(x:V)(lo c mx:Option V):Option V:=
 match x with
 | .o b off=>
  match GX mx n with
  | none=>none
  | some m=>match GX c n with
   | none=>none
   | some h=>match GX lo 0 with
    | none=>none
    | some l=>if Am l h&&Am h m&&Am m n then some (.D b (if Ar m l then off else off+l*a) (h-l) (.ex (m-l)))else none
 | _=>none
def I6(x:V)(lo a:Option V):Option V:=
 match x with
 | .N s=>
  match GX a s.len with
  | none=>none
  | some h=>match GX lo 0 with
   | none=>none
   | some l=>if Am l h&&Am h s.len then some (.N (s.sub l h))else none
 | _=>none
def XR:V->List V->Option V
 | x,[]=>some x
 | .int k a,.int c b::l=>if k=c then XR (.int k (if b<a then b else a)) l else none
 | _,_::_=>none
def XS:V->List V->Option V
 | x,[]=>some x
 | .int k a,.int c b::l=>if k=c then XS (.int k (if b > a then b else a)) l else none
 | _,_::_=>none
def L7(l:List V)(off:Nat):Option Nat->Option V
 | none=>l[off]?
 | some n=>if Am (off+n) l.length then some (.agg ((l.drop off).take n))else none
def Bb(o:Ek)(e:CF):Option V:=
 match o with
 | .L x=>let v:=Ca e x;if v.J then some v else none
 | .pick c a b=>
  match Ca e c with
  | .bool true=>let v:=Ca e a;if v.J then some v else none
  | .bool false=>let v:=Ca e b;if v.J then some v else none
  | _=>none
 | .build z j=>match GK (KF e j) z with
  | some l=>some (.agg l)
  | none=>none
 | .rg x=>match Ca e x with
  | .o b off=>some (.o b off)
  | _=>none
 | .pp h t x y=>HR h t (Ca e x) (Ca e y)
 | .un h x=>unV h (Ca e x)
 | .i7 (.jp k) x=>match Ca e x with
  | .int _ n=>some (.int k (k.wrap n))
  | _=>none
 | .i7 .same x=>match Ca e x with
  | .N l=>some (.N l)
  | _=>none
 | .mkifc t x=>let v:=Ca e x;if v.J then some (.ifc t v)else none
 | .mkfn f a c=>if(GM e a).all V.J&&(GM e c).all V.J then some (.fn f (GM e a) (GM e c))else none
 | .sliceStr x lo g=>I6 (Ca e x) (D6 e lo) (D6 e g)
 | .sliceSl d x lo g mx=>CT d (Ca e x) (D6 e lo) (D6 e g) (D6 e mx)
 | .sliceArr n d x lo g mx=>I7 n d (Ca e x) (D6 e lo) (D6 e g) (D6 e mx)
 | .C off x=>match Ca e x with
  | .o b o=>some (.o b (o+off))
  | _=>none
 | .field off none x=>match Ca e x with
  | .agg l=>l[off]?
  | _=>none
 | .field off (some n) x=>match Ca e x with
  | .agg l=>if Am (off+n) l.length then some (.agg ((l.drop off).take n))else none
  | _=>none
 | .qr d x i=>match Ca e x,Ca e i with
  | .D b off len _,.int _ n=>if 0<=n/\n<len then some (.o b (off+n.toNat*d))else none
  | _,_=>none
 | .iaddrA len d x i=>match Ca e x,Ca e i with
  | .o b off,.int _ n=>if 0<=n/\n<len then some (.o b (off+n.toNat*d))else none
  | _,_=>none
 | .idxStr x i=>match Ca e x,Ca e i with
  | .N s,.int _ n=>if 0<=n then(if B9 n.toNat s.len then some (.int .u8 (s.get n.toNat))else none)else none
  | _,_=>none
 | .extract i x=>match Ca e x with
  | .B l=>l[i]?
  | _=>none
 | .load0 x=>match Ca e x with
  | .o _ _=>some (.agg [])
  | _=>none
 | .idxArr len d s x i=>match Ca e x,Ca e i with
  | .agg l,.int _ n=>if 0<=n/\n<len then L7 l (n.toNat*d) s else none
  | _,_=>none
 | .len true x=>match Ca e x with
  | .N s=>some (.int .i64 s.len)
  | _=>none
 | .len false x=>match Ca e x with
  | .h=>some (.int .i64 0)
  | .D _ _ n _=>some (.int .i64 n)
  | .sle _ _ _ _=>some (.int .i64 0)
  | _=>none
 | .lenC n=>some (.int .i64 n)
 | .cap x=>match Ca e x with
  | .h=>some (.int .i64 0)
  | .D _ _ _ (.ex c)=>some (.int .i64 c)
  | _=>none
 | .min x l=>match XR (Ca e x) (GM e l)with
  | some (.int k n)=>some (.int k n)
  | _=>none
 | .max x l=>match XS (Ca e x) (GM e l)with
  | some (.int k n)=>some (.int k n)
  | _=>none
 | _=>none
def Mn(t:Gf)(z m x:V)(U:H):Option V:=match m with
 | .mp b=>match look U.F b with
  | some (.map l)=>if Sj t x then(match So t x l with
   | some (some v)=>some (.B [v,.bool true])
   | some none=>if z.J then some (.B [z,.bool false])else none
   | none=>none)else none
  | _=>none
 | _=>none
def UA(t:Gf)(m k v:V)(U:H):Option (V × H):=match m with
 | .mp b=>match look U.F b with
  | some (.map l)=>if Sj t k&&v.J then(match So t k l with
   | some none=>some (.i5,U.set b (.map (l++[(k,v)])))
   | _=>none)else none
  | _=>none
 | _=>none
def PI(t:TypeId)(x:V)(U:H):Option V:=match x with
 | .o b 0=>match look U.F b with
  | some (.unit t')=>if Ar t t' then some (.o b 0)else none
  | _=>none
 | _=>none
def Ct(E:EB)(o:Ek)(e:CF)(U:H):Option V:=
 match o with
 | .load none x=>match Ca e x with
  | .o b off=>match rd E U b with
   | some l=>l[off]?
   | none=>none
  | _=>none
 | .load (some n) x=>match Ca e x with
  | .o b off=>match P0 E U b off n with
   | some l=>some (.agg l)
   | none=>none
  | _=>none
 | .i7 .toStr x=>if(Ca e x).isStr then none else match C4 E U 1 (Ca e x)with
  | some (_,l)=>match Fv l with
   | some s=>some (.N (BS.ofList s))
   | none=>none
  | none=>none
 | .lookup t z m x=>Mn t z (Ca e m) (Ca e x) U
 | .faddr0 t x=>PI t (Ca e x) U
 | _=>none
def C1(o:Ek)(e:CF)(a:Nat):Option (V × G5):=
 match o with
 | .alloc _ z=>some (.o a 0,.cells z)
 | .box _ x=>let v:=Ca e x;if v.J&&BH v.cells then some (.o a 0,.cells v.cells)else none
 | .buildSlice _ n z d=>match GK (KF e d) z with
  | some l=>if BH l then some (.D a 0 n (.ex n),.cells l)else none
  | none=>none
 | .i7 (.toBytes _) x=>match Ca e x with
  | .N l=>if Am l.len 1000000000000 then some (.D a 0 l.len (.op 1),.cells (lK l.toList))else none
  | _=>none
 | .mkslice _ _ bytes z len cap=>match Ca e len,Ca e cap with
  | .int .i64 n,.int .i64 c=>
   if 0<=n/\n<=c/\c*bytes<=281474976710656/\c<=1000000000000 then some (.D a 0 n.toNat (.ex c.toNat),.cells (Bf c.toNat z).flatten)else none
  | _,_=>none
 | .mkmap=>some (.mp a,.map [])
 | .alloc0 b=>some (.o a 0,.unit b)
 | .box0 b x=>match Ca e x with
  | .agg []=>some (.o a 0,.unit b)
  | _=>none
 | _=>none
def FE(E:EB)(o:Ek)(e:CF)(U:H):Option (V × H):=
 match o with
 | .store n x v=>match Ca e x with
  | .o b off=>
   let f:=(Ca e v).cells
   match look U.F b with
   | some (.cells l)=>if Ar f.length n&&Am (off+n) l.length&&BH f then some (.i5,U.set b (.cells (FW l off f)))else none
   | _=>none
  | _=>none
 | .append _ a bytes s x=>Eo E a bytes (Ca e s) (Ca e x) U
 | .copy a d s=>match Ca e d,C4 E U a (Ca e s)with
  | .h,some (_,_)=>some (.int .i64 0,U)
  | .sle _ _ _ _,some (_,_)=>some (.int .i64 0,U)
  | .D b off len _,some (n,c)=>
   let m:=Ga n len
   if m=0 then some (.int .i64 0,U)else
   match look U.F b with
   | some (.cells l)=>if Am (off+m*a) l.length&&BH (c.take (m*a))then some (.int .i64 m,U.set b (.cells (FW l off (c.take (m*a)))))else none
   | _=>none
  | _,_=>none
 | .mapset t m k v=>UA t (Ca e m) (Ca e k) (Ca e v) U
 | .store0 x v=>match Ca e x,Ca e v with
  | .o _ _,.agg []=>some (.i5,U)
  | _,_=>none
 | _=>none
inductive Cls where
 | p | l | a | k
 deriving DecidableEq,Inhabited
def Ek.d8:Ek->Cls
 | .load _ _ | .i7 .toStr _ | .lookup _ _ _ _ | .faddr0 _ _ => .l
 | .alloc _ _ | .box _ _ | .buildSlice _ _ _ _ | .i7 (.toBytes _) _ | .mkslice _ _ _ _ _ _ | .mkmap | .alloc0 _ | .box0 _ _ => .a
 | .store _ _ _ | .append _ _ _ _ _ | .copy _ _ _ | .call _ _ | .callv _ _ | .mapset _ _ _ _ | .store0 _ _ => .k
 | _ => .p
def xj(E:EB)(o:Ek)(e:CF)(U:H):Option (V × H):=
 match o.d8 with
 | .p=>match Bb o e with
  | some v=>some (v,U)
  | none=>none
 | .l=>match Ct E o e U with
  | some v=>some (v,U)
  | none=>none
 | .a=>match C1 o e U.j with
  | some (v,b)=>some (v,U.add b)
  | none=>none
 | .k=>FE E o e U
abbrev Ac:=FuncId->List V->H->Option (V × H)
def DY(e:CF):Option Nat->V->CF
 | some d,v=>(d,v)::e
 | none,_=>e
def ES(E:EB)(D:Ac)(o:Ek)(e:CF)(U:H):Option (V × H):=
 match o with
 | .call f args=>if(GM e args).all V.J then D f (GM e args) U else none
 | .callv f args=>match Ca e f with
  | .fn g a cap=>if(GM e args).all V.J then D g (a++GM e args++cap) U else none
  | _=>none
 | o=>xj E o e U
def Er:V := .B []
def B0(e:CF):Option (Nat × Bool)->Option Bool
 | none=>some true
 | some (t,b)=>match Gu e t with
  | .bool c=>some (c==b)
  | .B []=>some false
  | _=>none
def Na(E:EB)(D:Ac):List BO->CF->H->Option (CF × H)
 | [],e,U=>some (e,U)
 | o::r,e,U=>
  match B0 e o.guard with
  | none=>none
  | some false=>Na E D r (DY e o.dst Er) U
  | some true=>match ES E D o.op e U with
   | none=>none
   | some (v,U')=>Na E D r (DY e o.dst v) U'
def Br:List Nat->Nat->Bool
 | [],_=>false
 | a::l,k=>Ar a k || Br l k
def restr:List Nat->CF->CF
 | [],_=>[]
 | t::l,e=>match look e t with
  | some v=>(t,v)::restr l e
  | none=>restr l e
def Ce(n0 n:Nat)(p:Nat->Bool):EB->EB
 | []=>[]
 | (id,b)::l=>if Am n0 id&&B9 id (n0+n) && !p (id-n0)then Ce n0 n p l else(id,b)::Ce n0 n p l
def FH(n0 n:Nat)(p:Nat->Bool):EB->EB
 | []=>[]
 | (id,b)::l=>if Am n0 id&&B9 id (n0+n) && !p (id-n0)then(id,b)::FH n0 n p l else FH n0 n p l
structure DS where
 e:CF
 nx:Nat
 ss:List (EB)
 ks:List Nat
 am:Nat
 ls:List (Nat × Ek × CF × V)
def Dw(a b:Nat)(k:Nat):Bool:=a.testBit k&&b.testBit k
def KR(E:EB)(D:Ac)(n0 n i:Nat)(o:BO)(p:DP)(s:DS):Option DS:=
 match B0 (restr p.looks s.e) o.guard with
 | none=>none
 | some false=>some { s with e:=DY s.e o.dst Er }
 | some true=>
  match o.op.d8 with
  | .p=>match Bb o.op (restr p.looks s.e)with
   | none=>none
   | some v=>some { s with e:=DY s.e o.dst v }
  | .l=>match s.ss with
   | []=>none
   | h::_=>match Ct E o.op (restr p.looks s.e) ⟨s.nx,Ce n0 n (Dw p.wt s.am) h⟩with
    | none=>none
    | some v=>some { s with e:=DY s.e o.dst v,ls:=(i,o.op,restr p.looks s.e,v)::s.ls }
  | .a=>match C1 o.op (restr p.looks s.e) (n0+i)with
   | none=>none
   | some (v,b)=>some { s with e:=DY s.e o.dst v,ss:=s.ss.map ((n0+i,b)::·),am:=s.am ||| 2 ^ i }
  | .k=>match s.ss with
   | []=>none
   | h::_=>match ES E D o.op (restr p.looks s.e) ⟨s.nx,Ce n0 n (Dw p.wt s.am) h⟩with
    | none=>none
    | some (v,U')=>some { s with e:=DY s.e o.dst v,nx:=U'.j,ss:=(FH n0 n (Dw p.wt s.am) h++U'.F)::s.ss,ks:=i::s.ks }
def Ch(E:EB)(D:Ac)(n0 n:Nat):Nat->List BO->List DP->DS->Option DS
 | _,[],_,s=>some s
 | i,o::l,p::pl,s=>match KR E D n0 n i o p s with
  | none=>none
  | some a=>Ch E D n0 n (i+1) l pl a
 | _,_::_,[],_=>none
mutual
def V.beq:V->V->Bool
 | .bool a,.bool b=>a==b
 | .int k a,.int l b=>decide (k=l)&&a==b
 | .N a,.N b=>decide (a=b)
 | .nilp,.nilp=>true
 | .o a b,.o c d=>Ar a c&&Ar b d
 | .h,.h=>true
 | .D a b c x,.D d e f y=>Ar a d&&Ar b e&&Ar c f&&decide (x=y)
 | .sle a b c x,.sle d e f y=>Ar a d&&Ar b e&&Ar c f&&Ar x y
 | .nilm,.nilm=>true
 | .mp a,.mp b=>Ar a b
 | .fn f a b,.fn g c d=>Ar f g&&O6 a c&&O6 b d
 | .nilf,.nilf=>true
 | .ifc t v,.ifc u x=>Ar t u&&V.beq v x
 | .nili,.nili=>true
 | .agg l,.agg m=>O6 l m
 | .B l,.B m=>O6 l m
 | _,_=>false
def O6:List V->List V->Bool
 | [],[]=>true
 | a::l,b::m=>V.beq a b&&O6 l m
 | _,_=>false
end
def FG(pl:List DP)(j:Nat)(a more:List Nat):Bool:=
 more.all (λk=>!((pl.getD j ⟨0,[]⟩).wt.testBit k))&&a.all (λk=>!((pl.getD k ⟨0,[]⟩).wt.testBit j))
def Fz(E:EB)(n0 n:Nat)(pl:List DP)(c:Nat)(j:Nat)(d:Ek)(e:CF)(v:V):List (EB)->List Nat->List Nat->Bool
 | [],_,_=>true
 | h::g,b,more=>
  (!FG pl j b more || (match Ct E d e ⟨0,Ce n0 n (Dw (pl.getD j ⟨0,[]⟩).wt c) h⟩with
   | some u=>V.beq u v
   | none=>false)) &&
  (match b with
   | []=>true
   | k::a=>Fz E n0 n pl c j d e v g a (k::more))
def AV(E:EB)(D:Ac)(ops:List BO)(pl:List DP)(e:CF)(U:H):Option (CF × H):=
 match Ch E D U.j ops.length 0 ops pl ⟨e,U.j+ops.length,[U.F],[],0,[]⟩with
 | none=>none
 | some s=>
  if s.ls.all (λ(j,a,b,v)=>Fz E U.j ops.length pl s.am j a b v s.ss s.ks [])then
   match s.ss with
   | h::_=>some (s.e,⟨s.nx,Ce U.j ops.length (λk=>s.am.testBit k) h⟩)
   | []=>none
  else none
def FI:Value->V
 | .bool b => .bool b
 | .int k n => .int k n
 | .string s => .N (BS.ofList s.data.toList)
 | .pointer none => .nilp
 | .slice none 0 0 => .h
 | .map none => .nilm
 | .nilFunc => .nilf
 | .nilIface => .nili
 | _ => .i5
def mT:Value->V
 | .agg a=>if(a.toList.map FI).all V.J then .agg (a.toList.map FI)else .i5
 | v=>FI v
def rm(v:Value):Option (List V):=if(v.cells.toList.map FI).all V.J then some (v.cells.toList.map FI)else none
def Ak(G:Nat->Bool):Operand->AO
 | .tmp t => .tmp t
 | .const v => .T (mT v)
 | .global g=>if G g then .T (.o g 0)else .T .i5
 | .func f => .T (.fn f [] [])
def G2(P:Program)(t:TypeId):Option (Option Nat):=
 match P.underlying t,P.info? t with
 | some (.struct _),some i=>some (some i.size)
 | some (.array _ _),some i=>some (some i.size)
 | some _,some _=>some none
 | _,_=>none
def Gh(P:Program)(t:TypeId):Option Nat:=(P.info? t).map (·.size)
def J5(P:Program)(t:TypeId):Option (List V):=
 match P.info? t with
 | some i=>match i.zero with
  | some z=>rm z
  | none=>none
 | none=>none
def Ms:Operand->Bool
 | .const _=>true
 | _=>false
def HP(P:Program):List Field->Option (List (Nat × FK))
 | []=>some []
 | f::a=>match f.name == "_",HP P a with
  | true,r=>r
  | false,some r=>match P.underlying f.type with
   | some (.int _)=>some ((f.offset,.int)::r)
   | some .bool=>some ((f.offset,.bool)::r)
   | some .string=>some ((f.offset,.N)::r)
   | _=>none
  | false,none=>none
def Fp(P:Program)(t:TypeId)(a:List Field):Gf:=
 match P.stoodInHeld t || P.eqGuardType P.depth t,HP P a with
 | false,some l => .pm l
 | _,_ => .none
def SB(P:Program)(t:TypeId):Gf:=
 match P.underlying t with
 | some (.struct a)=>Fp P t a.toList
 | _ => .none
def Pb(P:Program)(t:TypeId):V:=
 match P.info? t with
 | some i=>match i.zero with
  | some z=>mT z
  | none => .i5
 | none => .i5
def lV(P:Program)(a:BinOp)(t:TypeId)(x y:Operand):Gf:=
 match a with
 | .eql | .neq=>
  match P.underlying t with
  | some .bool => .bool
  | some (.struct b)=>Fp P t b.toList
  | some (.pointer _) => .o
  | some (.slice _) => .slice
  | some (.map _ _) => .map
  | some (.func _ _ _) => .func
  | some (.interface _) => .iface (Ms x || Ms y)
  | _ => .none
 | _ => .none
def zm(P:Program)(s d:TypeId):ARs:=
 match P.underlying s,P.underlying d with
 | some _,some (.int k) => .jp k
 | some .string,some .string => .same
 | some .string,some (.slice e)=>match P.underlying e with
  | some (.int .u8) => .toBytes e
  | _ => .pu
 | some (.slice e),some .string=>match P.underlying e with
  | some (.int .u8) => .toStr
  | _ => .pu
 | _,_ => .pu
def Jp(P:Program)(f:FuncId):Bool:=
 match P.funcs[f]? with
 | some a=>a.name != "runtime.NumGoroutine" && a.body.isSome
 | none=>false
def ALy:TypeDesc->Bool
 | .string=>true
 | .slice _=>true
 | _=>false
def LZ(P:Program)(G:Nat->Bool)(b:Builtin)(c:Array TypeId)(args:Array Operand):Ek:=
 match b,c.toList,args.toList with
 | .len,[t],[x]=>match P.underlying t with
  | some .string => .len true (Ak G x)
  | some (.slice _) => .len false (Ak G x)
  | some (.array n _) => .lenC n
  | some (.pointer a)=>match P.underlying a with
   | some (.array n _) => .lenC n
   | _ => .pu
  | _ => .pu
 | .cap,[t],[x]=>match P.underlying t with
  | some (.slice _) => .cap (Ak G x)
  | _ => .pu
 | .append,[t,u],[s,x]=>match P.underlying t,P.underlying u with
  | some (.slice e),some f=>match P.info? e with
   | some i=>match i.zero with
    | some z=>if !(ALy f) || i.size==0 || z.cells.size != i.size then .pu else .append e i.size i.bytes (Ak G s) (Ak G x)
    | none => .pu
   | none => .pu
  | _,_ => .pu
 | .copy,[t,u],[d,s]=>match P.underlying t,P.underlying u with
  | some (.slice e),some _=>match P.info? e with
   | some i => .copy i.size (Ak G d) (Ak G s)
   | none => .pu
  | _,_ => .pu
 | .min,_,x::l => .min (Ak G x) (l.map (Ak G))
 | .max,_,x::l => .max (Ak G x) (l.map (Ak G))
 | _,_,_ => .pu
def Ly(P:Program):List Field->Option (List (Nat × Nat))
 | []=>some []
 | f::l=>match P.info? f.type,Ly P l with
  | some i,some r=>some ((f.offset,i.size)::r)
  | _,_=>none
def Ew(G:Nat->Bool)(a:Nat->Option (Nat × Nat)):List (Nat × Operand)->Option (List (Nat × Nat × AO))
 | []=>some []
 | (i,x)::l=>match a i,Ew G a l with
  | some (o,s),some r=>some ((o,s,Ak G x)::r)
  | _,_=>none
def Af(P:Program)(G:Nat->Bool)(u:Op):Ek:=
 match u with
 | .move x | .assign x => .L (Ak G x)
 | .pick c a b => .pick (Ak G c) (Ak G a) (Ak G b)
 | .alloc e=>match J5 P e with
  | some [] => .alloc0 e
  | some z => .alloc e z
  | none => .pu
 | .box e x=>match J5 P e with
  | some [] => .box0 e (Ak G x)
  | _ => .box e (Ak G x)
 | .build t j=>
  match P.underlying t,J5 P t with
  | some (.struct h),some z=>match Ly P h.toList with
   | some pl=>match Ew G (pl[·]?) j.toList with
    | some l => .build z l
    | none => .pu
   | none => .pu
  | some (.array _ e),some z=>match Gh P e with
   | some s=>match Ew G (λi=>some (i*s,s)) j.toList with
    | some l => .build z l
    | none => .pu
   | none => .pu
  | _,_ => .pu
 | .buildSlice t n j=>
  match P.underlying t with
  | some (.slice e)=>match Gh P e,J5 P e with
   | some s,some z=>match Ew G (λi=>some (i*s,s)) j.toList with
    | some l=>if n*s > 2 ^ 24 || z.length != s then .pu else .buildSlice e n (Bf n z).flatten l
    | none => .pu
   | _,_ => .pu
  | _ => .pu
 | .load t x=>match G2 P t with
  | some (some 0) => .load0 (Ak G x)
  | some s => .load s (Ak G x)
  | none => .pu
 | .store t x v=>match Gh P t with
  | some 0 => .store0 (Ak G x) (Ak G v)
  | some n => .store n (Ak G x) (Ak G v)
  | none => .pu
 | .nilCheck x => .rg (Ak G x)
 | .binOp o t x y _ => .pp o (lV P o t x y) (Ak G x) (Ak G y)
 | .unOp o _ x => .un o (Ak G x)
 | .convert s d x => .i7 (zm P s d) (Ak G x)
 | .makeInterface t x=>match P.underlying t with
  | some (.interface _) => .pu
  | some _ => .mkifc t (Ak G x)
  | none => .pu
 | .makeFunc (.func f) a c => .mkfn f (a.toList.map (Ak G)) (c.toList.map (Ak G))
 | .makeSlice t l c=>match P.underlying t with
  | some (.slice e)=>match P.info? e,J5 P e with
   | some i,some z=>if z.length != i.size then .pu else .mkslice e i.size i.bytes z (Ak G l) (Ak G c)
   | _,_ => .pu
  | _ => .pu
 | .slice t x lo hi mx=>if mx.isSome && !hi.isSome then .pu else match P.underlying t with
  | some .string=>match mx with
   | none => .sliceStr (Ak G x) (lo.map (Ak G)) (hi.map (Ak G))
   | some _ => .pu
  | some (.slice e)=>match Gh P e with
   | some s => .sliceSl s (Ak G x) (lo.map (Ak G)) (hi.map (Ak G)) (mx.map (Ak G))
   | none => .pu
  | some (.array n e)=>match Gh P e with
   | some s => .sliceArr n s (Ak G x) (lo.map (Ak G)) (hi.map (Ak G)) (mx.map (Ak G))
   | none => .pu
  | _ => .pu
 | .fieldAddr s x f=>match P.underlying s with
  | some (.struct h)=>match h[f]? with
   | some g=>match Gh P g.type with
    | some 0=>if g.offset==0&&g.byteOffset==0&&P.cellsOf s==0 then .faddr0 s (Ak G x)else .pu
    | some _ => .C g.offset (Ak G x)
    | none => .pu
   | none => .pu
  | _ => .pu
 | .field s x f=>match P.underlying s with
  | some (.struct h)=>match h[f]? with
   | some g=>match G2 P g.type with
    | some n => .field g.offset n (Ak G x)
    | none => .pu
   | none => .pu
  | _ => .pu
 | .indexAddr t x i=>match P.underlying t with
  | some (.slice e)=>match Gh P e with
   | some s => .qr s (Ak G x) (Ak G i)
   | none => .pu
  | some (.array n e)=>match Gh P e with
   | some s => .iaddrA n s (Ak G x) (Ak G i)
   | none => .pu
  | _ => .pu
 | .index t x i=>match P.underlying t with
  | some .string => .idxStr (Ak G x) (Ak G i)
  | some (.array n e)=>match Gh P e,G2 P e with
   | some z,some s => .idxArr n z s (Ak G x) (Ak G i)
   | _,_ => .pu
  | _ => .pu
 | .extract x i => .extract i (Ak G x)
 | .makeMap _ none => .mkmap
 | .lookup t m x true=>match P.underlying t with
  | some (.map k e) => .lookup (SB P k) (Pb P e) (Ak G m) (Ak G x)
  | _ => .pu
 | .mapUpdate t m k v=>match P.underlying t with
  | some (.map r _) => .mapset (SB P r) (Ak G m) (Ak G k) (Ak G v)
  | _ => .pu
 | .call c=>match c.callee with
  | .builtin b=>LZ P G b c.argTypes c.args
  | .value (.func f) => .call f (c.args.toList.map (Ak G))
  | .value (.tmp t) => .callv (.tmp t) (c.args.toList.map (Ak G))
  | _ => .pu
 | _ => .pu
def Qc(ops:Array Oper)(g:Option (Nat × Bool)):Option (Option (Nat × Bool)):=
 match g with
 | none=>some none
 | some (j,b)=>match (ops[j]?).bind (·.dst)with
  | some t=>some (some (t,b))
  | none=>none
def Gi(a:Nat):Option Nat->Bool
 | some d=>B9 d a
 | none=>true
def BN(P:Program)(G:Nat->Bool)(a:Nat)(ops:Array Oper)(o:Oper):BO:=
 match Qc ops o.guard,Gi a o.dst with
 | some g,true=>⟨o.dst,Af P G o.op,g⟩
 | _,_=>⟨o.dst,.pu,none⟩
def zI(ops:Array Oper)(o:Oper):List Nat:=
 (o.op.operands.toList.filterMap fun | .tmp t=>some t | _=>none) ++
 (match o.guard with
  | some (g,_)=>((ops[g]?).bind (·.dst)).toList
  | none=>[])
def Gn(ops:Array Oper):List DP:=(ops.toList.zip (Region.before ops).toList).map λ(o,m)=>⟨m,zI ops o⟩
def Zx:Nat->(Nat->Bool)->Bool
 | 0,_=>true
 | n+1,p=>p n&&Zx n p
def HK(pl:List DP)(i:Nat):Nat:=(pl.getD i ⟨0,[]⟩).wt
def P4 (ops:Array Oper) (l:List BO) (pl:List DP):Bool:=
 Ar pl.length ops.size &&
 Zx ops.size λi=>
  match ops[i]?,l[i]?,pl[i]? with
  | some o,some j,some p=>
   o.after.toList.all (λe=>!Region.binds .any e || B9 e.on i) &&
   Zx ops.size λk=>
    (!p.wt.testBit k || o.after.toList.any (λe=>Region.binds .any e&&(Ar e.on k || (HK pl e.on).testBit k))) &&
    (Ar i k || match ops[k]?,l[k]?,pl[k]? with
     | some m,some d,some c=>
      (match o.dst with
       | none=>true
       | some t=>(match m.dst with | some t'=>!Ar t t' | none=>true)&&(!Br c.looks t || c.wt.testBit i || p.wt.testBit k)) &&
      (match j.op.d8,d.op.d8 with
       | .k,.k=>!B9 i k || c.wt.testBit i
       | _,_=>true)
     | _,_,_=>false)
  | _,_,_=>false
def Ci(P:Program)(G:Nat->Bool)(d:Nat):Code->AC
 | .skip => .skip
 | .region _ ops false => .region (ops.toList.map (BN P G d ops))
 | .region _ ops true=>if P4 ops (ops.toList.map (BN P G d ops)) (Gn ops)then .us (ops.toList.map (BN P G d ops)) (Gn ops)else .pu
 | .seq a b => .seq (Ci P G d a) (Ci P G d b)
 | .cond c a b => .cond (Ak G c) (Ci P G d a) (Ci P G d b)
 | .block id c => .block id (Ci P G d c)
 | .loop c => .loop (Ci P G d c)
 | .exit id => .exit id
 | .ret => .ret
 | _ => .pu
def Qb(P:Program):ResultVar->Option AR
 | .tmp t=>some (.tmp t)
 | .cell t ty=>match G2 P ty with
  | some s=>some (.cell t s)
  | none=>none
def Gw(P:Program):List ResultVar->Option (List AR)
 | []=>some []
 | r::l=>match Qb P r,Gw P l with
  | some a,some m=>some (a::m)
  | _,_=>none
def M2(P:Program)(G:Nat->Bool)(a:Func):Option nN:=
 match a.body,Gw P a.results.toList with
 | some c,some r=>some ⟨a.ntmps,r,[],Ci P G a.ntmps c⟩
 | _,_=>none
def AC.i4:AC->AC
 | .seq a b => .seq a.i4 b.i4
 | .cond c a b => .cond c a.i4 b.i4
 | .block id c => .block id c.i4
 | .loop c => .loop c.i4
 | .Q _ c=>c.i4
 | c=>c
def nN.i4(f:nN):nN:=⟨f.ntmps,f.results,[],f.body.i4⟩
structure CK(R:DN)(e:CF)(tmps:Array Value):Prop where
 X:∀(k:Nat) (v:V),look e k=some v->v = .i5\/∃x,tmps[k]? = some x/\Av R v=some x
theorem CK.mono{R c e a}(h:CK R e a)(b:Le R c):CK c e a:=
 ⟨λk v d=>(h.X k v d).imp id λ⟨x,h1,f⟩=>⟨x,h1,DA b v x f⟩⟩
theorem CK.get{R e b}(h:CK R e b){t}{v:V}(d:Gu e t=v)(k:v.J=true):∃x,b[t]? = some x/\Av R v=some x:=by
 unfold Gu at d;cases j:look e t with
 | none=>rw[j]at d;subst d;cases k | some u=>
  rw[j]at d;subst d;rcases h.X t _ j with rfl|h
  ·cases k
  ·exact h
def ET(G:Nat->Bool)(R:DN):Prop:=∀g,G g=true->∃i,R g=some i/\i.i2=g/\i.shift=0
theorem Ql R x (h:(FI x).J=true):Av R (FI x)=some x:=by
 unfold FI at h ⊢;split at h<;>first | rfl | (simp only[Av,BS.toList_ofList];done) | (cases h;done)
theorem KX R:∀(l:List Value),(l.map FI).all V.J=true->BF R (l.map FI)=some l
 | [],_=>rfl | x::l,h=>by
  simp only[C7,kN,AQ]at h;exact Bl.2 ⟨x,l,Ql R x h.1,KX R l h.2,rfl⟩
theorem iC R x (h:(mT x).J=true):Av R (mT x)=some x:=by
 cases x with
 | agg j=>
  simp only[mT]at h ⊢;by_cases e:(j.toList.map FI).all V.J=true
  ·rw[if_pos e];rw[EE (KX R _ e)]
  ·rw[if_neg e]at h;cases h
 | _=>simp only[mT]at h ⊢;exact Ql R _ h
theorem iB R {x:Value}{l}(h:rm x=some l):BF R l=some x.cells.toList:=by
 unfold rm at h;split at h
 ·cases h;exact KX R _ ‹_›
 ·cases h
section
variable {G:Nat->Bool}{R:DN}{e:CF}{a:Act}
theorem ev(B:CK R e a.tmps)(s:ET G R){o}{v:V}(h:Ca e (Ak G o)=v)(k:v.J=true):Av R v=some (a.eval o):=by
 subst h;cases o with
 | tmp t=>
  simp only[Ak,Ca]at k ⊢;have ⟨x,A,z⟩:=B.get rfl k;simp only[z,Act.eval,Ep,A,Option.getD_some]
 | const x=>exact iC R x k | global g=>
  simp only[Ak]at k ⊢;by_cases m:G g=true
  ·rw[if_pos m]
   have ⟨i,y,D,C⟩:=s g m;simp[Ca,Av,y,Act.eval]
  ·rw[if_neg m]at k;cases k
 | func f=>simp[Ak,Ca,Av,BF,Act.eval]
theorem Iq(l:CK R e a.tmps)(j:ET G R){o b off}(h:Ca e (Ak G o) = .o b off):
  ∃i,R b=some i/\a.eval o = .pointer (some ⟨i.i2,i.shift+off,none⟩):=by
 have:=ev l j h rfl;simp only[Av,Aa]at this;have ⟨i,g,k⟩:=this;exact⟨i,g,k.symm⟩
theorem GV(g:CK R e a.tmps)(f:ET G R){o k n}(h:Ca e (Ak G o) = .int k n):a.eval o = .int k n:=by
 have:=ev g f h rfl;simp only[Av,AY.injEq]at this;exact this.symm
theorem LG(g:CK R e a.tmps)(f:ET G R){o n}(h:Ca e (Ak G o) = .bool n):a.eval o = .bool n:=by
 have:=ev g f h rfl;simp only[Av,AY.injEq]at this;exact this.symm
theorem L8(g:CK R e a.tmps)(f:ET G R){o}{l:BS}(h:Ca e (Ak G o) = .N l):a.eval o = .string ⟨l.toList.toArray⟩:=by
 have:=ev g f h rfl;simp only[Av,AY.injEq]at this;exact this.symm
theorem UJ(c:CK R e a.tmps)(d:ET G R){o l}(h:Ca e (Ak G o) = .agg l):∃x,BF R l=some x/\a.eval o = .agg x.toArray:=by
 exact IG (ev c d h rfl)
theorem AFL(c:CK R e a.tmps)(d:ET G R){o l}(h:Ca e (Ak G o) = .B l):∃x,BF R l=some x/\a.eval o = .tuple x.toArray:=by
 exact Xm (ev c d h rfl)
theorem evs(i:CK R e a.tmps)(d:ET G R):∀(l:List Operand),(GM e (l.map (Ak G))).all V.J=true->BF R (GM e (l.map (Ak G)))=some (l.map a.eval)
 | [],_=>rfl | o::l,h=>by
  simp only[GM,C7,kN,AQ]at h;exact Bl.2 ⟨_,_,ev i d rfl h.1,evs i d l (by simpa[GM]using h.2),rfl⟩
end
theorem H0:∀(l:List V) n b,(FW l n b).length=l.length
 | l,n,[]=>by cases l<;>simp[FW]
 | [],n,c::b=>by simp[FW]
 | _::l,0,c::b=>by simp[FW,H0 l 0 b]
 | _::l,n+1,c::b=>by simp[FW,H0 l n (c::b)]
theorem Mc:∀(l:List V) n (d:List V) k,(FW l n d)[k]? = if n<=k/\k<n+d.length then(if k<l.length then d[k-n]? else none)else l[k]?
 | l,n,[],k=>by cases l<;>simp[FW]<;>omega
 | [],n,c::d,k=>by simp[FW]
 | b::l,0,c::d,k=>by
  cases k with
  | zero=>simp[FW] | succ k=>simp only[FW,Bh,Mc l 0 d k,CA,Ag,BV,NH,AY1]
 | b::l,n+1,c::d,k=>by
  cases k with
  | zero=>simp[FW] | succ k=>
   simp only[FW,Bh,Mc l n (c::d) k,Ag,Nat.add_le_add_iff_right,AY1,Y3];by_cases h:n<=k/\k<n+(d.length+1)
   ·rw[if_pos h,if_pos (show n<=k/\k+1<n+1+(d.length+1)by omega)]
   ·rw[if_neg h,if_neg (show ¬(n<=k/\k+1<n+1+(d.length+1))by omega)]
theorem Sn off:∀(vs:List Value) (d:Array Value) i,
  ((vs.zipIdx i).foldl (λd (x:Value × Nat)=>d.setIfInBounds (off+x.2) x.1) d).size=d.size /\
  ∀k,((vs.zipIdx i).foldl (λd (x:Value × Nat)=>d.setIfInBounds (off+x.2) x.1) d)[k]? =
   if off+i<=k/\k<off+i+vs.length/\k<d.size then vs[k-(off+i)]? else d[k]?
 | [],d,i=>by
  refine⟨rfl,λk=>?_⟩;rw[if_neg (by simp;omega)];rfl
 | v::vs,d,i=>by
  have ⟨h1,n⟩:=Sn off vs (d.setIfInBounds (off+i) v) (i+1);simp only[List.zipIdx_cons,List.foldl_cons];refine⟨by rw[h1,EY],λk=>?_⟩;rw[n,EY,BT];by_cases j:off+i=k
  ·subst j
   rw[if_neg (by omega),if_pos rfl];by_cases l:off+i<d.size
   ·rw[if_pos l,if_pos (by simp;omega)];simp
   ·rw[if_neg l,if_neg (by omega),CR (by omega)]
  ·rw[if_neg j]
   by_cases m:off+(i+1)<=k/\k<off+(i+1)+vs.length/\k<d.size
   ·rw[if_pos m,if_pos (by simp;omega)]
    have:k-(off+i)=(k-(off+(i+1)))+1:=by omega
    rw[this,Bh]
   ·rw[if_neg m,if_neg (by simp;omega)]
theorem mE{R}{z:List V}{e:Array Value}(w:BF R z=some e.toList){v:V}{x:Value}(B:Av R v=some x){off}
  (D:off+v.cells.length<=z.length) :
  BF R (FW z off v.cells)=some ((x.cells.zipIdx).foldl (λm (c,j)=>m.setIfInBounds (off+j) c) e).toList:=by
 have o:=IF B;have l:=B2 o;have p:=B2 w;have C:(x.cells.zipIdx).foldl (λm (c,j)=>m.setIfInBounds (off+j) c) e=((x.cells.toList.zipIdx 0).foldl (λm (y:Value × Nat)=>m.setIfInBounds (off+y.2) y.1) e):=by
  rw[<-Array.foldl_toList,Array.toList_zipIdx]
 rw[C];have ⟨h1,E⟩:=Sn off x.cells.toList e 0;refine M0 ?_ ?_
 ·rw[H0,Array.length_toList,h1];simpa using p
 ·intro k u n
  rw[Mc]at n;rw[Y4,E];simp at l p;by_cases A:off<=k/\k<off+v.cells.length
  ·rw[if_pos A,if_pos (by omega)]at n
   have ⟨b,q,r⟩:=Eu o n;refine⟨b,q,?_⟩;rw[if_pos (by simp;omega)];exact r
  ·rw[if_neg A]at n
   have ⟨b,q,r⟩:=Eu w n;refine⟨b,q,?_⟩;rw[if_neg (by simp;omega)];simpa using r
section
variable {G:Nat->Bool}{R:DN}{e:CF}{a:Act}
theorem PH(J:CK R e a.tmps)(I:ET G R){d}:∀(v:List (Nat × Operand)) l (z r:List V) (j:Array Value),
  Ew G d v=some l->BF R z=some j.toList->GK (KF e l) z=some r ->
  ∃m,Instr.fill d j (v.map λ(i,x)=>(i,a.eval x))=some m/\BF R r=some m.toList/\r.length=z.length
 | [],l,z,r,j,g,w,q=>by
  simp only[Ew,AY.injEq]at g;subst g;simp only[KF,WZ,GK,AY.injEq]at q;subst q;exact⟨j,rfl,w,rfl⟩
 | (i,x)::v,l,z,r,j,g,w,q=>by
  simp only[Ew]at g;cases D:d i with
  | none=>rw[D]at g;cases g | some os=>
   have ⟨off,F⟩:=os;rw[D]at g;cases C:Ew G d v with
   | none=>rw[C]at g;cases g | some l'=>
    rw[C]at g;simp at g;subst g;simp only[KF,C7,GK]at q;split at q
    ·rename_i h
     simp at h;have ⟨⟨N,O⟩,P⟩:=h;have K:=ev J I rfl N;have E:=IF K;have u:=B2 E;have B:=B2 w;simp at u B;have ⟨m,h1,L,M⟩:=PH J I v l' _ r _ C (mE w K (by omega)) q;refine⟨m,?_,L,by rw[M,H0]⟩;simp only[C7,Instr.fill,D];rw[if_neg (by simp;omega)];exact h1
    ·cases q
end
end Go.Og
set_option linter.unusedSimpArgs false
namespace Go.Og
variable {P:Program}{G:Nat->Bool}{R:DN}{e:CF}{a:Act}
theorem Es{t n}(h:Gh P t=some n) w:(sizeOf t).run P w = .ok n w:=by
 simp only[Gh,Aa]at h;obtain⟨i,d,rfl⟩:=h;simp[sizeOf,typeInfo,d]
theorem Gm{t l}(h:J5 P t=some l) w:∃z,(zeroValue t).run P w = .ok z w/\BF R l=some z.cells.toList:=by
 unfold J5 at h;cases f:P.info? t with
 | none=>rw[f]at h;cases h | some i=>
  rw[f]at h;cases g:i.zero with
  | none=>simp only[g]at h;cases h | some z=>
   simp only[g]at h;exact⟨z,by simp[zeroValue,typeInfo,f,g],iB R h⟩
theorem Ky{t}{s:Option Nat}(h:G2 P t=some s) w:
  (isAgg t).run P w = .ok s.isSome w/\∀n,s=some n->(sizeOf t).run P w = .ok n w:=by
 unfold G2 at h;cases c:P.underlying t with
 | none=>rw[c]at h;cases h | some d=>
  cases f:P.info? t with
  | none=>rw[c,f]at h;cases d<;>cases h | some i=>
   rw[c,f]at h;cases d<;>(simp at h;subst h;simp[isAgg,run_underlying c,sizeOf,typeInfo,f])
theorem SZ:∀{g:List Field}{pl} w,Ly P g=some pl ->
  (g.mapM (m:=Sem) λf=>do pure (f.offset,<-sizeOf f.type)).run P w = .ok pl w
 | [],pl,w,h=>by simp only[Ly,AY.injEq]at h;subst h;rfl
 | f::g,pl,w,h=>by
  simp only[Ly]at h;cases k:P.info? f.type with
  | none=>rw[k]at h;cases h | some i=>
   rw[k]at h;cases j:Ly P g with
   | none=>rw[j]at h;cases h | some r=>
    rw[j]at h;simp at h;subst h;have l:=SZ w j;rw[Wa];simp only[Sem.run_bind,sizeOf,typeInfo,run_program,k,Result.andThen_ok,Sem.run_pure];simp only[sizeOf,typeInfo,]at l;rw[l];rfl
theorem GP d t x y u v w
  (h:∀z,(u = .agg z->False)) (e:u = .nilIface->v = .nilIface->False):(eqGuard d t x y u v).run P w = .ok () w:=by
 cases u with
 | agg z=>exact(h z rfl).elim | nilIface=>
  cases v with
  | nilIface=>exact(e rfl rfl).elim | _=>cases d<;>rfl
 | _=>cases d<;>rfl
theorem lN{f x y b}(h:Zq f x y=some b) w:(Op.intCmp f x y).run P w = .ok (.bool b) w:=by
 unfold Zq at h;split at h<;>first | (cases h;rfl) | (cases h)
theorem rK {q t k u x y v} (h:HR q t (.int k x) (.int u y)=some v) ty w :
    ∃r,Av R v=some r/\(binOp q ty (.int k x) (.int u y)).run P w = .ok r w:=by
  cases q
  case shl=>
    simp only[HR,Aa]at h;obtain⟨n,d,rfl⟩:=h;refine⟨_,rfl,?_⟩;simp only[Pu]at d;split at d
    · cases d
    · cases d
      simp only[binOp,Op.shift];rw[if_neg (by omega)];rfl
  case shr=>
    simp only[HR,Aa]at h;obtain⟨n,d,rfl⟩:=h;refine⟨_,rfl,?_⟩;simp only[Pu]at d;split at d
    · cases d
    · cases d
      simp only[binOp,Op.shift];rw[if_neg (by omega)];rfl
  all_goals
    simp only[HR]at h;split at h
    · rename_i C
      subst C;simp only[Aa]at h;obtain⟨n,d,rfl⟩:=h;refine⟨_,rfl,?_⟩;simp only[binOp,ne_eq,not_true_eq_false,if_false];first
        | exact lN d w
        | (simp only[rU]at d
           first
             | (cases d;rfl)
             | (split at d
                · cases d
                · rename_i D
                  cases d;simp only[Op.intDiv];rw[if_neg D];rfl))
    · cases h
theorem rJ{q t}{a b:BS}{v}(h:HR q t (.N a) (.N b)=some v) ty w:
  ∃r,Av R v=some r/\(binOp q ty (.string ⟨a.toList.toArray⟩) (.string ⟨b.toList.toArray⟩)).run P w = .ok r w:=by
 have I:a.beq b=(a.toList==b.toList):=by rw[BS.beq_eq];by_cases h:a.toList=b.toList<;>simp[h]
 have o:=BS.toList_cat a b;have D:=BS.length_toList a;have J:=BS.length_toList b;simp only[HR]at h;cases q<;>simp only[pB,I]at h;all_goals
  generalize F:a.toList=x at *;generalize z:b.toList=y at *;have A:(ByteArray.mk x.toArray).toList=x:=by rw[ByteArray.toList_eq]
  have B:(ByteArray.mk y.toArray).toList=y:=by rw[ByteArray.toList_eq]
 case add=>
  split at h
  ·rename_i E
   cases h;refine⟨_,rfl,?_⟩;rw[o];simp at E;have h1:(ByteArray.mk x.toArray).size=x.length:=by simp[ByteArray.size]
   have K:(ByteArray.mk y.toArray).size=y.length:=by simp[ByteArray.size]
   simp only[binOp,Op.stringOp,];rw[if_neg (by simp[];omega)];have G:(ByteArray.mk x.toArray)++(ByteArray.mk y.toArray)=⟨(x++y).toArray⟩:=by
    apply ByteArray.ext;simp[ByteArray.data_append]
   rw[G];rfl
  ·cases h
 all_goals first
  | (cases h;refine⟨_,rfl,?_⟩;simp only[binOp,Op.stringOp,A,B];rfl) | cases h
theorem Jl{b off x}(h:Av R (.o b off)=some x):∃i,R b=some i/\x = .pointer (some ⟨i.i2,i.shift+off,none⟩):=by
 simp only[Av,Aa]at h;have ⟨i,f,e⟩:=h;exact⟨i,f,e.symm⟩
theorem Dh{b off n c x}(h:Av R (.D b off n c)=some x):
  ∃i m,R b=some i/\x = .slice (some ⟨i.i2,i.shift+off,none⟩) n m/\(∀k,c = .ex k->m=k)/\(∀k,c = .op k->m=i.cap k off/\n<=m):=by
 cases c with
 | ex k=>
  simp only[Av,Aa]at h;have ⟨i,p,g⟩:=h;exact⟨i,k,p,g.symm,λ_ e=>by cases e;rfl,λ_ e=>by cases e⟩
 | op k=>
  simp only[Av,AU]at h;have ⟨i,p,g⟩:=h;by_cases o:n<=i.cap k off/\i.cap k off<=9223372036854775807
  ·rw[if_pos o]at g;cases g
   exact⟨i,_,p,rfl,(λ_ e=>by cases e),(λ_ e=>by cases e;exact⟨rfl,o.1⟩)⟩
  ·rw[if_neg o]at g;cases g
theorem QZ{b off n k x}{i:BI}(h:Av R (.D b off n (.op k))=some x)(j:R b=some i):i.cap k off<=9223372036854775807:=by
 simp only[Av,j,Bk]at h;by_cases e:n<=i.cap k off/\i.cap k off<=9223372036854775807
 ·exact e.2
 ·rw[if_neg e]at h;cases h
theorem E4{b off k z x}(h:Av R (.sle b off k z)=some x):
  ∃i,R b=some i/\k<=i.cap z off/\x = .slice (some (if i.cap z off=k then⟨i.i2,i.shift+off,none⟩else(⟨i.i2,i.shift+off,none⟩:Addr).add (k*z))) 0 (i.cap z off-k):=by
 simp only[Av,AU]at h;have ⟨i,l,d⟩:=h;by_cases f:k<=i.cap z off
 ·rw[if_pos f]at d;cases d;exact⟨i,l,f,rfl⟩
 ·rw[if_neg f]at d;cases d
theorem M1{t v x}(h:Av R (.ifc t v)=some x):∃y,Av R v=some y/\x = .iface t y:=by
 simp only[Av]at h;cases c:Av R v with
 | none=>rw[c]at h;cases h | some y=>rw[c]at h;cases h;exact⟨y,rfl,rfl⟩
theorem Ig{b x}(h:Av R (.mp b)=some x):∃i,R b=some i/\x = .map (some i.i2):=by
 simp only[Av,Aa]at h;have ⟨i,f,e⟩:=h;exact⟨i,f,e.symm⟩
theorem KV{f l m x}(h:Av R (.fn f l m)=some x):∃y z,BF R l=some y/\BF R m=some z/\x = .func (.func f) y.toArray z.toArray:=by
 simp only[Av]at h;cases e:BF R l with
 | none=>simp only[e]at h;cases h | some y=>
  cases g:BF R m with
  | none=>simp only[e,g]at h;cases h | some z=>simp only[e,g]at h;cases h;exact⟨y,z,rfl,rfl,rfl⟩
theorem Xf{t u v b} w
  (h:∀n,(Op.equalIn (n+1) t u v).run P w = .ok b w):(Op.equal t u v).run P w = .ok b w:=h 9999
theorem Qf:∀{xs o}{v:V},Jo xs o=v->v.J=true->xs[o]? = some v
 | [],_,v,h,c=>by subst h;cases c
 | a::l,0,v,h,_=>by subst h;rfl
 | a::l,n+1,v,h,c=>by simpa using Qf (o:=n) h c
def qO:TypeDesc->FK->Bool
 | .int _,.int=>true
 | .bool,.bool=>true
 | .string,.N=>true
 | _,_=>false
theorem NR{t d k}(s:P.underlying t=some d)(q:qO d k=true)
  {xs}{X:List Value} (n:BF R xs=some X) {o}{v:V} (m:Jo xs o=v) (p:v.J=true) w :
  ∃x,Av R v=some x/\(part t X.toArray o).run P w = .ok x w:=by
 have ⟨x,l,j⟩:=Eu n (Qf m p);refine⟨x,l,?_⟩;have f:X.toArray[o]? = some x:=by simpa using j
 have r:(isAgg t).run P w = .ok false w:=by
  cases d<;>first | (cases k<;>cases q;done) | simp[isAgg,run_underlying s]
 simp only[part,Sem.run_bind,r,Result.andThen_ok,FV,if_false,f,Sem.run_pure]
theorem lW{t d k}(r:P.underlying t=some d)(D:qO d k=true)
  {u v}{b:Bool} (h:L9 k u v=some b) {x y:Value} (A:Av R u=some x) (z:Av R v=some y) (n:Nat) (w:World):(Op.equalIn (n+1) t x y).run P w = .ok b w:=by
 unfold L9 at h;split at h<;>(try (cases h;done))<;>(cases A;cases z)<;>(cases d<;>first | (cases D;done) | skip)
 ·split at h
  ·rename_i C
   simp at h;subst h;subst C;rw[NX];simp[Op.equalIn,run_underlying r]
  ·cases h
 ·simp at h;subst h
  simp[Op.equalIn,run_underlying r]
 ·simp at h;subst h
  rename_i p q;rw[run_equalIn_string w n t _ _ r,ByteArray.toList_eq,ByteArray.toList_eq,BS.beq_eq];by_cases e:p.toList=q.toList<;>simp[e]
theorem Ob{k}{u v:V}{b}(h:L9 k u v=some b):u.J=true/\v.J=true:=by
 unfold L9 at h;split at h<;>first | exact⟨rfl,rfl⟩ | cases h
theorem LH {xs v} {X Y:List Value} (E:BF R xs=some X) (G:BF R v=some Y) n w:∀{z l b},
  HP P z=some l->HQ l xs v=some b->(Op.eqFields (n+1) X.toArray Y.toArray z).run P w = .ok b w
 | [],l,b,i,h=>by
  simp only[HP,AY.injEq]at i;subst i;simp only[HQ,AY.injEq]at h;subst h;rfl
 | f::z,l,b,i,h=>by
  simp only[HP]at i;by_cases u:f.name = "_"
  ·have B:(f.name == "_")=true:=by simp[u]
   rw[B]at i;simp only[Op.eqFields];rw[if_neg (by simp[u])];exact LH E G n w i h
  ·have B:(f.name == "_")=false:=by simp[u]
   rw[B]at i;cases F:HP P z with
   | none=>rw[F]at i;cases i | some r=>
    rw[F]at i;cases s:P.underlying f.type with
    | none=>simp only[s]at i;cases i | some d=>
     simp only[s]at i;have p:∃k,l=(f.offset,k)::r/\qO d k=true:=by
      cases d<;>simp at i<;>subst i<;>exact⟨_,rfl,rfl⟩
     obtain⟨k,rfl,p⟩:=p;simp only[HQ]at h;cases A:L9 k (Jo xs f.offset) (Jo v f.offset)with
     | none=>simp only[A]at h;cases h | some a=>
      simp only[A]at h;cases D:HQ r xs v with
      | none=>simp only[D]at h;cases h | some O=>
       simp only[D,AY.injEq]at h;subst h;have ⟨C,J⟩:=Ob A;have ⟨x,N,I⟩:=NR s p E rfl C w;have ⟨y,M,L⟩:=NR s p G rfl J w;simp only[Op.eqFields];rw[if_pos u];simp only[Sem.run_bind,I,L,Result.andThen_ok,lW s p A N M n w];cases a
       ·simp
       ·simpa using LH E G n w F D
theorem Zi{j}(r:j = .eql\/j = .neq){t z x}{o:Array Field}(m:P.underlying t=some (.struct o)){l}(a:Fp P t o.toList = .pm l)
  {xs A b} (h:HQ l xs A=some b) {u v} (C:Av R (.agg xs)=some u) (B:Av R (.agg A)=some v) w :
  (do eqGuard j t z x u v;binOp j t u v:Sem Value).run P w = .ok (.bool (if j = .eql then b else !b)) w:=by
 obtain⟨X,D,rfl⟩:=IG C;obtain⟨Y,E,rfl⟩:=IG B;have k:P.fieldsOf t=o:=by simp[Program.fieldsOf,m]
 unfold Fp at a;cases n:(P.stoodInHeld t || P.eqGuardType P.depth t)with
 | true=>rw[n]at a;cases a | false=>
  rw[n]at a;simp at n;cases g:HP P o.toList with
  | none=>rw[g]at a;cases a | some l'=>
   rw[g]at a;simp at a;subst a;have y:(Op.equalIn 10000 t (.agg X.toArray) (.agg Y.toArray)).run P w = .ok b w:=by
    rw[run_equalIn_agg w 9999 t _ _ (by rw[k];exact m) n.1,k];exact LH D E 9998 w g h
   rw[Sem.run_bind,run_eqGuard_agg w j t z x _ _ n.2,Result.andThen_ok];rcases r with rfl|rfl
   ·rw[run_eql_struct,y];rfl
   ·rw[run_neq_struct,y];rfl
theorem QW t d:Fp P t d = .none\/∃l,Fp P t d = .pm l:=by
 unfold Fp;split
 ·exact .inr ⟨_,rfl⟩
 ·exact .inl rfl
set_option maxHeartbeats 2000000 in
theorem qW{op:BinOp}(hop:op = .eql\/op = .neq){t:TypeId}{ox oy:Operand}{x y:V}{b:Bool}(h:KQ (lV P op t ox oy) x y=some b)
  {u v:Value} (hu:Av R x=some u) (hv:Av R y=some v) (w:World):(do eqGuard op t ox oy u v;binOp op t u v:Sem Value).run P w = .ok (.bool (if op = .eql then b else !b)) w:=by
 have htag:lV P op t ox oy=(match P.underlying t with
  | some .bool => .bool
  | some (.struct fs)=>Fp P t fs.toList
  | some (.pointer _) => .o
  | some (.slice _) => .slice
  | some (.map _ _) => .map
  | some (.func _ _ _) => .func
  | some (.interface _) => .iface (Ms ox || Ms oy)
  | _ => .none):=by rcases hop with rfl | rfl<;>rfl
 rw[htag]at h
 clear htag
 generalize htg:(match P.underlying t with
  | some .bool=>Gf.bool
  | some (.struct fs)=>Fp P t fs.toList
  | some (.pointer _) => .o
  | some (.slice _) => .slice
  | some (.map _ _) => .map
  | some (.func _ _ _) => .func
  | some (.interface _) => .iface (Ms ox || Ms oy)
  | _ => .none)=tg at h
 have hd:∃d,P.underlying t=some d:=by
  cases hut:P.underlying t with
  | none=>rw[hut]at htg;subst htg;cases h
  | some d=>exact⟨d,rfl⟩
 obtain⟨d,hut⟩:=hd
 rw[hut]at htg
 have hfin:(eqGuard op t ox oy u v).run P w = .ok () w->(Op.equal t u v).run P w = .ok b w ->
   binOp .eql t u v=(do pure (.bool (<-Op.equal t u v)))->binOp .neq t u v=(do pure (.bool (!(<-Op.equal t u v)))) ->
   (do eqGuard op t ox oy u v;binOp op t u v:Sem Value).run P w = .ok (.bool (if op = .eql then b else !b)) w:=λh1 h2 h3 h4=>by
  rcases hop with rfl|rfl
  ·rw[Sem.run_bind,h1,Result.andThen_ok,h3,Sem.run_bind,h2];rfl
  ·rw[Sem.run_bind,h1,Result.andThen_ok,h4,Sem.run_bind,h2];rfl
 have hplain:∀(hn:∀z,u = .agg z->False) (hm:u = .nilIface->v = .nilIface->False) (hb:∀n,(Op.equalIn (n+1) t u v).run P w = .ok b w),
   binOp .eql t u v=(do pure (.bool (<-Op.equal t u v)))->binOp .neq t u v=(do pure (.bool (!(<-Op.equal t u v)))) ->
   (do eqGuard op t ox oy u v;binOp op t u v:Sem Value).run P w = .ok (.bool (if op = .eql then b else !b)) w:=λhn hm hb h3 h4=>
  hfin (GP op t ox oy u v w hn hm) (Xf w hb) h3 h4
 by_cases hst:∃fs,d = .struct fs
 ·obtain⟨fs,rfl⟩:=hst
  simp only at htg
  rcases QW (P:=P) t fs.toList with h0|⟨l,h0⟩
  ·rw[h0]at htg;subst htg;cases h
  ·rw[h0]at htg;subst htg
   cases x<;>cases y<;>first
    | (exact Zi hop hut h0 h hu hv w)
    | cases h
 unfold KQ at h
 split at h<;>(try (cases h;done))<;>(try (simp only[AY.injEq]at h;subst h))
 all_goals (cases d<;>first | exact(hst ⟨_,rfl⟩).elim | simp only[reduceCtorEq]at htg)
 ·cases hu;cases hv
  exact hplain (λ_ e=>by cases e) (λe=>by cases e) (λn=>by simp[Op.equalIn,run_underlying hut]) rfl rfl
 ·cases hu;cases hv
  exact hplain (λ_ e=>by cases e) (λe=>by cases e) (λn=>by simp[Op.equalIn,run_underlying hut]) rfl rfl
 ·cases hu;obtain⟨i,_,rfl⟩:=Jl hv
  exact hplain (λ_ e=>by cases e) (λe=>by cases e) (λn=>by simp[Op.equalIn,run_underlying hut]) rfl rfl
 ·cases hv;obtain⟨i,_,rfl⟩:=Jl hu
  exact hplain (λ_ e=>by cases e) (λe=>by cases e) (λn=>by simp[Op.equalIn,run_underlying hut]) rfl rfl
 ·cases hu;cases hv
  exact hplain (λ_ e=>by cases e) (λe=>by cases e) (λn=>by simp[Op.equalIn,run_underlying hut]) rfl rfl
 ·cases hu;obtain⟨i,m,_,rfl,_⟩:=Dh hv
  exact hplain (λ_ e=>by cases e) (λe=>by cases e) (λn=>by simp[Op.equalIn,run_underlying hut]) rfl rfl
 ·cases hv;obtain⟨i,m,_,rfl,_⟩:=Dh hu
  exact hplain (λ_ e=>by cases e) (λe=>by cases e) (λn=>by simp[Op.equalIn,run_underlying hut]) rfl rfl
 ·cases hu;obtain⟨i,_,_,rfl⟩:=E4 hv
  exact hplain (λ_ e=>by cases e) (λe=>by cases e) (λn=>by simp[Op.equalIn,run_underlying hut]) rfl rfl
 ·cases hv;obtain⟨i,_,_,rfl⟩:=E4 hu
  exact hplain (λ_ e=>by cases e) (λe=>by cases e) (λn=>by simp[Op.equalIn,run_underlying hut]) rfl rfl
 ·cases hu;cases hv
  exact hplain (λ_ e=>by cases e) (λe=>by cases e) (λn=>by simp[Op.equalIn,run_underlying hut]) rfl rfl
 ·cases hu;obtain⟨i,_,rfl⟩:=Ig hv
  exact hplain (λ_ e=>by cases e) (λe=>by cases e) (λn=>by simp[Op.equalIn,run_underlying hut]) rfl rfl
 ·cases hv;obtain⟨i,_,rfl⟩:=Ig hu
  exact hplain (λ_ e=>by cases e) (λe=>by cases e) (λn=>by simp[Op.equalIn,run_underlying hut]) rfl rfl
 ·cases hu;cases hv
  exact hplain (λ_ e=>by cases e) (λe=>by cases e) (λn=>by simp[Op.equalIn,run_underlying hut]) rfl rfl
 ·cases hu;obtain⟨y,z,_,_,rfl⟩:=KV hv
  exact hplain (λ_ e=>by cases e) (λe=>by cases e) (λn=>by simp[Op.equalIn,run_underlying hut]) rfl rfl
 ·cases hv;obtain⟨y,z,_,_,rfl⟩:=KV hu
  exact hplain (λ_ e=>by cases e) (λe=>by cases e) (λn=>by simp[Op.equalIn,run_underlying hut]) rfl rfl
 ·cases hu;cases hv
  refine hfin ?_ (Xf w (λn=>by simp[Op.equalIn,run_underlying hut])) rfl rfl
  have hl:(Ms ox || Ms oy)=true:=by simpa using htg
  rcases hop with rfl|rfl<;>cases ox<;>cases oy<;>first|rfl|(exfalso;simp[Ms]at hl)
 ·cases hu;obtain⟨y,_,rfl⟩:=M1 hv
  exact hplain (λ_ e=>by cases e) (λ_ e=>by cases e) (λn=>by simp[Op.equalIn,run_underlying hut]) rfl rfl
 ·cases hv;obtain⟨y,_,rfl⟩:=M1 hu
  exact hplain (λ_ e=>by cases e) (λe=>by cases e) (λn=>by simp[Op.equalIn,run_underlying hut]) rfl rfl
theorem zy{t o p x y v e}(s:∀k n u m,x = .int k n->y = .int u m->False)(w:∀l m,x = .N l->y = .N m->False)
  (h:HR e (lV P e t o p) x y=some v):(e = .eql\/e = .neq)/\∃b,KQ (lV P e t o p) x y=some b/\v = .bool (if e = .eql then b else !b):=by
 unfold HR at h;split at h
 ·exact(s _ _ _ _ rfl rfl).elim
 ·exact(w _ _ rfl rfl).elim
 ·cases e<;>simp only[Aa]at h<;>first
   | (obtain⟨b,g,rfl⟩:=h;exact⟨.inl rfl,b,g,rfl⟩) | (obtain⟨b,g,rfl⟩:=h;exact⟨.inr rfl,b,g,rfl⟩) | cases h
theorem Zg{g}{x y:V}{b}(h:KQ g x y=some b):x.J=true/\y.J=true:=by
 unfold KQ at h;split at h<;>first | exact⟨rfl,rfl⟩ | cases h
theorem zx{o t p q v}(s:CK R e a.tmps)(u:ET G R)
  (h:HR o (lV P o t p q) (Ca e (Ak G p)) (Ca e (Ak G q))=some v) w :
  ∃x,Av R v=some x/\(do eqGuard o t p q (a.eval p) (a.eval q);binOp o t (a.eval p) (a.eval q):Sem Value).run P w = .ok x w:=by
 by_cases I:∃k n A m,Ca e (Ak G p) = .int k n/\Ca e (Ak G q) = .int A m
 ·have ⟨k,n,A,m,j,i⟩:=I
  rw[j,i]at h;rw[GV s u j,GV s u i];have ⟨r,D,g⟩:=rK (R:=R) (P:=P) h t w;exact⟨r,D,by rw[Sem.run_bind,GP _ _ _ _ _ _ _ (λ_ e=>by cases e) (λe=>by cases e)];exact g⟩
 ·by_cases F:∃l m,Ca e (Ak G p) = .N l/\Ca e (Ak G q) = .N m
  ·have ⟨l,m,j,i⟩:=F
   rw[j,i]at h;rw[L8 s u j,L8 s u i];have ⟨r,D,g⟩:=rJ (R:=R) (P:=P) h t w;exact⟨r,D,by rw[Sem.run_bind,GP _ _ _ _ _ _ _ (λ_ e=>by cases e) (λe=>by cases e)];exact g⟩
  ·obtain⟨E,b,J,rfl⟩:=zy (λk n A m j i=>I ⟨k,n,A,m,j,i⟩) (λl m j i=>F ⟨l,m,j,i⟩) h
   have ⟨C,B⟩:=Zg J;have L:=ev s u rfl C;have K:=ev s u rfl B;exact⟨_,rfl,qW E J L K w⟩
end Go.Og
namespace Go.Og
variable {P:Program}{G:Nat->Bool}{R:DN}{e:CF}{a:Act}
theorem Nf{m l:Nat}(h:¬m=l):Ar m l=false:=EP.2 (by rw[ne_eq,AW];exact h)
theorem rE x d b:GX (some x) d=GX (some x) b:=by cases x<;>rfl
theorem Nc(z:CK R e a.tmps)(A:ET G R){o:Option Operand}{d n}(h:GX (D6 e (o.map (Ak G))) d=some n) y (C:n<=y) i w:
  (o=none/\n=d)\/∃x,o=some x/\(Instr.sliceBound (a.eval x) y i).run P w = .ok n w:=by
 cases o with
 | none=>simp only[Option.map_none,D6,GX,AY.injEq]at h;exact .inl ⟨rfl,h.symm⟩ | some x=>
  right;refine⟨x,rfl,?_⟩;simp only[Cl,D6]at h;unfold GX at h;split at h
  ·rename_i g;cases g
  ·rename_i k m g
   simp at g;split at h
   ·rename_i B
    simp at h;subst h;rw[GV z A g];exact run_sliceBound w k m y i B (by omega)
   ·cases h
  ·cases h
theorem Gx(g:CK R e a.tmps)(i:ET G R){lo o mx:Option Operand}{len cap l h m} c
  (u:GX (D6 e (mx.map (Ak G))) cap=some m) (r:GX (D6 e (o.map (Ak G))) len=some h) (p:GX (D6 e (lo.map (Ak G))) 0=some l)
  (h1:l<=h) (s:h<=m) (v:m<=cap) (q:mx.isSome=true->o.isSome=true) w :
  (Instr.sliceBounds c len cap (lo.map a.eval) (o.map a.eval) (mx.map a.eval)).run P w = .ok (l,h,m) w:=by
 unfold Instr.sliceBounds;rcases Nc (P:=P) g i u cap v (if c then .slice3Acap else .slice3Alen) w with ⟨rfl,rfl⟩|⟨x,rfl,t⟩
 ·rcases Nc (P:=P) g i r m s (if c then .sliceAcap else .sliceAlen) w with ⟨rfl,rfl⟩|⟨y,rfl,k⟩
  ·rcases Nc (P:=P) g i p h h1 .sliceB w with ⟨rfl,rfl⟩|⟨z,rfl,j⟩
   ·rfl
   ·simp[j]
  ·rcases Nc (P:=P) g i p h h1 .sliceB w with ⟨rfl,rfl⟩|⟨z,rfl,j⟩
   ·simp[k]
   ·simp[k,j]
 ·rcases Nc (P:=P) g i r m s .slice3B w with ⟨rfl,rfl⟩|⟨y,rfl,k⟩
  ·simp at q
  ·rcases Nc (P:=P) g i p h h1 .slice3C w with ⟨rfl,rfl⟩|⟨z,rfl,j⟩
   ·simp[t,k]
   ·simp[t,k,j]
theorem add_eq b o n:(⟨b,o,none⟩:Addr).add n=⟨b,o+n,none⟩:=by
 unfold Addr.add;split
 ·rename_i h;subst h;rfl
 ·rfl
theorem zt{i:BI}{z off l}:i.cap z (off+l*z)=i.cap z off-l:=by
 unfold BI.cap;rw[<-Nat.sub_sub,ABv l z];by_cases h:z*l<=i.endc-off
 ·exact Nat.sub_mul_div_of_le (i.endc-off) z l h
 ·have f:i.endc-off<z*l:=by omega
  rw[Nat.sub_eq_zero_of_le (by omega),Nat.zero_div];have:=Nat.div_le_of_le_mul (m:=i.endc-off) (n:=l) (k:=z) (by omega);omega
theorem kb (he:CK R e a.tmps) (hg:ET G R) {t el esz} (hu:P.underlying t=some (.slice el)) (hs:Gh P el=some esz)
  {x:Operand}{lo Q mx:Option Operand} (U:mx.isSome=true->Q.isSome=true) {v:V}
  (h:CT esz (Ca e (Ak G x)) (D6 e (lo.map (Ak G))) (D6 e (Q.map (Ak G))) (D6 e (mx.map (Ak G)))=some v) (w:World) :
  ∃r,Av R v=some r/\(Instr.sliceAt t (a.eval x) (lo.map a.eval) (Q.map a.eval) (mx.map a.eval)).run P w = .ok r w:=by
 have hat:∀u,(Instr.sliceAt t u (lo.map a.eval) (Q.map a.eval) (mx.map a.eval)).run P w=(Instr.slice t u (lo.map a.eval) (Q.map a.eval) (mx.map a.eval)).run P w:=λu=>by
  unfold Instr.sliceAt;simp[run_underlying hu]
 rw[hat];have O:∀(b:Option Addr) (len cap l F m:Nat),(Instr.sliceBounds true len cap (lo.map a.eval) (Q.map a.eval) (mx.map a.eval)).run P w = .ok (l,F,m) w ->
   (Instr.slice t (.slice b len cap) (lo.map a.eval) (Q.map a.eval) (mx.map a.eval)).run P w = .ok (.slice (if m=l then b else b.map (·.add (l*esz))) (F-l) (m-l)) w:=λb len cap l F m hb=>by
  unfold Instr.slice;simp[run_underlying hu,hb,Es hs w]
 cases hx:Ca e (Ak G x)with
 | h=>
  rw[hx]at h;have hc:=ev he hg hx rfl;simp only[Av,AY.injEq]at hc;rw[<-hc];simp only[CT]at h;cases T:GX (D6 e (mx.map (Ak G))) 0<;>simp only[T]at h
  ·cases h
  rename_i m;cases F:GX (D6 e (Q.map (Ak G))) 0<;>simp only[F]at h
  ·cases h
  rename_i N;cases M:GX (D6 e (lo.map (Ak G))) 0<;>simp only[M]at h
  ·cases h
  rename_i l;split at h
  ·rename_i n
   simp only[AQ,Bn,AW]at n;have ⟨⟨h1,h2⟩,K⟩:=n;cases h;refine⟨_,rfl,?_⟩;rw[O none 0 0 l N m (Gx he hg true T F M h1 h2 (by omega) U w)];have:m=0:=K;have:N=0:=by omega
   have:l=0:=by omega
   subst_vars;rfl
  ·cases h
 | D b off len c=>
  rw[hx]at h;have hc:=ev he hg hx rfl;have ⟨i,cap,J,hev,hex,hop⟩:=Dh hc;rw[hev];cases c with
  | ex c=>
   obtain rfl:=hex c rfl;simp only[CT]at h;cases T:GX (D6 e (mx.map (Ak G))) cap<;>simp only[T]at h
   ·cases h
   rename_i m;cases F:GX (D6 e (Q.map (Ak G))) len<;>simp only[F]at h
   ·cases h
   rename_i N;cases M:GX (D6 e (lo.map (Ak G))) 0<;>simp only[M]at h
   ·cases h
   rename_i l;split at h
   ·rename_i n
    simp only[AQ,Bn,AW]at n;obtain⟨⟨h1,h2⟩,K⟩:=n;have K:m<=cap:=by
     rw[Cn]at K;rcases K with K|K
     ·cases hq:D6 e (mx.map (Ak G))with
      | none=>rw[hq]at T;cases T;exact AL _ | some q=>rw[hq]at K;cases K
     ·exact Nat.le_of_ble_eq_true K
    cases h;refine⟨_,?_,O _ len cap l N m (Gx he hg true T F M h1 h2 K U w)⟩;simp only[Av,J,Cl];by_cases I:m=l
    ·simp[I]
    ·have:Ar m l=false:=Nf I
     simp[I,this,add_eq,D4]
   ·cases h
  | op z=>
   obtain⟨L,hlen⟩:=hop z rfl;have hbd:=QZ hc J;rw[<-L]at hbd;simp only[CT]at h;cases F:GX (D6 e (Q.map (Ak G))) len
   ·rw[F]at h;cases h
   rename_i N;cases M:GX (D6 e (lo.map (Ak G))) 0
   ·rw[F,M]at h;cases h
   rename_i l;rw[F,M]at h;simp only at h;cases hmo:mx with
   | none=>
    subst hmo;simp only[Option.map_none,D6]at h;split at h
    ·rename_i n
     simp only[AQ,Bn,AW]at n;obtain⟨⟨h1,h2⟩,K⟩:=n;subst K;have hb:=Gx (P:=P) he hg true (by simp[D6,GX]) F M h1 (BE h2 hlen) (AL _) U w;refine⟨_,?_,O _ len cap l N cap hb⟩;split at h
     ·rename_i hll
      simp only[AW]at hll;have hhl:N=l:=by omega
      subst hhl;split at h
      ·rename_i hl0
       simp only[AW]at hl0;cases h;subst hl0;simp only[Av,J,Bk,<-L,hlen,hbd,and_self,if_true,NH,Nat.zero_mul,Cl,add_eq,ABw,ite_self,<-hll,CA]
      ·cases h
       simp only[Av,J,Bk,<-L,Ec,Cl,if_pos (show N<=cap by omega)];by_cases hcl:cap=N<;>simp[hcl]
     ·rename_i hll
      simp only[AW]at hll;cases h;have hne:cap≠l:=by omega
      simp only[Av,J,Bk,zt,<-L,if_neg hne,Cl,add_eq,D4,if_pos (show N-l<=cap-l/\cap-l<=9223372036854775807 by omega)]
    ·cases h
   | some mo=>
    subst hmo;cases T:GX (D6 e ((some mo).map (Ak G))) 0<;>simp only[Cl,D6]at h T<;>simp only[T]at h
    ·cases h
    rename_i m;split at h
    ·rename_i n
     simp only[AQ,Bn,AW]at n;obtain⟨⟨h1,h2⟩,K⟩:=n;cases h;have hm':GX (D6 e ((some mo).map (Ak G))) cap=some m:=by
      simp only[Cl,D6];rw[rE _ cap 0];exact T
     refine⟨_,?_,O _ len cap l N m (Gx he hg true hm' F M h1 h2 (by omega) U w)⟩;simp only[Av,J,Cl];by_cases I:m=l
     ·simp[I]
     ·have:Ar m l=false:=Nf I
      simp[I,this,add_eq,D4]
    ·cases h
 | sle b off k z=>
  rw[hx]at h;have hc:=ev (a:=a) he hg hx rfl;obtain⟨i,J,hk,hev⟩:=E4 hc;simp only[CT]at h;cases F:GX (D6 e (Q.map (Ak G))) 0
  ·rw[F]at h;cases h
  rename_i N;cases M:GX (D6 e (lo.map (Ak G))) 0
  ·rw[F,M]at h;cases h
  rename_i l;rw[F,M]at h;cases hmo:mx with
  | some mo=>subst hmo;simp only[Cl,D6]at h;cases h | none=>
   subst hmo;simp only[Option.map_none,D6]at h;split at h
   ·rename_i n
    simp only[AQ,AW]at n;obtain⟨rfl,rfl⟩:=n;cases h;refine⟨_,hc,?_⟩;rw[hev];have hb:=Gx (a:=a) (P:=P) (len:=0) (cap:=i.cap z off-k) (m:=i.cap z off-k) (mx:=none) he hg true (by simp[D6,GX]) F M (AL 0) (CA _) (AL _) U w;rw[O _ 0 _ 0 0 _ hb];simp only[Nat.zero_mul,NH,Cl];split<;>split<;>simp[Addr.add]
   ·cases h
 | _=>rw[hx]at h;simp only[CT]at h;cases h
end Go.Og
namespace Go.Og
variable {P:Program}{G:Nat->Bool}{R:DN}{e:CF}{a:Act}
theorem Ts(M:CK R e a.tmps)(N:ET G R){t L n p}(Q:P.underlying t=some (.array n L))(W:Gh P L=some p)
  {x}{lo A mx:Option Operand} (J:mx.isSome=true->A.isSome=true) {v}
  (h:I7 n p (Ca e (Ak G x)) (D6 e (lo.map (Ak G))) (D6 e (A.map (Ak G))) (D6 e (mx.map (Ak G)))=some v) w :
  ∃r,Av R v=some r/\(Instr.sliceAt t (a.eval x) (lo.map a.eval) (A.map a.eval) (mx.map a.eval)).run P w = .ok r w:=by
 cases D:Ca e (Ak G x)with
 | o b off=>
  rw[D]at h;have ⟨i,K,E⟩:=Iq M N D;simp only[I7]at h;cases y:GX (D6 e (mx.map (Ak G))) n
  ·rw[y]at h;cases h
  rename_i m;cases B:GX (D6 e (A.map (Ak G))) n
  ·rw[y,B]at h;cases h
  rename_i O;cases F:GX (D6 e (lo.map (Ak G))) 0
  ·rw[y,B,F]at h;cases h
  rename_i l;rw[y,B,F]at h;simp only at h;split at h
  ·rename_i k
   simp at k;have ⟨⟨h1,U⟩,S⟩:=k;cases h;have T:=Gx (P:=P) M N false y B F h1 U S J w;refine⟨.slice (some (if m=l then⟨i.i2,i.shift+off,none⟩else(⟨i.i2,i.shift+off,none⟩:Addr).add (l*p))) (O-l) (m-l),?_,?_⟩
   ·simp only[Av,K,]
    by_cases q:m=l
    ·simp[q]
    ·have:=Nf q
     simp[q,add_eq,D4]
   ·rw[E]
    unfold Instr.sliceAt;simp[run_underlying Q,Instr.sureAddr,T,Es W w]
  ·cases h
 | _=>rw[D]at h;simp only[I7]at h;cases h
theorem Tq(B:CK R e a.tmps)(C:ET G R){t}(E:P.underlying t=some .string)
  {x}{lo u:Option Operand}{v}
  (h:I6 (Ca e (Ak G x)) (D6 e (lo.map (Ak G))) (D6 e (u.map (Ak G)))=some v) w :
  ∃r,Av R v=some r/\(Instr.sliceAt t (a.eval x) (lo.map a.eval) (u.map a.eval) none).run P w = .ok r w:=by
 cases y:Ca e (Ak G x)with
 | N s=>
  rw[y]at h;have o:=L8 B C y;simp only[I6]at h;cases m:GX (D6 e (u.map (Ak G))) s.len
  ·rw[m]at h;cases h
  cases z:GX (D6 e (lo.map (Ak G))) 0
  ·rw[m,z]at h;cases h
  rw[m,z]at h;simp only at h;split at h
  ·rename_i g
   simp at g;have ⟨h1,D⟩:=g;cases h;have p:(ByteArray.mk s.toList.toArray).size=s.len:=by simp[ByteArray.size,BS.length_toList]
   have A:=Gx (P:=P) (mx:=none) B C false (by simp[D6,GX]) m z h1 D (AL _) (λe=>by cases e) w;refine⟨_,rfl,?_⟩;rw[o];unfold Instr.sliceAt Instr.slice;simp at A;simp only[Sem.run_bind,run_underlying E,Result.andThen_ok,Option.isSome_none,FV,if_false,p,A,Sem.run_pure];congr 2;rw[BS.toList_sub D];apply ByteArray.ext;apply G1;simp[Wb]
  ·cases h
 | _=>rw[y]at h;simp only[I6]at h;cases h
theorem Di{b off}{i:BI}(h:R b=some i):Av R (.o b off)=some (.pointer (some ⟨i.i2,i.shift+off,none⟩)):=by simp only[Av,h,Cl]
theorem Zn{f l m}{y z:List Value}(h:BF R l=some y)(k:BF R m=some z):Av R (.fn f l m)=some (.func (.func f) y.toArray z.toArray):=by simp only[Av,h,k]
theorem gN:∀(l:List Operand) x u {k n} (_:CK R e a.tmps) (_:ET G R) (_:Av R x=some u) (_:∃k n,x = .int k n)
  (_:XR x (GM e (l.map (Ak G)))=some (.int k n)) w,((l.map a.eval).foldlM Builtin.min2 u).run P w = .ok (.int k n) w
 | [],x,u,k,n,_,_,q,_,h,w=>by
  simp only[GM,WZ,XR,AY.injEq]at h;subst h;cases q;rfl
 | o::l,x,u,k,n,t,s,q,⟨F,B,z⟩,h,w=>by
  subst z;simp only[GM,C7]at h;unfold XR at h;split at h
  ·rename_i f;cases f
  ·rename_i m f
   cases m;rename_i E I A _;simp only[List.cons.injEq]at f;have ⟨y,v⟩:=f;split at h
   ·rename_i D
    subst v;cases q;rw[C7,List.foldlM_cons,GV t s y];exact gN l _ _ t s rfl ⟨_,_,rfl⟩ h w
   ·cases h
  ·cases h
theorem gP:∀(l:List Operand) x u {k n} (_:CK R e a.tmps) (_:ET G R) (_:Av R x=some u) (_:∃k n,x = .int k n)
  (_:XS x (GM e (l.map (Ak G)))=some (.int k n)) w,((l.map a.eval).foldlM Builtin.max2 u).run P w = .ok (.int k n) w
 | [],x,u,k,n,_,_,q,_,h,w=>by
  simp only[GM,WZ,XS,AY.injEq]at h;subst h;cases q;rfl
 | o::l,x,u,k,n,t,s,q,⟨F,B,z⟩,h,w=>by
  subst z;simp only[GM,C7]at h;unfold XS at h;split at h
  ·rename_i f;cases f
  ·rename_i m f
   cases m;rename_i E I A _;simp only[List.cons.injEq]at f;have ⟨y,v⟩:=f;split at h
   ·rename_i D
    subst v;cases q;rw[C7,List.foldlM_cons,GV t s y];exact gP l _ _ t s rfl ⟨_,_,rfl⟩ h w
   ·cases h
  ·cases h
theorem gE{t s}(o:G2 P t=some s){l}{x:List Value}(i:BF R l=some x){off v}
  (h:L7 l off s=some v) w :
  ∃r,Av R v=some r/\(part t x.toArray off).run P w = .ok r w:=by
 have ⟨h1,j⟩:=Ky o w;cases s with
 | none=>
  have ⟨r,k,m⟩:=Eu i h;refine⟨r,k,?_⟩;unfold part;simp[h1,m]
 | some n=>
  simp only[L7]at h;split at h
  ·cases h
   refine⟨_,EE (QY (Zm i off) n),?_⟩;unfold part;simp only[Sem.run_bind,h1,Result.andThen_ok,Option.isSome_some,if_true,j n rfl,Sem.run_pure];congr 2;apply G1;simp[Wb]
  ·cases h
theorem qp(he:CK R e a.tmps)(hg:ET G R)(b:Builtin)(ts:Array TypeId)(ty:TypeId)(lits:Array Bool)(args:Array Operand){v:V}
  (h:Bb (LZ P G b ts args) e=some v) (w:World):∃x,Av R v=some x/\(builtin b ts ty lits (args.map a.eval)).run P w = .ok (.value x) w:=by
 have B:∀{s:Sem Value}{x:Value},s.run P w = .ok x w->(do pure (Next.value (<-s)):Sem Next).run P w = .ok (.value x) w:=λhs=>by simp[hs]
 have ⟨ts⟩:=ts;have ⟨args⟩:=args;unfold LZ at h;split at h
 ·
  rename_i t x hts A;subst hts A;split at h
  ·rename_i I
   simp only[Bb]at h;split at h
   ·rename_i s D;cases h
    refine⟨_,rfl,?_⟩;simp only[builtin];have hsz:(ByteArray.mk s.toList.toArray).size=s.len:=by simp[ByteArray.size,BS.length_toList]
    exact B (by rw[show ADh a.eval ⟨[x]⟩=#[a.eval x] from by simp];rw[L8 he hg D];unfold Builtin.len_;simp[run_underlying I,goInt,hsz])
   ·cases h
  ·rename_i el I
   simp only[Bb]at h;split at h
   ·rename_i D;cases h
    have hc:=ev he hg D rfl;simp only[Av,AY.injEq]at hc;refine⟨_,rfl,?_⟩;simp only[builtin];exact B (by rw[show ADh a.eval ⟨[x]⟩=#[a.eval x] from by simp];rw[<-hc];unfold Builtin.len_;simp[run_underlying I,goInt])
   ·rename_i b off n c D;cases h
    have ⟨i,m,_,hev,_⟩:=Dh (ev he hg D rfl);refine⟨_,rfl,?_⟩;simp only[builtin];exact B (by unfold Builtin.len_;simp[run_underlying I,hev,goInt])
   ·rename_i b off n c D;cases h
    have ⟨i,_,_,hev⟩:=E4 (ev he hg D rfl);refine⟨_,rfl,?_⟩;simp only[builtin];exact B (by unfold Builtin.len_;simp[run_underlying I,hev,goInt])
   ·cases h
  ·rename_i n el I
   simp only[Bb,AY.injEq]at h;subst h;refine⟨_,rfl,?_⟩;simp only[builtin];exact B (by unfold Builtin.len_;simp[run_underlying I,goInt])
  ·rename_i el I
   split at h
   ·rename_i n el' hu'
    simp only[Bb,AY.injEq]at h;subst h;refine⟨_,rfl,?_⟩;simp only[builtin];exact B (by unfold Builtin.len_;simp[run_underlying I,run_underlying hu',goInt])
   ·cases h
  ·cases h
 ·
  rename_i t x hts A;simp only at hts A;subst hts A;split at h
  ·rename_i el I
   simp only[Bb]at h;split at h
   ·rename_i D;cases h
    have hc:=ev he hg D rfl;simp only[Av,AY.injEq]at hc;refine⟨_,rfl,?_⟩;simp only[builtin];exact B (by rw[show ADh a.eval ⟨[x]⟩=#[a.eval x] from by simp];rw[<-hc];unfold Builtin.cap_;simp[run_underlying I,goInt])
   ·rename_i b off n c D;cases h
    obtain⟨i,m,_,hev,hex,_⟩:=Dh (ev (a:=a) he hg D rfl);obtain rfl:=hex _ rfl;refine⟨_,rfl,?_⟩;simp only[builtin];exact B (by unfold Builtin.cap_;simp[run_underlying I,hev,goInt])
   ·cases h
  ·cases h
 ·
  split at h
  ·split at h
   ·split at h
    ·have hno:∀(q:Bool) (e1:TypeId) (n m:Nat) (x y:AO),Bb (if q=true then Ek.pu else Ek.append e1 n m x y) e≠some v:=by
      intro q e1 n m x y;cases q<;>simp[Bb]
     exact(hno _ _ _ _ _ _ h).elim
    ·cases h
   ·cases h
  ·cases h
 ·
  split at h
  ·split at h
   ·simp only[Bb]at h;cases h
   ·cases h
  ·cases h
 ·
  rename_i x l A;simp only at A;subst A;simp only[Bb]at h;split at h
  ·rename_i k n F;cases h
   refine⟨_,rfl,?_⟩;simp only[builtin];refine B ?_;have D:∃k n,Ca e (Ak G x) = .int k n:=by
    cases l with
    | nil=>simp only[GM,WZ,XR,AY.injEq]at F;exact⟨k,n,F⟩ | cons y l=>
     simp only[GM,C7]at F;unfold XR at F;split at F
     ·rename_i E;cases E
     ·rename_i E _;exact⟨_,_,E⟩
     ·cases F
   obtain⟨k1,n1,J⟩:=D;have:=gN (P:=P) l _ _ he hg (ev (a:=a) he hg J rfl) ⟨k1,n1,rfl⟩ (J ▸ F) w;simpa[Builtin.min_]using this
  ·cases h
 ·
  rename_i x l A;simp only at A;subst A;simp only[Bb]at h;split at h
  ·rename_i k n F;cases h
   refine⟨_,rfl,?_⟩;simp only[builtin];refine B ?_;have D:∃k n,Ca e (Ak G x) = .int k n:=by
    cases l with
    | nil=>simp only[GM,WZ,XS,AY.injEq]at F;exact⟨k,n,F⟩ | cons y l=>
     simp only[GM,C7]at F;unfold XS at F;split at F
     ·rename_i E;cases E
     ·rename_i E _;exact⟨_,_,E⟩
     ·cases F
   obtain⟨k1,n1,J⟩:=D;have:=gP (P:=P) l _ _ he hg (ev (a:=a) he hg J rfl) ⟨k1,n1,rfl⟩ (J ▸ F) w;simpa[Builtin.max_]using this
  ·cases h
 ·cases h
theorem M4 (he:CK R e a.tmps) (hg:ET G R) (o:Oper) {v:V} (h:Bb (Af P G o.op) e=some v) (w:World) :
  ∃x,Av R v=some x/\(execOp a.eval o).run P w = .ok (.value x) w:=by
 have val:∀{s:Sem Value}{x:Value},s.run P w = .ok x w->(do pure (Next.value (<-s)):Sem Next).run P w = .ok (.value x) w:=λhs=>by simp[hs]
 have ⟨dst,op,ty,pos,after,guard⟩:=o;cases op with
 | move x=>
  simp only[Af,Bb]at h;split at h
  ·rename_i hl;cases h
   exact⟨_,ev he hg rfl hl,rfl⟩
  ·cases h
 | assign x=>
  simp only[Af,Bb]at h;split at h
  ·rename_i hl;cases h
   exact⟨_,ev he hg rfl hl,rfl⟩
  ·cases h
 | pick c x y=>
  simp only[Af,Bb]at h;split at h
  ·rename_i hc
   split at h
   ·rename_i hl;cases h
    exact⟨_,ev he hg rfl hl,by simp[execOp,LG (a:=a) he hg hc,asBool]⟩
   ·cases h
  ·rename_i hc
   split at h
   ·rename_i hl;cases h
    exact⟨_,ev he hg rfl hl,by simp[execOp,LG (a:=a) he hg hc,asBool]⟩
   ·cases h
  ·cases h
 | build t ps=>
  simp only[Af]at h;have hmap:∀(q:Array (Nat × Operand)),(q.map (λ(x:Nat × Operand)=>(x.1,a.eval x.2))).toList=q.toList.map (λ(x:Nat × Operand)=>(x.1,a.eval x.2)):=λq=>Array.toList_map;split at h
  ·rename_i fs z hu hz
   cases hp:Ly P fs.toList with
   | none=>rw[hp]at h;cases h | some pl=>
    rw[hp]at h;simp only at h;cases hc:Ew G (pl[·]?) ps.toList with
    | none=>rw[hc]at h;cases h | some l=>
     rw[hc]at h;simp only[Bb]at h;cases hf:GK (KF e l) z with
     | none=>rw[hf]at h;cases h | some r=>
      rw[hf]at h;cases h;have ⟨zv,hzr,hzc⟩:=Gm (P:=P) (R:=R) hz w;have ⟨out,h1,h2,_⟩:=PH (a:=a) he hg ps.toList l z r zv.cells hc hzc hf;refine⟨_,EE h2,val ?_⟩;unfold Instr.build;simp only[Sem.run_bind,hzr,Result.andThen_ok,run_underlying hu,NK,Sem.run_map,SZ w hp,Sem.run_pure,hmap];have:(λ(x:Nat)=>(pl.toArray)[x]?)=(λx=>pl[x]?):=by funext x;simp
      simp only[this,h1,Sem.run_pure,Array.toArray_toList]
  ·rename_i n el z hu hz
   cases hp:Gh P el with
   | none=>rw[hp]at h;cases h | some s=>
    rw[hp]at h;simp only at h;cases hc:Ew G (λi=>some (i*s,s)) ps.toList with
    | none=>rw[hc]at h;cases h | some l=>
     rw[hc]at h;simp only[Bb]at h;cases hf:GK (KF e l) z with
     | none=>rw[hf]at h;cases h | some r=>
      rw[hf]at h;cases h;have ⟨zv,hzr,hzc⟩:=Gm (P:=P) (R:=R) hz w;have ⟨out,h1,h2,_⟩:=PH (a:=a) he hg ps.toList l z r zv.cells hc hzc hf;refine⟨_,EE h2,val ?_⟩;unfold Instr.build;simp only[Sem.run_bind,hzr,Result.andThen_ok,run_underlying hu,Es hp w,hmap,h1,Sem.run_pure,Array.toArray_toList]
  ·cases h
 | nilCheck x=>
  simp only[Af,Bb]at h;split at h
  ·rename_i b off hx
   cases h;have ⟨i,hi,hev⟩:=Iq (a:=a) he hg hx;refine⟨_,Di hi,?_⟩;simp[execOp,hev]
  ·cases h
 | binOp op t x y t'=>
  simp only[Af,Bb]at h;have ⟨r,hr,hrun⟩:=zx (a:=a) (P:=P) he hg h w;exact⟨r,hr,val hrun⟩
 | unOp op t x=>
  simp only[Af,Bb]at h;unfold unV at h;split at h
  ·rename_i k n hx;cases h
   refine⟨_,rfl,val ?_⟩;rw[GV he hg hx];rfl
  ·rename_i k n hx;cases h
   refine⟨_,rfl,val ?_⟩;rw[GV he hg hx];rfl
  ·rename_i b hx;cases h
   refine⟨_,rfl,val ?_⟩;rw[LG he hg hx];rfl
  ·cases h
 | convert s d x=>
  simp only[Af]at h;unfold zm at h;split at h
  ·rename_i ds k hs hd
   simp only[Bb]at h;split at h
   ·rename_i k' n hx;cases h
    refine⟨_,rfl,val ?_⟩;rw[GV he hg hx];simp[convert,run_underlying hs,run_underlying hd,Conv.intToInt]
   ·cases h
  ·rename_i hs hd
   simp only[Bb]at h;split at h
   ·rename_i l hx;cases h
    refine⟨_,rfl,val ?_⟩;rw[L8 he hg hx];simp[convert,run_underlying hs,run_underlying hd]
   ·cases h
  ·split at h<;>(simp only[Bb]at h;cases h)
  ·split at h<;>(simp only[Bb]at h;cases h)
  ·simp only[Bb]at h;cases h
 | makeInterface t x=>
  simp only[Af]at h;split at h
  ·cases h
  ·rename_i d hni hu
   simp only[Bb]at h;split at h
   ·rename_i hl;cases h
    have hc:=ev (a:=a) he hg rfl hl;refine⟨.iface t (a.eval x),by simp only[Av,hc],val ?_⟩;unfold Instr.makeInterface;rw[Sem.run_bind,run_underlying hu,Result.andThen_ok];split
    ·rename_i m;exact(hni m rfl).elim
    ·rfl
   ·cases h
  ·cases h
 | makeFunc fn f c=>
  cases fn with
  | func f'=>
   simp only[Af,Bb]at h;split at h
   ·rename_i hl
    simp only[AQ]at hl;cases h;have h1:=evs (a:=a) he hg f.toList hl.1;have h2:=evs (a:=a) he hg c.toList hl.2;refine⟨_,Zn h1 h2,val ?_⟩;have e1:∀q:Array Operand,ADh a.eval q=(List.map a.eval q.toList).toArray:=λq=>by apply G1;simp
    simp[Instr.makeFunc,e1]
   ·cases h
  | _=>simp only[Af,Bb]at h;cases h
 | slice t x lo hi mx=>
  simp only[Af]at h;split at h
  ·cases h
  ·rename_i hmx
   have hmx':mx.isSome=true->hi.isSome=true:=by
    intro hm;cases hh:hi.isSome<;>simp_all
   split at h
   ·rename_i hu
    split at h
    ·have ⟨r,hr,hrun⟩:=Tq (a:=a) (P:=P) he hg hu h w
     exact⟨r,hr,val hrun⟩
    ·cases h
   ·rename_i el hu
    cases hs:Gh P el with
    | none=>rw[hs]at h;cases h | some s=>
     rw[hs]at h;have ⟨r,hr,hrun⟩:=kb (a:=a) (P:=P) he hg hu hs hmx' h w;exact⟨r,hr,val hrun⟩
   ·rename_i n el hu
    cases hs:Gh P el with
    | none=>rw[hs]at h;cases h | some s=>
     rw[hs]at h;have ⟨r,hr,hrun⟩:=Ts (a:=a) (P:=P) he hg hu hs hmx' h w;exact⟨r,hr,val hrun⟩
   ·cases h
 | fieldAddr s x f=>
  simp only[Af]at h;split at h
  ·rename_i fs hu
   split at h
   ·rename_i fd hf
    split at h
    ·split at h<;>(simp only[Bb]at h;cases h)
    ·rename_i n hn hs
     simp only[Bb]at h;split at h
     ·rename_i b off hx;cases h
      have ⟨i,hi,hev⟩:=Iq (a:=a) he hg hx;refine⟨_,Di hi,val ?_⟩;unfold Instr.fieldAt fieldPlace;have hn':n≠0:=λe=>hn (e ▸ rfl);simp[run_underlying hu,hf,Instr.sureAddr,hev,Es hs w,hn',add_eq,D4]
     ·cases h
    ·cases h
   ·cases h
  ·cases h
 | field s x f=>
  simp only[Af]at h;split at h
  ·rename_i fs hu
   split at h
   ·rename_i fd hf
    split at h
    ·rename_i n hs
     cases hx:Ca e (Ak G x)with
     | agg l=>
      have ⟨y,hy,hev⟩:=UJ (a:=a) he hg hx;have h':L7 l fd.offset n=some v:=by
       cases n<;>simpa only [Bb,hx,L7]using h
      have ⟨r,hr,hrun⟩:=gE hs hy h' w;refine⟨r,hr,val ?_⟩;unfold Instr.field;simp[run_underlying hu,hf,asAgg,hev,hrun]
     | _=>cases n<;>(simp only[Bb,hx]at h;cases h)
    ·cases h
   ·cases h
  ·cases h
 | indexAddr t x i=>
  simp only[Af]at h;split at h
  ·rename_i el hu
   split at h
   ·rename_i s hs
    simp only[Bb]at h;split at h
    ·rename_i b off len c k n hx hi
     split at h
     ·rename_i hb;cases h
      have hc:=ev (a:=a) he hg hx rfl;have ⟨j,m,hj,hev,_⟩:=Dh hc;refine⟨_,Di hj,val ?_⟩;unfold Instr.indexAt;simp[asIntOf,GV (a:=a) he hg hi,run_underlying hu,hev,hb,Es hs w,add_eq,D4]
     ·cases h
    ·cases h
   ·cases h
  ·rename_i len el hu
   split at h
   ·rename_i s hs
    simp only[Bb]at h;split at h
    ·rename_i b off k n hx hi
     split at h
     ·rename_i hb;cases h
      have ⟨j,hj,hev⟩:=Iq (a:=a) he hg hx;refine⟨_,Di hj,val ?_⟩;unfold Instr.indexAt;simp[asIntOf,GV (a:=a) he hg hi,run_underlying hu,hev,Instr.sureAddr,hb,Es hs w,add_eq,D4]
     ·cases h
    ·cases h
   ·cases h
  ·cases h
 | index t x i=>
  simp only[Af]at h;split at h
  ·rename_i hu
   simp only[Bb]at h;split at h
   ·rename_i s k n hx hi
    split at h
    ·rename_i h0
     split at h
     ·rename_i hc;cases h
      simp only[Co]at hc;refine⟨_,rfl,val ?_⟩;unfold Instr.index;have hb:(ByteArray.mk s.toList.toArray)[n.toNat]? = some (UInt8.ofNat (s.get n.toNat)):=by
       have hlt:n.toNat<s.toList.length:=by rw[BS.length_toList];exact hc
       have hsz:(ByteArray.mk s.toList.toArray).size=s.toList.length:=by simp[ByteArray.size]
       have hcc:=BS.getElem?_toList s n.toNat;rw[if_pos hc]at hcc;rw[getElem?_pos (ByteArray.mk s.toList.toArray) n.toNat (by omega)];rw[AI hlt]at hcc;simp only[AY.injEq]at hcc ⊢;rw[<-hcc];rfl
      have hgl:s.get n.toNat % 256=s.get n.toNat:=Dn (s.get_lt _);simp[asIntOf,GV (a:=a) he hg hi,run_underlying hu,L8 (a:=a) he hg hx,h0,hb,hgl]
     ·cases h
    ·cases h
   ·cases h
  ·rename_i n el hu
   split at h
   ·rename_i z s hz hs
    simp only[Bb]at h
    split at h
    ·rename_i l k m hx hi
     split at h
     ·rename_i hc
      have ⟨y,hy,hev⟩:=UJ (a:=a) he hg hx
      have ⟨r,hr,hrun⟩:=gE hs hy h w
      refine⟨r,hr,val ?_⟩
      unfold Instr.index
      simp[asIntOf,GV (a:=a) he hg hi,run_underlying hu,hev,hc,Es hz w,hrun]
     ·cases h
    ·cases h
   ·simp only[Bb]at h;cases h
  ·simp only[Bb]at h;cases h
 | extract x i=>
  simp only[Af,Bb]at h
  split at h
  ·rename_i l hx
   have ⟨y,hy,hev⟩:=AFL (a:=a) he hg hx
   have ⟨r,hr,hk⟩:=Eu hy h
   refine⟨r,hr,val ?_⟩
   unfold Instr.extract
   rw[hev]
   simp[hk]
  ·cases h
 | call c=>
  have ⟨callee,args,argTypes⟩:=c
  cases callee with
  | value f=>cases f<;>(simp only[Af,Bb]at h;cases h)
  | invoke r m=>simp only[Af,Bb]at h;cases h
  | builtin b=>
   simp only[Af]at h
   have ⟨r,hr,hrun⟩:=qp (a:=a) (P:=P) he hg b argTypes ty (args.map fun | .const _=>true | _=>false) args h w
   refine⟨r,hr,?_⟩
   simp only[execOp,resolve,Sem.run_bind,Sem.run_pure,Result.andThen_ok,invoke]
   exact hrun
 | buildSlice t n ps=>simp only[Af]at h;(repeat' split at h)<;>(simp only[Bb]at h;cases h)
 | makeSlice t l c=>simp only[Af]at h;(repeat' split at h)<;>(simp only[Bb]at h;cases h)
 | alloc t=>simp only[Af]at h;(repeat' split at h)<;>(simp only[Bb]at h;cases h)
 | load t x=>
  simp only[Af]at h
  split at h
  ·rename_i hs
   simp only[Bb]at h
   split at h
   ·rename_i b off hx
    simp only[AY.injEq]at h;subst h
    have ⟨i,hi,hev⟩:=Iq (a:=a) he hg hx
    have ⟨h1,h2⟩:=Ky (P:=P) hs w
    refine⟨_,EE (x:=[]) rfl,val ?_⟩
    unfold Instr.loadAt loadVar
    have h0:∀b:Addr,(loadCells b 0).run P w = .ok #[] w:=λb=>rfl
    simp[Instr.sureAddr,hev,h1,h2 0 rfl,h0]
   ·cases h
  ·simp only[Bb]at h;cases h
  ·simp only[Bb]at h;cases h
 | store t x y=>simp only[Af]at h;(repeat' split at h)<;>(simp only[Bb]at h;cases h)
 | box t x=>simp only[Af]at h;(repeat' split at h)<;>(simp only[Bb]at h;cases h)
 | makeMap t r=>cases r<;>(simp only[Af,Bb]at h;cases h)
 | lookup t x y ok=>cases ok<;>simp only[Af]at h<;>first | (simp only[Bb]at h;cases h;done) | ((repeat' split at h)<;>(simp only[Bb]at h;cases h))
 | mapUpdate t x y z=>simp only[Af]at h;(repeat' split at h)<;>(simp only[Bb]at h;cases h)
 | _=>simp only[Af,Bb]at h;cases h
end Go.Og
namespace Go.Og
variable {P:Program}{G:Nat->Bool}{R:DN}{e:CF}{a:Act}{C:Cx}{U:H}{w:World}
theorem EN.globOk(h:EN C R U w):ET C.G R:=h.glob
theorem PL{b k a e d}(h:w.heap[b]? = some (.cells a e d)):w.cell? ⟨b,k,none⟩=a[k]? := by
 simp[World.cell?,h]
theorem II.cells{l:List V}{s off n m}(h:II R s l m)(F:off+n<=l.length):
  ∃xs,BF R ((l.drop off).take n)=some xs/\(∀x∈xs,x.oneCell'=true)/\∀j v,xs[j]? = some v->m[s+off+j]? = some v:=by
 induction n generalizing off with
 | zero=>exact⟨[],by simp[BF],by simp,by simp⟩ | succ n B=>
  have ⟨xs,h1,E,D⟩:=B (off:=off+1) (by omega);have i:off<l.length:=by omega
  have ⟨x,A,f,w⟩:=h off l[off] (AI i);refine⟨x::xs,?_,?_,?_⟩
  ·rw[Db i,List.take_succ_cons]
   exact Bl.2 ⟨x,xs,A,h1,rfl⟩
  ·intro y u
   rcases A0.1 u with rfl|u
   ·exact f
   ·exact E y u
  ·intro j v o
   cases j with
   | zero=>simp at o;subst o;simpa using w | succ j=>simp at o;have:=D j v o;rw[show s+off+(j+1)=s+(off+1)+j by omega];exact this
theorem EN.readN(h:EN C R U w){id off n}{l:List V}(b:P0 C.E U id off n=some l):
  ∃i xs,R id=some i/\BF R l=some xs/\(∀x∈xs,x.oneCell'=true)/\xs.length=n/\l.length=n/\∀j v,xs[j]? = some v->w.cell? ((⟨i.i2,i.shift+off,none⟩:Addr).add j)=some v:=by
 unfold P0 at b;cases r:rd C.E U id with
 | none=>rw[r]at b;cases b | some m=>
  rw[r]at b;simp only at b;split at b
  ·rename_i y
   simp at y;cases b;have ⟨i,z,F,G,D,g,f⟩:=h.read r;have ⟨xs,h1,A,B⟩:=f.cells y;have c:((m.drop off).take n).length=n:=by simp;omega
   refine⟨i,xs,D,h1,A,by rw[B2 h1,c],c,λj v E=>?_⟩;rw[add_eq,PL g];exact B j v E
  ·cases b
theorem Qg:∀{l s xs},Fv l=some s->BF R l=some xs ->
  ∃ns:List Int,xs=ns.map (Value.int .u8)/\s=ns.map λn=>UInt8.ofNat n.toNat
 | [],s,xs,h,k=>by
  simp only[Fv,AY.injEq]at h;subst h;simp only[BF,AY.injEq]at k;subst k;exact⟨[],rfl,rfl⟩
 | v::l,s,xs,h,k=>by
  unfold Fv at h;split at h
  ·rename_i g;cases g
  ·rename_i n l' g
   cases g;simp at h;obtain⟨r,o,rfl⟩:=h;obtain⟨x,w,u,q,rfl⟩:=Bl.1 k;cases u;have ⟨ns,h1,t⟩:=Qg o q;exact⟨n::ns,by rw[h1];rfl,by rw[t];rfl⟩
  ·cases h
theorem NU{t l}(h:SB P t = .pm l):∃d,P.underlying t=some (.struct d)/\P.stoodInHeld t=false/\HP P d.toList=some l:=by
 unfold SB at h;split at h
 ·rename_i d o
  refine⟨d,o,?_⟩;unfold Fp at h;cases g:(P.stoodInHeld t || P.eqGuardType P.depth t)with
  | true=>rw[g]at h;cases h | false=>
   rw[g]at h;simp at g;cases n:HP P d.toList with
   | none=>rw[n]at h;cases h | some l'=>
    rw[n]at h;simp at h;subst h;exact⟨g.1,rfl⟩
 ·cases h
theorem NW{g x y b}(h:eqM g x y=some b):∃l xs f,g = .pm l/\x = .agg xs/\y = .agg f/\HQ l xs f=some b:=by
 unfold eqM at h;split at h
 ·exact⟨_,_,_,rfl,rfl,rfl,h⟩
 ·cases h
theorem AFM{t x y b}(h:eqM (SB P t) x y=some b){u v}(q:Av R x=some u)(r:Av R y=some v) w:
  (Op.equal t u v).run P w = .ok b w:=by
 obtain⟨l,xs,s,g,rfl,rfl,o⟩:=NW h;have ⟨j,e,p,f⟩:=NU g;obtain⟨X,n,rfl⟩:=IG q;obtain⟨Y,k,rfl⟩:=IG r;have d:P.fieldsOf t=j:=by simp[Program.fieldsOf,e]
 show (Op.equalIn 10000 t (.agg X.toArray) (.agg Y.toArray)).run P w = .ok b w;rw[run_equalIn_agg w 9999 t _ _ (by rw[d];exact e) p,d];exact LH n k 9998 w f o
theorem qN{t d k}(l:P.underlying t=some d)(j:qO d k=true)(i:Bool)(n:Nat)(x:Value)(w:World):
  (Instr.checkKey i (n+1) t x).run P w = .ok () w:=by
 unfold Instr.checkKey;simp only[Sem.run_bind,run_underlying l,];cases d<;>first | (cases k<;>cases j;done) | simp
theorem NV {xs v} {X Y:List Value} (C:BF R xs=some X) (N:BF R v=some Y):∀{z l b},
  HP P z=some l->HQ l xs v=some b->∀p w,∀f∈z,f.name ≠ "_" -> ∃y,(part f.type X.toArray f.offset).run P w = .ok y w/\(Instr.checkKey p 9999 f.type y).run P w = .ok () w
 | [],l,b,m,h,p,w,f,o,_=>by cases o
 | g::z,l,b,m,h,p,w,f,o,K=>by
  simp only[HP]at m;by_cases M:g.name = "_"
  ·have B:(g.name == "_")=true:=by simp[M]
   rw[B]at m;rcases A0.1 o with rfl|o
   ·exact absurd M K
   ·exact NV C N m h p w f o K
  ·have B:(g.name == "_")=false:=by simp[M]
   rw[B]at m;cases J:HP P z with
   | none=>rw[J]at m;cases m | some r=>
    rw[J]at m;cases A:P.underlying g.type with
    | none=>simp only[A]at m;cases m | some d=>
     simp only[A]at m;have u:∃k,l=(g.offset,k)::r/\qO d k=true:=by
      cases d<;>simp at m<;>subst m<;>exact⟨_,rfl,rfl⟩
     obtain⟨k,rfl,u⟩:=u;simp only[HQ]at h;cases G:L9 k (Jo xs g.offset) (Jo v g.offset)with
     | none=>simp only[G]at h;cases h | some a=>
      simp only[G]at h;cases s:HQ r xs v with
      | none=>simp only[s]at h;cases h | some S=>
       have ⟨E,O⟩:=Ob G;rcases A0.1 o with rfl|o
       ·have ⟨x,Q,L⟩:=NR A u C rfl E w
        exact⟨x,L,qN A u p 9998 x w⟩
       ·exact NV C N J s p w f o K
theorem Oe{t x}(h:Sj (SB P t) x=true){u}(K:Av R x=some u) z w:
  (Instr.checkKey z 10000 t u).run P w = .ok () w:=by
 unfold Sj at h;split at h
 ·rename_i b J
  obtain⟨l,xs,N,v,rfl,s,I⟩:=NW J;cases s;have ⟨M,B,O,A⟩:=NU v;obtain⟨X,E,rfl⟩:=IG K;have q:=B;have key:(Instr.checkKey z (9999+1) t (.agg X.toArray)).run P w = .ok () w:=by
   unfold Instr.checkKey;simp only[Sem.run_bind,run_underlying q,Result.andThen_ok];rw[<-Array.forIn_toList];have d:=NV E E A I z w;generalize M.toList=L at d;induction L with
   | nil=>simp | cons f L r=>
    have r:=r (λy s=>d y (by simp[s]));by_cases D:f.name = "_"
    ·simp only[List.forIn_cons,D,]
     exact r
    ·have ⟨y,G,p2⟩:=d f (by simp) D
     simp only[List.forIn_cons,Sem.run_bind,D,ne_eq,not_false_eq_true,if_true,Result.andThen_ok,G,p2,Sem.run_pure];exact r
  exact key
 ·cases h
theorem Mv{t F}(y:P.underlying t=some (.struct F)){k u}(A:Av R k=some u) w:∀{l o r} (i:Nat),
  So (SB P t) k l=some r->DV R l o ->
  (match r with
   | none=>(Instr.findAsking t u o i).run P w = .ok none w | some v=>∃j x,Av R v=some x/\(Instr.findAsking t u o i).run P w = .ok (some (j,x)) w)
 | [],[],r,i,h,_=>by
  simp only[So,AY.injEq]at h;subst h;simp[Instr.findAsking]
 | (q,v)::l,e::o,r,i,h,f=>by
  have ⟨E,C,f⟩:=f;simp only[So]at h;cases p:eqM (SB P t) k q with
  | none=>rw[p]at h;cases h | some b=>
   rw[p]at h;have z:=AFM p A E w;cases b with
   | true=>
    simp at h;subst h;exact⟨i,e.val,C,by simp[Instr.findAsking,z]⟩
   | false=>
    have B:=Mv y A w (i+1) h f;cases r with
    | none=>simpa[Instr.findAsking,z]using B | some G=>simpa[Instr.findAsking,z]using B
 | [],_::_,_,_,_,f=>f.elim | _::_,[],_,_,_,f=>f.elim
theorem L6{t g}(c:P.underlying t=some (.struct g)) x d w:
  (Instr.findKey t x d).run P w=(Instr.findAsking t x d).run P w:=by
 cases d with
 | nil=>simp[Instr.findKey,run_underlying c,Instr.findNow,Instr.findAsking] | cons e d=>simp[Instr.findKey,run_underlying c,Instr.findNow,Instr.sameNow]
theorem QM{t}{x:V}(h:Sj (SB P t) x=true):x.J=true/\∃f,P.underlying t=some (.struct f):=by
 unfold Sj at h;split at h
 ·rename_i b m
  obtain⟨l,xs,n,k,rfl,o,p⟩:=NW m;have ⟨f,g,_⟩:=NU k;exact⟨rfl,f,g⟩
 ·cases h
theorem kO{t}(h:(Pb P t).J=true) w:∃z,(zeroValue t).run P w = .ok z w/\Av R (Pb P t)=some z:=by
 unfold Pb at h ⊢;cases g:P.info? t with
 | none=>rw[g]at h;cases h | some i=>
  rw[g]at h;cases d:i.zero with
  | none=>simp only[d]at h;cases h | some z=>
   simp only[d]at h;exact⟨z,by simp[zeroValue,typeInfo,g,d],by simpa only [d]using iC R z h⟩
theorem EN.mapAt(h:EN C R U w){b l}(g:look U.F b=some (.map l)):∃i c a,R b=some i/\w.heap[i.i2]? = some (.map c a)/\DV R l c.toList:=by
 have ⟨i,e,_,c,a,f,j⟩:=h.own b _ g;exact⟨i,c,a,e,f,j⟩
theorem lE(B:EN C R U w){t k T}(F:P.underlying t=some (.map k T)){m x v:V}(h:Mn (SB P k) (Pb P T) m x U=some v)
  {N S} (Y:m.J=true->Av R m=some N) (W:x.J=true->Av R x=some S) :
  ∃y,Av R v=some y/\(Instr.lookup t N S true).run P w = .ok y w:=by
 unfold Mn at h;split at h
 ·rename_i b
  split at h
  ·rename_i l hl
   split at h
   ·rename_i O
    have ⟨G,fs,o⟩:=QM O;have s:=W G;have ⟨i,Q,r,hi,Z,D⟩:=B.mapAt hl;have ⟨j,M,I⟩:=Ig (Y rfl);rw[hi]at M;cases M;subst I;have p:(getObj i.i2).run P w = .ok (.map Q r) w:=by simp[getObj,Sem.run,Z]
    have E:=Oe O s Q.isEmpty w;unfold Instr.lookup;split at h
    ·rename_i u K
     simp at h;subst h;have ⟨j,y,hy,A⟩:=Mv o s w 0 K D;refine⟨_,KU (Bl.2 ⟨y,_,hy,Bl.2 ⟨.bool true,[],rfl,rfl,rfl⟩,rfl⟩),?_⟩;simp[run_underlying F,p,E,L6 o,A]
    ·rename_i K
     split at h
     ·rename_i X
      simp at h;subst h;have ⟨z,J,L⟩:=kO (R:=R) X w;have A:=Mv o s w 0 K D;refine⟨_,KU (Bl.2 ⟨z,_,L,Bl.2 ⟨.bool false,[],rfl,rfl,rfl⟩,rfl⟩),?_⟩;simp[run_underlying F,p,E,L6 o,A,J]
     ·cases h
    ·cases h
   ·cases h
  ·cases h
 ·cases h
theorem Xe{s k f}{g:Field}(p:P.underlying s=some (.struct k))(n:k[f]? = some g)(x:Gh P g.type=some 0)
  (m:g.offset=0) (t:g.byteOffset=0) (q:P.cellsOf s=0) {v a l} (u:v = .pointer (some ⟨a,l,none⟩)) {r} (e:w.heap[a]? = some (.cells #[] s r)) :
  (Instr.fieldAt s v f).run P w = .ok (.pointer (some ⟨a,l,none⟩)) w:=by
 subst u;have i:∀o,(byteOf ⟨a,o,none⟩).run P w = .ok 0 w:=λo=>by
  have h:w.shape? a=some (s,0):=by simp[World.shape?,e]
  unfold byteOf noView viewAt;simp[h,q]
 unfold Instr.fieldAt fieldPlace partAt;simp[run_underlying p,n,Instr.sureAddr,Es x w,m,t,i]
theorem M5 (J:EN C R U w) (he:CK R e a.tmps) (o:Oper) {v} (h:Ct C.E (Af P C.G o.op) e U=some v) :
  ∃x,Av R v=some x/\(execOp a.eval o).run P w = .ok (.value x) w:=by
 have hg:=J.globOk;have val:∀{s:Sem Value}{x:Value},s.run P w = .ok x w->(do pure (Next.value (<-s)):Sem Next).run P w = .ok (.value x) w:=λhs=>by simp[hs]
 have ⟨dst,op,ty,pos,after,guard⟩:=o;cases op with
 | load t x=>
  simp only[Af]at h;cases hs:G2 P t with
  | none=>rw[hs]at h;cases h | some s=>
   rw[hs]at h;have h:Ct C.E (match s with | some 0=>Ek.load0 (Ak C.G x) | s=>Ek.load s (Ak C.G x)) e U=some v:=by
    cases s with
    | none=>exact h | some n=>cases n<;>exact h
   have ⟨h1,h2⟩:=Ky hs w;cases s with
   | none=>
    simp only[Ct]at h;split at h
    ·rename_i b off hx
     split at h
     ·rename_i l hr
      have ⟨j,hj,K⟩:=Iq he hg hx;have ⟨i,arr,el,fr,hi,hblk,hold⟩:=J.read hr;rw[hj]at hi;cases hi;have ⟨y,hy,hone,hay⟩:=hold off v h;refine⟨y,hy,val ?_⟩;have hc:w.cell? ⟨j.i2,j.shift+off,none⟩=some y:=by rw[PL hblk];exact hay
      unfold Instr.loadAt loadVar;simp[Instr.sureAddr,K,h1,hc]
     ·cases h
    ·cases h
   | some n=>
    cases n with
    | zero=>simp only[Ct]at h;cases h | succ n=>
    simp only[Ct]at h;split at h
    ·rename_i b off hx
     split at h
     ·rename_i l hr;cases h
      have ⟨j,hj,K⟩:=Iq he hg hx;have ⟨i,xs,hi,hc,_,hlen,_,hcell⟩:=J.readN hr;rw[hj]at hi;cases hi;refine⟨_,EE hc,val ?_⟩;have hl:=run_loadCells_list (P:=P) w ⟨j.i2,j.shift+off,none⟩ xs hcell;rw[hlen]at hl;unfold Instr.loadAt loadVar;simp[Instr.sureAddr,K,h1,h2 _ rfl,hl]
     ·cases h
    ·cases h
 | convert s d x=>
  simp only[Af]at h;unfold zm at h;split at h
  ·simp only[Ct]at h;cases h
  ·simp only[Ct]at h;cases h
  ·split at h<;>(simp only[Ct]at h;cases h)
  ·rename_i el hs hd
   split at h
   ·rename_i hel
    simp only[Ct]at h;split at h
    ·cases h
    rename_i hnostr;split at h
    ·rename_i q l G
     split at h
     ·rename_i str hb
      cases h;refine⟨_,rfl,val ?_⟩;unfold C4 at G;split at G
      ·rename_i hx
       have hc:=ev (a:=a) he hg hx rfl;simp only[Av,AY.injEq]at hc;cases G;simp only[Fv,AY.injEq]at hb;subst hb;rw[<-hc,run_convert_bytes_nil w s el hs hel 0 0 d hd];rfl
      ·rename_i b off k z hx
       have ⟨i,_,_,K⟩:=E4 (ev (a:=a) he hg hx rfl);cases G;simp only[Fv,AY.injEq]at hb;subst hb;rw[K,run_convert_bytes_string w s d el _ 0 _ hs hel hd,run_bytesToString w _ 0 _ [] (by simp[loadCells,loadCellsFrom])];rfl
      ·rename_i b off len c hx
       simp only[Aa]at G;obtain⟨l',hrd,heq⟩:=G;cases heq;obtain⟨i,m,hi,K,_⟩:=Dh (ev (a:=a) he hg hx rfl);obtain⟨i',xs,hi',hc,_,hlen,_,hcell⟩:=J.readN hrd;rw[hi]at hi';cases hi';obtain⟨ns,rfl,rfl⟩:=Qg hb hc;have hl:=run_loadCells_list (P:=P) w ⟨i.i2,i.shift+off,none⟩ _ hcell;rw[hlen,CB]at hl;rw[K,run_convert_bytes_string w s d el _ _ _ hs hel hd,run_bytesToString w _ _ _ ns hl,foldl_push_bytes];congr 2;apply ByteArray.ext;show #[]++_=_;simp[BS.toList_ofList]
      ·rename_i l' hx
       exact(hnostr (by rw[hx];rfl)).elim
      ·cases G
     ·cases h
    ·cases h
   ·simp only[Ct]at h;cases h
  ·simp only[Ct]at h;cases h
 | call c=>
  obtain⟨callee,args,argTypes⟩:=c;cases callee with
  | value f=>cases f<;>(simp only[Af,Ct]at h;cases h) | invoke r m=>simp only[Af,Ct]at h;cases h | builtin b=>
   simp only[Af,LZ]at h;have hno:∀(q:Bool) (e1:TypeId) (n m:Nat) (x y:AO),Ct C.E (if q=true then Ek.pu else Ek.append e1 n m x y) e U≠some v:=by
    intro q e1 n m x y;cases q<;>simp[Ct]
   split at h
   ·(repeat' split at h)<;>(simp only[Ct]at h;cases h)
   ·(repeat' split at h)<;>(simp only[Ct]at h;cases h)
   ·split at h
    ·split at h
     ·split at h
      ·exact(hno _ _ _ _ _ _ h).elim
      ·simp only[Ct]at h;cases h
     ·simp only[Ct]at h;cases h
    ·simp only[Ct]at h;cases h
   ·(repeat' split at h)<;>(simp only[Ct]at h;cases h)
   ·simp only[Ct]at h;cases h
   ·simp only[Ct]at h;cases h
   ·simp only[Ct]at h;cases h
 | fieldAddr st x f=>
  simp only[Af]at h;split at h
  ·rename_i fs hu
   split at h
   ·rename_i fd hf
    split at h
    ·rename_i hz
     split at h
     ·rename_i hc
      simp only[AQ,beq_iff_eq]at hc;simp only[Ct]at h;unfold PI at h;split at h
      ·rename_i b hx
       split at h
       ·rename_i t' hb
        split at h
        ·rename_i ht
         have ht:=CJ ht;subst ht;simp only[AY.injEq]at h;subst h;obtain⟨i,hi,_,fr,hblk⟩:=J.own b _ hb;obtain⟨j,hj,K⟩:=Iq (a:=a) he hg hx;rw[hi]at hj;cases hj;refine⟨_,Di hi,val ?_⟩;exact Xe hu hf hz hc.1.1 hc.1.2 hc.2 K hblk
        ·cases h
       ·cases h
      ·cases h
     ·simp only[Ct]at h;cases h
    ·simp only[Ct]at h;cases h
    ·simp only[Ct]at h;cases h
   ·simp only[Ct]at h;cases h
  ·simp only[Ct]at h;cases h
 | lookup t x y ok=>
  cases ok with
  | false=>simp only[Af,Ct]at h;cases h | true=>
   simp only[Af]at h;split at h
   ·rename_i k el hut
    simp only[Ct]at h;obtain⟨z,hz,hrun⟩:=lE (P:=P) J hut h (λhl=>ev (a:=a) he hg rfl hl) (λhl=>ev (a:=a) he hg rfl hl);exact⟨z,hz,val hrun⟩
   ·simp only[Ct]at h;cases h
 | makeMap t r=>cases r<;>(simp only[Af,Ct]at h;cases h) | move x=>simp only[Af,Ct]at h;cases h | assign x=>simp only[Af,Ct]at h;cases h | makeFunc f x y=>cases f<;>(simp only[Af,Ct]at h;cases h) | _=>simp only[Af]at h;first | (simp only[Ct]at h;cases h;done) | ((repeat' split at h)<;>(simp only[Ct]at h;cases h))
theorem II.of_concs{l}{xs:List Value}{c}(h:BF R l=some xs)(h1:∀x∈xs,x.oneCell'=true)(j:∀k,k<xs.length->c[k]? = xs[k]?):II R 0 l c:=by
 intro k v i;have ⟨x,n,b⟩:=Eu h i;have g:k<xs.length:=by
  rcases A2 k xs.length with h|h
  ·exact h
  ·rw[A4 h]at b;cases b
 exact⟨x,n,h1 x (Em b),by rw[BV,j k g];exact b⟩
theorem Hv:∀{l xs},BH l=true->BF R l=some xs->∀x∈xs,x.oneCell'=true
 | [],xs,_,f=>by simp only[BF,AY.injEq]at f;subst f;simp
 | v::l,xs,h,f=>by
  obtain⟨x,n,m,k,rfl⟩:=Bl.1 f;simp only[BH,AQ]at h;intro y i;rcases A0.1 i with rfl|i
  ·exact(Xn h.1 m).2
  ·exact Hv h.2 k y i
theorem Hr{w':World}{l:List V}{xs:List Value}{a:Array Value}{e lo c b n}(m:w'.heap[n]? = some (.cells a e (lo,c)))
  (h:BF R l=some xs) (h1:∀x∈xs,x.oneCell'=true) (i:∀k,k<xs.length->a[k]? = xs[k]?) (g:b<=a.size) (j:l.length<=b)
  (f:∀off,off<a.size->¬(lo<=off/\off<c)):Ff R ⟨n,0,b⟩ (.cells l) w':=
 ⟨a,e,lo,c,m,II.of_concs h h1 i,by simpa using g,j,f⟩
theorem X5{x}(h:(FI x).J=true):(FI x).S=true:=by
 unfold FI at h ⊢;split at h<;>first | rfl | (cases h)
theorem rj{x:Value}{l}(h:rm x=some l):BH l=true:=by
 unfold rm at h;split at h
 ·rename_i a
  cases h;generalize x.cells.toList=m at a ⊢;induction m with
  | nil=>rfl | cons y m n=>
   simp only[C7,kN,AQ,BH]at a ⊢;exact⟨X5 a.1,n a.2⟩
 ·cases h
theorem SF{t l}(h:J5 P t=some l):BH l=true:=by
 unfold J5 at h;cases g:P.info? t with
 | none=>rw[g]at h;cases h | some i=>
  rw[g]at h;cases f:i.zero with
  | none=>simp only[f]at h;cases h | some z=>simp only[f]at h;exact rj h
theorem EC(w:World) o:(w.alloc o).heap[w.heap.size]? = some o:=by simp[World.alloc,-World.alloc_eq]
theorem Ev{z d}(h:BF R z=some d):∀n,BF R (Bf n z).flatten=some (Bf n d).flatten
 | 0=>rfl | n+1=>by simp only[xm,];exact Hj h (Ev h n)
theorem La:∀{l m},BH l=true->BH m=true->BH (l++m)=true
 | [],m,_,c=>c | v::l,m,a,c=>by
  simp only[BH,D9,AQ]at a ⊢;exact⟨a.1,La a.2 c⟩
theorem Fs{z}(h:BH z=true):∀n,BH (Bf n z).flatten=true
 | 0=>rfl | n+1=>by simp only[xm,];exact La h (Fs h n)
theorem yg(b:List Value) n k (p:k<n*b.length):(Bf n b).flatten[k]? = b[k % b.length]? := by
 induction n generalizing k with
 | zero=>omega | succ n m=>
  simp only[xm,List.flatten_cons];by_cases h:k<b.length
  ·rw[CH h,Dn h]
  ·have l:(n+1)*b.length=n*b.length+b.length:=Nat.succ_mul n b.length
   rw[Aw (by omega),m _ (by omega)];congr 1;exact(Nat.mod_eq_sub_mod (by omega)).symm
theorem SS(c:Array Value) n:(Array.range (n*c.size)).map (λi=>c[i % c.size]!)=(Bf n c.toList).flatten.toArray:=by
 apply G1;apply Hp;intro k;simp;by_cases l:k<n*c.size
 ·rw[xn l,yg _ _ _ (by simpa using l)]
  have q:0<c.size:=by
   rcases AJB c.size with h|h
   ·rw[h]at l;omega
   ·exact h
  have j:k % c.size<c.size:=Jr _ q;simp[j]
 ·rw[A4 (by simp;omega),A4 (by simp;omega)]
  rfl
end Go.Og
namespace Go.Og
variable {P:Program}{G:Nat->Bool}{R:DN}{e:CF}{a:Act}{C:Cx}{U:H}{w:World}
theorem Fi.bytes w c s:Fi w (Lib.bytesWorld w c s):=
 ⟨λk d=>Lib.bytesWorld_at_old w c s k d,Lib.bytesWorld_size w c s,by simp[Lib.bytesWorld,World.freeze,World.alloc,World.drew,-World.drew_eq],by simp[Lib.bytesWorld,World.freeze,],by simp[Lib.bytesWorld,World.freeze,World.alloc,World.drew,-World.alloc_eq,-World.drew_eq]⟩
theorem L4 R:∀l,BF R (lK l)=some (l.map λb=>Value.int .u8 b.toNat)
 | []=>rfl | _::l=>Bl.2 ⟨_,_,rfl,L4 R l,rfl⟩
theorem MB{b off n c}{i:BI}(h:R b=some i):Av R (.D b off n (.ex c))=some (.slice (some ⟨i.i2,i.shift+off,none⟩) n c):=by
 simp only[Av,h,Cl]
theorem IE{b off n z}{i:BI}(h:R b=some i)(d:n<=i.cap z off/\i.cap z off<=9223372036854775807):Av R (.D b off n (.op z))=some (.slice (some ⟨i.i2,i.shift+off,none⟩) n (i.cap z off)):=by
 simp only[Av,h,Bk,if_pos d]
theorem qE a old c t:a<=(Question.appendCap a old c).cut t:=by simp[Question.cut]
theorem qm a old c t (h:a<=9223372036854775807):(Question.appendCap a old c).cut t<=9223372036854775807:=by
 show a+t % (2 ^ 63-a)<=_;have:=Jr t (show 0<2 ^ 63-a by omega);omega
theorem PN (he:CK R e a.tmps) (hg:ET G R) (o:Oper) {id:Nat} {v:V} {b:G5} (h:C1 (Af P G o.op) e id=some (v,b)) (hid:R id=none) (w:World) :
  ∃x w' i,(execOp a.eval o).run P w = .ok (.value x) w'/\Fi w w'/\i.i2=w.heap.size/\Av (I1 R id i) v=some x/\Ff (I1 R id i) i b w':=by
 have val:∀{s:Sem Value}{x:Value}{w':World},s.run P w = .ok x w'->(do pure (Next.value (<-s)):Sem Next).run P w = .ok (.value x) w':=λhs=>by simp[hs]
 have hle:∀i,Le R (I1 R id i):=λi k j hk=>by
  by_cases he:k=id
  ·subst he;rw[hid]at hk;cases hk
  ·rw[Bw he];exact hk
 have ⟨dst,op,ty,pos,after,guard⟩:=o;cases op with
 | alloc t=>
  simp only[Af]at h;cases hz:J5 P t with
  | none=>rw[hz]at h;simp only[C1]at h;cases h | some z=>
   rw[hz]at h;cases z with
   | nil=>
    simp only[C1,AY.injEq,Prod.mk.injEq]at h;have ⟨rfl,rfl⟩:=h;have ⟨zv,hzr,hzc⟩:=Gm (P:=P) (R:=R) hz w;have hz0:zv.cells=#[]:=by
     have:=B2 hzc;simp at this;simpa using this
    refine⟨_,_,⟨w.heap.size,0,0⟩,val ?_,Fi.of_alloc w (.cells zv.cells t),rfl,Di (CZ _ _ _),?_⟩
    ·unfold Instr.alloc
     simp[hzr,newVar,newRow]
    ·exact⟨(0,0),by rw[EC,hz0]⟩
   | cons z0 z=>
   simp only[C1,AY.injEq,Prod.mk.injEq]at h;have ⟨rfl,rfl⟩:=h;have ⟨zv,hzr,_⟩:=Gm (P:=P) (R:=R) hz w;have ⟨zv',hzr',hzc⟩:=Gm (P:=P) (R:=I1 R id ⟨w.heap.size,0,zv.cells.size⟩) hz w;rw[hzr]at hzr';cases hzr';refine⟨_,_,⟨w.heap.size,0,zv.cells.size⟩,val ?_,Fi.of_alloc w (.cells zv.cells t),rfl,Di (CZ _ _ _),?_⟩
   ·unfold Instr.alloc
    simp[hzr,newVar,newRow]
   ·refine Hr (EC w _) hzc (Hv (SF hz) hzc) (λk _=>by simp) (AL _) ?_ (λ_ _ h=>by omega)
    have:=B2 hzc;simp at this ⊢;omega
 | box t x=>
  simp only[Af]at h;split at h
  ·simp only[C1]at h
   split at h
   ·rename_i hx
    simp only[AY.injEq,Prod.mk.injEq]at h;have ⟨rfl,rfl⟩:=h;have ⟨l,hl,hev⟩:=UJ (a:=a) he hg hx;simp only[BF,AY.injEq]at hl;subst hl;refine⟨_,_,⟨w.heap.size,0,0⟩,val ?_,Fi.of_alloc w (.cells #[] t),rfl,Di (CZ _ _ _),?_⟩
    ·unfold Instr.box
     simp[hev,newVar,newRow,Value.cells]
    ·exact⟨(0,0),by rw[EC]⟩
   ·cases h
  ·simp only[C1]at h
   split at h
   ·rename_i hl
    simp only[AQ]at hl;simp only[AY.injEq,Prod.mk.injEq]at h;have ⟨rfl,rfl⟩:=h;have hc:=ev (a:=a) he hg rfl hl.1;have hcs:=IF hc;refine⟨_,_,⟨w.heap.size,0,(a.eval x).cells.size⟩,val ?_,Fi.of_alloc w (.cells (a.eval x).cells t),rfl,Di (CZ _ _ _),?_⟩
    ·unfold Instr.box
     simp[newVar,newRow]
    ·have hcs':=E3 (hle ⟨w.heap.size,0,(a.eval x).cells.size⟩) _ _ hcs
     refine Hr (EC w _) hcs' (Hv hl.2 hcs') (λk _=>by simp) (AL _) ?_ (λ_ _ h=>by omega);have:=B2 hcs;simp at this;omega
   ·cases h
 | buildSlice t n ps=>
  simp only[Af]at h;split at h
  ·rename_i el hu
   split at h
   ·rename_i s z hs hz
    cases hc:Ew G (λi=>some (i*s,s)) ps.toList with
    | none=>rw[hc]at h;simp only[C1]at h;cases h | some l=>
     rw[hc]at h;simp only at h;split at h
     ·simp only[C1]at h;cases h
     ·rename_i hcond
      simp only[fA,CX,decide_eq_false_iff_not,bne_eq_false_iff_eq]at hcond;have ⟨hsmall,hzl⟩:=hcond;simp only[C1]at h;cases hf:GK (KF e l) (Bf n z).flatten with
      | none=>rw[hf]at h;cases h | some r=>
       rw[hf]at h;simp only at h;split at h
       ·rename_i hone
        simp only[AY.injEq,Prod.mk.injEq]at h;have ⟨rfl,rfl⟩:=h;have ⟨zv,hzr,hzc⟩:=Gm (P:=P) (R:=R) hz w;have I:zv.cells.size=s:=by have:=B2 hzc;simp at this;omega
        have hzz:=Ev hzc n;have ⟨out,h1,h2,h3⟩:=PH (a:=a) he hg ps.toList l _ r (Bf n zv.cells.toList).flatten.toArray hc (by simpa using hzz) hf;have hrun:(Instr.buildSlice t n (ps.map λ(i,x)=>(i,a.eval x))).run P w = .ok (.slice (some ⟨w.heap.size,0,none⟩) n n) (w.alloc (.cells out el)):=by
         have hmap:(ps.map (λ(x:Nat × Operand)=>(x.1,a.eval x.2))).toList=ps.toList.map (λ(x:Nat × Operand)=>(x.1,a.eval x.2)):=Array.toList_map;unfold Instr.buildSlice;simp only[Sem.run_bind,run_underlying hu,Result.andThen_ok,Es hs w];rw[if_neg (by simpa using hsmall)];by_cases h0:n*s=0
         ·rw[if_pos h0]
          simp only[Sem.run_pure,Result.andThen_ok,hmap];have hemp:(Bf n zv.cells.toList).flatten.toArray=#[]:=by
           apply G1;apply Ba;simp[I,h0]
          rw[hemp]at h1;have hr0:∀f:Nat->Value,(Array.range (n*s)).map f=#[]:=λf=>by rw[h0];apply G1;simp
          simp only[Sem.run_pure,Result.andThen_ok,hmap,hr0,h1,Sem.run_bind,newRow,run_newObj];rfl
         ·rw[if_neg h0]
          simp only[Sem.run_bind,hzr,Result.andThen_ok,Sem.run_pure,hmap];have hr:=SS zv.cells n;rw[I]at hr;simp only[I,hr,h1,Sem.run_bind,newRow,run_newObj,Result.andThen_ok,Sem.run_pure];rfl
        refine⟨_,_,⟨w.heap.size,0,out.size⟩,val hrun,Fi.of_alloc w _,rfl,?_,?_⟩
        ·exact MB (CZ _ _ _)
        ·have hcs':=E3 (hle ⟨w.heap.size,0,out.size⟩) _ _ h2
         refine Hr (EC w _) hcs' (Hv hone hcs') (λk _=>by simp) (AL _) ?_ (λ_ _ h=>by omega);have:=B2 h2;simp at this;omega
       ·cases h
   ·simp only[C1]at h;cases h
  ·simp only[C1]at h;cases h
 | convert s d x=>
  simp only[Af]at h;unfold zm at h;split at h
  ·simp only[C1]at h;cases h
  ·simp only[C1]at h;cases h
  ·rename_i el hs hd
   split at h
   ·rename_i hel
    simp only[C1]at h;split at h
    ·rename_i l hx
     split at h
     ·rename_i hble
      have hl12:l.toList.length<=9223372036854775807:=by rw[BS.length_toList];have:=Nat.le_of_ble_eq_true hble;omega
      simp only[AY.injEq,Prod.mk.injEq]at h;have ⟨rfl,rfl⟩:=h;have hev:=L8 (a:=a) he hg hx;rw[<-BS.length_toList];generalize l.toList=l at *;have hsz:(ByteArray.mk l.toArray).size=l.length:=by simp[ByteArray.size]
      have hcap:l.length<=grownCap w l.length 0 el:=qE _ _ _ _;have hcap2:grownCap w l.length 0 el<=9223372036854775807:=qm _ _ _ _ hl12;have hcells:(Lib.bytesCells w el ⟨l.toArray⟩).size=grownCap w l.length 0 el:=by
       simp[Lib.bytesCells,hsz];omega
      refine⟨_,_,⟨w.heap.size,0,(Lib.bytesCells w el ⟨l.toArray⟩).size⟩,val (by rw[hev];exact Lib.run_convert_string_bytes w s d el _ hs hd hel),Fi.bytes w el _,rfl,?_,?_⟩
      ·rw[IE (CZ _ _ _) (by simp[BI.cap,hcells];exact⟨hcap,hcap2⟩)]
       simp[BI.cap,hcells,hsz]
      ·refine Hr (Lib.bytesWorld_at_new w el _) (L4 _ l) (by simp;intro x _;rfl) (λk hk=>?_) (AL _) (by rw[hcells];simpa[lK]using hcap) (λoff h1 h2=>by omega)
       simp only[Bp]at hk;simp[Lib.bytesCells,Array.getElem?_append,hk]
     ·cases h
    ·cases h
   ·simp only[C1]at h;cases h
  ·split at h<;>(simp only[C1]at h;cases h)
  ·simp only[C1]at h;cases h
 | makeMap t r=>
  cases r with
  | some r=>simp only[Af,C1]at h;cases h | none=>
   simp only[Af,C1,AY.injEq,Prod.mk.injEq]at h;have ⟨rfl,rfl⟩:=h;refine⟨.map (some w.heap.size),w.alloc (.map #[] 0),⟨w.heap.size,0,0⟩,val ?_,Fi.of_alloc w (.map #[] 0),rfl,by simp only[Av,CZ,Cl],⟨#[],0,EC w _,trivial⟩⟩;simp[Instr.makeMap]
 | makeSlice t ln cp=>
  simp only[Af]at h;split at h
  ·rename_i el hu
   split at h
   ·rename_i i z hi hz
    split at h
    ·simp only[C1]at h;cases h
    ·rename_i hzl
     simp only[fA,bne_eq_false_iff_eq]at hzl;simp only[C1]at h;split at h
     ·rename_i n c hn hc
      split at h
      ·rename_i hcond
       have ⟨h0,h1,h2,h3⟩:=hcond;simp only[AY.injEq,Prod.mk.injEq]at h;have ⟨rfl,rfl⟩:=h;have ⟨zv,hzr,hzc⟩:=Gm (P:=P) (R:=R) hz w;have I:zv.cells.size=i.size:=by have:=B2 hzc;simp at this;omega
       have hzz:=Ev hzc c.toNat
       have hwn:IntKind.i64.wrap n=n:=IntWalk.i64_in n ⟨by omega,by omega⟩
       have hwc:IntKind.i64.wrap c=c:=IntWalk.i64_in c ⟨by omega,by omega⟩
       have hrun:(Instr.makeSlice t (a.eval ln) (a.eval cp)).run P w = .ok (.slice (some ⟨w.heap.size,0,none⟩) n.toNat c.toNat) (w.alloc (.cells (Bf c.toNat zv.cells.toList).flatten.toArray el)):=by
        rw[GV (a:=a) he hg hn,GV (a:=a) he hg hc]
        unfold Instr.makeSlice
        have hti:(typeInfo el).run P w = .ok i w:=by simp[typeInfo,hi]
        have hsz:(sizeOf el).run P w = .ok i.size w:=by simp[sizeOf,typeInfo,hi]
        simp only[Sem.run_bind,run_underlying hu,Result.andThen_ok,asInt,asIntOf,Sem.run_pure,hti,hwn,hwc]
        have ht1:(decide (c<0) || decide ((i.bytes:Int)*c > 2 ^ 48))=false:=by
         rw[Int.mul_comm]at h2
         simp;omega
        have ht2:decide (n<0)=false:=by simp;omega
        have ht3:decide (n > c)=false:=by simp;omega
        simp only[ht1,ht2,ht3,Bool.or_false,Fc,FV,if_false,Sem.run_bind,run_askRoom,Result.andThen_ok,hsz]
        by_cases hz0:c.toNat*i.size=0
        ·rw[if_pos hz0]
         simp only[Sem.run_pure,Result.andThen_ok,newRow,Sem.run_bind,run_newObj,hz0]
         have hemp:(Bf c.toNat zv.cells.toList).flatten.toArray=#[]:=by
          apply G1
          apply Ba
          simp[I,hz0]
         rw[hemp]
         have hr0:∀f:Nat->Value,(Array.range 0).map f=#[]:=λf=>by apply G1;simp
         rw[hr0];rfl
        ·rw[if_neg hz0]
         have hr:=SS zv.cells c.toNat
         rw[I]at hr
         simp only[Sem.run_bind,hzr,Result.andThen_ok,Sem.run_pure,newRow,run_newObj,I,hr]
         rfl
       refine⟨_,_,⟨w.heap.size,0,(Bf c.toNat zv.cells.toList).flatten.length⟩,val hrun,Fi.of_alloc w _,rfl,MB (CZ _ _ _),?_⟩
       have hcs':=E3 (hle ⟨w.heap.size,0,(Bf c.toNat zv.cells.toList).flatten.length⟩) _ _ hzz
       refine Hr (EC w _) hcs' (Hv (Fs (SF hz) _) hcs') (λk _=>by simp) (by simp) ?_ (λ_ _ h=>by omega)
       have:=B2 hzz
       omega
      ·cases h
     ·cases h
   ·simp only[C1]at h;cases h
  ·simp only[C1]at h;cases h
 | call c=>
  have ⟨callee,args,argTypes⟩:=c
  cases callee with
  | value f=>cases f<;>(simp only[Af,C1]at h;cases h)
  | invoke r m=>simp only[Af,C1]at h;cases h
  | builtin b'=>
   simp only[Af,LZ]at h
   have hno:∀(q:Bool) (e1:TypeId) (n m:Nat) (x y:AO),C1 (if q=true then Ek.pu else Ek.append e1 n m x y) e id≠some (v,b):=by
    intro q e1 n m x y;cases q<;>simp[C1]
   split at h
   ·(repeat' split at h)<;>(simp only[C1]at h;cases h)
   ·(repeat' split at h)<;>(simp only[C1]at h;cases h)
   ·split at h
    ·split at h
     ·split at h
      ·exact(hno _ _ _ _ _ _ h).elim
      ·simp only[C1]at h;cases h
     ·simp only[C1]at h;cases h
    ·simp only[C1]at h;cases h
   ·(repeat' split at h)<;>(simp only[C1]at h;cases h)
   ·simp only[C1]at h;cases h
   ·simp only[C1]at h;cases h
   ·simp only[C1]at h;cases h
 | lookup t x y ok=>cases ok<;>simp only[Af]at h<;>first | (simp only[C1]at h;cases h;done) | ((repeat' split at h)<;>(simp only[C1]at h;cases h))
 | move x=>simp only[Af,C1]at h;cases h
 | assign x=>simp only[Af,C1]at h;cases h
 | makeFunc f x y=>cases f<;>(simp only[Af,C1]at h;cases h)
 | _=>simp only[Af]at h;first | (simp only[C1]at h;cases h;done) | ((repeat' split at h)<;>(simp only[C1]at h;cases h))
end Go.Og
namespace Go.Og
variable {P:Program}{G:Nat->Bool}{R:DN}{e:CF}{a:Act}{C:Cx}{U:H}{w:World}
structure ua(b:Nat)(w w':World):Prop where
 old:∀k,k≠b->w'.heap[k]? = w.heap[k]?
 size:w'.heap.size=w.heap.size
 os:w'.os=w.os
 tape:w'.tape=w.tape
 output:w'.output=w.output
theorem LW b:∀(vs:List Value) o (w:World) (c:Array Value) i j,w.heap[b]? = some (.cells c i j) ->
  ua b w (w.setCells b o vs)/\∃f,(w.setCells b o vs).heap[b]? = some (.cells f i j)/\f.size=c.size /\
   ∀k,f[k]? = if o<=k/\k<o+vs.length/\k<c.size then vs[k-o]? else c[k]?
 | [],o,w,c,i,j,h=>⟨⟨λ_ _=>rfl,rfl,rfl,rfl,rfl⟩,c,h,rfl,λk=>by rw[if_neg (by simp;omega)]⟩ | v::vs,o,w,c,i,j,h=>by
  have h1:(w.setCell ⟨b,o,none⟩ v).heap[b]? = some (.cells (c.setIfInBounds o v) i j):=by
   simp[World.setCell,Array.getElem?_modify,h]
  have ⟨l,f,t,u,s⟩:=LW b vs (o+1) _ _ i j h1;refine⟨⟨λk m=>?_,?_,l.os,l.tape,l.output⟩,f,t,by rw[u,EY],λk=>?_⟩
  ·rw[World.setCells,l.old k m]
   simp[World.setCell,Array.getElem?_modify,Ne.symm m]
  ·rw[World.setCells,l.size,World.size_setCell]
  ·rw[s,EY,BT]
   by_cases m:o=k
   ·subst m
    rw[if_neg (by omega),if_pos rfl];by_cases r:o<c.size
    ·rw[if_pos r,if_pos (by simp;omega)];simp
    ·rw[if_neg r,if_neg (by omega),CR (by omega)]
   ·rw[if_neg m]
    by_cases q:o+1<=k/\k<o+1+vs.length/\k<c.size
    ·rw[if_pos q,if_pos (by simp;omega)]
     have:k-o=(k-(o+1))+1:=by omega
     rw[this,Bh]
    ·rw[if_neg q,if_neg (by simp;omega)]
theorem Pk{b o lo l}{d:Array Value}{p}(h:w.heap[b]? = some (.cells d p (lo,l)))(z:∀off,off<d.size->¬(lo<=off/\off<l))
  {xs:List Value} (h1:∀x∈xs,x.oneCell'=true) (v:o+xs.length<=d.size) :
  ∃w',(storeCells ⟨b,o,none⟩ xs).run P w = .ok () w'/\ua b w w'/\∃c,w'.heap[b]? = some (.cells c p (lo,l))/\c.size=d.size /\
   ∀k,c[k]? = if o<=k/\k<o+xs.length then xs[k-o]? else d[k]? := by
 have g:=run_storeCells_cells (P:=P) b o xs 0 w
  (λj u=>by
   rw[PL h,ABw];have:o+j<d.size:=by omega
   simp[this])
  (λj u=>by
   have m:o+j<d.size:=by omega
   simp only[World.frozen?,h,];have:=z (o+j) m;simp;omega) h1
 have ⟨s,c,y,A,t⟩:=LW b xs (o+0) w d p (lo,l) h;refine⟨_,g,s,c,y,A,λk=>?_⟩;rw[t];simp;by_cases q:o<=k/\k<o+xs.length
 ·rw[if_pos q,if_pos (by omega)]
 ·rw[if_neg q,if_neg (by omega)]
theorem Pc(g:EN C R U w){b off}{l z:List V}{xs}(J:look U.F b=some (.cells l))(m:BF R z=some xs)(h1:BH z=true)
  (T:off+z.length<=l.length) {i:BI} (I:R b=some i) :
  ∃w',(storeCells ⟨i.i2,i.shift+off,none⟩ xs).run P w = .ok () w'/\EN C R (U.set b (.cells (FW l off z))) w':=by
 have ⟨j,N,X,W,O,lo,A,s,p,K,y,G⟩:=g.own b _ J;rw[I]at N;cases N;have S:=B2 m;have f:=Hv h1 m;have ⟨w',r,u,t,Q,Y,M⟩:=Pk (P:=P) (o:=i.shift+off) s G f (by omega);refine⟨w',r,g.write J I ?_ u.old u.size u.os u.tape u.output⟩;refine⟨t,O,lo,A,Q,?_,by omega,by rw[H0];exact y,λo F=>G o (by omega)⟩;intro k v q;rw[Mc]at q;by_cases L:off<=k/\k<off+z.length
 ·rw[if_pos L,if_pos (by omega)]at q
  have ⟨x,D,e⟩:=Eu m q;refine⟨x,D,f x (Em e),?_⟩;rw[M,if_pos (by omega)];rw[show i.shift+k-(i.shift+off)=k-off by omega];exact e
 ·rw[if_neg L]at q
  have ⟨x,D,F,e⟩:=p k v q;refine⟨x,D,F,?_⟩;rw[M,if_neg (by omega)];exact e
theorem Pp(F:EN C R U w){o n x l u}(h:C4 C.E U o x=some (n,l))(G:Av R x=some u):
  ∃xs,BF R l=some xs/\(∀y∈xs,y.oneCell'=true)/\(Builtin.lenOf u).run P w = .ok n w/\xs.length=n*o /\
   ∀m,m<=n->(Builtin.firstCells o m u).run P w = .ok (xs.take (m*o)).toArray w:=by
 unfold C4 at h;split at h
 ·cases h;cases G
  exact⟨[],rfl,by simp,rfl,by simp,λm W=>by simp[Builtin.firstCells]⟩
 ·cases h
  obtain⟨i,_,_,rfl⟩:=E4 G;refine⟨[],rfl,by simp,rfl,by simp,λm W=>?_⟩;have:m=0:=by omega
  subst this;simp[Builtin.firstCells,loadCells,loadCellsFrom]
 ·rename_i b off len c
  simp only[Aa]at h;have ⟨l',T,O⟩:=h;cases O;obtain⟨i,m,Z,rfl,_⟩:=Dh G;have ⟨i',xs,D,hc,B,t,_,z⟩:=F.readN T;rw[Z]at D;cases D;refine⟨xs,hc,B,rfl,t,λk hk=>?_⟩;have N:k*o<=xs.length:=by rw[t];exact Fm _ hk
  have X:=run_loadCells_list (P:=P) w ⟨i.i2,i.shift+off,none⟩ (xs.take (k*o)) (λj v J=>by
   rw[G0]at J;split at J
   ·exact z j v J
   ·cases J)
  rw[DM,Ha N]at X;exact X
 ·rename_i s
  split at h
  ·rename_i Y
   cases h;cases G;rw[<-BS.length_toList];generalize s.toList=s at *;have L:(ByteArray.mk s.toArray).size=s.length:=by simp[ByteArray.size]
   refine⟨_,L4 R s,by simp;intro x _;rfl,by simp[Builtin.lenOf,L],by simp[Y],λm W=>?_⟩;simp only[Builtin.firstCells,Sem.run_pure];congr 1;apply G1;rw[Y,CB,ByteArray.data_extract];simp[List.map_take]
  ·cases h
 ·cases h
theorem ZX{a old bytes}(h:old<a)(d:Bu a bytes=true):Builtin.nextslicecap a old*bytes<=281474976710656/\(a:Int)<=9223372036854775807:=by
 simp only[Bu,AQ,Bn]at d;exact⟨growslice_fits h d.1,by omega⟩
set_option maxHeartbeats 800000 in
theorem UH(hrel:EN C R U w){t u ty el:TypeId}{i:TypeInfo}{z:Value}(ht:P.underlying t=some (.slice el)){du:TypeDesc}(hu:P.underlying u=some du)
  (hnot:du = .string\/∃d,du = .slice d) (hi:P.info? el=some i) (hz:i.zero=some z) (hzs:z.cells.size=i.size)
  {base:Option Addr}{sLen sCap n:Nat}{x:Value}{old new:List Value}{lo ln:List V}
  (hlo:BF R lo=some old) (hln:BF R ln=some new) (h1o:∀y∈old,y.oneCell'=true) (h1n:∀y∈new,y.oneCell'=true)
  (hold:old.length=sLen*i.size) (hnew:new.length=n*i.size)
  (hlen:(Builtin.lenOf x).run P w = .ok n w) (hgo:∀d,(Builtin.firstCells i.size sLen (.slice base sLen sCap)).run P { w with drawn:=d } = .ok old.toArray { w with drawn:=d })
  (hgn:∀d,(Builtin.firstCells i.size n x).run P { w with drawn:=d } = .ok new.toArray { w with drawn:=d })
  (hlt:sCap<sLen+n) (hgr:Bu (sLen+n) i.bytes=true) (_hpos:0<i.size) :
  ∃w' c,(Builtin.append_ #[t,u] ty #[.slice base sLen sCap,x]).run P w = .ok (.slice (some ⟨w.heap.size,0,none⟩) (sLen+n) c) w' /\
   EN C (I1 R U.j ⟨w.heap.size,0,c*i.size⟩) (U.add (.cells (lo++ln))) w'/\sLen+n<=c/\c<=9223372036854775807:=by
 obtain⟨hfit,h63⟩:=ZX hlt hgr
 have hzero:∀d,(zeroValue el).run P { w with drawn:=d } = .ok z { w with drawn:=d }:=λd=>by simp[zeroValue,typeInfo,hi,hz]
 let c:=(Question.appendCap (sLen+n) sCap el).cut (w.tape w.drawn (.appendCap (sLen+n) sCap el))
 have hc:sLen+n<=c:=qE _ _ _ _
 let arr:=old.toArray++new.toArray++Builtin.zeroCells z.cells (c-(sLen+n))
 let w1:World:={ w with drawn:=w.drawn+1 }
 have hrun:(Builtin.append_ #[t,u] ty #[.slice base sLen sCap,x]).run P w = .ok (.slice (some ⟨w.heap.size,0,none⟩) (sLen+n) c) (w1.alloc (.cells arr el)):=by
  have hn1:¬(sLen+n<=sCap):=by omega
  have h63':¬(9223372036854775807<((sLen:Int)+(n:Int))):=by omega
  have hfit':¬(281474976710656<Builtin.nextslicecap (sLen+n) sCap*i.bytes):=by omega
  have hgo':(Builtin.firstCells i.size sLen (.slice base sLen sCap)).run P w.drew = .ok old.toArray w.drew:=hgo _
  have hgn':(Builtin.firstCells i.size n x).run P w.drew = .ok new.toArray w.drew:=hgn _
  rcases hnot with rfl|⟨d,rfl⟩
  all_goals simp[Builtin.append_,run_underlying ht,run_underlying hu,sizeOf,typeInfo,zeroValue,hi,hz,hlen,hn1,h63',hfit',Question.forced,hgo',hgn',newRow,c,arr,w1]
 refine⟨_,c,hrun,?_,hc,qm _ _ _ _ (by omega)⟩
 have hrel1:EN C R U w1:=hrel.drawn _
 refine hrel1.alloc (Fi.of_alloc w1 _) _ _ rfl ?_
 have hcs:=Hj hlo hln
 have hle:Le R (I1 R U.j ⟨w.heap.size,0,c*i.size⟩):=(FX R U.j _).le hrel.kw
 have hlen2:=B2 hcs
 have hmul:(sLen+n)*i.size=sLen*i.size+n*i.size:=nP _ _ _
 have hml:(sLen+n)*i.size<=c*i.size:=Fm _ hc
 refine Hr (EC w1 _) (E3 hle _ _ hcs) (λy hy=>?_) (λk hk=>?_) ?_ ?_ (λ_ _ h=>by omega)
 ·rcases CN.1 hy with h|h
  ·exact h1o y h
  ·exact h1n y h
 ·have:arr=(old++new).toArray++Builtin.zeroCells z.cells (c-(sLen+n)):=by apply G1;simp[arr]
  rw[this,MX (by simpa using hk)]
  simp
 ·simp only[arr,Array.size_append,List.size_toArray,Builtin.zeroCells,Array.size_map,Array.size_range,hzs]
  have:c*i.size=(sLen+n)*i.size+(c-(sLen+n))*i.size:=by rw[<-nP];congr 1;omega
  omega
 ·show (lo++ln).length<=c*i.size
  rw[<-hlen2,AP];omega
end Go.Og
namespace Go.Og
variable {P:Program}{G:Nat->Bool}{R:DN}{e:CF}{a:Act}{C:Cx}{U:H}{w:World}
set_option maxHeartbeats 800000 in
theorem EZ{t u ty el:TypeId}{i:TypeInfo}(ht:P.underlying t=some (.slice el)){du:TypeDesc}(hu:P.underlying u=some du)
  (hnot:du = .string\/∃d,du = .slice d) (hi:P.info? el=some i) {base:Option Addr}{sLen sCap n:Nat}{x:Value}{new:Array Value}
  (hlen:(Builtin.lenOf x).run P w = .ok n w) (hle:sLen+n<=sCap) (hgn:(Builtin.firstCells i.size n x).run P w = .ok new w) {w':World}
  (hst:∀b,base=some b->(storeCells (b.add (sLen*i.size)) new.toList).run P w = .ok () w') (hno:base=none->w'=w) :
  (Builtin.append_ #[t,u] ty #[.slice base sLen sCap,x]).run P w = .ok (.slice base (sLen+n) sCap) w':=by
 cases base with
 | none=>
  obtain rfl:=hno rfl
  rcases hnot with rfl|⟨d,rfl⟩
  all_goals simp[Builtin.append_,run_underlying ht,run_underlying hu,sizeOf,typeInfo,zeroValue,hi,hlen,hle,hgn]
 | some b=>
  have hst':=hst b rfl
  rcases hnot with rfl|⟨d,rfl⟩
  all_goals simp[Builtin.append_,run_underlying ht,run_underlying hu,sizeOf,typeInfo,zeroValue,hi,hlen,hle,hgn,hst']
theorem Hz b:(storeCells b []).run P w = .ok () w:=rfl
def KOk(P:Program)(C:Cx)(R:DN)(U:H)(s:Sem Next)(w:World)(v:V)(U':H):Prop:=
 ∃a w' x,HU U.j R a/\U.j<=U'.j/\EN C a U' w'/\(v = .i5\/Av a v=some x)/\(s.run P w = .ok (.value x) w'\/(s.run P w = .ok .skip w'/\v = .i5))
theorem Zv (D:EN C R U w) {t u ty el} {i:TypeInfo} {z:Value} (ht:P.underlying t=some (.slice el)) {du:TypeDesc} (hu:P.underlying u=some du)
  (I:du = .string\/∃d,du = .slice d) (hi:P.info? el=some i) (hz:i.zero=some z) (hzs:z.cells.size=i.size) (K:0<i.size)
  {s x:V}{sv xv:Value} (hs:s.J=true->Av R s=some sv) (hx:x.J=true->Av R x=some xv) {v:V}{U':H}
  (h:Eo C.E i.size i.bytes s x U=some (v,U')) :
  ∃R' w' y,HU U.j R R'/\U.j<=U'.j/\EN C R' U' w'/\Av R' v=some y/\(Builtin.append_ #[t,u] ty #[sv,xv]).run P w = .ok y w':=by
 unfold Eo at h;cases Q:C4 C.E U i.size x with
 | none=>rw[Q]at h;cases h | some q=>
  have ⟨n,new⟩:=q;rw[Q]at h;simp only at h;have hxl:x.J=true:=by unfold C4 at Q;split at Q<;>first | rfl | cases Q
  have hxc:=hx hxl;have ⟨xs,hnc,M,J,hxlen,hfirst⟩:=Pp (P:=P) D Q hxc;have hfn:=hfirst n (AL _);rw[Js (by omega)]at hfn;have hfd:∀d,(Builtin.firstCells i.size n xv).run P { w with drawn:=d } = .ok xs.toArray { w with drawn:=d }:=λd=>by
   obtain⟨xs',hnc',_,_,hxlen',hfirst'⟩:=Pp (D.drawn d) Q hxc;rw[hnc]at hnc';cases hnc';have:=hfirst' n (AL _);rwa [Js (by omega)]at this
  have hnl:=B2 hnc;split at h
  ·
   have L:=hs rfl;simp only[Av,AY.injEq]at L;subst L;split at h
   ·rename_i hn0
    cases h;subst hn0;have hxs:xs=[]:=Ba (by omega);subst hxs;refine⟨R,w,_,HU.refl _ _,AL _,D,rfl,?_⟩;have:=EZ (ty:=ty) (base:=none) (sLen:=0) (sCap:=0) ht hu I hi J (AL _) hfn (w':=w) (λb e=>by cases e) (λ_=>rfl);exact this
   ·rename_i hn0
    split at h
    ·rename_i hg
     cases h;obtain⟨w',c,hrun,F,hc⟩:=UH (P:=P) (ty:=ty) (base:=none) (sLen:=0) (sCap:=0) (old:=[]) (lo:=[]) D ht hu I hi hz hzs rfl hnc (by simp) M (by simp) hxlen J (λd=>by simp[Builtin.firstCells]) hfd (by omega) (by simpa using hg) K;simp only[Hb,BV]at F hrun hc;refine⟨_,w',_,FX _ _ _,El _,F,IE (CZ _ _ _) (by simp[BI.cap,Gz _ K];exact hc),?_⟩;rw[hrun];simp[BI.cap,Gz _ K]
    ·cases h
  ·
   rename_i b off len c;have L:=hs rfl;obtain⟨j,m,hj,rfl,hex,_⟩:=Dh L;obtain rfl:=hex c rfl;split at h
   ·rename_i hle
    simp only[Bn]at hle;split at h
    ·rename_i hn0
     cases h;subst hn0;have hxs:xs=[]:=Ba (by omega);subst hxs;exact⟨R,w,_,HU.refl _ _,AL _,D,L,EZ (P:=P) (ty:=ty) ht hu I hi J hle hfn (w':=w) (λb e=>rfl) (λe=>by cases e)⟩
    ·split at h
     ·rename_i l hl
      split at h
      ·rename_i O
       simp only[AQ,Bn]at O;cases h;have hmul:(len+n)*i.size=len*i.size+n*i.size:=nP _ _ _;obtain⟨w',hst,F⟩:=Pc (P:=P) D (off:=off+len*i.size) hl hnc O.2 (by omega) hj;refine⟨R,w',_,HU.refl _ _,AL _,F,MB hj,EZ (P:=P) (ty:=ty) ht hu I hi J hle hfn (w':=w') (λb e=>?_) (λe=>by cases e)⟩;cases e;rw[add_eq,D4];exact hst
      ·cases h
     ·cases h
   ·rename_i hle
    simp only[Bn]at hle;split at h
    ·rename_i hg
     split at h
     ·rename_i old hold
      cases h;obtain⟨j',ys,hj',hyc,hyone,hyl,_,hcell⟩:=D.readN hold;rw[hj]at hj';cases hj';obtain⟨w',c',hrun,F,hc⟩:=UH (P:=P) (ty:=ty) (base:=some ⟨j.i2,j.shift+off,none⟩) (sLen:=len) (sCap:=m) D ht hu I hi hz hzs hyc hnc hyone M hyl hxlen J (λd=>by
       have:=run_firstCells_some (P:=P) { w with drawn:=d } i.size len ⟨j.i2,j.shift+off,none⟩ len m ys hyl (λk v hk=>hcell k v hk);exact this) hfd (by omega) hg K
      refine⟨_,w',_,FX _ _ _,El _,F,IE (CZ _ _ _) (by simp[BI.cap,Gz _ K];exact hc),?_⟩;rw[hrun];simp[BI.cap,Gz _ K]
     ·cases h
    ·cases h
  ·
   rename_i b len z';have L:=hs rfl;obtain⟨j,m,hj,rfl,_,hop⟩:=Dh L;obtain⟨hm,hlm⟩:=hop z' rfl;split at h
   ·rename_i hn0
    cases h;subst hn0;have hxs:xs=[]:=Ba (by omega);subst hxs;exact⟨R,w,_,HU.refl _ _,AL _,D,L,EZ (P:=P) (ty:=ty) ht hu I hi J hlm hfn (w':=w) (λb e=>rfl) (λe=>by cases e)⟩
   ·rename_i hn0
    split at h
    ·rename_i l hl
     split at h
     ·rename_i O
      simp only[AQ,AW]at O;obtain⟨⟨⟨hll,hze⟩,hg⟩,hone⟩:=O;subst hze;cases h;obtain⟨j',hj',hO,arr,el',lo,hi',hblk,hold,hend,hlen',hf⟩:=D.own b _ hl;rw[hj]at hj';cases hj';by_cases hfit:len+n<=m
      ·
       have hmul:(len+n)*i.size=len*i.size+n*i.size:=nP _ _ _;have hroom:(len+n)*i.size<=j.endc:=by
        have h1:(len+n)*i.size<=m*i.size:=Fm _ hfit;have h2:m*i.size<=j.endc:=by rw[hm];simpa[BI.cap]using Nat.div_mul_le_self j.endc i.size
        omega
       obtain⟨w',hst,hw,arr',h3,h4,h5⟩:=Pk (P:=P) (o:=j.shift+len*i.size) hblk hf M (by omega);have hle:Le R (I1 R U.j j):=(FX R U.j j).le D.kw;have F:EN C (I1 R U.j j) ((U.del b).add (.cells (l++new))) w':=by
        refine D.rename hl hj ?_ hw.old hw.size hw.os hw.tape hw.output;refine⟨arr',el',lo,hi',h3,?_,by omega,by rw[AP];omega,λo ho=>hf o (by omega)⟩;intro k v hk;by_cases hkl:k<l.length
        ·rw[CH hkl]at hk
         obtain⟨y,hy,ho,hky⟩:=hold k v hk;refine⟨y,DA hle _ _ hy,ho,?_⟩;rw[h5,if_neg (by omega)];exact hky
        ·rw[Aw (by omega)]at hk
         obtain⟨y,hy,hky⟩:=Eu hnc hk;have hlt:k-l.length<xs.length:=by
          rcases A2 (k-l.length) xs.length with h|h
          ·exact h
          ·rw[A4 h]at hky;cases hky
         refine⟨y,DA hle _ _ hy,M y (Em hky),?_⟩;rw[h5,if_pos (by omega)];rw[show j.shift+k-(j.shift+len*i.size)=k-l.length by omega];exact hky
       refine⟨_,w',_,FX _ _ _,El _,F,IE (CZ _ _ _) (by have hbd:=QZ L hj;simp only[<-hm]at hbd ⊢;exact⟨hfit,hbd⟩),?_⟩;have:=EZ (P:=P) (ty:=ty) (base:=some ⟨j.i2,j.shift+0,none⟩) ht hu I hi J hfit hfn (w':=w') (λb e=>by cases e;rw[add_eq,ABw];exact hst) (λe=>by cases e);rw[this];simp[hm]
      ·
       have hrd:P0 C.E U b 0 (len*i.size)=some l:=by
        simp[P0,rd,hl,hll,Js (Nat.le_of_eq hll)]
       obtain⟨j',ys,hj',hyc,hyone,hyl,_,hcell⟩:=D.readN hrd;rw[hj]at hj';cases hj';obtain⟨w',c',hrun,F,hc⟩:=UH (P:=P) (ty:=ty) (base:=some ⟨j.i2,j.shift+0,none⟩) (sLen:=len) (sCap:=m) D ht hu I hi hz hzs hyc hnc hyone M hyl hxlen J (λd=>by
        have:=run_firstCells_some (P:=P) { w with drawn:=d } i.size len ⟨j.i2,j.shift+0,none⟩ len m ys hyl (λk v hk=>hcell k v hk);exact this) hfd (by omega) hg K
       have hrel'':EN C (I1 R U.j ⟨w.heap.size,0,c'*i.size⟩) ((U.del b).add (.cells (l++new))) w':=by
        have:=F.del b;have hne:¬U.j=b:=by have:=D.next_of_own hl;omega
        simpa[H.del,H.add,drop,hne]using this
       refine⟨_,w',_,FX _ _ _,El _,hrel'',IE (CZ _ _ _) (by simp[BI.cap,Gz _ K];exact hc),?_⟩;rw[hrun];simp[BI.cap,Gz _ K]
     ·cases h
    ·cases h
  ·rename_i b off len z' _
   have L:=hs rfl;obtain⟨j,m,hj,rfl,_,hop⟩:=Dh L;obtain⟨hm,hlm⟩:=hop z' rfl;split at h
   ·rename_i hn0
    cases h;subst hn0;have hxs:xs=[]:=Ba (by omega);subst hxs;exact⟨R,w,_,HU.refl _ _,AL _,D,L,EZ (P:=P) (ty:=ty) ht hu I hi J hlm hfn (w':=w) (λb e=>rfl) (λe=>by cases e)⟩
   ·cases h
  ·cases h
theorem pH{E e n}{x:V}{l}(h:C4 E U e x=some (n,l)):x.J=true:=by
 unfold C4 at h;split at h<;>first | rfl | cases h
theorem KOk.value{s:Sem Value}{v}{U':H}(h:∃a w' x,HU U.j R a/\U.j<=U'.j/\EN C a U' w'/\Av a v=some x/\s.run P w = .ok x w'):
  KOk P C R U (do pure (Next.value (<-s)):Sem Next) w v U':=by
 have ⟨a,w',x,h1,g,f,d,e⟩:=h;exact⟨a,w',x,h1,g,f,.inr d,.inl (by simp[e])⟩
theorem DV.snoc{R k v}{e:MapEntry}(b:Av R k=some e.key)(a:Av R v=some e.val):∀{l c},DV R l c->DV R (l++[(k,v)]) (c++[e])
 | [],[],_=>⟨b,a,trivial⟩ | (_,_)::_,_::_,⟨h1,f,d⟩=>⟨h1,f,DV.snoc b a d⟩ | [],_::_,h=>h.elim | _::_,[],h=>h.elim
theorem AAD (D:EN C R U w) (he:CK R e a.tmps) (o:Oper) {v:V} {U':H} (h:FE C.E (Af P C.G o.op) e U=some (v,U')) :
  KOk P C R U (execOp a.eval o) w v U':=by
 have hg:=D.globOk;obtain⟨dst,op,ty,pos,after,guard⟩:=o;cases op with
 | store t x y=>
  simp only[Af]at h;cases hs:Gh P t with
  | none=>rw[hs]at h;simp only[FE]at h;cases h | some n=>
   rw[hs]at h;cases n with
   | zero=>
    simp only[FE]at h;split at h
    ·rename_i b off hx hy
     simp only[AY.injEq,Prod.mk.injEq]at h;obtain⟨rfl,rfl⟩:=h;obtain⟨j,hj,hev⟩:=Iq (a:=a) he hg hx;obtain⟨l,hl,hevy⟩:=UJ (a:=a) he hg hy;simp only[BF,AY.injEq]at hl;subst hl;refine⟨R,w,undef,HU.refl _ _,AL _,D,.inl rfl,.inr ⟨?_,rfl⟩⟩;simp only[execOp];unfold Instr.storeAt storeVar;simp[hev,hevy,Instr.sureAddr,Es hs w,Value.cells,Hz]
    ·cases h
   | succ n=>
   simp only[FE]at h;split at h
   ·rename_i b off hx
    split at h
    ·rename_i l hl
     split at h
     ·rename_i F
      simp only[AQ,AW,Bn]at F;obtain⟨⟨hn,hle⟩,hone⟩:=F;cases h;obtain⟨j,hj,hev⟩:=Iq (a:=a) he hg hx;have hyl:(Ca e (Ak C.G y)).J=true:=by
       cases hy:Ca e (Ak C.G y)with
       | i5=>rw[hy]at hone;simp[V.cells,BH,V.S]at hone | _=>rfl
      have hcs:=IF (ev (a:=a) he hg rfl hyl);have hlen:=B2 hcs;obtain⟨w',hst,hrel'⟩:=Pc (P:=P) D (off:=off) hl hcs hone (by omega) hj;refine⟨R,w',undef,HU.refl _ _,AL _,hrel',.inl rfl,.inr ⟨?_,rfl⟩⟩;simp only[Array.length_toList]at hlen;have hsz:¬((a.eval y).cells.size≠n+1):=by omega
      simp only[execOp];unfold Instr.storeAt storeVar;simp only[Sem.run_bind,hev,Instr.sureAddr,Sem.run_pure,Result.andThen_ok,Es hs w];rw[if_neg hsz];simp[hst]
     ·cases h
    ·cases h
   ·cases h
 | call c=>
  obtain⟨callee,args,G⟩:=c;cases callee with
  | value f=>cases f<;>(simp only[Af,FE]at h;cases h) | invoke r m=>simp only[Af,FE]at h;cases h | builtin b=>
   have hcall:∀{v U'},KOk P C R U (builtin b G ty (args.map fun | .const _=>true | _=>false) (args.map a.eval)) w v U'->KOk P C R U (execOp a.eval ⟨dst,.call ⟨.builtin b,args,G⟩,ty,pos,after,guard⟩) w v U':=by
    rintro v U' ⟨R',w',x,h1,h2,h3,h4,h5⟩;refine⟨R',w',x,h1,h2,h3,h4,?_⟩;simp only[execOp,resolve,Sem.run_bind,Sem.run_pure,Result.andThen_ok,invoke];exact h5
   apply hcall;simp only[Af]at h;obtain⟨args⟩:=args;obtain⟨G⟩:=G;generalize (ADh (fun | Operand.const _=>true | _=>false) (⟨args⟩:Array Operand))=lits;unfold LZ at h;split at h
   ·(repeat' split at h)<;>(simp only[FE]at h;cases h)
   ·(repeat' split at h)<;>(simp only[FE]at h;cases h)
   ·
    rename_i t u os ox hts has;simp only at hts has;subst hts has;split at h
    ·rename_i el du hu hdu
     split at h
     ·rename_i i hi
      split at h
      ·rename_i z hz
       split at h
       ·simp only[FE]at h;cases h
       ·rename_i F
        simp only[fA,CX,Bool.not_eq_false',bne_eq_false_iff_eq,beq_eq_false_iff_ne]at F;obtain⟨⟨hseq,hpos⟩,hzs⟩:=F;have hnot:du = .string\/∃d,du = .slice d:=by
         cases du<;>first | exact .inl rfl | exact .inr ⟨_,rfl⟩ | cases hseq
        simp only[FE]at h;simp only[builtin];rw[show ADh a.eval ⟨[os,ox]⟩=#[a.eval os,a.eval ox] from by simp];apply KOk.value;exact Zv (P:=P) (ty:=ty) D hu hdu hnot hi hz hzs (by omega) (λhl=>ev (a:=a) he hg rfl hl) (λhl=>ev (a:=a) he hg rfl hl) h
      ·simp only[FE]at h;cases h
     ·simp only[FE]at h;cases h
    ·simp only[FE]at h;cases h
   ·
    rename_i t u od os hts has;simp only at hts has;subst hts has;split at h
    ·rename_i el du hu hdu
     split at h
     ·rename_i i hi
      simp only[FE]at h;simp only[builtin];rw[show ADh a.eval ⟨[od,os]⟩=#[a.eval od,a.eval os] from by simp];apply KOk.value;have hsz:(sizeOf el).run P w = .ok i.size w:=by simp[sizeOf,typeInfo,hi]
      have hsrcl:∀{n l},C4 C.E U i.size (Ca e (Ak C.G os))=some (n,l)->(Ca e (Ak C.G os)).J=true:=pH;split at h
      ·rename_i n l hd hsrc
       cases h;have hdc:=ev (a:=a) he hg hd rfl;simp only[Av,AY.injEq]at hdc;obtain⟨xs,_,_,hlen,_,hfirst⟩:=Pp (P:=P) D hsrc (ev (a:=a) he hg rfl (hsrcl hsrc));refine⟨R,w,_,HU.refl _ _,AL _,D,rfl,?_⟩;have h0:=hfirst 0 (CA _);rw[<-hdc];simp[Builtin.copy_,run_underlying hu,hlen,hsz,h0,goInt]
      ·rename_i b off k z n l hd hsrc
       cases h;obtain⟨j,_,_,hev⟩:=E4 (ev (a:=a) he hg hd rfl);obtain⟨xs,_,_,hlen,_,hfirst⟩:=Pp (P:=P) D hsrc (ev (a:=a) he hg rfl (hsrcl hsrc));refine⟨R,w,_,HU.refl _ _,AL _,D,rfl,?_⟩;have h0:=hfirst 0 (CA _);rw[hev];simp[Builtin.copy_,run_underlying hu,hlen,hsz,h0,goInt,Hz]
      ·rename_i b off len c n src hd hsrc
       obtain⟨j,m,hj,hev,_⟩:=Dh (ev (a:=a) he hg hd rfl);obtain⟨xs,hxc,hxone,hlen,hxlen,hfirst⟩:=Pp (P:=P) D hsrc (ev (a:=a) he hg rfl (hsrcl hsrc));have hf:=hfirst (Ga n len) (Nat.min_le_left _ _);split at h
       ·rename_i h0
        cases h;rw[h0]at hf;refine⟨R,w,_,HU.refl _ _,AL _,D,rfl,?_⟩;rw[hev];simp[Builtin.copy_,run_underlying hu,hlen,hsz,h0,hf,goInt,Hz]
       ·split at h
        ·rename_i l hl
         split at h
         ·rename_i F
          simp only[AQ,Bn]at F;cases h;have htk:=QY hxc (Ga n len*i.size);have htl:=B2 hxc
          have hmm:Ga n len*i.size<=n*i.size:=Fm _ (Nat.min_le_left _ _)
          obtain⟨w',hst,hrel'⟩:=Pc (P:=P) D (off:=off) hl htk F.2 (by rw[DM];omega) hj
          refine⟨R,w',_,HU.refl _ _,AL _,hrel',rfl,?_⟩
          rw[hev]
          simp[Builtin.copy_,run_underlying hu,hlen,hsz,hf,goInt,hst]
         ·cases h
        ·cases h
      ·cases h
     ·simp only[FE]at h;cases h
    ·simp only[FE]at h;cases h
   ·simp only[FE]at h;cases h
   ·simp only[FE]at h;cases h
   ·simp only[FE]at h;cases h
 | mapUpdate t x y z=>
  simp only[Af]at h
  split at h
  ·rename_i kt vt hut
   simp only[FE]at h
   unfold UA at h
   split at h
   ·rename_i b hb
    split at h
    ·rename_i l hl
     split at h
     ·rename_i hc
      simp only[AQ]at hc
      split at h
      ·rename_i hf
       simp only[AY.injEq,Prod.mk.injEq]at h
       obtain⟨rfl,rfl⟩:=h
       obtain⟨hlk,fs,hfs⟩:=QM hc.1
       have hkv:=ev (a:=a) he hg rfl hlk
       have hvv:=ev (a:=a) he hg rfl hc.2
       obtain⟨i,es,clock,hi,hw,hmh⟩:=D.mapAt hl
       obtain⟨j,hj,hmv⟩:=Ig (ev (a:=a) he hg hb rfl)
       rw[hi]at hj;cases hj
       have hget:(getObj i.i2).run P w = .ok (.map es clock) w:=by simp[getObj,Sem.run,hw]
       have hck:=Oe (P:=P) hc.1 hkv false w
       have hfa:=Mv hfs hkv w 0 hf hmh
       simp only at hfa
       have hset:∀o,(setObj i.i2 o).run P w = .ok () { w with heap:=w.heap.setIfInBounds i.i2 o }:=λo=>by simp[setObj,Sem.run,hw]
       have hlt:i.i2<w.heap.size:=(AJF.1 hw).1
       refine⟨R,{ w with heap:=w.heap.setIfInBounds i.i2 (.map (es.push { key:=a.eval y,val:=a.eval z,born:=clock }) (clock+1)) },undef,HU.refl _ _,AL _,D.write hl hi ?_ ?_ ?_ rfl rfl rfl,.inl rfl,.inr ⟨?_,rfl⟩⟩
       ·exact⟨es.push { key:=a.eval y,val:=a.eval z,born:=clock },clock+1,by simp[hlt],by simpa using DV.snoc (e:={ key:=a.eval y,val:=a.eval z,born:=clock }) hkv hvv hmh⟩
       ·intro k hk
        simp[Ne.symm hk]
       ·simp
       ·simp only[execOp]
        unfold Instr.mapUpdate
        simp[hmv,run_underlying hut,hget,hck,L6 hfs,hfa,hset]
      ·cases h
     ·cases h
    ·cases h
   ·cases h
  ·simp only[FE]at h;cases h
 | makeMap t r=>cases r<;>(simp only[Af,FE]at h;cases h)
 | lookup t x y ok=>cases ok<;>simp only[Af]at h<;>first | (simp only[FE]at h;cases h;done) | ((repeat' split at h)<;>(simp only[FE]at h;cases h))
 | move x=>simp only[Af,FE]at h;cases h
 | assign x=>simp only[Af,FE]at h;cases h
 | makeFunc f x y=>cases f<;>(simp only[Af,FE]at h;cases h)
 | _=>simp only[Af]at h;first | (simp only[FE]at h;cases h;done) | ((repeat' split at h)<;>(simp only[FE]at h;cases h))
end Go.Og
namespace Go.Og
inductive AX where
 | normal | exit (id:Nat) | ret
 deriving DecidableEq,Inhabited
def zQ(f:CF->H->Option (AX × CF × H)):Nat->CF->H->Option (AX × CF × H)
 | 0,_,_=>none
 | n+1,e,U=>match f e U with
  | none=>none
  | some (.normal,e',U')=>zQ f n e' U'
  | some (x,e',U')=>some (x,e',U')
abbrev AF:=List BO->List DP->CF->H->Option (CF × H)
def Su(E:EB)(D:Ac)(W:AF)(N:Nat):AC->CF->H->Option (AX × CF × H)
 | .skip,e,U=>some (.normal,e,U)
 | .region ops,e,U=>match Na E D ops e U with
  | some (e',U')=>some (.normal,e',U')
  | none=>none
 | .us ops d,e,U=>match W ops d e U with
  | some (e',U')=>some (.normal,e',U')
  | none=>none
 | .seq a b,e,U=>match Su E D W N a e U with
  | some (.normal,e',U')=>Su E D W N b e' U'
  | some (x,e',U')=>some (x,e',U')
  | none=>none
 | .cond c a b,e,U=>match Ca e c with
  | .bool true=>Su E D W N a e U
  | .bool false=>Su E D W N b e U
  | _=>none
 | .block id c,e,U=>match Su E D W N c e U with
  | some (.exit j,e',U')=>if Ar j id then some (.normal,e',U')else some (.exit j,e',U')
  | some (x,e',U')=>some (x,e',U')
  | none=>none
 | .loop c,e,U=>zQ (Su E D W N c) N e U
 | .exit id,e,U=>some (.exit id,e,U)
 | .ret,e,U=>some (.ret,e,U)
 | .Q f c,e,U=>Su E D W N c (restr f e) U
 | .pu,_,_=>none
def Lx(E:EB)(e:CF)(U:H):List AR->Option (List V)
 | []=>some []
 | .tmp t::l=>match (Gu e t).J,Lx E e U l with
  | true,some r=>some (Gu e t::r)
  | _,_=>none
 | .cell t n::l=>match Gu e t,Lx E e U l with
  | .o b off,some r=>match n with
   | none=>match rd E U b with
    | some a=>match a[off]? with
     | some v=>some (v::r)
     | none=>none
    | none=>none
   | some n=>match P0 E U b off n with
    | some a=>some (.agg a::r)
    | none=>none
  | _,_=>none
def Ib:List Nat->CF->H->H
 | [],_,U=>U
 | t::l,e,U=>Ib l e (match Gu e t with
  | .o b 0=>U.del b
  | _=>U)
def Dq:List V->V
 | [v]=>v
 | l => .B l
def O8:Nat->List V->CF
 | _,[]=>[]
 | k,v::l=>(k,v)::O8 (k+1) l
def pM(E:EB)(D:Ac)(W:AF)(N:Nat)(f:nN)(args:List V)(U:H):Option (V × H):=
 match Su E D W N f.body (O8 0 args) U with
 | some (.exit _,_,_)=>none
 | some (_,e,U')=>match Lx E e U' f.results with
  | some l=>some (Dq l,Ib f.frees e U')
  | none=>none
 | none=>none
variable {P:Program}{G:Nat->Bool}{E:EB}
def Cr(P:Program)(E:EB)(G:Nat->Bool)(f:FuncId)(D:List V->H->Option (V × H)):Prop:=
 ∀(C:Cx),C.E=E->C.G=G->∀R (U:H) w args (xs:List Value) v (U':H),D args U=some (v,U')->EN C R U w->BF R args=some xs ->
  Jp P f=true/\Calls P f xs.toArray w λb w'=>∃a x,HU U.j R a/\U.j<=U'.j/\EN C a U' w'/\Av a v=some x/\b = .returned x
theorem CK.put{R e}{a:Act}(h:CK R e a.tmps){f}(r:Gi a.tmps.size f=true){v x}(s:v = .i5\/Av R v=some x):CK R (DY e f v) (a.put f x).tmps:=by
 cases f with
 | none=>exact h | some d=>
  simp only[Gi,Co]at r;refine⟨λk u m=>?_⟩;simp only[DY,look]at m;simp only[Act.put,BT];by_cases j:d=k
  ·subst j
   rw[if_pos (by simp)]at m;cases m;rw[if_pos rfl,if_pos r];exact s.imp id λh=>⟨x,rfl,h⟩
  ·rw[if_neg (by simpa using j)]at m
   rw[if_neg j];exact h.X k u m
theorem Gs k e t v (h:look (restr k e) t=some v):look e t=some v/\Br k t=true:=by
 induction k with
 | nil=>simp[restr,look]at h | cons a k p=>
  simp only[restr]at h;simp only[Br,Cn,AW];cases o:look e a with
  | none=>rw[o]at h;exact(p h).imp id .inr | some u=>
   rw[o]at h;simp only[look]at h;by_cases j:a=t
   ·subst j
    rw[if_pos (by simp)]at h;cases h;exact⟨o,.inl rfl⟩
   ·rw[if_neg (by simpa using j)]at h
    exact(p h).imp id .inr
theorem CK.restr{R a} b {e}(h:CK R e a):CK R (Og.restr b e) a:=
 ⟨λk v c=>h.X k v (Gs b e k v c).1⟩
theorem I8(a:Act)(b:Option Nat) x:(a.put b x).tmps.size=a.tmps.size:=by cases b<;>simp[Act.put]
theorem FO(a:Act)(b:Option Nat) x:(a.put b x).defers=a.defers:=by cases b<;>rfl
theorem PJ{D}(hD:∀f,Cr P E G f (D f)){C:Cx}(hE:C.E=E)(hG:C.G=G){R:DN}{U:H}{w:World}{e:CF}{a:Act}(A:EN C R U w)(he:CK R e a.tmps)
  (o:Oper) {v:V}{U':H} (h:ES E D (Af P G o.op) e U=some (v,U')) (K:Act->World->Prop) (Q:Exit->Act->World->Prop)
  (hK:∀R' w' x,HU U.j R R'->U.j<=U'.j->EN C R' U' w'->(v = .i5\/Av R' v=some x)->K (a.put o.dst x) w'):o.wp P a w K Q:=by
 subst hE hG;have hg:=A.globOk;have gD:∀(h:xj C.E (Af P C.G o.op) e U=some (v,U')),o.wp P a w K Q:=by
  intro h;unfold xj at h
  split at h
  ·split at h
   ·rename_i v' hp
    cases h
    obtain⟨x,hx,hrun⟩:=M4 he hg o hp w
    unfold Oper.wp
    rw[hrun]
    exact hK R w x (HU.refl _ _) (AL _) A (.inr hx)
   ·cases h
  ·split at h
   ·rename_i v' hp
    cases h
    obtain⟨x,hx,hrun⟩:=M5 A he o hp
    unfold Oper.wp
    rw[hrun]
    exact hK R w x (HU.refl _ _) (AL _) A (.inr hx)
   ·cases h
  ·split at h
   ·rename_i v' b hp
    cases h
    obtain⟨x,w',i,hrun,hn,hi,hx,hok⟩:=PN he hg o hp (A.kw _ (AL _)) w
    unfold Oper.wp
    rw[hrun]
    exact hK _ w' x (FX _ _ _) (El _) (A.alloc hn b i hi hok) (.inr hx)
   ·cases h
  ·obtain⟨R',w',x,h1,h2,h3,h4,h5⟩:=AAD (P:=P) A he o h
   unfold Oper.wp
   rcases h5 with h5|⟨h5,hv⟩
   ·rw[h5];exact hK R' w' x h1 h2 h3 h4
   ·rw[h5];exact hK R' w' undef h1 h2 h3 (.inl hv)
 have hcallrun:∀(g:FuncId) (args:Array Value),Jp P g=true->(callFunc g args).run P w = .ok (.enter g args) w:=by
  intro g args hok
  unfold Jp at hok
  unfold callFunc
  simp only[Sem.run_bind,run_program,Result.andThen_ok]
  cases hf:P.funcs[g]? with
  | none=>rw[hf]at hok;cases hok
  | some fn=>
   rw[hf]at hok
   simp only[AQ,bne_iff_ne]at hok
   have h1:(fn.name == "runtime.NumGoroutine")=false:=by simpa using hok.1
   have h2:fn.body.isNone=false:=by cases hb:fn.body<;>simp_all
   simp only[h1,h2,FV,if_false,Sem.run_pure]
 have enter:∀(g:FuncId) (vs:List V) (xs:List Value),BF R vs=some xs->D g vs U=some (v,U')->(execOp a.eval o).run P w=(callFunc g xs.toArray).run P w->o.wp P a w K Q:=by
  intro g vs xs hvs hd hrun
  obtain⟨hok,hc⟩:=hD g C rfl rfl R U w vs xs v U' hd A hvs
  unfold Oper.wp
  rw[hrun,hcallrun g _ hok,Oper.upon_enter]
  refine hc.mono ?_
  rintro en w' ⟨R',x,h1,h2,h3,h4,rfl⟩
  exact hK R' w' x h1 h2 h3 (.inr h4)
 cases k:Af P C.G o.op with
 | call f args=>
  rw[k]at h
  simp only[ES]at h
  obtain⟨dst,op,ty,pos,after,guard⟩:=o
  have hsh:∃c,op = .call c/\c.callee = .value (.func f)/\args=c.args.toList.map (Ak C.G):=by
   simp only at k
   cases op<;>simp only[Af]at k<;>(try (first | (cases k;done) | ((repeat' split at k)<;>(cases k;done))))
   ·rename_i fn _ _;cases fn<;>cases k
   ·rename_i r;cases r<;>cases k
   ·rename_i ok;cases ok
    ·cases k
    ·simp only at k;split at k<;>cases k
   ·rename_i c
    refine⟨c,rfl,?_⟩
    obtain⟨callee,cargs,u⟩:=c
    simp only at k
    split at k
    ·unfold LZ at k;(repeat' split at k)<;>cases k
    ·cases k;exact⟨rfl,rfl⟩
    ·cases k
    ·cases k
  obtain⟨c,rfl,hcal,rfl⟩:=hsh
  split at h
  ·rename_i hl
   have hev:=evs (a:=a) he hg c.args.toList hl
   refine enter f _ _ hev h ?_
   obtain⟨callee,cargs,u⟩:=c
   simp only at hcal
   subst hcal
   simp only[execOp,resolve,Act.eval,Deferred.ofValue,Sem.run_bind,Sem.run_pure,Result.andThen_ok,invoke]
   congr 2
   apply G1
   simp
  ·cases h
 | callv fo args=>
  rw[k]at h
  simp only[ES]at h
  obtain⟨dst,op,ty,pos,after,guard⟩:=o
  have hsh:∃c t,op = .call c/\c.callee = .value (.tmp t)/\fo = .tmp t/\args=c.args.toList.map (Ak C.G):=by
   simp only at k
   cases op<;>simp only[Af]at k<;>(try (first | (cases k;done) | ((repeat' split at k)<;>(cases k;done))))
   ·rename_i fn _ _;cases fn<;>cases k
   ·rename_i r;cases r<;>cases k
   ·rename_i ok;cases ok
    ·cases k
    ·simp only at k;split at k<;>cases k
   ·rename_i c
    obtain⟨callee,cargs,u⟩:=c
    simp only at k
    split at k
    ·unfold LZ at k;(repeat' split at k)<;>cases k
    ·cases k
    ·rename_i t;cases k;exact⟨_,t,rfl,rfl,rfl,rfl⟩
    ·cases k
  obtain⟨c,t,rfl,hcal,rfl,rfl⟩:=hsh
  split at h
  ·rename_i g first cap hf
   split at h
   ·rename_i hl
    have hev:=evs (a:=a) he hg c.args.toList hl
    have hfc:=ev (a:=a) (o := .tmp t) he hg (by simpa[Ak]using hf) rfl
    obtain⟨y,z,hy,hz,hfe⟩:=KV hfc
    refine enter g _ _ (Hj (Hj hy hev) hz) h ?_
    obtain⟨callee,cargs,u⟩:=c
    simp only at hcal
    subst hcal
    simp only[execOp,resolve,hfe,Deferred.ofValue,Sem.run_bind,Sem.run_pure,Result.andThen_ok,invoke]
    congr 2
    apply G1
    simp
   ·cases h
  ·cases h
 | _=>rw[k]at h;rw[k]at gD;exact gD (by simpa only [ES]using h)
end Go.Og
namespace Go.Og
variable {P:Program}{G:Nat->Bool}{E:EB}{D:Ac}{C:Cx}
def Ru(C:Cx)(c:Nat)(U U':H)(e':CF)(R:DN)(K:Act->World->Prop):Prop:=
 ∀b a w',HU U.j R b->U.j<=U'.j->EN C b U' w'->CK b e' a.tmps->c<=a.tmps.size->a.defers=[]->K a w'
theorem Ru.step{c}{U U1 U':H}{e' R a K}(h:Ru C c U U' e' R K)(j:HU U.j R a)(b:U.j<=U1.j):Ru C c U1 U' e' a K:=
 λl g w' h1 k i e d f=>h l g w' (j.trans h1 b) (BE b k) i e d f
theorem IB{n m d}(h:Gi n d=true)(f:n<=m):Gi m d=true:=by
 cases d with
 | none=>rfl | some d=>simp only[Gi,Co]at h ⊢;omega
theorem Dy{R e}{a:Act}(v:CK R e a.tmps){ops}{o:Oper}{g}(m:Qc ops o.guard=some g){b}(h:B0 e g=some b):
  Region.wanted o (yielded ops a.tmps)=b:=by
 unfold Qc at m;cases l:o.guard with
 | none=>
  rw[l]at m;simp at m;subst m;simp only[B0,AY.injEq]at h;subst h;simp[Region.wanted,l]
 | some z=>
  rw[l]at m;simp only at m;split at m
  ·rename_i t w
   simp at m;subst m;simp only[B0]at h;split at h
   ·rename_i c u
    simp at h;subst h;have ⟨x,s,q⟩:=v.get u rfl;cases q;simp[Region.wanted,l,yielded,w,s]
   ·rename_i u
    simp at h;subst h;have ⟨x,s,q⟩:=v.get u rfl;cases q;simp[Region.wanted,l,yielded,w,s]
   ·cases h
  ·cases m
theorem NZ(S:∀f,Cr P E G f (D f))(Y:C.E=E)(O:C.G=G) t ops Q:
  ∀(l:List Oper) e U e' U' R (a:Act) w,Na E D (l.map (BN P G t ops)) e U=some (e',U') ->
   EN C R U w->CK R e a.tmps->t<=a.tmps.size->a.defers=[]->Ru C t U U' e' R (Q .normal)->wpList P ops Q l a w
 | [],e,U,e',U',R,a,w,h,i,B,p,M,N=>by
  obtain⟨rfl,rfl⟩:=h;exact N R a w (HU.refl _ _) (AL _) i B p M
 | o::l,e,U,e',U',R,a,w,h,i,B,p,M,N=>by
  simp only[C7,Na]at h;by_cases I:∃g,Qc ops o.guard=some g/\Gi t o.dst=true
  ·have ⟨g,Z,s⟩:=I
   have u:BN P G t ops o=⟨o.dst,Af P G o.op,g⟩:=by simp only[BN,Z,s]
   rw[u]at h;have m:=IB s p;cases X:B0 e g with
   | none=>rw[X]at h;cases h | some b=>
    rw[X]at h;have r:=Dy B Z X;cases b with
    | false=>
     unfold wpList;rw[if_neg (by rw[r];simp)];exact NZ S Y O t ops Q l _ U e' U' R _ w h i (B.put m (.inr rfl)) (by rw[I8];exact p) (by rw[FO];exact M) N
    | true=>
     cases h1:ES E D (Af P G o.op) e U with
     | none=>rw[h1]at h;cases h | some q=>
      have ⟨v,U1⟩:=q;rw[h1]at h;unfold wpList;rw[if_pos r];left;refine PJ S Y O i B o h1 _ _ (λR1 w1 x F T y hv=>?_);exact NZ S Y O t ops Q l _ U1 e' U' R1 _ w1 h y ((B.mono (F.le i.kw)).put m hv) (by rw[I8];exact p) (by rw[FO];exact M) (N.step F T)
  ·have u:BN P G t ops o=⟨o.dst,.pu,none⟩:=by
    unfold BN;split
    ·rename_i g h1 h2;exact(I ⟨g,h1,h2⟩).elim
    ·rfl
   rw[u]at h;simp[B0,ES,xj,Ek.d8,Bb]at h
def RT(P:Program)(E:EB)(G:Nat->Bool)(W:AF):Prop:=
 ∀(C:Cx),C.E=E->C.G=G->∀b id (ops:Array Oper) e U e' U',P4 ops (ops.toList.map (BN P G b ops)) (Gn ops)=true->W (ops.toList.map (BN P G b ops)) (Gn ops) e U=some (e',U') ->
  ∀R (a:Act) w Q,EN C R U w->CK R e a.tmps->b<=a.tmps.size->a.defers=[]->Ru C b U U' e' R (Q .normal)->(Code.region id ops true).wp P Q a w
def AX.exit':AX->Exit
 | .normal => .normal
 | .exit id => .exit id
 | .ret => .ret
theorem AFT(hD:∀f,Cr P E G f (D f)){W}(hW:RT P E G W)(hE:C.E=E)(hG:C.G=G)(N nt:Nat):
  ∀(ac:AC) (c:Code),ac.i4=Ci P G nt c->∀(e:CF) (U:H) (x:AX) (e':CF) (U':H),Su E D W N ac e U=some (x,e',U') ->
   ∀(R:DN) (a:Act) (w:World) (Q:Exit->Act->World->Prop),EN C R U w->CK R e a.tmps->nt<=a.tmps.size->a.defers=[]->Ru C nt U U' e' R (Q x.exit')->c.wp P Q a w:=by
 intro ac;induction ac with
 | pu=>intro c _ e U x e' U' h;cases h | Q ts ac ih=>
  intro c m e U x e' U' h R a w Q u F y I A;exact ih c m _ U x e' U' h R a w Q u (F.restr ts) y I A
 | skip=>
  intro c m e U x e' U' h R a w Q u F y I A;cases h;cases c<;>simp only[AC.i4,Ci]at m<;>(try (cases m;done))
  ·exact wp_skip (A R a w (HU.refl _ _) (AL _) u F y I)
  ·rename_i i o d;cases d<;>(first | (cases m;done) | (simp only[Ci]at m;split at m<;>cases m))
 | exit id=>
  intro c m e U x e' U' h R a w Q u F y I A;cases h;cases c<;>simp only[AC.i4,Ci]at m<;>(try (cases m;done))
  ·rename_i i o d;cases d<;>(first | (cases m;done) | (simp only[Ci]at m;split at m<;>cases m))
  ·cases m;exact wp_exit (A R a w (HU.refl _ _) (AL _) u F y I)
 | ret=>
  intro c m e U x e' U' h R a w Q u F y I A;cases h;cases c<;>simp only[AC.i4,Ci]at m<;>(try (cases m;done))
  ·rename_i i o d;cases d<;>(first | (cases m;done) | (simp only[Ci]at m;split at m<;>cases m))
  ·exact wp_ret (A R a w (HU.refl _ _) (AL _) u F y I)
 | region ops=>
  intro c m e U x e' U' h R a w Q u F y I A;cases c<;>simp only[AC.i4,Ci]at m<;>(try (cases m;done));rename_i i o d
  cases d
  case true=>simp only[Ci]at m;split at m<;>cases m
  simp only[Ci]at m
  cases m
  simp only[Su]at h
  cases h1:Na E D (o.toList.map (BN P G nt o)) e U with
  | none=>rw[h1]at h;cases h
  | some q=>
   have ⟨e1,U1⟩:=q
   rw[h1]at h
   cases h
   exact wp_region_list (NZ hD hE hG nt o Q o.toList e U _ _ R a w h1 u F y I A)
 | us ops ms=>
  intro c m e U x e' U' h R a w Q u F y I A
  cases c<;>simp only[AC.i4,Ci]at m<;>(try (cases m;done))
  rename_i i o d
  cases d<;>simp only[Ci]at m<;>(try (cases m;done))
  split at m
  case isFalse=>cases m
  rename_i hplan
  cases m
  simp only[Su]at h
  cases h1:W (o.toList.map (BN P G nt o)) (Gn o) e U with
  | none=>rw[h1]at h;cases h
  | some q=>
   have ⟨e1,U1⟩:=q
   rw[h1]at h
   cases h
   exact hW C hE hG nt i o e U _ _ hplan h1 R a w Q u F y I A
 | seq p q ihp ihq=>
  intro c m e U x e' U' h R a w Q u F y I A
  cases c<;>simp only[AC.i4,Ci]at m<;>(try (cases m;done))
  ·rename_i i o d;cases d<;>(first | (cases m;done) | (simp only[Ci]at m;split at m<;>cases m))
  rename_i c1 c2
  simp only[AC.seq.injEq]at m
  simp only[Su]at h
  cases h1:Su E D W N p e U with
  | none=>rw[h1]at h;cases h
  | some r=>
   have ⟨x1,e1,U1⟩:=r
   rw[h1]at h
   refine wp_seq (ihp c1 m.1 e U x1 e1 U1 h1 R a w _ u F y I ?_)
   cases x1 with
   | normal=>
    simp only at h
    intro R1 a1 w1 hx1 hn1 hrel1 he1 hs1 hd1
    exact ihq c2 m.2 e1 U1 x e' U' h R1 a1 w1 Q hrel1 he1 hs1 hd1 (A.step hx1 hn1)
   | exit id=>cases h;exact A
   | ret=>cases h;exact A
 | cond o p q ihp ihq=>
  intro c m e U x e' U' h R a w Q u F y I A
  cases c<;>simp only[AC.i4,Ci]at m<;>(try (cases m;done))
  ·rename_i i o d;cases d<;>(first | (cases m;done) | (simp only[Ci]at m;split at m<;>cases m))
  rename_i co c1 c2
  simp only[AC.cond.injEq]at m
  obtain⟨rfl,h1,h2⟩:=m
  simp only[Su]at h
  split at h
  ·rename_i ho
   exact wp_cond_true (LG F (hG ▸ u.globOk) ho) (ihp c1 h1 e U x e' U' h R a w Q u F y I A)
  ·rename_i ho
   exact wp_cond_false (LG F (hG ▸ u.globOk) ho) (ihq c2 h2 e U x e' U' h R a w Q u F y I A)
  ·cases h
 | block id p ih=>
  intro c m e U x e' U' h R a w Q u F y I A
  cases c<;>simp only[AC.i4,Ci]at m<;>(try (cases m;done))
  ·rename_i i o d;cases d<;>(first | (cases m;done) | (simp only[Ci]at m;split at m<;>cases m))
  rename_i i c1
  simp only[AC.block.injEq]at m
  obtain⟨rfl,m⟩:=m
  simp only[Su]at h
  cases h1:Su E D W N p e U with
  | none=>rw[h1]at h;cases h
  | some r=>
   obtain⟨x1,e1,U1⟩:=r
   rw[h1]at h
   refine wp_block (ih c1 m e U x1 e1 U1 h1 R a w _ u F y I ?_)
   cases x1 with
   | normal=>cases h;exact A
   | ret=>cases h;exact A
   | exit j=>
    simp only at h
    split at h
    ·rename_i hj
     simp only[AW]at hj
     cases h
     intro R1 a1 w1 h1 h2 h3 h4 h5 h6
     show Exit.inBlock id Q (.exit j) a1 w1
     simp only[Exit.inBlock]
     rw[if_pos hj]
     exact A R1 a1 w1 h1 h2 h3 h4 h5 h6
    ·rename_i hj
     simp only[AW]at hj
     cases h
     intro R1 a1 w1 h1 h2 h3 h4 h5 h6
     show Exit.inBlock id Q (.exit j) a1 w1
     simp only[Exit.inBlock]
     rw[if_neg hj]
     exact A R1 a1 w1 h1 h2 h3 h4 h5 h6
 | loop p ih=>
  intro c m e U x e' U' h R a w Q u F y I A
  cases c<;>simp only[AC.i4,Ci]at m<;>(try (cases m;done))
  ·rename_i i o d;cases d<;>(first | (cases m;done) | (simp only[Ci]at m;split at m<;>cases m))
  rename_i c1
  simp only[AC.loop.injEq]at m
  simp only[Su]at h
  have key:∀(n:Nat) (e:CF) (U:H) (R:DN) (a:Act) (w:World),zQ (Su E D W N p) n e U=some (x,e',U')->EN C R U w->CK R e a.tmps->nt<=a.tmps.size->a.defers=[] ->
    Ru C nt U U' e' R (Q x.exit')->Code.rounds P c1 Q n a w:=by
   intro n
   induction n with
   | zero=>intro e U R a w h;cases h
   | succ n ihn=>
    intro e U R a w h u F y I A
    simp only[zQ]at h
    cases h1:Su E D W N p e U with
    | none=>rw[h1]at h;cases h
    | some r=>
     obtain⟨x1,e1,U1⟩:=r
     rw[h1]at h
     rw[rounds_succ]
     refine ih c1 m e U x1 e1 U1 h1 R a w _ u F y I ?_
     cases x1 with
     | normal=>
      simp only at h
      intro R1 a1 w1 hx1 hn1 hrel1 he1 hs1 hd1
      exact ihn e1 U1 R1 a1 w1 h hrel1 he1 hs1 hd1 (A.step hx1 hn1)
     | exit id=>cases h;exact A
     | ret=>cases h;exact A
  exact wp_loop_rounds N (key N e U R a w h u F y I A)
theorem PD {R U} {w:World} {e} {p:Array Value} (z:EN C R U w) (he:CK R e p):∀(L:List ResultVar) X l,Gw P L=some X->Lx C.E e U X=some l ->
  ∃xs,BF R l=some xs/\(L.mapM (m:=Sem) fun
   | .tmp t=>pure (p.getD t undef) | .cell a t=>do loadVar t (<-asAddr (p.getD a undef))).run P w = .ok xs w
 | [],X,l,A,h=>by
  simp only[Gw,AY.injEq]at A;subst A;simp only[Lx,AY.injEq]at h;subst h;exact⟨[],rfl,rfl⟩
 | r::L,X,l,A,h=>by
  have F:∀t (v:V),Gu e t=v->v.J=true->Av R v=some (p.getD t undef):=by
   intro t v hv M;have ⟨x,hx,A⟩:=he.get hv M;rw[A,Ep,hx];rfl
  simp only[Gw]at A;cases D:Qb P r with
  | none=>rw[D]at A;cases A | some ar=>
   cases E:Gw P L with
   | none=>rw[D,E]at A;cases A | some T=>
    rw[D,E]at A;simp at A;subst A;cases r with
    | tmp t=>
     simp only[Qb,AY.injEq]at D;subst D;simp only[Lx]at h;split at h
     ·rename_i l' M s
      cases h;have ⟨xs,h1,Y⟩:=PD z he L T l' E s;refine⟨_,Bl.2 ⟨_,_,F t _ rfl M,h1,rfl⟩,?_⟩;rw[Wa];simp only[Sem.run_bind,Sem.run_pure,Result.andThen_ok,Y]
     ·cases h
    | cell t ty=>
     simp only[Qb]at D;cases Z:G2 P ty with
     | none=>rw[Z]at D;cases D | some n=>
      rw[Z]at D;simp only[AY.injEq]at D;subst D;simp only[Lx]at h;split at h
      ·rename_i b off l' hb s
       have ⟨j,hj,O⟩:=Jl (F t _ hb rfl);have ⟨xs,h1,Y⟩:=PD z he L T l' E s;have ⟨G,aa⟩:=Ky Z w;split at h
       ·split at h
        ·rename_i cs I
         split at h
         ·rename_i v hk
          cases h;have ⟨i,arr,el,fr,Q,S,N⟩:=z.read I;rw[hj]at Q;cases Q;have ⟨y,hy,_,ac⟩:=N off v hk;refine⟨_,Bl.2 ⟨_,_,hy,h1,rfl⟩,?_⟩;have u:w.cell? ⟨j.i2,j.shift+off,none⟩=some y:=by rw[PL S];exact ac
          have K:(do loadVar ty (<-asAddr (p.getD t undef)):Sem Value).run P w = .ok y w:=by
           simp only[Sem.run_bind,O,asAddr,Sem.run_pure,Result.andThen_ok,loadVar,G,Option.isSome_none,FV,if_false,run_load,u]
          rw[Wa];refine(Sem.run_bind P w _ _).trans ?_;refine(congrArg (λr=>Result.andThen r _) K).trans ?_;simp only[Sem.run_bind,Y,Sem.run_pure,Result.andThen_ok]
         ·cases h
        ·cases h
       ·rename_i n
        split at h
        ·rename_i cs I
         cases h;have ⟨i,ys,Q,ad,_,W,_,u⟩:=z.readN I;rw[hj]at Q;cases Q;refine⟨_,Bl.2 ⟨_,_,EE ad,h1,rfl⟩,?_⟩;have M:=run_loadCells_list (P:=P) w ⟨j.i2,j.shift+off,none⟩ ys u;rw[W]at M;have K:(do loadVar ty (<-asAddr (p.getD t undef)):Sem Value).run P w = .ok (.agg ys.toArray) w:=by
          simp only[Sem.run_bind,O,asAddr,Sem.run_pure,Result.andThen_ok,loadVar,G,Option.isSome_some,if_true,aa n rfl,M]
         rw[Wa];refine(Sem.run_bind P w _ _).trans ?_;refine(congrArg (λr=>Result.andThen r _) K).trans ?_;simp only[Sem.run_bind,Y,Sem.run_pure,Result.andThen_ok]
        ·cases h
      ·cases h
theorem L5{R w}:∀b e (U:H),EN C R U w->EN C R (Ib b e U) w/\(Ib b e U).j=U.j
 | [],_,_,h=>⟨h,rfl⟩ | t::b,e,U,h=>by
  simp only[Ib];split
  ·obtain⟨h1,i⟩:=L5 b e _ (h.del _)
   exact⟨h1,i⟩
  ·exact L5 b e U h
theorem gF{R l}{xs:List Value}(h:BF R l=some xs):Av R (Dq l)=some (if h:xs.toArray.size=1 then xs.toArray[0] else .tuple xs.toArray):=by
 match l,xs,h with
 | [],xs,h=>simp only[BF,AY.injEq]at h;subst h;rfl | [v],xs,h=>
  obtain⟨x,m,j,g,rfl⟩:=Bl.1 h;simp only[BF,AY.injEq]at g;subst g;simp[Dq,j]
 | u::v::l,xs,h=>
  have i:=B2 h;rw[dif_neg (by simp at i ⊢;omega)];exact KU h
theorem pL (hD:∀f,Cr P E G f (D f)) {W} (hW:RT P E G W) N {f:FuncId} {s:Func} (hf:P.funcs[f]? = some s) {af af':nN} (z:M2 P G s=some af') (hs:af.i4=af')
  (hok:Jp P f=true):Cr P E G f (pM E D W N af):=by
 intro C hE hG R U w args xs v U' h hrel hxs;refine⟨hok,?_⟩;unfold M2 at z;cases hb:s.body with
 | none=>rw[hb]at z;cases z | some c=>
  cases hr:Gw P s.results.toList with
  | none=>rw[hb,hr]at z;cases z | some rs=>
   rw[hb,hr]at z;simp at z;rw[<-hs]at z;have ⟨nt,res,n,L⟩:=af;simp only[nN.i4,nN.mk.injEq]at z;have ⟨rfl,rfl,_,Q⟩:=z;unfold pM at h;refine calls_of_wp hf hb ?_;have hsz:s.ntmps<=(xs.toArray++Hc (s.ntmps-xs.toArray.size) undef).size:=by simp;omega
   have harg:∀(l:List V) (J:List Value) (k:Nat),BF R l=some J->∀(t:Nat) (v:V),look (O8 k l) t=some v->∃y,k<=t/\J[t-k]? = some y/\Av R v=some y:=by
    intro l;induction l with
    | nil=>intro J k _ t v h;simp[O8,look]at h | cons u l ih=>
     intro J k z t v h;obtain⟨y,zs,hy,hz,rfl⟩:=Bl.1 z;simp only[O8,look]at h;by_cases hk:k=t
     ·subst hk
      rw[if_pos (by simp)]at h;cases h;exact⟨y,AL _,by simp,hy⟩
     ·rw[if_neg (by simpa using hk)]at h
      obtain⟨q,h1,h2,h3⟩:=ih zs (k+1) hz t v h;exact⟨q,by omega,by rw[show t-k=(t-(k+1))+1 by omega,Bh];exact h2,h3⟩
   have he0:CK R (O8 0 args) (xs.toArray++Hc (s.ntmps-xs.toArray.size) undef):=by
    refine⟨λk u hk=>?_⟩;obtain⟨y,_,h2,h3⟩:=harg args xs 0 hxs k u hk;refine .inr ⟨y,?_,h3⟩;rw[NH]at h2;have hlt:k<xs.length:=by
     rcases A2 k xs.length with h|h
     ·exact h
     ·rw[A4 h]at h2;cases h2
    rw[MX (by simpa using hlt)];simpa using h2
   have fin:∀{x:AX}{e:CF}{U1:H},Su E D W N L (O8 0 args) U=some (x,e,U1)->(x = .normal\/x = .ret) ->
     (match Lx E e U1 rs with | some l=>some (Dq l,Ib n e U1) | none=>none)=some (v,U') ->
     c.wp P (bodyPost P s λen w'=>∃R' x,HU U.j R R'/\U.j<=U'.j/\EN C R' U' w'/\Av R' v=some x/\en = .returned x)
      { tmps:=xs.toArray++Hc (s.ntmps-xs.toArray.size) undef,defers:=[] } w:=by
    intro x e U1 B hx i;cases S:Lx E e U1 rs with
    | none=>rw[S]at i;cases i | some l=>
     rw[S]at i;simp at i;obtain⟨rfl,rfl⟩:=i;refine AFT hD hW hE hG N s.ntmps L c Q.symm _ U x e U1 B R _ w _ hrel he0 hsz rfl ?_;intro R1 a1 w1 hx1 hn1 A he1 _ hd1;obtain⟨J,hyc,M⟩:=PD A he1 s.results.toList _ l hr (hE ▸ S);obtain⟨O,hfn⟩:=L5 n e U1 A;have i:(results s a1.tmps).run P w1 = .ok (if h:J.toArray.size=1 then J.toArray[0] else .tuple J.toArray) w1:=by
      unfold results;refine(Sem.run_bind P w1 _ _).trans ?_;rw[NK,Sem.run_map];refine(congrArg (λr=>Result.andThen (Result.andThen r _) _) M).trans rfl
     have hR:∃R' x,HU U.j R R'/\U.j<=(Ib n e U1).j/\EN C R' (Ib n e U1) w1/\Av R' (Dq l)=some x /\
       Ending.returned (if h:J.toArray.size=1 then J.toArray[0] else .tuple J.toArray) = .returned x:=
      ⟨R1,_,hx1,by rw[hfn];exact hn1,O,gF hyc,rfl⟩
     rcases hx with rfl|rfl
     ·exact⟨hd1,_,i,hR⟩
     ·exact⟨hd1,_,i,hR⟩
   split at h
   ·cases h
   ·rename_i x e U1 hne B
    refine fin B ?_ h;cases x with
    | normal=>exact .inl rfl | ret=>exact .inr rfl | exit id=>exact(hne id rfl).elim
   ·cases h
end Go.Og
