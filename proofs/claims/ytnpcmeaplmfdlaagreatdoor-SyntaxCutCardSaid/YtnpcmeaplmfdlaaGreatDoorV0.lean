/- What the last text leans on, part 1 of 10: merged out of smaller texts. No condition. -/
import Derived.Tactics2
import Derived.Laws.Append
import Derived.Laws.Slices
import Derived.Laws.Build
import Derived.Laws.Pointers
import Derived.Laws.Small
import Derived.Laws.StructEq
import Derived.WalkSpells
import Derived.Laws.BytesArg
import Derived.Laws.IdiomCopy
import Derived.Lib.ConvBytes
import Derived.IntWalk
import Derived.LoopN
open Nat renaming le_refl -> AL,add -> AN,le_trans -> AU,beq_eq -> AW,ble -> Ac,ble_eq -> Ag,lt_or_ge -> Av,beq -> Ax,zero_le -> BF,zero_add -> BQ,eq_of_beq_eq_true -> CJ,blt -> Cr,blt_eq -> Cs,le_succ -> C9,mul_one -> DO,mul_le_mul_right -> Et,mul -> FP,mod_eq_of_lt -> Fy,min_eq_left -> Gi,min -> HL,mul_div_cancel -> Hp,eq_of_testBit_eq -> Ik,add_assoc -> JI,sub_zero -> OH,mul_comm -> OI,add_zero -> OJ,eq_zero_or_pos -> SV,add_eq -> SW,testBit_mod_two_pow -> SX,testBit_or -> WM,add_mul -> jz,mod_lt -> AFa,add_lt_add_iff_right -> AQC
open Bool renaming and_eq_true -> AI,or_eq_false_iff -> Ba,or_eq_true -> B5,false_eq_true -> CF,false_or -> C7,or_false -> EW,eq_false_iff -> Ga,not_eq_true -> HR,eq_iff_iff -> QR
open List renaming length_cons -> AK,getElem?_eq_getElem -> AV,length_append -> AY,getElem?_eq_none -> Ae,mem_cons -> BK,getElem?_map -> BR,eq_nil_of_length_eq_zero -> Bc,length_take -> Bn,replicate -> Bo,getElem?_drop -> CD,getElem?_take -> CY,map_cons -> Cf,getElem?_append_right -> Ck,getElem?_append_left -> Cu,length_map -> DD,getElem?_cons_succ -> DH,mem_append -> Dw,drop_eq_getElem_cons -> EE,range -> Fz,ext_getElem? -> GZ,take_of_length_le -> HM,nil_append -> IW,mem_of_getElem? -> Il,cons_append -> Ji,map_nil -> Km,getElem?_range -> O2,mapM_cons -> WO,drop_take -> WQ,all_cons -> ig,take_succ_cons -> th,replicate_succ -> tj,flatten_cons -> ANz
open Option renaming some -> AP,map_eq_some_iff -> BC,map_some -> CH,bind_eq_some_iff -> Es,bind_some -> OG,map_none -> tW
open Array renaming getElem?_setIfInBounds -> BN,getElem?_eq_none -> CO,getElem?_toList -> ET,size_setIfInBounds -> EY,getD_eq_getD_getElem? -> Ey,length_toList -> FQ,ext' -> Hq,map -> AAJ,getElem?_eq_some_iff -> AFf,getElem?_append_left -> AFg,mapM_eq_mapM_toList -> ANH
open BitVec renaming ofInt -> Be
namespace Go.Og
structure BS where
 len:Nat
 val:Nat
 deriving DecidableEq,Inhabited
def BS.get(s:BS)(i:Nat):Nat:=Nat.mod (Nat.shiftRight s.val (FP 8 i)) 256
def BS.toList(s:BS):List UInt8:=(Fz s.len).map λi=>UInt8.ofNat (s.get i)
def BS.low(s:BS):Nat:=Nat.mod s.val (Nat.pow 2 (FP 8 s.len))
def BS.beq(a b:BS):Bool:=Ax a.len b.len&&Ax a.low b.low
def BS.cat(a b:BS):BS:=⟨AN a.len b.len,Nat.lor a.low (Nat.shiftLeft b.val (FP 8 a.len))⟩
def BS.sub(s:BS)(lo a:Nat):BS:=⟨Nat.sub a lo,Nat.mod (Nat.shiftRight s.val (FP 8 lo)) (Nat.pow 2 (FP 8 (Nat.sub a lo)))⟩
def BS.ofList:List UInt8->BS
 | []=>⟨0,0⟩
 | c::l=>⟨Nat.succ (BS.ofList l).len,AN c.toNat (FP 256 (BS.ofList l).val)⟩
theorem BS.get_lt(s:BS) i:s.get i<256:=AFa _ (by decide)
theorem BS.length_toList(s:BS):s.toList.length=s.len:=by simp[BS.toList]
theorem BS.getElem?_toList(s:BS) i:s.toList[i]? = if i<s.len then some (UInt8.ofNat (s.get i))else none:=by
 simp only[BS.toList,BR];by_cases h:i<s.len
 ·rw[if_pos h,O2 h];rfl
 ·rw[if_neg h,Ae (by simpa using h)];rfl
theorem BS.ofNat_inj{a b:Nat}(f:a<256)(g:b<256)(h:UInt8.ofNat a=UInt8.ofNat b):a=b:=by
 have:=congrArg UInt8.toNat h;simp only[UInt8.toNat_ofNat']at this;omega
theorem BS.testBit_get(s:BS) i j:(s.get i).testBit j=(decide (j<8)&&s.val.testBit (8*i+j)):=by
 show Nat.testBit ((s.val >>> (8*i)) % (2 ^ 8)) j=_;rw[SX,Nat.testBit_shiftRight]
theorem BS.testBit_low(s:BS) j:s.low.testBit j=(decide (j<8*s.len)&&s.val.testBit j):=by
 show Nat.testBit (s.val % (2 ^ (8*s.len))) j=_;rw[SX]
theorem BS.ext_get{a b:BS}(k:a.len=b.len)(h:∀i,i<a.len->a.get i=b.get i):a.toList=b.toList:=by
 apply GZ;intro i;rw[BS.getElem?_toList,BS.getElem?_toList,k];by_cases d:i<b.len
 ·rw[if_pos d,if_pos d,h i (by omega)]
 ·rw[if_neg d,if_neg d]
theorem BS.get_eq{a b:BS}(h:a.toList=b.toList):a.len=b.len/\∀i,i<a.len->a.get i=b.get i:=by
 have k:a.len=b.len:=by rw[<-BS.length_toList,h,BS.length_toList]
 refine⟨k,λi l=>?_⟩;have:=congrArg (·[i]?) h;simp only[BS.getElem?_toList]at this;rw[if_pos l,if_pos (by omega)]at this;exact BS.ofNat_inj (a.get_lt i) (b.get_lt i) (AP.inj this)
theorem BS.low_eq{a b:BS}(r:a.len=b.len):a.low=b.low↔∀i,i<a.len->a.get i=b.get i:=by
 constructor
 ·intro h i t
  apply Ik;intro j;rw[BS.testBit_get,BS.testBit_get];by_cases m:j<8
  ·have:=congrArg (λn=>n.testBit (8*i+j)) h
   simp only[BS.testBit_low]at this;have p:(8*i+j<8*a.len):=by omega
   have s:(8*i+j<8*b.len):=by omega
   simpa[m,p,s]using this
  ·simp[m]
 ·intro h
  apply Ik;intro j;rw[BS.testBit_low,BS.testBit_low,<-r];by_cases m:j<8*a.len
  ·have:=congrArg (λn=>n.testBit (j % 8)) (h (j / 8) (by omega))
   simp only[BS.testBit_get]at this;have p:j % 8<8:=by omega
   rw[Nat.div_add_mod]at this;simpa[p,m]using this
  ·simp[m]
theorem BS.beq_iff{a b:BS}:a.beq b=true↔a.toList=b.toList:=by
 simp only[BS.beq,AI,AW];constructor
 ·rintro⟨e,h⟩;exact BS.ext_get e ((BS.low_eq e).1 h)
 ·intro h
  obtain⟨e,l⟩:=BS.get_eq h;exact⟨e,(BS.low_eq e).2 l⟩
theorem BS.beq_eq(a b:BS):a.beq b=decide (a.toList=b.toList):=by
 by_cases h:a.toList=b.toList
 ·rw[BS.beq_iff.2 h];simp[h]
 ·rw[decide_eq_false h,Ga];exact λf=>h (BS.beq_iff.1 f)
theorem BS.get_cat_left{a b:BS}{i}(h:i<a.len):(a.cat b).get i=a.get i:=by
 apply Ik;intro j;rw[BS.testBit_get,BS.testBit_get];by_cases k:j<8
 ·show (decide (j<8)&&Nat.testBit (a.low ||| b.val <<< (8*a.len)) (8*i+j))=_
  rw[WM,BS.testBit_low,Nat.testBit_shiftLeft];have m:8*i+j<8*a.len:=by omega
  have n:¬(8*a.len<=8*i+j):=by omega
  simp[m,n]
 ·simp[k]
theorem BS.get_cat_right{a b:BS}{i}(h:a.len<=i):(a.cat b).get i=b.get (i-a.len):=by
 apply Ik;intro j;rw[BS.testBit_get,BS.testBit_get];by_cases k:j<8
 ·show (decide (j<8)&&Nat.testBit (a.low ||| b.val <<< (8*a.len)) (8*i+j))=_
  rw[WM,BS.testBit_low,Nat.testBit_shiftLeft];have n:¬(8*i+j<8*a.len):=by omega
  have o:8*i+j ≥ 8*a.len:=by omega
  have m:8*i+j-8*a.len=8*(i-a.len)+j:=by omega
  simp[n,o,m]
 ·simp[k]
theorem BS.toList_cat(a b:BS):(a.cat b).toList=a.toList++b.toList:=by
 apply GZ;intro i;rw[List.getElem?_append,BS.length_toList,BS.getElem?_toList,BS.getElem?_toList,BS.getElem?_toList];have k:(a.cat b).len=a.len+b.len:=rfl;rw[k];by_cases h:i<a.len
 ·rw[if_pos h,if_pos (by omega),if_pos h,BS.get_cat_left h]
 ·rw[if_neg h]
  by_cases j:i<a.len+b.len
  ·rw[if_pos j,if_pos (by omega),BS.get_cat_right (by omega)]
  ·rw[if_neg j,if_neg (by omega)]
theorem BS.get_sub{s:BS}{lo d i}(h:i<d-lo):(s.sub lo d).get i=s.get (lo+i):=by
 apply Ik;intro j;rw[BS.testBit_get,BS.testBit_get];by_cases g:j<8
 ·show (decide (j<8)&&Nat.testBit ((s.val >>> (8*lo)) % (2 ^ (8*(d-lo)))) (8*i+j))=_
  rw[SX,Nat.testBit_shiftRight];have l:8*i+j<8*(d-lo):=by omega
  have m:8*lo+(8*i+j)=8*(lo+i)+j:=by omega
  simp[l,m]
 ·simp[g]
theorem BS.toList_sub{s:BS}{lo a}(h:a<=s.len):(s.sub lo a).toList=(s.toList.drop lo).take (a-lo):=by
 apply GZ;intro i;rw[CY,CD,BS.getElem?_toList,BS.getElem?_toList];have j:(s.sub lo a).len=a-lo:=rfl;rw[j];by_cases c:i<a-lo
 ·rw[if_pos c,if_pos c,if_pos (by omega),BS.get_sub c]
 ·rw[if_neg c,if_neg c]
theorem BS.len_ofList:∀l,(BS.ofList l).len=l.length
 | []=>rfl | _::l=>by simp[BS.ofList,BS.len_ofList l]
theorem BS.get_ofList:∀l i (c:UInt8),l[i]? = some c->(BS.ofList l).get i=c.toNat
 | [],i,c,h=>by simp at h
 | d::l,0,c,h=>by
  simp at h;subst h;show ((d.toNat+256*(BS.ofList l).val) >>> (8*0)) % 256=_;have:=d.toNat_lt;rw[Nat.mul_zero,Nat.shiftRight_zero];omega
 | d::l,i+1,c,h=>by
  simp at h;rw[<-BS.get_ofList l i c h];show ((d.toNat+256*(BS.ofList l).val) >>> (8*(i+1))) % 256=((BS.ofList l).val >>> (8*i)) % 256;have g:=d.toNat_lt;rw[Nat.mul_succ,Nat.add_comm (8*i) 8,Nat.shiftRight_add];have:(d.toNat+256*(BS.ofList l).val) >>> 8=(BS.ofList l).val:=by
   rw[Nat.shiftRight_eq_div_pow];omega
  rw[this]
theorem BS.toList_ofList(l:List UInt8):(BS.ofList l).toList=l:=by
 apply GZ;intro i;rw[BS.getElem?_toList,BS.len_ofList];by_cases h:i<l.length
 ·rw[if_pos h]
  have f:=AV h;rw[BS.get_ofList l i _ f,f];simp
 ·rw[if_neg h,Ae (by omega)]
structure BI where
 blk:Nat
 shift:Nat
 endc:Nat
inductive fh where
 | ex (c:Nat)
 | op (esz:Nat)
 deriving DecidableEq,Inhabited
abbrev Ren:=Nat->Option BI
inductive V where
 | dead
 | bool (b:Bool)
 | int (k:IntKind) (n:Int)
 | str (s:BS)
 | nilp
 | ptr (b off:Nat)
 | nils
 | sl (b off len:Nat) (cap:fh)
 | sle (b off k esz:Nat)
 | nilm
 | mp (b:Nat)
 | fn (f:FuncId) (first captured:List V)
 | nilf
 | ifc (t:TypeId) (v:V)
 | nili
 | agg (l:List V)
 | tup (l:List V)
 deriving Inhabited
def BI.cap(i:BI)(a off:Nat):Nat:=(i.endc-off) / a
mutual
def BE(R:Ren):V->Option Value
 | .dead=>none
 | .bool b=>some (.bool b)
 | .int k n=>some (.int k n)
 | .str l=>some (.string ⟨l.toList.toArray⟩)
 | .nilp=>some (.pointer none)
 | .ptr b off=>(R b).map λi => .pointer (some ⟨i.blk,i.shift+off,none⟩)
 | .nils=>some (.slice none 0 0)
 | .sl b off len (.ex c)=>(R b).map λi => .slice (some ⟨i.blk,i.shift+off,none⟩) len c
 | .sl b off len (.op e)=>(R b).bind λi=>if len<=i.cap e off/\i.cap e off<=9223372036854775807 then some (.slice (some ⟨i.blk,i.shift+off,none⟩) len (i.cap e off))else none
 | .sle b off k e=>(R b).bind λi=>if k<=i.cap e off then some (.slice (some (if i.cap e off=k then⟨i.blk,i.shift+off,none⟩else(⟨i.blk,i.shift+off,none⟩:Addr).add (k*e))) 0 (i.cap e off-k))else none
 | .nilm=>some (.map none)
 | .mp b=>(R b).map λi => .map (some i.blk)
 | .fn f a c=>match BL R a,BL R c with
  | some x,some y=>some (.func (.func f) x.toArray y.toArray)
  | _,_=>none
 | .nilf=>some .nilFunc
 | .ifc t v=>match BE R v with
  | some x=>some (.iface t x)
  | none=>none
 | .nili=>some .nilIface
 | .agg l=>match BL R l with
  | some x=>some (.agg x.toArray)
  | none=>none
 | .tup l=>match BL R l with
  | some x=>some (.tuple x.toArray)
  | none=>none
def BL(R:Ren):List V->Option (List Value)
 | []=>some []
 | v::l=>match BE R v,BL R l with
  | some x,some y=>some (x::y)
  | _,_=>none
end
def Le(R a:Ren):Prop:=∀b i,R b=some i->a b=some i
theorem Le.refl R:Le R R:=λ_ _ h=>h
theorem Le.trans{R S T}(h:Le R S)(k:Le S T):Le R T:=λb i x=>k b i (h b i x)
mutual
theorem C8{R R':Ren}(h:Le R R'):∀(v:V) (x:Value),BE R v=some x->BE R' v=some x
 | .dead,x,e=>by simp[BE]at e
 | .bool b,x,e=>by simpa[BE]using e
 | .int k n,x,e=>by simpa[BE]using e
 | .str l,x,e=>by simpa[BE]using e
 | .nilp,x,e=>by simpa[BE]using e
 | .ptr b off,x,e=>by
  simp only[BE,BC]at e ⊢
  obtain⟨i,hi,rfl⟩:=e;exact⟨i,h b i hi,rfl⟩
 | .nils,x,e=>by simpa[BE]using e
 | .sl b off len (.ex c),x,e=>by
  simp only[BE,BC]at e ⊢
  obtain⟨i,hi,rfl⟩:=e;exact⟨i,h b i hi,rfl⟩
 | .sl b off len (.op _),x,e=>by
  simp only[BE,Es]at e ⊢
  obtain⟨i,hi,e⟩:=e;exact⟨i,h b i hi,e⟩
 | .sle b off k _,x,e=>by
  simp only[BE,Es]at e ⊢
  obtain⟨i,hi,e⟩:=e;exact⟨i,h b i hi,e⟩
 | .nilm,x,e=>by simpa[BE]using e
 | .mp b,x,e=>by
  simp only[BE,BC]at e ⊢
  obtain⟨i,hi,rfl⟩:=e;exact⟨i,h b i hi,rfl⟩
 | .fn f a c,x,e=>by
  simp only[BE]at e ⊢
  cases ha:BL R a<;>simp only[ha]at e
  ·cases e
  ·cases hc:BL R c<;>simp only[hc]at e
   ·cases e
   ·rw[FI h a _ ha,FI h c _ hc];exact e
 | .nilf,x,e=>by simpa[BE]using e
 | .ifc t v,x,e=>by
  simp only[BE]at e ⊢
  cases hv:BE R v<;>simp only[hv]at e
  ·cases e
  ·rw[C8 h v _ hv];exact e
 | .nili,x,e=>by simpa[BE]using e
 | .agg l,x,e=>by
  simp only[BE]at e ⊢
  cases hl:BL R l<;>simp only[hl]at e
  ·cases e
  ·rw[FI h l _ hl];exact e
 | .tup l,x,e=>by
  simp only[BE]at e ⊢
  cases hl:BL R l<;>simp only[hl]at e
  ·cases e
  ·rw[FI h l _ hl];exact e
theorem FI{R R':Ren}(h:Le R R'):∀(l:List V) (x:List Value),BL R l=some x->BL R' l=some x
 | [],x,e=>by simpa[BL]using e
 | v::l,x,e=>by
  simp only[BL]at e ⊢
  cases hv:BE R v<;>simp only[hv]at e
  ·cases e
  ·cases hl:BL R l<;>simp only[hl]at e
   ·cases e
   ·rw[C8 h v _ hv,FI h l _ hl];exact e
end
theorem B4{R}:∀{l:List V}{x:List Value},BL R l=some x->x.length=l.length
 | [],x,e=>by simp only[BL,AP.injEq]at e;subst e;rfl
 | v::l,x,e=>by
  simp only[BL]at e;cases g:BE R v<;>simp only[g]at e
  ·cases e
  ·cases f:BL R l<;>simp only[f]at e
   ·cases e
   ·cases e;simp[B4 f]
theorem Bm{R v l x}:BL R (v::l)=some x↔∃a b,BE R v=some a/\BL R l=some b/\x=a::b:=by
 simp only[BL];cases f:BE R v<;>cases g:BL R l<;>simp[eq_comm]
theorem E6{R}:∀{l x},BL R l=some x->∀{k:Nat}{v},l[k]? = some v->∃a,BE R v=some a/\x[k]? = some a
 | [],x,e,k,v,h=>by simp at h
 | v::l,x,e,k,u,h=>by
  obtain⟨a,b,r,s,rfl⟩:=Bm.1 e;cases k with
  | zero=>simp at h;subst h;exact⟨a,r,by simp⟩ | succ k=>simp at h;obtain⟨c,q,p⟩:=E6 s h;exact⟨c,q,by simpa using p⟩
theorem No{R}:∀{l:List V}{x:List Value},x.length=l.length->(∀(k:Nat) v,l[k]? = some v->∃a,BE R v=some a/\x[k]? = some a)->BL R l=some x
 | [],x,e,h=>by simp at e;subst e;rfl
 | v::l,[],e,h=>by simp at e
 | v::l,a::x,e,h=>by
  obtain⟨b,r,n⟩:=h 0 v (by simp);simp at n;subst n;refine Bm.2 ⟨a,x,r,No (by simpa using e) (λk u p=>?_),rfl⟩;obtain⟨c,q,o⟩:=h (k+1) u (by simpa using p);exact⟨c,q,by simpa using o⟩
theorem Ie{R l m x y}(h:BL R l=some x)(k:BL R m=some y):BL R (l++m)=some (x++y):=by
 induction l generalizing x with
 | nil=>simp only[BL,AP.injEq]at h;subst h;simpa using k | cons v l q=>obtain⟨a,b,p,n,rfl⟩:=Bm.1 h;exact Bm.2 ⟨a,b++y,p,q n,rfl⟩
theorem RM{R}{l:List V}{x:List Value}(h:BL R l=some x) n:BL R (l.take n)=some (x.take n):=by
 induction l generalizing x n with
 | nil=>simp only[BL,AP.injEq]at h;subst h;simp[BL] | cons v l o=>
  obtain⟨a,b,q,p,rfl⟩:=Bm.1 h;cases n with
  | zero=>simp[BL] | succ n=>exact Bm.2 ⟨a,b.take n,q,o p n,rfl⟩
theorem ZT{R}{l:List V}{x:List Value}(h:BL R l=some x) n:BL R (l.drop n)=some (x.drop n):=by
 induction l generalizing x n with
 | nil=>simp only[BL,AP.injEq]at h;subst h;simp[BL] | cons v l q=>
  obtain⟨a,b,r,o,rfl⟩:=Bm.1 h;cases n with
  | zero=>simpa using h | succ n=>simpa using q o n
def V.one:V->Bool
 | .agg _ | .tup _ | .dead=>false
 | _=>true
def V.cells:V->List V
 | .agg l=>l
 | v=>[v]
theorem I8{R l a}(h:BE R (.agg l)=some a):∃x,BL R l=some x/\a = .agg x.toArray:=by
 simp only[BE]at h;cases f:BL R l<;>simp only[f]at h
 ·cases h
 ·cases h;exact⟨_,rfl,rfl⟩
theorem XM{R l a}(h:BE R (.tup l)=some a):∃x,BL R l=some x/\a = .tuple x.toArray:=by
 simp only[BE]at h;cases f:BL R l<;>simp only[f]at h
 ·cases h
 ·cases h;exact⟨_,rfl,rfl⟩
theorem EA{R l}{x:List Value}(h:BL R l=some x):BE R (.agg l)=some (.agg x.toArray):=by simp only[BE,h]
theorem Ll{R l}{x:List Value}(h:BL R l=some x):BE R (.tup l)=some (.tuple x.toArray):=by simp only[BE,h]
theorem XN{R}{v:V}{a:Value}(r:v.one=true)(h:BE R v=some a):a.cells=#[a]/\a.oneCell'=true:=by
 cases v with
 | dead=>cases r | agg l=>cases r | tup l=>cases r | bool b=>cases h;exact⟨rfl,rfl⟩ | int k n=>cases h;exact⟨rfl,rfl⟩ | str l=>cases h;exact⟨rfl,rfl⟩ | nilp=>cases h;exact⟨rfl,rfl⟩ | nils=>cases h;exact⟨rfl,rfl⟩ | nilm=>cases h;exact⟨rfl,rfl⟩ | nilf=>cases h;exact⟨rfl,rfl⟩ | nili=>cases h;exact⟨rfl,rfl⟩ | ptr b off=>
  simp only[BE,BC]at h;obtain⟨i,_,rfl⟩:=h;exact⟨rfl,rfl⟩
 | mp b=>
  simp only[BE,BC]at h;obtain⟨i,_,rfl⟩:=h;exact⟨rfl,rfl⟩
 | sl b off len cap=>
  cases cap with
  | ex c=>
   simp only[BE,BC]at h;obtain⟨i,_,rfl⟩:=h;exact⟨rfl,rfl⟩
  | op e=>
   simp only[BE,Es]at h;obtain⟨i,_,h⟩:=h;by_cases q:len<=i.cap e off/\i.cap e off<=9223372036854775807
   ·rw[if_pos q]at h;cases h;exact⟨rfl,rfl⟩
   ·rw[if_neg q]at h;cases h
 | sle b off k e=>
  simp only[BE,Es]at h;obtain⟨i,_,h⟩:=h;by_cases q:k<=i.cap e off
  ·rw[if_pos q]at h;cases h;exact⟨rfl,rfl⟩
  ·rw[if_neg q]at h;cases h
 | ifc t v=>
  simp only[BE]at h;cases s:BE R v<;>simp only[s]at h
  ·cases h
  ·cases h;exact⟨rfl,rfl⟩
 | fn f x y=>
  simp only[BE]at h;cases s:BL R x<;>simp only[s]at h
  ·cases h
  ·cases H:BL R y<;>simp only[H]at h
   ·cases h
   ·cases h;exact⟨rfl,rfl⟩
theorem I7{R}{v:V}{a:Value}(h:BE R v=some a):BL R v.cells=some a.cells.toList:=by
 cases v with
 | dead=>cases h | agg l=>obtain⟨x,f,rfl⟩:=I8 h;simpa[V.cells,Value.cells]using f | tup l=>
  obtain⟨x,f,rfl⟩:=XM h;exact Bm.2 ⟨_,[],h,rfl,rfl⟩
 | _=>
  rw[(XN rfl h).1];exact Bm.2 ⟨a,[],h,rfl,rfl⟩
inductive MP where
 | cells (l:List V)
 | map (l:List (V × V))
 | siter (s:List UInt8) (pos:Nat)
 | unit (t:TypeId)
 deriving Inhabited
def look{α:Type}:List (Nat × α)->Nat->Option α
 | [],_=>none
 | (k,b)::l,id=>if Ax k id then some b else look l id
def MS{α:Type}:List (Nat × α)->Nat->α->List (Nat × α)
 | [],_,_=>[]
 | (k,b)::l,id,c=>if Ax k id then(k,c)::l else(k,b)::MS l id c
def drop{α:Type}:List (Nat × α)->Nat->List (Nat × α)
 | [],_=>[]
 | (k,b)::l,id=>if Ax k id then drop l id else(k,b)::drop l id
theorem Io{α} l id e (c:α):look (MS l id c) e=if id=e then(look l e).map (λ_=>c)else look l e:=by
 induction l with
 | nil=>simp[MS,look] | cons p l o=>
  obtain⟨k,b⟩:=p;by_cases h:k=id
  ·subst h
   by_cases i:k=e
   ·simp[MS,look,i]
   ·simp[MS,look,i]
  ·simp only[MS,look,AW,h,if_false,o]
   by_cases i:k=e
   ·subst i;simp[Ne.symm h]
   ·simp[i]
theorem OW{α}(l:List (Nat × α)) id d:look (drop l id) d=if id=d then none else look l d:=by
 induction l with
 | nil=>simp[drop,look] | cons p l m=>
  obtain⟨k,b⟩:=p;by_cases h:k=id
  ·subst h
   simp only[drop,AW,if_true,m,look];by_cases i:k=d<;>simp[i]
  ·simp only[drop,look,AW,h,if_false,m]
   by_cases i:k=d
   ·subst i;simp[Ne.symm h]
   ·simp[i]
abbrev EB:=List (Nat × MP)
structure H where
 next:Nat
 bl:EB
 deriving Inhabited
def H.add(U:H)(b:MP):H:=⟨U.next+1,(U.next,b)::U.bl⟩
def H.set(U:H)(id:Nat)(b:MP):H:=⟨U.next,MS U.bl id b⟩
def H.del(U:H)(id:Nat):H:=⟨U.next,drop U.bl id⟩
def Ly(R:Ren)(s:Nat)(l:List V)(b:Array Value):Prop:=
 ∀k v,l[k]? = some v->∃a,BE R v=some a/\a.oneCell'=true/\b[s+k]? = some a
theorem Ly.mono{R d s l b}(h:Ly R s l b)(c:Le R d):Ly d s l b:=λk v e=>
 let ⟨a,g,i,f⟩:=h k v e;⟨a,C8 c v a g,i,f⟩
def FA(R:Ren):List (V × V)->List MapEntry->Prop
 | [],[]=>True
 | (k,v)::l,e::a=>BE R k=some e.key/\BE R v=some e.val/\FA R l a
 | _,_=>False
theorem FA.mono{R b}(a:Le R b):∀{l c},FA R l c->FA b l c
 | [],[],_=>trivial | (_,_)::_,_::_,⟨d,e,f⟩=>⟨C8 a _ _ d,C8 a _ _ e,FA.mono a f⟩ | [],_::_,h=>h.elim | _::_,[],h=>h.elim
def JC(R:Ren)(i:BI)(b:MP)(w:World):Prop:=
 match b with
 | .cells l=>∃a f lo d,w.heap[i.blk]? = some (.cells a f (lo,d))/\Ly R i.shift l a/\i.shift+i.endc<=a.size/\l.length<=i.endc /\
   (∀off,off<a.size->¬(lo<=off/\off<d))
 | .map l=>∃e c,w.heap[i.blk]? = some (.map e c)/\FA R l e.toList
 | .siter s p=>w.heap[i.blk]? = some (.stringIter ⟨s.toArray⟩ p)
 | .unit t=>∃g,w.heap[i.blk]? = some (.cells #[] t g)
def Hb(R:Ren)(i:BI)(b:MP)(w:World):Prop:=
 match b with
 | .cells l=>∃a d c,w.heap[i.blk]? = some (.cells a d c)/\Ly R i.shift l a
 | _=>False
theorem JC.mono{R q}{i:BI}{b}{w w':World}(h:JC R i b w)(f:Le R q)(g:w'.heap[i.blk]? = w.heap[i.blk]?):JC q i b w':=by
 cases b with
 | cells l=>
  obtain⟨k,A,lo,z,e,m,v,y,u⟩:=h;exact⟨k,A,lo,z,g.trans e,m.mono f,v,y,u⟩
 | map l=>
  obtain⟨B,c,e,m⟩:=h;exact⟨B,c,g.trans e,m.mono f⟩
 | siter s p=>exact g.trans h | unit t=>obtain⟨C,e⟩:=h;exact⟨C,g.trans e⟩
theorem Hb.mono{R j}{i:BI}{b}{w w':World}(h:Hb R i b w)(f:Le R j)(k:w'.heap[i.blk]? = w.heap[i.blk]?):Hb j i b w':=by
 cases b with
 | cells l=>
  obtain⟨g,m,n,p,o⟩:=h;exact⟨g,m,n,k.trans p,o.mono f⟩
 | _=>exact h.elim
theorem JC.lt{R}{i:BI}{b}{w:World}(h:JC R i b w):i.blk<w.heap.size:=by
 have:∃o,w.heap[i.blk]? = some o:=by
  cases b with
  | cells l=>obtain⟨u,x,lo,y,e,_⟩:=h;exact⟨_,e⟩ | map l=>obtain⟨z,c,e,_⟩:=h;exact⟨_,e⟩ | siter s p=>exact⟨_,h⟩ | unit t=>obtain⟨v,e⟩:=h;exact⟨_,e⟩
 obtain⟨o,r⟩:=this;rcases Av i.blk w.heap.size with h|h
 ·exact h
 ·simp[CO h]at r
structure Cx where
 O:Nat->Prop
 w0:World
 E:EB
 G:Nat->Bool
structure ER(C:Cx)(R:Ren)(U:H)(w:World):Prop where
 fresh:∀id,U.next<=id->R id=none
 own:∀id b,look U.bl id=some b->∃i,R id=some i/\C.O i.blk/\JC R i b w
 inj:∀id id' b b' i i',look U.bl id=some b->look U.bl id'=some b'->R id=some i->R id'=some i'->i.blk=i'.blk->id=id'
 ext:∀id b,look C.E id=some b->∃i,R id=some i/\¬C.O i.blk/\Hb R i b w
 glob:∀g,C.G g=true->∃i,R g=some i/\i.blk=g/\i.shift=0
 fr:∀blk,¬C.O blk->w.heap[blk]? = C.w0.heap[blk]?
 size:C.w0.heap.size<=w.heap.size
 new:∀blk,C.w0.heap.size<=blk->C.O blk
 os:w.os=C.w0.os
 tape:w.tape=C.w0.tape
 output:w.output=C.w0.output
def Jf(n:Nat)(R a:Ren):Prop:=∀id,id<n->a id=R id
theorem Jf.refl n R:Jf n R R:=λ_ _=>rfl
theorem Jf.trans{n m R S T}(h:Jf n R S)(k:Jf m S T)(c:n<=m):Jf n R T:=λid b=>(k id (by omega)).trans (h id b)
theorem Jf.le{n R f}(h:Jf n R f)(g:∀id,n<=id->R id=none):Le R f:=λid i d=>by
 rcases Av id n with e|e
 ·rw[h id e];exact d
 ·rw[g id e]at d;cases d
def JJ(R:Ren)(id:Nat)(i:BI):Ren:=λk=>if k=id then some i else R k
theorem CT R id i:JJ R id i id=some i:=by simp[JJ]
theorem Bv{R id k i}(h:k≠id):JJ R id i k=R k:=by simp[JJ,h]
theorem FD R n i:Jf n R (JJ R n i):=λid b=>Bv (by omega)
theorem ER.next_of_own{C R}{U:H}{w}(h:ER C R U w){id b}(j:look U.bl id=some b):id<U.next:=by
 rcases Av id U.next with d|d
 ·exact d
 ·obtain⟨i,g,_⟩:=h.own id b j
  rw[h.fresh id d]at g;cases g
theorem ER.drawn{C R U w}(h:ER C R U w) d:ER C R U { w with drawn:=d }:=
 ⟨h.fresh,h.own,h.inj,h.ext,h.glob,h.fr,h.size,h.new,h.os,h.tape,h.output⟩
structure GI(w w':World):Prop where
 old:∀k,k<w.heap.size->w'.heap[k]? = w.heap[k]?
 size:w'.heap.size=w.heap.size+1
 os:w'.os=w.os
 tape:w'.tape=w.tape
 output:w'.output=w.output
theorem GI.of_alloc(w:World) o:GI w (w.alloc o):=
 ⟨λk b=>by show (w.heap.push o)[k]? = _;rw[Array.getElem?_push,if_neg (by omega)],World.size_alloc w o,rfl,rfl,rfl⟩
theorem ER.alloc{C:Cx}{R}{U:H}{w w':World}(h:ER C R U w)(J:GI w w') b (i:BI)(T:i.blk=w.heap.size)
  (N:JC (JJ R U.next i) i b w'):ER C (JJ R U.next i) (U.add b) w':=by
 have D:=(FD R U.next i).le h.fresh;have x:=J.old;have Y:=h.new _ h.size;refine⟨?_,?_,?_,?_,?_,?_,?_,h.new,J.os.trans h.os,J.tape.trans h.tape,J.output.trans h.output⟩
 ·intro id M
  have Q:U.next+1<=id:=M;rw[Bv (by omega)];exact h.fresh id (by omega)
 ·intro id c A
  by_cases B:id=U.next
  ·subst B
   simp only[H.add,look,AW,if_true,AP.injEq]at A;subst A;exact⟨i,CT _ _ _,T ▸ Y,N⟩
  ·simp only[H.add,look,AW,Ne.symm B,if_false]at A
   obtain⟨j,u,P,m⟩:=h.own id c A;exact⟨j,by rw[Bv B];exact u,P,m.mono D (x _ m.lt)⟩
 ·intro id E c S j X A G u n L
  by_cases B:id=U.next
  ·by_cases q:E=U.next
   ·rw[B,q]
   ·exfalso
    subst B;rw[CT]at u;cases u;simp only[H.add,look,AW,Ne.symm q,if_false]at G;rw[Bv q]at n;obtain⟨k,O,_,m⟩:=h.own E S G;rw[O]at n;cases n;have:=m.lt;omega
  ·by_cases q:E=U.next
   ·exfalso
    subst q;rw[CT]at n;cases n;simp only[H.add,look,AW,Ne.symm B,if_false]at A;rw[Bv B]at u;obtain⟨k,O,_,m⟩:=h.own id c A;rw[O]at u;cases u;have:=m.lt;omega
   ·simp only[H.add,look,AW,Ne.symm B,Ne.symm q,if_false]at A G
    rw[Bv B]at u;rw[Bv q]at n;exact h.inj id E c S j X A G u n L
 ·intro id c A
  obtain⟨j,u,y,m⟩:=h.ext id c A;refine⟨j,D _ _ u,y,m.mono D (x _ ?_)⟩;rcases Av j.blk w.heap.size with I|I
  ·exact I
  ·exact absurd (h.new _ (AU h.size I)) y
 ·intro g W
  obtain⟨j,u,N⟩:=h.glob g W;exact⟨j,D _ _ u,N⟩
 ·intro K y
  rw[<-h.fr K y];refine x _ ?_;rcases Av K w.heap.size with I|I
  ·exact I
  ·exact absurd (h.new _ (AU h.size I)) y
 ·rw[J.size];have:=h.size;omega
theorem ER.write{C:Cx}{R}{U:H}{w w':World}(h:ER C R U w){id b c}{i:BI}(J:look U.bl id=some b)(K:R id=some i)
  (T:JC R i c w') (q:∀k,k≠i.blk->w'.heap[k]? = w.heap[k]?) (G:w'.heap.size=w.heap.size)
  (P:w'.os=w.os) (x:w'.tape=w.tape) (F:w'.output=w.output):ER C R (U.set id c) w':=by
 have s:∀k,look (U.set id c).bl k=if id=k then(look U.bl k).map (λ_=>c)else look U.bl k:=λk=>Io U.bl id k c;have y:C.O i.blk:=by obtain⟨j,t,N,_⟩:=h.own id b J;rw[K]at t;cases t;exact N
 refine⟨h.fresh,?_,?_,?_,h.glob,?_,?_,h.new,P.trans h.os,x.trans h.tape,F.trans h.output⟩
 ·intro k d r
  rw[s]at r;by_cases A:id=k
  ·subst A
   rw[if_pos rfl,J]at r;cases r;exact⟨i,K,y,T⟩
  ·rw[if_neg A]at r
   obtain⟨j,t,N,z⟩:=h.own k d r;refine⟨j,t,N,z.mono (Le.refl _) (q _ λl=>A (h.inj id k b d i j J r K t l.symm))⟩
 ·intro k S d W j Y r E t I l
  rw[s]at r E;have Q:∀m e,(if id=m then(look U.bl m).map (λ_=>c)else look U.bl m)=some e->∃f,look U.bl m=some f:=λm e D=>by
   by_cases A:id=m
   ·rw[if_pos A]at D
    cases X:look U.bl m with
    | none=>rw[X]at D;cases D | some f=>exact⟨f,rfl⟩
   ·rw[if_neg A]at D;exact⟨e,D⟩
  obtain⟨f,hf⟩:=Q k d r;obtain⟨Z,M⟩:=Q S W E;exact h.inj k S f Z j Y hf M t I l
 ·intro k d r
  obtain⟨j,t,B,z⟩:=h.ext k d r;exact⟨j,t,B,z.mono (Le.refl _) (q _ λl=>B (l ▸ y))⟩
 ·intro O B
  rw[<-h.fr O B];exact q _ λl=>B (l ▸ y)
 ·rw[G];exact h.size
theorem ER.del{C R}{U:H}{w}(h:ER C R U w) id:ER C R (U.del id) w:=by
 have b:∀k,look (U.del id).bl k=if id=k then none else look U.bl k:=λk=>OW U.bl id k;have j:∀k c,look (U.del id).bl k=some c->look U.bl k=some c:=λk c a=>by
  rw[b]at a;by_cases m:id=k
  ·rw[if_pos m]at a;cases a
  ·rwa [if_neg m]at a
 exact⟨h.fresh,λk c a=>h.own k c (j k c a),λk l c n i o a f=>h.inj k l c n i o (j k c a) (j l n f),h.ext,h.glob,h.fr,h.size,h.new,h.os,h.tape,h.output⟩
theorem ER.rename{C:Cx}{R}{U:H}{w w':World}(h:ER C R U w){id b c}{i:BI}(K:look U.bl id=some b)(T:R id=some i)
  (hc:JC (JJ R U.next i) i c w') (v:∀k,k≠i.blk->w'.heap[k]? = w.heap[k]?) (Y:w'.heap.size=w.heap.size)
  (Z:w'.os=w.os) (F:w'.tape=w.tape) (Q:w'.output=w.output):ER C (JJ R U.next i) ((U.del id).add c) w':=by
 have B:=(FD R U.next i).le h.fresh;have J:C.O i.blk:=by obtain⟨j,o,hO,_⟩:=h.own id b K;rw[T]at o;cases o;exact hO
 have E:∀k,look (U.del id).bl k=if id=k then none else look U.bl k:=λk=>OW U.bl id k;have N:∀k d,k≠U.next->look ((U.del id).add c).bl k=some d->id≠k/\look U.bl k=some d:=λk d hk z=>by
  simp only[H.add,H.del,look,AW,Ne.symm hk,if_false]at z;have m:look (U.del id).bl k=some d:=z;rw[E]at m;by_cases u:id=k
  ·rw[if_pos u]at m;cases m
  ·rw[if_neg u]at m;exact⟨u,m⟩
 refine⟨?_,?_,?_,?_,?_,?_,?_,h.new,Z.trans h.os,F.trans h.tape,Q.trans h.output⟩
 ·intro k hk
  have aa:U.next+1<=k:=hk;rw[Bv (by omega)];exact h.fresh k (by omega)
 ·intro k d z
  by_cases u:k=U.next
  ·subst u
   simp only[H.add,H.del,look,AW,if_true,AP.injEq]at z;subst z;exact⟨i,CT _ _ _,J,hc⟩
  ·obtain⟨y,m⟩:=N k d u z
   obtain⟨j,o,hO,G⟩:=h.own k d m;refine⟨j,B _ _ o,hO,G.mono B (v _ λn=>y (h.inj id k b d i j K m T o n.symm))⟩
 ·intro k L d W j j' z m o t n
  by_cases u:k=U.next
  ·by_cases r:L=U.next
   ·rw[u,r]
   ·exfalso
    subst u;rw[CT]at o;cases o;obtain⟨y,x⟩:=N L W r m;rw[Bv r]at t;exact y (h.inj id L b W _ j' K x T t n)
  ·by_cases r:L=U.next
   ·exfalso
    subst r;rw[CT]at t;cases t;obtain⟨y,x⟩:=N k d u z;rw[Bv u]at o;exact y (h.inj id k b d _ j K x T o n.symm)
   ·obtain⟨_,x⟩:=N k d u z
    obtain⟨_,S⟩:=N L W r m;rw[Bv u]at o;rw[Bv r]at t;exact h.inj k L d W j j' x S o t n
 ·intro k d z
  obtain⟨j,o,O,G⟩:=h.ext k d z;exact⟨j,B _ _ o,O,G.mono B (v _ λn=>O (n ▸ J))⟩
 ·intro g hg
  obtain⟨j,o,K⟩:=h.glob g hg;exact⟨j,B _ _ o,K⟩
 ·intro X O
  rw[<-h.fr X O];exact v _ λn=>O (n ▸ J)
 ·rw[Y];exact h.size
def rd(E:EB)(U:H)(id:Nat):Option (List V):=
 match look U.bl id with
 | some (.cells l)=>some l
 | some _=>none
 | none=>match look E id with
  | some (.cells l)=>some l
  | _=>none
theorem ER.read{C:Cx}{R}{U:H}{w:World}(h:ER C R U w){id l}(d:rd C.E U id=some l):
  ∃i e n v,R id=some i/\w.heap[i.blk]? = some (.cells e n v)/\Ly R i.shift l e:=by
 unfold rd at d;cases z:look U.bl id with
 | some b=>
  rw[z]at d;obtain⟨i,r,_,g⟩:=h.own id b z;cases b with
  | cells m=>cases d;obtain⟨e,n,lo,D,u,B,_⟩:=g;exact⟨i,e,n,_,r,u,B⟩ | map m=>cases d | siter s p=>cases d | unit t=>cases d
 | none=>
  rw[z]at d;cases y:look C.E id with
  | none=>rw[y]at d;cases d | some b=>
   rw[y]at d;obtain⟨i,r,_,g⟩:=h.ext id b y;cases b with
   | cells m=>cases d;obtain⟨e,n,v,u,B⟩:=g;exact⟨i,e,n,v,r,u,B⟩ | map m=>cases d | siter s p=>cases d | unit t=>cases d
inductive AO where
 | tmp (i:Nat)
 | con (v:V)
 deriving Inhabited
inductive FK where
 | int | bool | str
 deriving DecidableEq,Inhabited
inductive Gx where
 | bool | ptr | slice | map | func
 | iface (lit:Bool)
 | flat (l:List (Nat × FK))
 | none
 deriving DecidableEq,Inhabited
inductive ALx where
 | toInt (k:IntKind)
 | same
 | toBytes (el:TypeId)
 | toStr
 | bad
 deriving DecidableEq,Inhabited
inductive Eg where
 | mov (x:AO)
 | pick (c a b:AO)
 | alloc (el:TypeId) (z:List V)
 | box (el:TypeId) (x:AO)
 | build (z:List V) (LR:List (Nat × Nat × AO))
 | buildSlice (el:TypeId) (n:Nat) (z:List V) (LR:List (Nat × Nat × AO))
 | load (n:Option Nat) (x:AO)
 | store (n:Nat) (x v:AO)
 | nilck (x:AO)
 | bin (op:BinOp) (t:Gx) (x y:AO)
 | un (op:UnOp) (x:AO)
 | conv (t:ALx) (x:AO)
 | mkifc (t:TypeId) (x:AO)
 | mkfn (f:FuncId) (first captured:List AO)
 | mkslice (el:TypeId) (esz bytes:Nat) (z:List V) (len cap:AO)
 | sliceStr (x:AO) (lo hi:Option AO)
 | sliceSl (esz:Nat) (x:AO) (lo hi mx:Option AO)
 | sliceArr (n esz:Nat) (x:AO) (lo hi mx:Option AO)
 | faddr (off:Nat) (x:AO)
 | field (off:Nat) (n:Option Nat) (x:AO)
 | iaddrS (esz:Nat) (x i:AO)
 | iaddrA (n esz:Nat) (x i:AO)
 | idxStr (x i:AO)
 | extract (i:Nat) (x:AO)
 | len (str:Bool) (x:AO)
 | lenC (n:Nat)
 | cap (x:AO)
 | append (el:TypeId) (esz bytes:Nat) (s x:AO)
 | copy (esz:Nat) (d s:AO)
 | min (x:AO) (l:List AO)
 | max (x:AO) (l:List AO)
 | call (f:FuncId) (args:List AO)
 | callv (f:AO) (args:List AO)
 | mkmap
 | lookup (t:Gx) (z:V) (m x:AO)
 | mapset (t:Gx) (m k v:AO)
 | alloc0 (el:TypeId)
 | box0 (el:TypeId) (x:AO)
 | load0 (x:AO)
 | store0 (x v:AO)
 | faddr0 (t:TypeId) (x:AO)
 | idxArr (n esz:Nat) (s:Option Nat) (x i:AO)
 | bad
 deriving Inhabited
structure Bf where
 dst:Option Nat
 op:Eg
 guard:Option (Nat × Bool)
 deriving Inhabited
structure DP where
 anc:Nat
 looks:List Nat
 deriving Inhabited
inductive AC where
 | skip
 | region (ops:List Bf)
 | draw (ops:List Bf) (plan:List DP)
 | seq (a b:AC)
 | cond (c:AO) (a b:AC)
 | block (id:Nat) (c:AC)
 | loop (c:AC)
 | exit (id:Nat)
 | ret
 | keep (ts:List Nat) (c:AC)
 | bad
 deriving Inhabited
inductive AR where
 | tmp (t:Nat)
 | cell (t:Nat) (n:Option Nat)
 deriving Inhabited
structure AFn where
 ntmps:Nat
 results:List AR
 frees:List Nat
 body:AC
 deriving Inhabited
abbrev Cb:=List (Nat × V)
def H4(e:Cb)(t:Nat):V:=
 match look e t with
 | some v=>v
 | none => .dead
def Cv(e:Cb):AO->V
 | .tmp i=>H4 e i
 | .con v=>v
def Gu(e:Cb)(l:List AO):List V:=l.map (Cv e)
def D2(e:Cb):Option AO->Option V
 | some x=>some (Cv e x)
 | none=>none
def V.live:V->Bool
 | .dead=>false
 | _=>true
def Gj:List V->Nat->List V->List V
 | l,_,[]=>l
 | [],_,_::_=>[]
 | _::l,0,c::b=>c::Gj l 0 b
 | a::l,n+1,c::b=>a::Gj l n (c::b)
def I3:List (Nat × Nat × V)->List V->Option (List V)
 | [],z=>some z
 | (off,a,v)::r,z=>
  if v.live&&Ax v.cells.length a&&Ac (off+a) z.length then I3 r (Gj z off v.cells)else none
def LR(e:Cb)(l:List (Nat × Nat × AO)):List (Nat × Nat × V):=l.map λ(o,s,x)=>(o,s,Cv e x)
def BM:List V->Bool
 | []=>true
 | v::l=>v.one&&BM l
def VZ(op:BinOp)(a b:Int):Option Bool:=
 match op with
 | .eql=>some (a==b)
 | .neq=>some (a != b)
 | .lss=>some (decide (a<b))
 | .leq=>some (decide (a<=b))
 | .gtr=>some (decide (a > b))
 | .geq=>some (decide (a ≥ b))
 | _=>none
def dN(op:BinOp)(k:IntKind)(a b:Int):Option Int:=
 match op with
 | .add=>some (k.wrap (a+b))
 | .sub=>some (k.wrap (a-b))
 | .mul=>some (k.wrap (a*b))
 | .quo=>if b=0 then none else some (k.wrap (a.tdiv b))
 | .rem=>if b=0 then none else some (a.tmod b)
 | .and=>some (k.wrap (Be k.bits a &&& Be k.bits b).toNat)
 | .or=>some (k.wrap (Be k.bits a ||| Be k.bits b).toNat)
 | .xor=>some (k.wrap (Be k.bits a ^^^ Be k.bits b).toNat)
 | .andNot=>some (k.wrap (Be k.bits a &&& ~~~Be k.bits b).toNat)
 | _=>none
def Qk(op:BinOp)(k:IntKind)(a b:Int):Option Int:=
 if b<0 then none else
 match op with
 | .shl=>some (k.wrap (a*2 ^ (HL b.toNat k.bits)))
 | .shr=>some (a.fdiv (2 ^ (HL b.toNat k.bits)))
 | _=>none
def kp(op:BinOp)(a b:BS):Option V:=
 match op with
 | .add=>match Ac (AN a.len b.len) 1000000000000 with
  | true=>some (.str (a.cat b))
  | false=>none
 | .eql=>some (.bool (a.beq b))
 | .neq=>some (.bool (not (a.beq b)))
 | .lss=>some (.bool (Op.bytesLess a.toList b.toList))
 | .leq=>some (.bool (Op.bytesLess a.toList b.toList || a.beq b))
 | .gtr=>some (.bool (not (Op.bytesLess a.toList b.toList || a.beq b)))
 | .geq=>some (.bool (not (Op.bytesLess a.toList b.toList)))
 | _=>none
def Cc(a b:Int):Bool:=match a,b with
 | .ofNat m,.ofNat n=>Ax m n
 | .negSucc m,.negSucc n=>Ax m n
 | _,_=>false
theorem VX a b:Cc a b=(a==b):=by
 cases a<;>cases b<;>simp only[Cc]<;>(rw[QR];simp[AW])<;>omega
def Ja:FK->V->V->Option Bool
 | .int,.int k a,.int c b=>if k=c then some (Cc a b)else none
 | .bool,.bool a,.bool b=>some (a==b)
 | .str,.str a,.str b=>some (a.beq b)
 | _,_,_=>none
def IN:List V->Nat->V
 | [],_ => .dead
 | v::_,0=>v
 | _::l,n+1=>IN l n
def FX:List (Nat × FK)->List V->List V->Option Bool
 | [],_,_=>some true
 | (o,k)::r,xs,c=>match Ja k (IN xs o) (IN c o)with
  | some a=>match FX r xs c with
   | some b=>some (a&&b)
   | none=>none
  | none=>none
def eqM:Gx->V->V->Option Bool
 | .flat l,.agg xs,.agg a=>FX l xs a
 | _,_,_=>none
def S8(t:Gx)(x:V):Bool:=match eqM t x x with
 | some _=>true
 | none=>false
def TG(t:Gx)(k:V):List (V × V)->Option (Option V)
 | []=>some none
 | (q,v)::l=>match eqM t k q with
  | some true=>some (some v)
  | some false=>TG t k l
  | none=>none
def J7:Gx->V->V->Option Bool
 | .flat l,.agg xs,.agg c=>FX l xs c
 | .bool,.bool a,.bool b=>some (a==b)
 | .ptr,.nilp,.nilp=>some true
 | .ptr,.nilp,.ptr _ _=>some false
 | .ptr,.ptr _ _,.nilp=>some false
 | .slice,.nils,.nils=>some true
 | .slice,.nils,.sl _ _ _ _=>some false
 | .slice,.sl _ _ _ _,.nils=>some false
 | .slice,.nils,.sle _ _ _ _=>some false
 | .slice,.sle _ _ _ _,.nils=>some false
 | .map,.nilm,.nilm=>some true
 | .map,.nilm,.mp _=>some false
 | .map,.mp _,.nilm=>some false
 | .func,.nilf,.nilf=>some true
 | .func,.nilf,.fn _ _ _=>some false
 | .func,.fn _ _ _,.nilf=>some false
 | .iface true,.nili,.nili=>some true
 | .iface _,.nili,.ifc _ _=>some false
 | .iface _,.ifc _ _,.nili=>some false
 | _,_,_=>none
def KC(op:BinOp)(t:Gx)(x y:V):Option V:=
 match x,y with
 | .int k a,.int c b=>
  match op with
  | .shl | .shr=>(Qk op k a b).map (.int k)
  | .add | .sub | .mul | .quo | .rem | .and | .or | .xor | .andNot=>if k=c then(dN op k a b).map (.int k)else none
  | _=>if k=c then(VZ op a b).map .bool else none
 | .str a,.str b=>kp op a b
 | x,y=>
  match op with
  | .eql=>(J7 t x y).map .bool
  | .neq=>(J7 t x y).map λb => .bool !b
  | _=>none
def unV(op:UnOp)(x:V):Option V:=
 match op,x with
 | .neg,.int k n=>some (.int k (k.wrap (0-n)))
 | .xor,.int k n=>some (.int k (k.wrap (Be k.bits (if k.signed then -1 else k.max) ^^^ Be k.bits n).toNat))
 | .not,.bool b=>some (.bool !b)
 | _,_=>none
def Pu(l:List UInt8):List V:=l.map λb => .int .u8 b.toNat
def GX:List V->Option (List UInt8)
 | []=>some []
 | .int .u8 n::l=>(GX l).map (UInt8.ofNat n.toNat::·)
 | _=>none
def Sb(E:EB)(U:H)(b off n:Nat):Option (List V):=
 match rd E U b with
 | some l=>if Ac (off+n) l.length then some ((l.drop off).take n)else none
 | none=>none
def V.isStr:V->Bool
 | .str _=>true
 | _=>false
def C1(E:EB)(U:H)(a:Nat):V->Option (Nat × List V)
 | .nils=>some (0,[])
 | .sle _ _ _ _=>some (0,[])
 | .sl b off len _=>(Sb E U b off (len*a)).map λl=>(len,l)
 | .str l=>if a=1 then some (l.len,Pu l.toList)else none
 | _=>none
def CX(a bytes:Nat):Bool:=Ac (a*bytes) 140737488355328&&Ac a 9223372036854775807
def Ex(E:EB)(a bytes:Nat)(s x:V)(U:H):Option (V × H):=
 match C1 E U a x with
 | none=>none
 | some (n,d)=>
  match s with
  | .nils=>
   if n=0 then some (.nils,U)
   else if CX n bytes then some (.sl U.next 0 n (.op a),U.add (.cells d))else none
  | .sl b off len (.ex c)=>
   if Ac (len+n) c then
    if n=0 then some (s,U)else
    match look U.bl b with
    | some (.cells l)=>if Ac (off+(len+n)*a) l.length&&BM d then some (.sl b off (len+n) (.ex c),U.set b (.cells (Gj l (off+len*a) d)))else none
    | _=>none
   else if CX (len+n) bytes then
    match Sb E U b off (len*a)with
    | some old=>some (.sl U.next 0 (len+n) (.op a),U.add (.cells (old++d)))
    | none=>none
   else none
  | .sl b 0 len (.op e)=>
   if n=0 then some (s,U)else
   match look U.bl b with
   | some (.cells l)=>
    if Ax l.length (len*a)&&Ax e a&&CX (len+n) bytes&&BM d then some (.sl U.next 0 (len+n) (.op a),(U.del b).add (.cells (l++d)))else none
   | _=>none
  | .sl _ _ _ (.op _)=>if n=0 then some (s,U)else none
  | _=>none
def Ip:Option V->Nat->Option Nat
 | none,d=>some d
 | some (.int _ n),_=>if 0<=n then some n.toNat else none
 | _,_=>none
def Dh(a:Nat)(x:V)(lo d mx:Option V):Option V:=
 match x with
 | .nils=>
  match Ip mx 0 with
  | none=>none
  | some m=>match Ip d 0 with
   | none=>none
   | some h=>match Ip lo 0 with
    | none=>none
    | some l=>if Ac l h&&Ac h m&&Ax m 0 then some .nils else none
 | .sl b off len (.ex c)=>
  match Ip mx c with
  | none=>none
  | some m=>match Ip d len with
   | none=>none
   | some h=>match Ip lo 0 with
    | none=>none
    | some l=>if Ac l h&&Ac h m&&(mx.isNone || Ac m c)then some (.sl b (if Ax m l then off else off+l*a) (h-l) (.ex (m-l)))else none
 | .sl b off len (.op e)=>
  match Ip d len with
  | none=>none
  | some h=>match Ip lo 0 with
   | none=>none
   | some l=>
    match mx with
    | none=>
     if Ac l h&&Ac h len&&Ax e a then
      if Ax l len then(if Ax l 0 then some x else some (.sle b off l e))else some (.sl b (off+l*a) (h-l) (.op e))
     else none
    | some v=>match Ip (some v) 0 with
     | none=>none
     | some m=>if Ac l h&&Ac h m&&Ac m len then some (.sl b (if Ax m l then off else off+l*a) (h-l) (.ex (m-l)))else none
 | .sle _ _ _ _=>
  match Ip d 0 with
  | none=>none
  | some h=>match Ip lo 0 with
   | none=>none
   | some l=>match mx with
    | none=>if Ax h 0&&Ax l 0 then some x else none
    | some _=>none
 | _=>none
def Jr(n a:Nat)(x:V)(lo c mx:Option V):Option V:=
 match x with
 | .ptr b off=>
  match Ip mx n with
  | none=>none
  | some m=>match Ip c n with
   | none=>none
   | some h=>match Ip lo 0 with
    | none=>none
    | some l=>if Ac l h&&Ac h m&&Ac m n then some (.sl b (if Ax m l then off else off+l*a) (h-l) (.ex (m-l)))else none
 | _=>none
def Jq(x:V)(lo a:Option V):Option V:=
 match x with
 | .str s=>
  match Ip a s.len with
  | none=>none
  | some h=>match Ip lo 0 with
   | none=>none
   | some l=>if Ac l h&&Ac h s.len then some (.str (s.sub l h))else none
 | _=>none
def W0:V->List V->Option V
 | x,[]=>some x
 | .int k a,.int c b::l=>if k=c then W0 (.int k (if b<a then b else a)) l else none
 | _,_::_=>none
def W1:V->List V->Option V
 | x,[]=>some x
 | .int k a,.int c b::l=>if k=c then W1 (.int k (if b > a then b else a)) l else none
 | _,_::_=>none
def M2(l:List V)(off:Nat):Option Nat->Option V
 | none=>l[off]?
 | some n=>if Ac (off+n) l.length then some (.agg ((l.drop off).take n))else none
def Bp(o:Eg)(e:Cb):Option V:=
 match o with
 | .mov x=>let v:=Cv e x;if v.live then some v else none
 | .pick c a b=>
  match Cv e c with
  | .bool true=>let v:=Cv e a;if v.live then some v else none
  | .bool false=>let v:=Cv e b;if v.live then some v else none
  | _=>none
 | .build z h=>match I3 (LR e h) z with
  | some l=>some (.agg l)
  | none=>none
 | .nilck x=>match Cv e x with
  | .ptr b off=>some (.ptr b off)
  | _=>none
 | .bin op t x y=>KC op t (Cv e x) (Cv e y)
 | .un op x=>unV op (Cv e x)
 | .conv (.toInt k) x=>match Cv e x with
  | .int _ n=>some (.int k (k.wrap n))
  | _=>none
 | .conv .same x=>match Cv e x with
  | .str l=>some (.str l)
  | _=>none
 | .mkifc t x=>let v:=Cv e x;if v.live then some (.ifc t v)else none
 | .mkfn f a c=>if(Gu e a).all V.live&&(Gu e c).all V.live then some (.fn f (Gu e a) (Gu e c))else none
 | .sliceStr x lo g=>Jq (Cv e x) (D2 e lo) (D2 e g)
 | .sliceSl d x lo g mx=>Dh d (Cv e x) (D2 e lo) (D2 e g) (D2 e mx)
 | .sliceArr n d x lo g mx=>Jr n d (Cv e x) (D2 e lo) (D2 e g) (D2 e mx)
 | .faddr off x=>match Cv e x with
  | .ptr b o=>some (.ptr b (o+off))
  | _=>none
 | .field off none x=>match Cv e x with
  | .agg l=>l[off]?
  | _=>none
 | .field off (some n) x=>match Cv e x with
  | .agg l=>if Ac (off+n) l.length then some (.agg ((l.drop off).take n))else none
  | _=>none
 | .iaddrS d x i=>match Cv e x,Cv e i with
  | .sl b off len _,.int _ n=>if 0<=n/\n<len then some (.ptr b (off+n.toNat*d))else none
  | _,_=>none
 | .iaddrA len d x i=>match Cv e x,Cv e i with
  | .ptr b off,.int _ n=>if 0<=n/\n<len then some (.ptr b (off+n.toNat*d))else none
  | _,_=>none
 | .idxStr x i=>match Cv e x,Cv e i with
  | .str s,.int _ n=>if 0<=n then(if Cr n.toNat s.len then some (.int .u8 (s.get n.toNat))else none)else none
  | _,_=>none
 | .extract i x=>match Cv e x with
  | .tup l=>l[i]?
  | _=>none
 | .load0 x=>match Cv e x with
  | .ptr _ _=>some (.agg [])
  | _=>none
 | .idxArr len d s x i=>match Cv e x,Cv e i with
  | .agg l,.int _ n=>if 0<=n/\n<len then M2 l (n.toNat*d) s else none
  | _,_=>none
 | .len true x=>match Cv e x with
  | .str s=>some (.int .i64 s.len)
  | _=>none
 | .len false x=>match Cv e x with
  | .nils=>some (.int .i64 0)
  | .sl _ _ n _=>some (.int .i64 n)
  | .sle _ _ _ _=>some (.int .i64 0)
  | _=>none
 | .lenC n=>some (.int .i64 n)
 | .cap x=>match Cv e x with
  | .nils=>some (.int .i64 0)
  | .sl _ _ _ (.ex c)=>some (.int .i64 c)
  | _=>none
 | .min x l=>match W0 (Cv e x) (Gu e l)with
  | some (.int k n)=>some (.int k n)
  | _=>none
 | .max x l=>match W1 (Cv e x) (Gu e l)with
  | some (.int k n)=>some (.int k n)
  | _=>none
 | _=>none
def NY(t:Gx)(z m x:V)(U:H):Option V:=match m with
 | .mp b=>match look U.bl b with
  | some (.map l)=>if S8 t x then(match TG t x l with
   | some (some v)=>some (.tup [v,.bool true])
   | some none=>if z.live then some (.tup [z,.bool false])else none
   | none=>none)else none
  | _=>none
 | _=>none
def VL(t:Gx)(m k v:V)(U:H):Option (V × H):=match m with
 | .mp b=>match look U.bl b with
  | some (.map l)=>if S8 t k&&v.live then(match TG t k l with
   | some none=>some (.dead,U.set b (.map (l++[(k,v)])))
   | _=>none)else none
  | _=>none
 | _=>none
def QE(t:TypeId)(x:V)(U:H):Option V:=match x with
 | .ptr b 0=>match look U.bl b with
  | some (.unit a)=>if Ax t a then some (.ptr b 0)else none
  | _=>none
 | _=>none
def Cy(E:EB)(o:Eg)(e:Cb)(U:H):Option V:=
 match o with
 | .load none x=>match Cv e x with
  | .ptr b off=>match rd E U b with
   | some l=>l[off]?
   | none=>none
  | _=>none
 | .load (some n) x=>match Cv e x with
  | .ptr b off=>match Sb E U b off n with
   | some l=>some (.agg l)
   | none=>none
  | _=>none
 | .conv .toStr x=>if(Cv e x).isStr then none else match C1 E U 1 (Cv e x)with
  | some (_,l)=>match GX l with
   | some s=>some (.str (BS.ofList s))
   | none=>none
  | none=>none
 | .lookup t z m x=>NY t z (Cv e m) (Cv e x) U
 | .faddr0 t x=>QE t (Cv e x) U
 | _=>none
def Cz(o:Eg)(e:Cb)(a:Nat):Option (V × MP):=
 match o with
 | .alloc _ z=>some (.ptr a 0,.cells z)
 | .box _ x=>let v:=Cv e x;if v.live&&BM v.cells then some (.ptr a 0,.cells v.cells)else none
 | .buildSlice _ n z d=>match I3 (LR e d) z with
  | some l=>if BM l then some (.sl a 0 n (.ex n),.cells l)else none
  | none=>none
 | .conv (.toBytes _) x=>match Cv e x with
  | .str l=>if Ac l.len 1000000000000 then some (.sl a 0 l.len (.op 1),.cells (Pu l.toList))else none
  | _=>none
 | .mkslice _ _ bytes z len cap=>match Cv e len,Cv e cap with
  | .int .i64 n,.int .i64 c=>
   if 0<=n/\n<=c/\c*bytes<=281474976710656/\c<=1000000000000 then some (.sl a 0 n.toNat (.ex c.toNat),.cells (Bo c.toNat z).flatten)else none
  | _,_=>none
 | .mkmap=>some (.mp a,.map [])
 | .alloc0 b=>some (.ptr a 0,.unit b)
 | .box0 b x=>match Cv e x with
  | .agg []=>some (.ptr a 0,.unit b)
  | _=>none
 | _=>none
def FY(E:EB)(o:Eg)(e:Cb)(U:H):Option (V × H):=
 match o with
 | .store n x v=>match Cv e x with
  | .ptr b off=>
   let f:=(Cv e v).cells
   match look U.bl b with
   | some (.cells l)=>if Ax f.length n&&Ac (off+n) l.length&&BM f then some (.dead,U.set b (.cells (Gj l off f)))else none
   | _=>none
  | _=>none
 | .append _ a bytes s x=>Ex E a bytes (Cv e s) (Cv e x) U
 | .copy a d s=>match Cv e d,C1 E U a (Cv e s)with
  | .nils,some (_,_)=>some (.int .i64 0,U)
  | .sle _ _ _ _,some (_,_)=>some (.int .i64 0,U)
  | .sl b off len _,some (n,c)=>
   let m:=HL n len
   if m=0 then some (.int .i64 0,U)else
   match look U.bl b with
   | some (.cells l)=>if Ac (off+m*a) l.length&&BM (c.take (m*a))then some (.int .i64 m,U.set b (.cells (Gj l off (c.take (m*a)))))else none
   | _=>none
  | _,_=>none
 | .mapset t m k v=>VL t (Cv e m) (Cv e k) (Cv e v) U
 | .store0 x v=>match Cv e x,Cv e v with
  | .ptr _ _,.agg []=>some (.dead,U)
  | _,_=>none
 | _=>none
inductive Cls where
 | p | l | a | k
 deriving DecidableEq,Inhabited
def Eg.cls:Eg->Cls
 | .load _ _ | .conv .toStr _ | .lookup _ _ _ _ | .faddr0 _ _ => .l
 | .alloc _ _ | .box _ _ | .buildSlice _ _ _ _ | .conv (.toBytes _) _ | .mkslice _ _ _ _ _ _ | .mkmap | .alloc0 _ | .box0 _ _ => .a
 | .store _ _ _ | .append _ _ _ _ _ | .copy _ _ _ | .call _ _ | .callv _ _ | .mapset _ _ _ _ | .store0 _ _ => .k
 | _ => .p
def wm(E:EB)(o:Eg)(e:Cb)(U:H):Option (V × H):=
 match o.cls with
 | .p=>match Bp o e with
  | some v=>some (v,U)
  | none=>none
 | .l=>match Cy E o e U with
  | some v=>some (v,U)
  | none=>none
 | .a=>match Cz o e U.next with
  | some (v,b)=>some (v,U.add b)
  | none=>none
 | .k=>FY E o e U
abbrev Am:=FuncId->List V->H->Option (V × H)
def DF(e:Cb):Option Nat->V->Cb
 | some d,v=>(d,v)::e
 | none,_=>e
def FW(E:EB)(D:Am)(o:Eg)(e:Cb)(U:H):Option (V × H):=
 match o with
 | .call f a=>if(Gu e a).all V.live then D f (Gu e a) U else none
 | .callv f a=>match Cv e f with
  | .fn g b cap=>if(Gu e a).all V.live then D g (b++Gu e a++cap) U else none
  | _=>none
 | o=>wm E o e U
def Eh:V := .tup []
def B6(e:Cb):Option (Nat × Bool)->Option Bool
 | none=>some true
 | some (t,b)=>match H4 e t with
  | .bool c=>some (c==b)
  | .tup []=>some false
  | _=>none
def B2:List Nat->Nat->Bool
 | [],_=>false
 | a::l,k=>Ax a k || B2 l k
def B7:List Nat->Cb->Cb
 | [],_=>[]
 | t::l,e=>match look e t with
  | some v=>(t,v)::B7 l e
  | none=>B7 l e
def DU(n0 n:Nat)(p:Nat->Bool):EB->EB
 | []=>[]
 | (id,b)::l=>if Ac n0 id&&Cr id (n0+n) && !p (id-n0)then DU n0 n p l else(id,b)::DU n0 n p l
def GD(n0 n:Nat)(p:Nat->Bool):EB->EB
 | []=>[]
 | (id,b)::l=>if Ac n0 id&&Cr id (n0+n) && !p (id-n0)then(id,b)::GD n0 n p l else GD n0 n p l
structure DS where
 e:Cb
 nx:Nat
 ss:List (EB)
 ks:List Nat
 am:Nat
 ls:List (Nat × Eg × Cb × V)
def EN(anc a:Nat)(k:Nat):Bool:=anc.testBit k&&a.testBit k
def EK(E:EB)(D:Am)(n0 n i:Nat)(o:Bf)(p:DP)(s:DS):Option DS:=
 match B6 (B7 p.looks s.e) o.guard with
 | none=>none
 | some false=>some { s with e:=DF s.e o.dst Eh }
 | some true=>
  match o.op.cls with
  | .p=>match Bp o.op (B7 p.looks s.e)with
   | none=>none
   | some v=>some { s with e:=DF s.e o.dst v }
  | .l=>match s.ss with
   | []=>none
   | h::_=>match Cy E o.op (B7 p.looks s.e) ⟨s.nx,DU n0 n (EN p.anc s.am) h⟩with
    | none=>none
    | some v=>some { s with e:=DF s.e o.dst v,ls:=(i,o.op,B7 p.looks s.e,v)::s.ls }
  | .a=>match Cz o.op (B7 p.looks s.e) (n0+i)with
   | none=>none
   | some (v,b)=>some { s with e:=DF s.e o.dst v,ss:=s.ss.map ((n0+i,b)::·),am:=s.am ||| 2 ^ i }
  | .k=>match s.ss with
   | []=>none
   | h::_=>match FW E D o.op (B7 p.looks s.e) ⟨s.nx,DU n0 n (EN p.anc s.am) h⟩with
    | none=>none
    | some (v,U')=>some { s with e:=DF s.e o.dst v,nx:=U'.next,ss:=(GD n0 n (EN p.anc s.am) h++U'.bl)::s.ss,ks:=i::s.ks }
def Ca(E:EB)(D:Am)(n0 n:Nat):Nat->List Bf->List DP->DS->Option DS
 | _,[],_,s=>some s
 | i,o::l,p::pl,s=>match EK E D n0 n i o p s with
  | none=>none
  | some a=>Ca E D n0 n (i+1) l pl a
 | _,_::_,[],_=>none
mutual
def V.beq:V->V->Bool
 | .bool a,.bool b=>a==b
 | .int k a,.int l b=>decide (k=l)&&a==b
 | .str a,.str b=>decide (a=b)
 | .nilp,.nilp=>true
 | .ptr a b,.ptr c d=>Ax a c&&Ax b d
 | .nils,.nils=>true
 | .sl a b c x,.sl d e f y=>Ax a d&&Ax b e&&Ax c f&&decide (x=y)
 | .sle a b c x,.sle d e f y=>Ax a d&&Ax b e&&Ax c f&&Ax x y
 | .nilm,.nilm=>true
 | .mp a,.mp b=>Ax a b
 | .fn f a b,.fn g c d=>Ax f g&&RU a c&&RU b d
 | .nilf,.nilf=>true
 | .ifc t v,.ifc u x=>Ax t u&&V.beq v x
 | .nili,.nili=>true
 | .agg l,.agg m=>RU l m
 | .tup l,.tup m=>RU l m
 | _,_=>false
def RU:List V->List V->Bool
 | [],[]=>true
 | a::l,b::m=>V.beq a b&&RU l m
 | _,_=>false
end
def IQ(pl:List DP)(j:Nat)(b a:List Nat):Bool:=
 a.all (λk=>!((pl.getD j ⟨0,[]⟩).anc.testBit k))&&b.all (λk=>!((pl.getD k ⟨0,[]⟩).anc.testBit j))
def GH(E:EB)(n0 n:Nat)(pl:List DP)(d:Nat)(j:Nat)(op:Eg)(c:Cb)(v:V):List (EB)->List Nat->List Nat->Bool
 | [],_,_=>true
 | h::g,e,a=>
  (!IQ pl j e a || (match Cy E op c ⟨0,DU n0 n (EN (pl.getD j ⟨0,[]⟩).anc d) h⟩with
   | some u=>V.beq u v
   | none=>false)) &&
  (match e with
   | []=>true
   | k::b=>GH E n0 n pl d j op c v g b (k::a))
def AZ(E:EB)(D:Am)(ops:List Bf)(pl:List DP)(e:Cb)(U:H):Option (Cb × H):=
 match Ca E D U.next ops.length 0 ops pl ⟨e,U.next+ops.length,[U.bl],[],0,[]⟩with
 | none=>none
 | some s=>
  if s.ls.all (λ(j,op,a,v)=>GH E U.next ops.length pl s.am j op a v s.ss s.ks [])then
   match s.ss with
   | h::_=>some (s.e,⟨s.nx,DU U.next ops.length (λk=>s.am.testBit k) h⟩)
   | []=>none
  else none
def Fb:Value->V
 | .bool b => .bool b
 | .int k n => .int k n
 | .string s => .str (BS.ofList s.data.toList)
 | .pointer none => .nilp
 | .slice none 0 0 => .nils
 | .map none => .nilm
 | .nilFunc => .nilf
 | .nilIface => .nili
 | _ => .dead
def ji:Value->V
 | .agg a=>if(a.toList.map Fb).all V.live then .agg (a.toList.map Fb)else .dead
 | v=>Fb v
def oY(v:Value):Option (List V):=if(v.cells.toList.map Fb).all V.live then some (v.cells.toList.map Fb)else none
def Aw(G:Nat->Bool):Operand->AO
 | .tmp t => .tmp t
 | .const v => .con (ji v)
 | .global g=>if G g then .con (.ptr g 0)else .con .dead
 | .func f => .con (.fn f [] [])
def Hr(P:Program)(t:TypeId):Option (Option Nat):=
 match P.underlying t,P.info? t with
 | some (.struct _),some i=>some (some i.size)
 | some (.array _ _),some i=>some (some i.size)
 | some _,some _=>some none
 | _,_=>none
def HU(P:Program)(t:TypeId):Option Nat:=(P.info? t).map (·.size)
def Ky(P:Program)(t:TypeId):Option (List V):=
 match P.info? t with
 | some i=>match i.zero with
  | some z=>oY z
  | none=>none
 | none=>none
def Ng:Operand->Bool
 | .const _=>true
 | _=>false
def IL(P:Program):List Field->Option (List (Nat × FK))
 | []=>some []
 | f::a=>match f.name == "_",IL P a with
  | true,r=>r
  | false,some r=>match P.underlying f.type with
   | some (.int _)=>some ((f.offset,.int)::r)
   | some .bool=>some ((f.offset,.bool)::r)
   | some .string=>some ((f.offset,.str)::r)
   | _=>none
  | false,none=>none
def GR(P:Program)(t:TypeId)(a:List Field):Gx:=
 match P.stoodInHeld t || P.eqGuardType P.depth t,IL P a with
 | false,some l => .flat l
 | _,_ => .none
def Sd(P:Program)(t:TypeId):Gx:=
 match P.underlying t with
 | some (.struct a)=>GR P t a.toList
 | _ => .none
def QS(P:Program)(t:TypeId):V:=
 match P.info? t with
 | some i=>match i.zero with
  | some z=>ji z
  | none => .dead
 | none => .dead
def jN(P:Program)(op:BinOp)(t:TypeId)(x y:Operand):Gx:=
 match op with
 | .eql | .neq=>
  match P.underlying t with
  | some .bool => .bool
  | some (.struct a)=>GR P t a.toList
  | some (.pointer _) => .ptr
  | some (.slice _) => .slice
  | some (.map _ _) => .map
  | some (.func _ _ _) => .func
  | some (.interface _) => .iface (Ng x || Ng y)
  | _ => .none
 | _ => .none
def wN(P:Program)(s d:TypeId):ALx:=
 match P.underlying s,P.underlying d with
 | some _,some (.int k) => .toInt k
 | some .string,some .string => .same
 | some .string,some (.slice e)=>match P.underlying e with
  | some (.int .u8) => .toBytes e
  | _ => .bad
 | some (.slice e),some .string=>match P.underlying e with
  | some (.int .u8) => .toStr
  | _ => .bad
 | _,_ => .bad
def Ln(P:Program)(f:FuncId):Bool:=
 match P.funcs[f]? with
 | some a=>a.name != "runtime.NumGoroutine" && a.body.isSome
 | none=>false
def AHr:TypeDesc->Bool
 | .string=>true
 | .slice _=>true
 | _=>false
def Me(P:Program)(G:Nat->Bool)(b:Builtin)(ts:Array TypeId)(c:Array Operand):Eg:=
 match b,ts.toList,c.toList with
 | .len,[t],[x]=>match P.underlying t with
  | some .string => .len true (Aw G x)
  | some (.slice _) => .len false (Aw G x)
  | some (.array n _) => .lenC n
  | some (.pointer a)=>match P.underlying a with
   | some (.array n _) => .lenC n
   | _ => .bad
  | _ => .bad
 | .cap,[t],[x]=>match P.underlying t with
  | some (.slice _) => .cap (Aw G x)
  | _ => .bad
 | .append,[t,u],[s,x]=>match P.underlying t,P.underlying u with
  | some (.slice e),some f=>match P.info? e with
   | some i=>match i.zero with
    | some z=>if !(AHr f) || i.size==0 || z.cells.size != i.size then .bad else .append e i.size i.bytes (Aw G s) (Aw G x)
    | none => .bad
   | none => .bad
  | _,_ => .bad
 | .copy,[t,u],[d,s]=>match P.underlying t,P.underlying u with
  | some (.slice e),some _=>match P.info? e with
   | some i => .copy i.size (Aw G d) (Aw G s)
   | none => .bad
  | _,_ => .bad
 | .min,_,x::l => .min (Aw G x) (l.map (Aw G))
 | .max,_,x::l => .max (Aw G x) (l.map (Aw G))
 | _,_,_ => .bad
def Mw(P:Program):List Field->Option (List (Nat × Nat))
 | []=>some []
 | f::l=>match P.info? f.type,Mw P l with
  | some i,some r=>some ((f.offset,i.size)::r)
  | _,_=>none
def E8(G:Nat->Bool)(a:Nat->Option (Nat × Nat)):List (Nat × Operand)->Option (List (Nat × Nat × AO))
 | []=>some []
 | (i,x)::l=>match a i,E8 G a l with
  | some (o,s),some r=>some ((o,s,Aw G x)::r)
  | _,_=>none
def Ah(P:Program)(G:Nat->Bool)(op:Op):Eg:=
 match op with
 | .move x | .assign x => .mov (Aw G x)
 | .pick c a b => .pick (Aw G c) (Aw G a) (Aw G b)
 | .alloc e=>match Ky P e with
  | some [] => .alloc0 e
  | some z => .alloc e z
  | none => .bad
 | .box e x=>match Ky P e with
  | some [] => .box0 e (Aw G x)
  | _ => .box e (Aw G x)
 | .build t j=>
  match P.underlying t,Ky P t with
  | some (.struct h),some z=>match Mw P h.toList with
   | some pl=>match E8 G (pl[·]?) j.toList with
    | some l => .build z l
    | none => .bad
   | none => .bad
  | some (.array _ e),some z=>match HU P e with
   | some s=>match E8 G (λi=>some (i*s,s)) j.toList with
    | some l => .build z l
    | none => .bad
   | none => .bad
  | _,_ => .bad
 | .buildSlice t n j=>
  match P.underlying t with
  | some (.slice e)=>match HU P e,Ky P e with
   | some s,some z=>match E8 G (λi=>some (i*s,s)) j.toList with
    | some l=>if n*s > 2 ^ 24 || z.length != s then .bad else .buildSlice e n (Bo n z).flatten l
    | none => .bad
   | _,_ => .bad
  | _ => .bad
 | .load t x=>match Hr P t with
  | some (some 0) => .load0 (Aw G x)
  | some s => .load s (Aw G x)
  | none => .bad
 | .store t x v=>match HU P t with
  | some 0 => .store0 (Aw G x) (Aw G v)
  | some n => .store n (Aw G x) (Aw G v)
  | none => .bad
 | .nilCheck x => .nilck (Aw G x)
 | .binOp o t x y _ => .bin o (jN P o t x y) (Aw G x) (Aw G y)
 | .unOp o _ x => .un o (Aw G x)
 | .convert s d x => .conv (wN P s d) (Aw G x)
 | .makeInterface t x=>match P.underlying t with
  | some (.interface _) => .bad
  | some _ => .mkifc t (Aw G x)
  | none => .bad
 | .makeFunc (.func f) a c => .mkfn f (a.toList.map (Aw G)) (c.toList.map (Aw G))
 | .makeSlice t l c=>match P.underlying t with
  | some (.slice e)=>match P.info? e,Ky P e with
   | some i,some z=>if z.length != i.size then .bad else .mkslice e i.size i.bytes z (Aw G l) (Aw G c)
   | _,_ => .bad
  | _ => .bad
 | .slice t x lo hi mx=>if mx.isSome && !hi.isSome then .bad else match P.underlying t with
  | some .string=>match mx with
   | none => .sliceStr (Aw G x) (lo.map (Aw G)) (hi.map (Aw G))
   | some _ => .bad
  | some (.slice e)=>match HU P e with
   | some s => .sliceSl s (Aw G x) (lo.map (Aw G)) (hi.map (Aw G)) (mx.map (Aw G))
   | none => .bad
  | some (.array n e)=>match HU P e with
   | some s => .sliceArr n s (Aw G x) (lo.map (Aw G)) (hi.map (Aw G)) (mx.map (Aw G))
   | none => .bad
  | _ => .bad
 | .fieldAddr s x f=>match P.underlying s with
  | some (.struct h)=>match h[f]? with
   | some g=>match HU P g.type with
    | some 0=>if g.offset==0&&g.byteOffset==0&&P.cellsOf s==0 then .faddr0 s (Aw G x)else .bad
    | some _ => .faddr g.offset (Aw G x)
    | none => .bad
   | none => .bad
  | _ => .bad
 | .field s x f=>match P.underlying s with
  | some (.struct h)=>match h[f]? with
   | some g=>match Hr P g.type with
    | some n => .field g.offset n (Aw G x)
    | none => .bad
   | none => .bad
  | _ => .bad
 | .indexAddr t x i=>match P.underlying t with
  | some (.slice e)=>match HU P e with
   | some s => .iaddrS s (Aw G x) (Aw G i)
   | none => .bad
  | some (.array n e)=>match HU P e with
   | some s => .iaddrA n s (Aw G x) (Aw G i)
   | none => .bad
  | _ => .bad
 | .index t x i=>match P.underlying t with
  | some .string => .idxStr (Aw G x) (Aw G i)
  | some (.array n e)=>match HU P e,Hr P e with
   | some z,some s => .idxArr n z s (Aw G x) (Aw G i)
   | _,_ => .bad
  | _ => .bad
 | .extract x i => .extract i (Aw G x)
 | .makeMap _ none => .mkmap
 | .lookup t m x true=>match P.underlying t with
  | some (.map k e) => .lookup (Sd P k) (QS P e) (Aw G m) (Aw G x)
  | _ => .bad
 | .mapUpdate t m k v=>match P.underlying t with
  | some (.map r _) => .mapset (Sd P r) (Aw G m) (Aw G k) (Aw G v)
  | _ => .bad
 | .call c=>match c.callee with
  | .builtin b=>Me P G b c.argTypes c.args
  | .value (.func f) => .call f (c.args.toList.map (Aw G))
  | .value (.tmp t) => .callv (.tmp t) (c.args.toList.map (Aw G))
  | _ => .bad
 | _ => .bad
def TL(ops:Array Oper)(g:Option (Nat × Bool)):Option (Option (Nat × Bool)):=
 match g with
 | none=>some none
 | some (j,b)=>match (ops[j]?).bind (·.dst)with
  | some t=>some (some (t,b))
  | none=>none
def I4(a:Nat):Option Nat->Bool
 | some d=>Cr d a
 | none=>true
def Bj(P:Program)(G:Nat->Bool)(a:Nat)(ops:Array Oper)(o:Oper):Bf:=
 match TL ops o.guard,I4 a o.dst with
 | some g,true=>⟨o.dst,Ah P G o.op,g⟩
 | _,_=>⟨o.dst,.bad,none⟩
def vq(ops:Array Oper)(o:Oper):List Nat:=
 (o.op.operands.toList.filterMap fun | .tmp t=>some t | _=>none) ++
 (match o.guard with
  | some (g,_)=>((ops[g]?).bind (·.dst)).toList
  | none=>[])
def IJ(ops:Array Oper):List DP:=(ops.toList.zip (Region.before ops).toList).map λ(o,m)=>⟨m,vq ops o⟩
def Za:Nat->(Nat->Bool)->Bool
 | 0,_=>true
 | n+1,p=>p n&&Za n p
def IB(pl:List DP)(i:Nat):Nat:=(pl.getD i ⟨0,[]⟩).anc
def Qp(ops:Array Oper)(l:List Bf)(pl:List DP):Bool:=
 Ax pl.length ops.size &&
 Za ops.size λi=>
  match ops[i]?,l[i]?,pl[i]? with
  | some o,some j,some p=>
   o.after.toList.all (λe=>!Region.binds .any e || Cr e.on i) &&
   Za ops.size λk=>
    (!p.anc.testBit k || o.after.toList.any (λe=>Region.binds .any e&&(Ax e.on k || (IB pl e.on).testBit k))) &&
    (Ax i k || match ops[k]?,l[k]?,pl[k]? with
     | some n,some d,some c=>
      (match o.dst with
       | none=>true
       | some t=>(match n.dst with | some f=>!Ax t f | none=>true)&&(!B2 c.looks t || c.anc.testBit i || p.anc.testBit k)) &&
      (match j.op.cls,d.op.cls with
       | .k,.k=>!Cr i k || c.anc.testBit i
       | _,_=>true)
     | _,_,_=>false)
  | _,_,_=>false
def Ef(P:Program)(G:Nat->Bool)(d:Nat):Code->AC
 | .skip => .skip
 | .region _ ops false => .region (ops.toList.map (Bj P G d ops))
 | .region _ ops true=>if Qp ops (ops.toList.map (Bj P G d ops)) (IJ ops)then .draw (ops.toList.map (Bj P G d ops)) (IJ ops)else .bad
 | .seq a b => .seq (Ef P G d a) (Ef P G d b)
 | .cond c a b => .cond (Aw G c) (Ef P G d a) (Ef P G d b)
 | .block id c => .block id (Ef P G d c)
 | .loop c => .loop (Ef P G d c)
 | .exit id => .exit id
 | .ret => .ret
 | _ => .bad
def RO(P:Program):ResultVar->Option AR
 | .tmp t=>some (.tmp t)
 | .cell t ty=>match Hr P ty with
  | some s=>some (.cell t s)
  | none=>none
def IM(P:Program):List ResultVar->Option (List AR)
 | []=>some []
 | r::l=>match RO P r,IM P l with
  | some a,some m=>some (a::m)
  | _,_=>none
def dG(P:Program)(G:Nat->Bool)(a:Func):Option AFn:=
 match a.body,IM P a.results.toList with
 | some c,some r=>some ⟨a.ntmps,r,[],Ef P G a.ntmps c⟩
 | _,_=>none
structure Ch(R:Ren)(e:Cb)(tmps:Array Value):Prop where
 at_:∀(k:Nat) (v:V),look e k=some v->v = .dead\/∃x,tmps[k]? = some x/\BE R v=some x
theorem Ch.mono{R c e a}(h:Ch R e a)(b:Le R c):Ch c e a:=
 ⟨λk v d=>(h.at_ k v d).imp id λ⟨x,g,f⟩=>⟨x,g,C8 b v x f⟩⟩
theorem Ch.get{R e b}(h:Ch R e b){t}{v:V}(d:H4 e t=v)(m:v.live=true):∃x,b[t]? = some x/\BE R v=some x:=by
 unfold H4 at d;cases j:look e t with
 | none=>rw[j]at d;subst d;cases m | some u=>
  rw[j]at d;simp only at d;subst d;rcases h.at_ t _ j with rfl|h
  ·cases m
  ·exact h
def EV(G:Nat->Bool)(R:Ren):Prop:=∀g,G g=true->∃i,R g=some i/\i.blk=g/\i.shift=0
theorem RW R x (h:(Fb x).live=true):BE R (Fb x)=some x:=by
 unfold Fb at h ⊢;split at h<;>first | rfl | (simp only[BE,BS.toList_ofList];done) | (cases h;done)
theorem Lo R:∀(l:List Value),(l.map Fb).all V.live=true->BL R (l.map Fb)=some l
 | [],_=>rfl | x::l,h=>by
  simp only[Cf,ig,AI]at h;exact Bm.2 ⟨x,l,RW R x h.1,Lo R l h.2,rfl⟩
theorem dQ R x (h:(ji x).live=true):BE R (ji x)=some x:=by
 cases x with
 | agg j=>
  simp only[ji]at h ⊢;by_cases e:(j.toList.map Fb).all V.live=true
  ·rw[if_pos e];rw[EA (Lo R _ e)]
  ·rw[if_neg e]at h;cases h
 | _=>simp only[ji]at h ⊢;exact RW R _ h
theorem dP R {x:Value}{l}(h:oY x=some l):BL R l=some x.cells.toList:=by
 unfold oY at h;split at h
 ·cases h;exact Lo R _ ‹_›
 ·cases h
section
variable {G:Nat->Bool}{R:Ren}{e:Cb}{a:Act}
theorem ev(D:Ch R e a.tmps)(E:EV G R){o}{v:V}(h:Cv e (Aw G o)=v)(l:v.live=true):BE R v=some (a.eval o):=by
 subst h;cases o with
 | tmp t=>
  simp only[Aw,Cv]at l ⊢;obtain⟨x,C,A⟩:=D.get rfl l;simp only[A,Act.eval,Ey,C,Option.getD_some]
 | const x=>exact dQ R x l | global g=>
  simp only[Aw]at l ⊢;by_cases p:G g=true
  ·rw[if_pos p]
   obtain⟨i,y,B,z⟩:=E g p;simp[Cv,BE,y,B,z,Act.eval]
  ·rw[if_neg p]at l;cases l
 | func f=>simp[Aw,Cv,BE,BL,Act.eval]
theorem JZ(l:Ch R e a.tmps)(m:EV G R){o b off}(h:Cv e (Aw G o) = .ptr b off):
  ∃i,R b=some i/\a.eval o = .pointer (some ⟨i.blk,i.shift+off,none⟩):=by
 have:=ev l m h rfl;simp only[BE,BC]at this;obtain⟨i,j,k⟩:=this;exact⟨i,j,k.symm⟩
theorem HD(g:Ch R e a.tmps)(f:EV G R){o k n}(h:Cv e (Aw G o) = .int k n):a.eval o = .int k n:=by
 have:=ev g f h rfl;simp only[BE,AP.injEq]at this;exact this.symm
theorem QF(g:Ch R e a.tmps)(f:EV G R){o n}(h:Cv e (Aw G o) = .bool n):a.eval o = .bool n:=by
 have:=ev g f h rfl;simp only[BE,AP.injEq]at this;exact this.symm
theorem M3(g:Ch R e a.tmps)(f:EV G R){o}{l:BS}(h:Cv e (Aw G o) = .str l):a.eval o = .string ⟨l.toList.toArray⟩:=by
 have:=ev g f h rfl;simp only[BE,AP.injEq]at this;exact this.symm
theorem VW(c:Ch R e a.tmps)(d:EV G R){o l}(h:Cv e (Aw G o) = .agg l):∃x,BL R l=some x/\a.eval o = .agg x.toArray:=by
 exact I8 (ev c d h rfl)
theorem ABU(c:Ch R e a.tmps)(d:EV G R){o l}(h:Cv e (Aw G o) = .tup l):∃x,BL R l=some x/\a.eval o = .tuple x.toArray:=by
 exact XM (ev c d h rfl)
theorem evs(i:Ch R e a.tmps)(d:EV G R):∀(l:List Operand),(Gu e (l.map (Aw G))).all V.live=true->BL R (Gu e (l.map (Aw G)))=some (l.map a.eval)
 | [],_=>rfl | o::l,h=>by
  simp only[Gu,Cf,ig,AI]at h;exact Bm.2 ⟨_,_,ev i d rfl h.1,evs i d l (by simpa[Gu]using h.2),rfl⟩
end
theorem Iv:∀(l:List V) n b,(Gj l n b).length=l.length
 | l,n,[]=>by cases l<;>simp[Gj]
 | [],n,c::b=>by simp[Gj]
 | _::l,0,c::b=>by simp[Gj,Iv l 0 b]
 | _::l,n+1,c::b=>by simp[Gj,Iv l n (c::b)]
theorem NM:∀(l:List V) n (d:List V) k,(Gj l n d)[k]? = if n<=k/\k<n+d.length then(if k<l.length then d[k-n]? else none)else l[k]?
 | l,n,[],k=>by cases l<;>simp[Gj]<;>omega
 | [],n,c::d,k=>by simp[Gj]
 | b::l,0,c::d,k=>by
  cases k with
  | zero=>simp[Gj] | succ k=>simp only[Gj,DH,NM l 0 d k,BF,true_and,AK,BQ,OH,AQC]
 | b::l,n+1,c::d,k=>by
  cases k with
  | zero=>simp[Gj] | succ k=>
   simp only[Gj,DH,NM l n (c::d) k,AK,Nat.add_le_add_iff_right,AQC,Nat.add_sub_add_right];by_cases h:n<=k/\k<n+(d.length+1)
   ·rw[if_pos h,if_pos (show n<=k/\k+1<n+1+(d.length+1)by omega)]
   ·rw[if_neg h,if_neg (show ¬(n<=k/\k+1<n+1+(d.length+1))by omega)]
theorem TE off:∀(vs:List Value) (d:Array Value) i,
  ((vs.zipIdx i).foldl (λd (x:Value × Nat)=>d.setIfInBounds (off+x.2) x.1) d).size=d.size /\
  ∀k,((vs.zipIdx i).foldl (λd (x:Value × Nat)=>d.setIfInBounds (off+x.2) x.1) d)[k]? =
   if off+i<=k/\k<off+i+vs.length/\k<d.size then vs[k-(off+i)]? else d[k]?
 | [],d,i=>by
  refine⟨rfl,λk=>?_⟩;rw[if_neg (by simp;omega)];rfl
 | v::vs,d,i=>by
  obtain⟨o,p⟩:=TE off vs (d.setIfInBounds (off+i) v) (i+1);simp only[List.zipIdx_cons,List.foldl_cons];refine⟨by rw[o,EY],λk=>?_⟩;rw[p,EY,BN];by_cases m:off+i=k
  ·subst m
   rw[if_neg (by omega),if_pos rfl];by_cases l:off+i<d.size
   ·rw[if_pos l,if_pos (by simp;omega)];simp
   ·rw[if_neg l,if_neg (by omega),CO (by omega)]
  ·rw[if_neg m]
   by_cases n:off+(i+1)<=k/\k<off+(i+1)+vs.length/\k<d.size
   ·rw[if_pos n,if_pos (by simp;omega)]
    have:k-(off+i)=(k-(off+(i+1)))+1:=by omega
    rw[this,DH]
   ·rw[if_neg n,if_neg (by simp only[AK];omega)]
theorem jZ{R}{z:List V}{g:Array Value}(B:BL R z=some g.toList){v:V}{x:Value}(I:BE R v=some x){off}
  (F:off+v.cells.length<=z.length) :
  BL R (Gj z off v.cells)=some ((x.cells.zipIdx).foldl (λp (c,j)=>p.setIfInBounds (off+j) c) g).toList:=by
 have o:=I7 I;have n:=B4 o;have q:=B4 B;have E:(x.cells.zipIdx).foldl (λp (c,j)=>p.setIfInBounds (off+j) c) g=((x.cells.toList.zipIdx 0).foldl (λp (y:Value × Nat)=>p.setIfInBounds (off+y.2) y.1) g):=by
  rw[<-Array.foldl_toList,Array.toList_zipIdx]
 rw[E];obtain⟨D,G⟩:=TE off x.cells.toList g 0;refine No ?_ ?_
 ·rw[Iv,FQ,D];simpa using q
 ·intro k u r
  rw[NM]at r;rw[ET,G];simp only[OJ];simp only[FQ]at n q;by_cases C:off<=k/\k<off+v.cells.length
  ·rw[if_pos C,if_pos (by omega)]at r
   obtain⟨b,A,t⟩:=E6 o r;refine⟨b,A,?_⟩;rw[if_pos (by simp only[FQ];omega)];exact t
  ·rw[if_neg C]at r
   obtain⟨b,A,t⟩:=E6 B r;refine⟨b,A,?_⟩;rw[if_neg (by simp only[FQ];omega)];simpa using t
section
variable {G:Nat->Bool}{R:Ren}{e:Cb}{a:Act}
theorem QD(L:Ch R e a.tmps)(K:EV G R){f}:∀(w:List (Nat × Operand)) l (z r:List V) (k:Array Value),
  E8 G f w=some l->BL R z=some k.toList->I3 (LR e l) z=some r ->
  ∃n,Instr.fill f k (w.map λ(i,x)=>(i,a.eval x))=some n/\BL R r=some n.toList/\r.length=z.length
 | [],l,z,r,k,h,y,s=>by
  simp only[E8,AP.injEq]at h;subst h;simp only[LR,Km,I3,AP.injEq]at s;subst s;exact⟨k,rfl,y,rfl⟩
 | (i,x)::w,l,z,r,k,h,y,s=>by
  simp only[E8]at h;cases B:f i with
  | none=>rw[B]at h;cases h | some os=>
   obtain⟨off,I⟩:=os;rw[B]at h;cases C:E8 G f w with
   | none=>rw[C]at h;cases h | some l'=>
    rw[C]at h;simp only[AP.injEq]at h;subst h;simp only[LR,Cf,I3]at s;split at s
    ·rename_i j
     simp only[AI,AW,Ag]at j;obtain⟨⟨M,Q⟩,S⟩:=j;have J:=ev L K rfl M;have F:=I7 J;have v:=B4 F;have E:=B4 y;simp only[FQ]at v E;obtain⟨n,N,O,P⟩:=QD L K w l' _ r _ C (jZ y J (by omega)) s;refine⟨n,?_,O,by rw[P,Iv]⟩;simp only[Cf,Instr.fill,B];rw[if_neg (by simp;omega)];exact N
    ·cases s
end
end Go.Og
set_option linter.unusedSimpArgs false
namespace Go.Og
variable {P:Program}{G:Nat->Bool}{R:Ren}{e:Cb}{a:Act}
theorem E1{t n}(h:HU P t=some n) w:(sizeOf t).run P w = .ok n w:=by
 simp only[HU,BC]at h;obtain⟨i,d,rfl⟩:=h;simp[sizeOf,typeInfo,d]
theorem Hf{t l}(h:Ky P t=some l) w:∃z,(zeroValue t).run P w = .ok z w/\BL R l=some z.cells.toList:=by
 unfold Ky at h;cases f:P.info? t with
 | none=>rw[f]at h;cases h | some i=>
  rw[f]at h;cases g:i.zero with
  | none=>simp only[g]at h;cases h | some z=>
   simp only[g]at h;exact⟨z,by simp[zeroValue,typeInfo,f,g],dP R h⟩
theorem MA{t}{s:Option Nat}(h:Hr P t=some s) w:
  (isAgg t).run P w = .ok s.isSome w/\∀n,s=some n->(sizeOf t).run P w = .ok n w:=by
 unfold Hr at h;cases c:P.underlying t with
 | none=>rw[c]at h;cases h | some d=>
  cases g:P.info? t with
  | none=>rw[c,g]at h;cases d<;>cases h | some i=>
   rw[c,g]at h;cases d<;>(simp only[AP.injEq]at h;subst h;simp[isAgg,run_underlying c,sizeOf,typeInfo,g])
theorem S4:∀{g:List Field}{pl} w,Mw P g=some pl ->
  (g.mapM (m:=Sem) λf=>do pure (f.offset,<-sizeOf f.type)).run P w = .ok pl w
 | [],pl,w,h=>by simp only[Mw,AP.injEq]at h;subst h;rfl
 | f::g,pl,w,h=>by
  simp only[Mw]at h;cases k:P.info? f.type with
  | none=>rw[k]at h;cases h | some i=>
   rw[k]at h;cases j:Mw P g with
   | none=>rw[j]at h;cases h | some r=>
    rw[j]at h;simp only[AP.injEq]at h;subst h;have l:=S4 w j;rw[WO];simp only[Sem.run_bind,sizeOf,typeInfo,run_program,k,Result.andThen_ok,Sem.run_pure];simp only[sizeOf,typeInfo,Sem.run_bind]at l;rw[l];rfl
theorem G9 op t x y u v w
  (h:∀z,(u = .agg z->False)) (d:u = .nilIface->v = .nilIface->False):(eqGuard op t x y u v).run P w = .ok () w:=by
 cases u with
 | agg z=>exact(h z rfl).elim | nilIface=>
  cases v with
  | nilIface=>exact(d rfl rfl).elim | _=>cases op<;>rfl
 | _=>cases op<;>rfl
theorem jL{op x y b}(h:VZ op x y=some b) w:(Op.intCmp op x y).run P w = .ok (.bool b) w:=by
 unfold VZ at h;split at h<;>first | (cases h;rfl) | (cases h)
theorem oO{op t k s x y v}(h:KC op t (.int k x) (.int s y)=some v) ty w:
    ∃r,BE R v=some r/\(binOp op ty (.int k x) (.int s y)).run P w = .ok r w:=by
  cases op
  case shl=>
    simp only[KC,BC]at h;obtain⟨n,d,rfl⟩:=h;refine⟨_,rfl,?_⟩;simp only[Qk]at d;split at d
    · cases d
    · cases d
      simp only[binOp,Op.shift];rw[if_neg (by omega)];rfl
  case shr=>
    simp only[KC,BC]at h;obtain⟨n,d,rfl⟩:=h;refine⟨_,rfl,?_⟩;simp only[Qk]at d;split at d
    · cases d
    · cases d
      simp only[binOp,Op.shift];rw[if_neg (by omega)];rfl
  all_goals
    simp only[KC]at h;split at h
    · rename_i C
      subst C;simp only[BC]at h;obtain⟨n,d,rfl⟩:=h;refine⟨_,rfl,?_⟩;simp only[binOp,ne_eq,not_true_eq_false,if_false];first
        | exact jL d w
        | (simp only[dN]at d
           first
             | (cases d;rfl)
             | (split at d
                · cases d
                · rename_i B
                  cases d;simp only[Op.intDiv];rw[if_neg B];rfl))
    · cases h
theorem oN{op t}{a b:BS}{v}(h:KC op t (.str a) (.str b)=some v) ty w:
  ∃r,BE R v=some r/\(binOp op ty (.string ⟨a.toList.toArray⟩) (.string ⟨b.toList.toArray⟩)).run P w = .ok r w:=by
 have z:a.beq b=(a.toList==b.toList):=by rw[BS.beq_eq];by_cases h:a.toList=b.toList<;>simp[h]
 have o:=BS.toList_cat a b;have E:=BS.length_toList a;have J:=BS.length_toList b;simp only[KC]at h;cases op<;>simp only[kp,z]at h;all_goals
  generalize G:a.toList=x at *;generalize u:b.toList=y at *;have A:(ByteArray.mk x.toArray).toList=x:=by rw[ByteArray.toList_eq]
  have C:(ByteArray.mk y.toArray).toList=y:=by rw[ByteArray.toList_eq]
 case add=>
  split at h
  ·rename_i F
   cases h;refine⟨_,rfl,?_⟩;rw[o];simp only[Ag,SW]at F;have B:(ByteArray.mk x.toArray).size=x.length:=by simp[ByteArray.size]
   have K:(ByteArray.mk y.toArray).size=y.length:=by simp[ByteArray.size]
   simp only[binOp,Op.stringOp,B,K];rw[if_neg (by simp[IntKind.max,IntKind.signed,IntKind.bits];omega)];have I:(ByteArray.mk x.toArray)++(ByteArray.mk y.toArray)=⟨(x++y).toArray⟩:=by
    apply ByteArray.ext;simp[ByteArray.data_append]
   rw[I];rfl
  ·cases h
 all_goals first
  | (cases h;refine⟨_,rfl,?_⟩;simp only[binOp,Op.stringOp,A,C];rfl) | cases h
theorem Kg{b off x}(h:BE R (.ptr b off)=some x):∃i,R b=some i/\x = .pointer (some ⟨i.blk,i.shift+off,none⟩):=by
 simp only[BE,BC]at h;obtain⟨i,g,f⟩:=h;exact⟨i,g,f.symm⟩
theorem DW{b off n c x}(h:BE R (.sl b off n c)=some x):
  ∃i m,R b=some i/\x = .slice (some ⟨i.blk,i.shift+off,none⟩) n m/\(∀k,c = .ex k->m=k)/\(∀k,c = .op k->m=i.cap k off/\n<=m):=by
 cases c with
 | ex k=>
  simp only[BE,BC]at h;obtain⟨i,p,j⟩:=h;exact⟨i,k,p,j.symm,λ_ e=>by cases e;rfl,λ_ e=>by cases e⟩
 | op k=>
  simp only[BE,Es]at h;obtain⟨i,p,j⟩:=h;by_cases q:n<=i.cap k off/\i.cap k off<=9223372036854775807
  ·rw[if_pos q]at j;cases j
   exact⟨i,_,p,rfl,(λ_ e=>by cases e),(λ_ e=>by cases e;exact⟨rfl,q.1⟩)⟩
  ·rw[if_neg q]at j;cases j
theorem RN{b off n k x}{i:BI}(h:BE R (.sl b off n (.op k))=some x)(j:R b=some i):i.cap k off<=9223372036854775807:=by
 simp only[BE,j,OG]at h;by_cases e:n<=i.cap k off/\i.cap k off<=9223372036854775807
 ·exact e.2
 ·rw[if_neg e]at h;cases h
theorem FJ{b off k z x}(h:BE R (.sle b off k z)=some x):
  ∃i,R b=some i/\k<=i.cap z off/\x = .slice (some (if i.cap z off=k then⟨i.blk,i.shift+off,none⟩else(⟨i.blk,i.shift+off,none⟩:Addr).add (k*z))) 0 (i.cap z off-k):=by
 simp only[BE,Es]at h;obtain⟨i,n,e⟩:=h;by_cases g:k<=i.cap z off
 ·rw[if_pos g]at e;cases e;exact⟨i,n,g,rfl⟩
 ·rw[if_neg g]at e;cases e
theorem Np{t v x}(h:BE R (.ifc t v)=some x):∃y,BE R v=some y/\x = .iface t y:=by
 simp only[BE]at h;cases c:BE R v with
 | none=>rw[c]at h;cases h | some y=>rw[c]at h;cases h;exact⟨y,rfl,rfl⟩
theorem JS{b x}(h:BE R (.mp b)=some x):∃i,R b=some i/\x = .map (some i.blk):=by
 simp only[BE,BC]at h;obtain⟨i,g,f⟩:=h;exact⟨i,g,f.symm⟩
theorem Lm{f l m x}(h:BE R (.fn f l m)=some x):∃y z,BL R l=some y/\BL R m=some z/\x = .func (.func f) y.toArray z.toArray:=by
 simp only[BE]at h;cases e:BL R l with
 | none=>simp only[e]at h;cases h | some y=>
  cases g:BL R m with
  | none=>simp only[e,g]at h;cases h | some z=>simp only[e,g]at h;cases h;exact⟨y,z,rfl,rfl,rfl⟩
theorem XH{t u v b} w
  (h:∀n,(Op.equalIn (n+1) t u v).run P w = .ok b w):(Op.equal t u v).run P w = .ok b w:=h 9999
theorem RQ:∀{xs o}{v:V},IN xs o=v->v.live=true->xs[o]? = some v
 | [],_,v,h,c=>by subst h;cases c
 | a::l,0,v,h,_=>by subst h;rfl
 | a::l,n+1,v,h,c=>by simpa using RQ (o:=n) h c
def nT:TypeDesc->FK->Bool
 | .int _,.int=>true
 | .bool,.bool=>true
 | .string,.str=>true
 | _,_=>false
theorem OS{t d k}(s:P.underlying t=some d)(m:nT d k=true)
  {xs}{X:List Value} (l:BL R xs=some X) {o}{v:V} (r:IN xs o=v) (p:v.live=true) w :
  ∃x,BE R v=some x/\(part t X.toArray o).run P w = .ok x w:=by
 obtain⟨x,n,u⟩:=E6 l (RQ r p);refine⟨x,n,?_⟩;have h:X.toArray[o]? = some x:=by simpa using u
 have q:(isAgg t).run P w = .ok false w:=by
  cases d<;>first | (cases k<;>cases m;done) | simp[isAgg,run_underlying s]
 simp only[part,Sem.run_bind,q,Result.andThen_ok,CF,if_false,h,Sem.run_pure]
theorem jO{t d k}(s:P.underlying t=some d)(C:nT d k=true)
  {u v}{b:Bool} (h:Ja k u v=some b) {x y:Value} (E:BE R u=some x) (A:BE R v=some y) (n:Nat) (w:World):(Op.equalIn (n+1) t x y).run P w = .ok b w:=by
 unfold Ja at h;split at h<;>(try (cases h;done))<;>(cases E;cases A)<;>(cases d<;>first | (cases C;done) | skip)
 ·split at h
  ·rename_i D
   simp only[AP.injEq]at h;subst h;subst D;rw[VX];simp[Op.equalIn,run_underlying s]
  ·cases h
 ·simp only[AP.injEq]at h;subst h
  simp[Op.equalIn,run_underlying s]
 ·simp only[AP.injEq]at h;subst h
  rename_i p q;rw[run_equalIn_string w n t _ _ s,ByteArray.toList_eq,ByteArray.toList_eq,BS.beq_eq];by_cases e:p.toList=q.toList<;>simp[e]
theorem O9{k}{u v:V}{b}(h:Ja k u v=some b):u.live=true/\v.live=true:=by
 unfold Ja at h;split at h<;>first | exact⟨rfl,rfl⟩ | cases h
theorem ML{xs A}{X Y:List Value}(C:BL R xs=some X)(G:BL R A=some Y) n w:∀{v l b},
  IL P v=some l->FX l xs A=some b->(Op.eqFields (n+1) X.toArray Y.toArray v).run P w = .ok b w
 | [],l,b,m,h=>by
  simp only[IL,AP.injEq]at m;subst m;simp only[FX,AP.injEq]at h;subst h;rfl
 | f::v,l,b,m,h=>by
  simp only[IL]at m;by_cases u:f.name = "_"
  ·have F:(f.name == "_")=true:=by simp[u]
   rw[F]at m;simp only[Op.eqFields];rw[if_neg (by simp[u])];exact ML C G n w m h
  ·have F:(f.name == "_")=false:=by simp[u]
   rw[F]at m;cases B:IL P v with
   | none=>rw[B]at m;cases m | some r=>
    rw[B]at m;cases s:P.underlying f.type with
    | none=>simp only[s]at m;cases m | some d=>
     simp only[s]at m;have t:∃k,l=(f.offset,k)::r/\nT d k=true:=by
      cases d<;>simp only[AP.injEq,reduceCtorEq]at m<;>subst m<;>exact⟨_,rfl,rfl⟩
     obtain⟨k,rfl,t⟩:=t;simp only[FX]at h;cases z:Ja k (IN xs f.offset) (IN A f.offset)with
     | none=>simp only[z]at h;cases h | some a=>
      simp only[z]at h;cases E:FX r xs A with
      | none=>simp only[E]at h;cases h | some O=>
       simp only[E,AP.injEq]at h;subst h;obtain⟨D,J⟩:=O9 z;obtain⟨x,N,I⟩:=OS s t C rfl D w;obtain⟨y,M,L⟩:=OS s t G rfl J w;simp only[Op.eqFields];rw[if_pos u];simp only[Sem.run_bind,I,L,Result.andThen_ok,jO s t z N M n w];cases a
       ·simp
       ·simpa using ML C G n w B E
theorem ZP{op}(r:op = .eql\/op = .neq){t z x}{o:Array Field}(k:P.underlying t=some (.struct o)){l}(a:GR P t o.toList = .flat l)
  {xs A b} (h:FX l xs A=some b) {u v} (E:BE R (.agg xs)=some u) (B:BE R (.agg A)=some v) w :
  (do eqGuard op t z x u v;binOp op t u v:Sem Value).run P w = .ok (.bool (if op = .eql then b else !b)) w:=by
 obtain⟨X,D,rfl⟩:=I8 E;obtain⟨Y,C,rfl⟩:=I8 B;have j:P.fieldsOf t=o:=by simp[Program.fieldsOf,k]
 unfold GR at a;cases n:(P.stoodInHeld t || P.eqGuardType P.depth t)with
 | true=>rw[n]at a;cases a | false=>
  rw[n]at a;simp only[Ba]at n;cases i:IL P o.toList with
  | none=>rw[i]at a;cases a | some l'=>
   rw[i]at a;simp only[Gx.flat.injEq]at a;subst a;have y:(Op.equalIn 10000 t (.agg X.toArray) (.agg Y.toArray)).run P w = .ok b w:=by
    rw[run_equalIn_agg w 9999 t _ _ (by rw[j];exact k) n.1,j];exact ML D C 9998 w i h
   rw[Sem.run_bind,run_eqGuard_agg w op t z x _ _ n.2,Result.andThen_ok];rcases r with rfl|rfl
   ·rw[run_eql_struct,y];rfl
   ·rw[run_neq_struct,y];rfl
theorem RI t d:GR P t d = .none\/∃l,GR P t d = .flat l:=by
 unfold GR;split
 ·exact .inr ⟨_,rfl⟩
 ·exact .inl rfl
set_option maxHeartbeats 2000000 in
theorem nW{op:BinOp}(hop:op = .eql\/op = .neq){t:TypeId}{ox oy:Operand}{x y:V}{b:Bool}(h:J7 (jN P op t ox oy) x y=some b)
  {u v:Value} (hu:BE R x=some u) (hv:BE R y=some v) (w:World):(do eqGuard op t ox oy u v;binOp op t u v:Sem Value).run P w = .ok (.bool (if op = .eql then b else !b)) w:=by
 have htag:jN P op t ox oy=(match P.underlying t with
  | some .bool => .bool
  | some (.struct fs)=>GR P t fs.toList
  | some (.pointer _) => .ptr
  | some (.slice _) => .slice
  | some (.map _ _) => .map
  | some (.func _ _ _) => .func
  | some (.interface _) => .iface (Ng ox || Ng oy)
  | _ => .none):=by rcases hop with rfl | rfl<;>rfl
 rw[htag]at h
 clear htag
 generalize htg:(match P.underlying t with
  | some .bool=>Gx.bool
  | some (.struct fs)=>GR P t fs.toList
  | some (.pointer _) => .ptr
  | some (.slice _) => .slice
  | some (.map _ _) => .map
  | some (.func _ _ _) => .func
  | some (.interface _) => .iface (Ng ox || Ng oy)
  | _ => .none)=tg at h
 have hd:∃d,P.underlying t=some d:=by
  cases hut:P.underlying t with
  | none=>rw[hut]at htg;subst htg;cases h
  | some d=>exact⟨d,rfl⟩
 obtain⟨d,hut⟩:=hd
 rw[hut]at htg
 have hfin:(eqGuard op t ox oy u v).run P w = .ok () w->(Op.equal t u v).run P w = .ok b w ->
   binOp .eql t u v=(do pure (.bool (<-Op.equal t u v)))->binOp .neq t u v=(do pure (.bool (!(<-Op.equal t u v)))) ->
   (do eqGuard op t ox oy u v;binOp op t u v:Sem Value).run P w = .ok (.bool (if op = .eql then b else !b)) w:=λh1 h2 h3 h4=>by
  rcases hop with rfl|rfl
  ·rw[Sem.run_bind,h1,Result.andThen_ok,h3,Sem.run_bind,h2];rfl
  ·rw[Sem.run_bind,h1,Result.andThen_ok,h4,Sem.run_bind,h2];rfl
 have hplain:∀(hn:∀z,u = .agg z->False) (hm:u = .nilIface->v = .nilIface->False) (hb:∀n,(Op.equalIn (n+1) t u v).run P w = .ok b w),
   binOp .eql t u v=(do pure (.bool (<-Op.equal t u v)))->binOp .neq t u v=(do pure (.bool (!(<-Op.equal t u v)))) ->
   (do eqGuard op t ox oy u v;binOp op t u v:Sem Value).run P w = .ok (.bool (if op = .eql then b else !b)) w:=λhn hm hb h3 h4=>
  hfin (G9 op t ox oy u v w hn hm) (XH w hb) h3 h4
 by_cases hst:∃fs,d = .struct fs
 ·obtain⟨fs,rfl⟩:=hst
  simp only at htg
  rcases RI (P:=P) t fs.toList with h0|⟨l,h0⟩
  ·rw[h0]at htg;subst htg;cases h
  ·rw[h0]at htg;subst htg
   cases x<;>cases y<;>first
    | (exact ZP hop hut h0 h hu hv w)
    | cases h
 unfold J7 at h
 split at h<;>(try (cases h;done))<;>(try (simp only[AP.injEq]at h;subst h))
 all_goals (cases d<;>first | exact(hst ⟨_,rfl⟩).elim | simp only[reduceCtorEq]at htg)
 ·cases hu;cases hv
  exact hplain (λ_ e=>by cases e) (λe=>by cases e) (λn=>by simp[Op.equalIn,run_underlying hut]) rfl rfl
 ·cases hu;cases hv
  exact hplain (λ_ e=>by cases e) (λe=>by cases e) (λn=>by simp[Op.equalIn,run_underlying hut]) rfl rfl
 ·cases hu;obtain⟨i,_,rfl⟩:=Kg hv
  exact hplain (λ_ e=>by cases e) (λe=>by cases e) (λn=>by simp[Op.equalIn,run_underlying hut]) rfl rfl
 ·cases hv;obtain⟨i,_,rfl⟩:=Kg hu
  exact hplain (λ_ e=>by cases e) (λe=>by cases e) (λn=>by simp[Op.equalIn,run_underlying hut]) rfl rfl
 ·cases hu;cases hv
  exact hplain (λ_ e=>by cases e) (λe=>by cases e) (λn=>by simp[Op.equalIn,run_underlying hut]) rfl rfl
 ·cases hu;obtain⟨i,m,_,rfl,_⟩:=DW hv
  exact hplain (λ_ e=>by cases e) (λe=>by cases e) (λn=>by simp[Op.equalIn,run_underlying hut]) rfl rfl
 ·cases hv;obtain⟨i,m,_,rfl,_⟩:=DW hu
  exact hplain (λ_ e=>by cases e) (λe=>by cases e) (λn=>by simp[Op.equalIn,run_underlying hut]) rfl rfl
 ·cases hu;obtain⟨i,_,_,rfl⟩:=FJ hv
  exact hplain (λ_ e=>by cases e) (λe=>by cases e) (λn=>by simp[Op.equalIn,run_underlying hut]) rfl rfl
 ·cases hv;obtain⟨i,_,_,rfl⟩:=FJ hu
  exact hplain (λ_ e=>by cases e) (λe=>by cases e) (λn=>by simp[Op.equalIn,run_underlying hut]) rfl rfl
 ·cases hu;cases hv
  exact hplain (λ_ e=>by cases e) (λe=>by cases e) (λn=>by simp[Op.equalIn,run_underlying hut]) rfl rfl
 ·cases hu;obtain⟨i,_,rfl⟩:=JS hv
  exact hplain (λ_ e=>by cases e) (λe=>by cases e) (λn=>by simp[Op.equalIn,run_underlying hut]) rfl rfl
 ·cases hv;obtain⟨i,_,rfl⟩:=JS hu
  exact hplain (λ_ e=>by cases e) (λe=>by cases e) (λn=>by simp[Op.equalIn,run_underlying hut]) rfl rfl
 ·cases hu;cases hv
  exact hplain (λ_ e=>by cases e) (λe=>by cases e) (λn=>by simp[Op.equalIn,run_underlying hut]) rfl rfl
 ·cases hu;obtain⟨y,z,_,_,rfl⟩:=Lm hv
  exact hplain (λ_ e=>by cases e) (λe=>by cases e) (λn=>by simp[Op.equalIn,run_underlying hut]) rfl rfl
 ·cases hv;obtain⟨y,z,_,_,rfl⟩:=Lm hu
  exact hplain (λ_ e=>by cases e) (λe=>by cases e) (λn=>by simp[Op.equalIn,run_underlying hut]) rfl rfl
 ·cases hu;cases hv
  refine hfin ?_ (XH w (λn=>by simp[Op.equalIn,run_underlying hut])) rfl rfl
  have hl:(Ng ox || Ng oy)=true:=by simpa using htg
  rcases hop with rfl|rfl<;>cases ox<;>cases oy<;>first|rfl|(exfalso;simp[Ng]at hl)
 ·cases hu;obtain⟨y,_,rfl⟩:=Np hv
  exact hplain (λ_ e=>by cases e) (λ_ e=>by cases e) (λn=>by simp[Op.equalIn,run_underlying hut]) rfl rfl
 ·cases hv;obtain⟨y,_,rfl⟩:=Np hu
  exact hplain (λ_ e=>by cases e) (λe=>by cases e) (λn=>by simp[Op.equalIn,run_underlying hut]) rfl rfl
theorem wS{t q o x y v op}(r:∀k n s m,x = .int k n->y = .int s m->False)(u:∀l m,x = .str l->y = .str m->False)
  (h:KC op (jN P op t q o) x y=some v):(op = .eql\/op = .neq)/\∃b,J7 (jN P op t q o) x y=some b/\v = .bool (if op = .eql then b else !b):=by
 unfold KC at h;split at h
 ·exact(r _ _ _ _ rfl rfl).elim
 ·exact(u _ _ rfl rfl).elim
 ·cases op<;>simp only[BC]at h<;>first
   | (obtain⟨b,g,rfl⟩:=h;exact⟨.inl rfl,b,g,by simp⟩) | (obtain⟨b,g,rfl⟩:=h;exact⟨.inr rfl,b,g,by simp⟩) | cases h
theorem ZO{g}{x y:V}{b}(h:J7 g x y=some b):x.live=true/\y.live=true:=by
 unfold J7 at h;split at h<;>first | exact⟨rfl,rfl⟩ | cases h
theorem wR{o t q s v}(u:Ch R e a.tmps)(y:EV G R)
  (h:KC o (jN P o t q s) (Cv e (Aw G q)) (Cv e (Aw G s))=some v) w :
  ∃x,BE R v=some x/\(do eqGuard o t q s (a.eval q) (a.eval s);binOp o t (a.eval q) (a.eval s):Sem Value).run P w = .ok x w:=by
 by_cases I:∃k n A m,Cv e (Aw G q) = .int k n/\Cv e (Aw G s) = .int A m
 ·obtain⟨k,n,A,m,j,p⟩:=I
  rw[j,p]at h;rw[HD u y j,HD u y p];obtain⟨r,D,i⟩:=oO h t w;exact⟨r,D,by rw[Sem.run_bind,G9 _ _ _ _ _ _ _ (λ_ e=>by cases e) (λe=>by cases e)];exact i⟩
 ·by_cases F:∃l m,Cv e (Aw G q) = .str l/\Cv e (Aw G s) = .str m
  ·obtain⟨l,m,j,p⟩:=F
   rw[j,p]at h;rw[M3 u y j,M3 u y p];obtain⟨r,D,i⟩:=oN h t w;exact⟨r,D,by rw[Sem.run_bind,G9 _ _ _ _ _ _ _ (λ_ e=>by cases e) (λe=>by cases e)];exact i⟩
  ·obtain⟨E,b,J,rfl⟩:=wS (λk n A m j p=>I ⟨k,n,A,m,j,p⟩) (λl m j p=>F ⟨l,m,j,p⟩) h
   obtain⟨C,B⟩:=ZO J;have L:=ev u y rfl C;have K:=ev u y rfl B;exact⟨_,rfl,nW E J L K w⟩
end Go.Og
namespace Go.Og
variable {P:Program}{G:Nat->Bool}{R:Ren}{e:Cb}{a:Act}
theorem Oj{m l:Nat}(h:¬m=l):Ax m l=false:=Ga.2 (by rw[ne_eq,AW];exact h)
theorem oJ x d b:Ip (some x) d=Ip (some x) b:=by cases x<;>rfl
theorem Oh(z:Ch R e a.tmps)(A:EV G R){o:Option Operand}{d n}(h:Ip (D2 e (o.map (Aw G))) d=some n) y (C:n<=y) j w:
  (o=none/\n=d)\/∃x,o=some x/\(Instr.sliceBound (a.eval x) y j).run P w = .ok n w:=by
 cases o with
 | none=>simp only[tW,D2,Ip,AP.injEq]at h;exact .inl ⟨rfl,h.symm⟩ | some x=>
  right;refine⟨x,rfl,?_⟩;simp only[CH,D2]at h;unfold Ip at h;split at h
  ·rename_i i;cases i
  ·rename_i k m i
   simp only[AP.injEq]at i;split at h
   ·rename_i B
    simp only[AP.injEq]at h;subst h;rw[HD z A i];exact run_sliceBound w k m y j B (by omega)
   ·cases h
  ·cases h
theorem Hn(g:Ch R e a.tmps)(i:EV G R){lo o mx:Option Operand}{len cap l h m} c
  (v:Ip (D2 e (mx.map (Aw G))) cap=some m) (s:Ip (D2 e (o.map (Aw G))) len=some h) (r:Ip (D2 e (lo.map (Aw G))) 0=some l)
  (q:l<=h) (t:h<=m) (A:m<=cap) (p:mx.isSome=true->o.isSome=true) w :
  (Instr.sliceBounds c len cap (lo.map a.eval) (o.map a.eval) (mx.map a.eval)).run P w = .ok (l,h,m) w:=by
 unfold Instr.sliceBounds;rcases Oh (P:=P) g i v cap A (if c then .slice3Acap else .slice3Alen) w with ⟨rfl,rfl⟩|⟨x,rfl,u⟩
 ·rcases Oh (P:=P) g i s m t (if c then .sliceAcap else .sliceAlen) w with ⟨rfl,rfl⟩|⟨y,rfl,k⟩
  ·rcases Oh (P:=P) g i r h q .sliceB w with ⟨rfl,rfl⟩|⟨z,rfl,j⟩
   ·rfl
   ·simp[j]
  ·rcases Oh (P:=P) g i r h q .sliceB w with ⟨rfl,rfl⟩|⟨z,rfl,j⟩
   ·simp[k]
   ·simp[k,j]
 ·rcases Oh (P:=P) g i s m t .slice3B w with ⟨rfl,rfl⟩|⟨y,rfl,k⟩
  ·simp at p
  ·rcases Oh (P:=P) g i r h q .slice3C w with ⟨rfl,rfl⟩|⟨z,rfl,j⟩
   ·simp[u,k]
   ·simp[u,k,j]
theorem add_eq b o n:(⟨b,o,none⟩:Addr).add n=⟨b,o+n,none⟩:=by
 unfold Addr.add;split
 ·rename_i h;subst h;rfl
 ·rfl
theorem wO{i:BI}{z off l}:i.cap z (off+l*z)=i.cap z off-l:=by
 unfold BI.cap;rw[<-Nat.sub_sub,OI l z];by_cases h:z*l<=i.endc-off
 ·exact Nat.sub_mul_div_of_le (i.endc-off) z l h
 ·have f:i.endc-off<z*l:=by omega
  rw[Nat.sub_eq_zero_of_le (by omega),Nat.zero_div];have:=Nat.div_le_of_le_mul (m:=i.endc-off) (n:=l) (k:=z) (by omega);omega
theorem iq(he:Ch R e a.tmps)(hg:EV G R){t el esz}(hu:P.underlying t=some (.slice el))(hs:HU P el=some esz)
  {x:Operand}{lo hi mx:Option Operand} (hmx:mx.isSome=true->hi.isSome=true) {v:V}
  (h:Dh esz (Cv e (Aw G x)) (D2 e (lo.map (Aw G))) (D2 e (hi.map (Aw G))) (D2 e (mx.map (Aw G)))=some v) (w:World) :
  ∃r,BE R v=some r/\(Instr.sliceAt t (a.eval x) (lo.map a.eval) (hi.map a.eval) (mx.map a.eval)).run P w = .ok r w:=by
 have hat:∀u,(Instr.sliceAt t u (lo.map a.eval) (hi.map a.eval) (mx.map a.eval)).run P w=(Instr.slice t u (lo.map a.eval) (hi.map a.eval) (mx.map a.eval)).run P w:=λu=>by
  unfold Instr.sliceAt;simp[run_underlying hu]
 rw[hat];have hsl:∀(b:Option Addr) (len cap l E m:Nat),(Instr.sliceBounds true len cap (lo.map a.eval) (hi.map a.eval) (mx.map a.eval)).run P w = .ok (l,E,m) w ->
   (Instr.slice t (.slice b len cap) (lo.map a.eval) (hi.map a.eval) (mx.map a.eval)).run P w = .ok (.slice (if m=l then b else b.map (·.add (l*esz))) (E-l) (m-l)) w:=λb len cap l E m hb=>by
  unfold Instr.slice;simp[run_underlying hu,hb,E1 hs w]
 cases hx:Cv e (Aw G x)with
 | nils=>
  rw[hx]at h;have hc:=ev he hg hx rfl;simp only[BE,AP.injEq]at hc;rw[<-hc];simp only[Dh]at h;cases O:Ip (D2 e (mx.map (Aw G))) 0<;>simp only[O]at h
  ·cases h
  rename_i m;cases E:Ip (D2 e (hi.map (Aw G))) 0<;>simp only[E]at h
  ·cases h
  rename_i M;cases K:Ip (D2 e (lo.map (Aw G))) 0<;>simp only[K]at h
  ·cases h
  rename_i l;split at h
  ·rename_i n
   simp only[AI,Ag,AW]at n;obtain⟨⟨h1,h2⟩,L⟩:=n;cases h;refine⟨_,rfl,?_⟩;rw[hsl none 0 0 l M m (Hn he hg true O E K h1 h2 (by omega) hmx w)];have:m=0:=L;have:M=0:=by omega
   have:l=0:=by omega
   subst_vars;rfl
  ·cases h
 | sl b off len c=>
  rw[hx]at h;have hc:=ev he hg hx rfl;obtain⟨i,cap,I,hev,hex,hop⟩:=DW hc;rw[hev];cases c with
  | ex c=>
   obtain rfl:=hex c rfl;simp only[Dh]at h;cases O:Ip (D2 e (mx.map (Aw G))) cap<;>simp only[O]at h
   ·cases h
   rename_i m;cases E:Ip (D2 e (hi.map (Aw G))) len<;>simp only[E]at h
   ·cases h
   rename_i M;cases K:Ip (D2 e (lo.map (Aw G))) 0<;>simp only[K]at h
   ·cases h
   rename_i l;split at h
   ·rename_i n
    simp only[AI,Ag,AW]at n;obtain⟨⟨h1,h2⟩,L⟩:=n;have L:m<=cap:=by
     rw[B5]at L;rcases L with L|L
     ·cases hq:D2 e (mx.map (Aw G))with
      | none=>rw[hq]at O;cases O;exact AL _ | some q=>rw[hq]at L;cases L
     ·exact Nat.le_of_ble_eq_true L
    cases h;refine⟨_,?_,hsl _ len cap l M m (Hn he hg true O E K h1 h2 L hmx w)⟩;simp only[BE,I,CH];by_cases F:m=l
    ·simp[F]
    ·have:Ax m l=false:=Oj F
     simp[F,this,add_eq,JI]
   ·cases h
  | op z=>
   obtain⟨J,hlen⟩:=hop z rfl;have hbd:=RN hc I;rw[<-J]at hbd;simp only[Dh]at h;cases E:Ip (D2 e (hi.map (Aw G))) len
   ·rw[E]at h;cases h
   rename_i M;cases K:Ip (D2 e (lo.map (Aw G))) 0
   ·rw[E,K]at h;cases h
   rename_i l;rw[E,K]at h;simp only at h;cases N:mx with
   | none=>
    subst N;simp only[tW,D2]at h;split at h
    ·rename_i n
     simp only[AI,Ag,AW]at n;obtain⟨⟨h1,h2⟩,L⟩:=n;subst L;have hb:=Hn (P:=P) he hg true (by simp[D2,Ip]) E K h1 (AU h2 hlen) (AL _) hmx w;refine⟨_,?_,hsl _ len cap l M cap hb⟩;split at h
     ·rename_i hll
      simp only[AW]at hll;have hhl:M=l:=by omega
      subst hhl;split at h
      ·rename_i hl0
       simp only[AW]at hl0;cases h;subst hl0;simp only[BE,I,OG,<-J,hlen,hbd,and_self,if_true,OH,Nat.zero_mul,CH,add_eq,OJ,ite_self,<-hll,BF]
      ·cases h
       simp only[BE,I,OG,<-J,Nat.sub_self,CH,if_pos (show M<=cap by omega)];by_cases hcl:cap=M<;>simp[hcl]
     ·rename_i hll
      simp only[AW]at hll;cases h;have hne:cap≠l:=by omega
      simp only[BE,I,OG,wO,<-J,if_neg hne,CH,add_eq,JI,if_pos (show M-l<=cap-l/\cap-l<=9223372036854775807 by omega)]
    ·cases h
   | some mo=>
    subst N;cases O:Ip (D2 e ((some mo).map (Aw G))) 0<;>simp only[CH,D2]at h O<;>simp only[O]at h
    ·cases h
    rename_i m;split at h
    ·rename_i n
     simp only[AI,Ag,AW]at n;obtain⟨⟨h1,h2⟩,L⟩:=n;cases h;have hm':Ip (D2 e ((some mo).map (Aw G))) cap=some m:=by
      simp only[CH,D2];rw[oJ _ cap 0];exact O
     refine⟨_,?_,hsl _ len cap l M m (Hn he hg true hm' E K h1 h2 (by omega) hmx w)⟩;simp only[BE,I,CH];by_cases F:m=l
     ·simp[F]
     ·have:Ax m l=false:=Oj F
      simp[F,this,add_eq,JI]
    ·cases h
 | sle b off k z=>
  rw[hx]at h;have hc:=ev (a:=a) he hg hx rfl;obtain⟨i,I,hk,hev⟩:=FJ hc;simp only[Dh]at h;cases E:Ip (D2 e (hi.map (Aw G))) 0
  ·rw[E]at h;cases h
  rename_i M;cases K:Ip (D2 e (lo.map (Aw G))) 0
  ·rw[E,K]at h;cases h
  rename_i l;rw[E,K]at h;cases N:mx with
  | some mo=>subst N;simp only[CH,D2]at h;cases h | none=>
   subst N;simp only[tW,D2]at h;split at h
   ·rename_i n
    simp only[AI,AW]at n;obtain⟨rfl,rfl⟩:=n;cases h;refine⟨_,hc,?_⟩;rw[hev];have hb:=Hn (a:=a) (P:=P) (len:=0) (cap:=i.cap z off-k) (m:=i.cap z off-k) (mx:=none) he hg true (by simp[D2,Ip]) E K (AL 0) (BF _) (AL _) hmx w;rw[hsl _ 0 _ 0 0 _ hb];simp only[Nat.zero_mul,OH,CH];split<;>split<;>simp[Addr.add]
   ·cases h
 | _=>rw[hx]at h;simp only[Dh]at h;cases h
end Go.Og
namespace Go.Og
variable {P:Program}{G:Nat->Bool}{R:Ren}{e:Cb}{a:Act}
theorem Uu(L:Ch R e a.tmps)(N:EV G R){t M n q}(S:P.underlying t=some (.array n M))(T:HU P M=some q)
  {x}{lo z mx:Option Operand} (D:mx.isSome=true->z.isSome=true) {v}
  (h:Jr n q (Cv e (Aw G x)) (D2 e (lo.map (Aw G))) (D2 e (z.map (Aw G))) (D2 e (mx.map (Aw G)))=some v) w :
  ∃r,BE R v=some r/\(Instr.sliceAt t (a.eval x) (lo.map a.eval) (z.map a.eval) (mx.map a.eval)).run P w = .ok r w:=by
 cases K:Cv e (Aw G x)with
 | ptr b off=>
  rw[K]at h;obtain⟨i,J,F⟩:=JZ L N K;simp only[Jr]at h;cases y:Ip (D2 e (mx.map (Aw G))) n
  ·rw[y]at h;cases h
  rename_i m;cases C:Ip (D2 e (z.map (Aw G))) n
  ·rw[y,C]at h;cases h
  rename_i Y;cases E:Ip (D2 e (lo.map (Aw G))) 0
  ·rw[y,C,E]at h;cases h
  rename_i l;rw[y,C,E]at h;simp only at h;split at h
  ·rename_i k
   simp only[AI,Ag,AW]at k;obtain⟨⟨O,W⟩,U⟩:=k;cases h;have Q:=Hn (P:=P) L N false y C E O W U D w;refine⟨.slice (some (if m=l then⟨i.blk,i.shift+off,none⟩else(⟨i.blk,i.shift+off,none⟩:Addr).add (l*q))) (Y-l) (m-l),?_,?_⟩
   ·simp only[BE,J,CH]
    by_cases p:m=l
    ·simp[p]
    ·have:=Oj p
     simp[p,this,add_eq,JI]
   ·rw[F]
    unfold Instr.sliceAt;simp[run_underlying S,Instr.sureAddr,Q,E1 T w]
  ·cases h
 | _=>rw[K]at h;simp only[Jr]at h;cases h
theorem Ut(D:Ch R e a.tmps)(E:EV G R){t}(J:P.underlying t=some .string)
  {x}{lo A:Option Operand}{v}
  (h:Jq (Cv e (Aw G x)) (D2 e (lo.map (Aw G))) (D2 e (A.map (Aw G)))=some v) w :
  ∃r,BE R v=some r/\(Instr.sliceAt t (a.eval x) (lo.map a.eval) (A.map a.eval) none).run P w = .ok r w:=by
 cases B:Cv e (Aw G x)with
 | str s=>
  rw[B]at h;have u:=M3 D E B;simp only[Jq]at h;cases o:Ip (D2 e (A.map (Aw G))) s.len
  ·rw[o]at h;cases h
  rename_i L;cases z:Ip (D2 e (lo.map (Aw G))) 0
  ·rw[o,z]at h;cases h
  rename_i l;rw[o,z]at h;simp only at h;split at h
  ·rename_i g
   simp only[AI,Ag,AW]at g;obtain⟨K,F⟩:=g;cases h;have y:(ByteArray.mk s.toList.toArray).size=s.len:=by simp[ByteArray.size,BS.length_toList]
   have C:=Hn (P:=P) (mx:=none) D E false (by simp[D2,Ip]) o z K F (AL _) (λe=>by cases e) w;refine⟨_,rfl,?_⟩;rw[u];unfold Instr.sliceAt Instr.slice;simp only[tW]at C;simp only[Sem.run_bind,run_underlying J,Result.andThen_ok,Option.isSome_none,CF,if_false,y,C,Sem.run_pure];congr 2;rw[BS.toList_sub F];apply ByteArray.ext;rw[ByteArray.data_extract];apply Hq;simp[WQ]
  ·cases h
 | _=>rw[B]at h;simp only[Jq]at h;cases h
theorem DX{b off}{i:BI}(h:R b=some i):BE R (.ptr b off)=some (.pointer (some ⟨i.blk,i.shift+off,none⟩)):=by simp only[BE,h,CH]
theorem ZU{f l m}{y z:List Value}(h:BL R l=some y)(k:BL R m=some z):BE R (.fn f l m)=some (.func (.func f) y.toArray z.toArray):=by simp only[BE,h,k]
theorem cg:∀(l:List Operand) x u {k n} (_:Ch R e a.tmps) (_:EV G R) (_:BE R x=some u) (_:∃k n,x = .int k n)
  (_:W0 x (Gu e (l.map (Aw G)))=some (.int k n)) w,((l.map a.eval).foldlM Builtin.min2 u).run P w = .ok (.int k n) w
 | [],x,u,k,n,_,_,s,_,h,w=>by
  simp only[Gu,Km,W0,AP.injEq]at h;subst h;cases s;rfl
 | o::l,x,u,k,n,t,v,s,⟨D,I,A⟩,h,w=>by
  subst A;simp only[Gu,Cf]at h;unfold W0 at h;split at h
  ·rename_i i;cases i
  ·rename_i m i
   cases m;rename_i J E C _;simp only[List.cons.injEq]at i;obtain⟨B,y⟩:=i;split at h
   ·rename_i z
    subst z;subst y;cases s;rw[Cf,List.foldlM_cons,HD t v B];simp only[Builtin.min2,Sem.run_bind,Sem.run_pure,Result.andThen_ok];exact cg l _ _ t v rfl ⟨_,_,rfl⟩ h w
   ·cases h
  ·cases h
theorem cj:∀(l:List Operand) x u {k n} (_:Ch R e a.tmps) (_:EV G R) (_:BE R x=some u) (_:∃k n,x = .int k n)
  (_:W1 x (Gu e (l.map (Aw G)))=some (.int k n)) w,((l.map a.eval).foldlM Builtin.max2 u).run P w = .ok (.int k n) w
 | [],x,u,k,n,_,_,s,_,h,w=>by
  simp only[Gu,Km,W1,AP.injEq]at h;subst h;cases s;rfl
 | o::l,x,u,k,n,t,v,s,⟨D,I,A⟩,h,w=>by
  subst A;simp only[Gu,Cf]at h;unfold W1 at h;split at h
  ·rename_i i;cases i
  ·rename_i m i
   cases m;rename_i J E C _;simp only[List.cons.injEq]at i;obtain⟨B,y⟩:=i;split at h
   ·rename_i z
    subst z;subst y;cases s;rw[Cf,List.foldlM_cons,HD t v B];simp only[Builtin.max2,Sem.run_bind,Sem.run_pure,Result.andThen_ok];exact cj l _ _ t v rfl ⟨_,_,rfl⟩ h w
   ·cases h
  ·cases h
theorem cU{t s}(p:Hr P t=some s){l}{x:List Value}(k:BL R l=some x){off v}
  (h:M2 l off s=some v) w :
  ∃r,BE R v=some r/\(part t x.toArray off).run P w = .ok r w:=by
 obtain⟨j,q⟩:=MA p w;cases s with
 | none=>
  obtain⟨r,m,o⟩:=E6 k h;refine⟨r,m,?_⟩;unfold part;simp[j,o]
 | some n=>
  simp only[M2]at h;split at h
  ·cases h
   refine⟨_,EA (RM (ZT k off) n),?_⟩;unfold part;simp only[Sem.run_bind,j,Result.andThen_ok,Option.isSome_some,if_true,q n rfl,Sem.run_pure];congr 2;apply Hq;simp[WQ]
  ·cases h
theorem oF(he:Ch R e a.tmps)(N:EV G R)(b:Builtin)(ts:Array TypeId)(ty:TypeId)(lits:Array Bool)(I:Array Operand){v:V}
  (h:Bp (Me P G b ts I) e=some v) (w:World):∃x,BE R v=some x/\(builtin b ts ty lits (I.map a.eval)).run P w = .ok (.value x) w:=by
 have C:∀{s:Sem Value}{x:Value},s.run P w = .ok x w->(do pure (Next.value (<-s)):Sem Next).run P w = .ok (.value x) w:=λhs=>by simp[hs]
 obtain⟨ts⟩:=ts;obtain⟨I⟩:=I;unfold Me at h;split at h
 ·
  rename_i t x L A;simp only at L A;subst L A;split at h
  ·rename_i J
   simp only[Bp]at h;split at h
   ·rename_i s D;cases h
    refine⟨_,rfl,?_⟩;simp only[builtin];have hsz:(ByteArray.mk s.toList.toArray).size=s.len:=by simp[ByteArray.size,BS.length_toList]
    exact C (by rw[show AAJ a.eval ⟨[x]⟩=#[a.eval x] from by simp];rw[M3 he N D];unfold Builtin.len_;simp[run_underlying J,goInt,hsz])
   ·cases h
  ·rename_i el J
   simp only[Bp]at h;split at h
   ·rename_i D;cases h
    have hc:=ev he N D rfl;simp only[BE,AP.injEq]at hc;refine⟨_,rfl,?_⟩;simp only[builtin];exact C (by rw[show AAJ a.eval ⟨[x]⟩=#[a.eval x] from by simp];rw[<-hc];unfold Builtin.len_;simp[run_underlying J,goInt])
   ·rename_i b off n c D;cases h
    obtain⟨i,m,_,K,_⟩:=DW (ev he N D rfl);refine⟨_,rfl,?_⟩;simp only[builtin];exact C (by unfold Builtin.len_;simp[run_underlying J,K,goInt])
   ·rename_i b off n c D;cases h
    obtain⟨i,_,_,K⟩:=FJ (ev he N D rfl);refine⟨_,rfl,?_⟩;simp only[builtin];exact C (by unfold Builtin.len_;simp[run_underlying J,K,goInt])
   ·cases h
  ·rename_i n el J
   simp only[Bp,AP.injEq]at h;subst h;refine⟨_,rfl,?_⟩;simp only[builtin];exact C (by unfold Builtin.len_;simp[run_underlying J,goInt])
  ·rename_i el J
   split at h
   ·rename_i n el' hu'
    simp only[Bp,AP.injEq]at h;subst h;refine⟨_,rfl,?_⟩;simp only[builtin];exact C (by unfold Builtin.len_;simp[run_underlying J,run_underlying hu',goInt])
   ·cases h
  ·cases h
 ·
  rename_i t x L A;simp only at L A;subst L A;split at h
  ·rename_i el J
   simp only[Bp]at h;split at h
   ·rename_i D;cases h
    have hc:=ev he N D rfl;simp only[BE,AP.injEq]at hc;refine⟨_,rfl,?_⟩;simp only[builtin];exact C (by rw[show AAJ a.eval ⟨[x]⟩=#[a.eval x] from by simp];rw[<-hc];unfold Builtin.cap_;simp[run_underlying J,goInt])
   ·rename_i b off n c D;cases h
    obtain⟨i,m,_,K,hex,_⟩:=DW (ev (a:=a) he N D rfl);obtain rfl:=hex _ rfl;refine⟨_,rfl,?_⟩;simp only[builtin];exact C (by unfold Builtin.cap_;simp[run_underlying J,K,goInt])
   ·cases h
  ·cases h
 ·
  split at h
  ·split at h
   ·split at h
    ·have hno:∀(q:Bool) (e1:TypeId) (n m:Nat) (x y:AO),Bp (if q=true then Eg.bad else Eg.append e1 n m x y) e≠some v:=by
      intro q e1 n m x y;cases q<;>simp[Bp]
     exact(hno _ _ _ _ _ _ h).elim
    ·cases h
   ·cases h
  ·cases h
 ·
  split at h
  ·split at h
   ·simp only[Bp]at h;cases h
   ·cases h
  ·cases h
 ·
  rename_i x l A;simp only at A;subst A;simp only[Bp]at h;split at h
  ·rename_i k n F;cases h
   refine⟨_,rfl,?_⟩;simp only[builtin];refine C ?_;have D:∃k n,Cv e (Aw G x) = .int k n:=by
    cases l with
    | nil=>simp only[Gu,Km,W0,AP.injEq]at F;exact⟨k,n,F⟩ | cons y l=>
     simp only[Gu,Cf]at F;unfold W0 at F;split at F
     ·rename_i E;cases E
     ·rename_i E _;exact⟨_,_,E⟩
     ·cases F
   obtain⟨k1,n1,M⟩:=D;have:=cg (P:=P) l _ _ he N (ev (a:=a) he N M rfl) ⟨k1,n1,rfl⟩ (M ▸ F) w;simpa[Builtin.min_]using this
  ·cases h
 ·
  rename_i x l A;simp only at A;subst A;simp only[Bp]at h;split at h
  ·rename_i k n F;cases h
   refine⟨_,rfl,?_⟩;simp only[builtin];refine C ?_;have D:∃k n,Cv e (Aw G x) = .int k n:=by
    cases l with
    | nil=>simp only[Gu,Km,W1,AP.injEq]at F;exact⟨k,n,F⟩ | cons y l=>
     simp only[Gu,Cf]at F;unfold W1 at F;split at F
     ·rename_i E;cases E
     ·rename_i E _;exact⟨_,_,E⟩
     ·cases F
   obtain⟨k1,n1,M⟩:=D;have:=cj (P:=P) l _ _ he N (ev (a:=a) he N M rfl) ⟨k1,n1,rfl⟩ (M ▸ F) w;simpa[Builtin.max_]using this
  ·cases h
 ·cases h
theorem Nv(he:Ch R e a.tmps)(hg:EV G R)(o:Oper){v:V}(h:Bp (Ah P G o.op) e=some v)(w:World):
  ∃x,BE R v=some x/\(execOp a.eval o).run P w = .ok (.value x) w:=by
 have J:∀{s:Sem Value}{x:Value},s.run P w = .ok x w->(do pure (Next.value (<-s)):Sem Next).run P w = .ok (.value x) w:=λhs=>by simp[hs]
 obtain⟨dst,op,ty,pos,after,guard⟩:=o;simp only at h;cases op with
 | move x=>
  simp only[Ah,Bp]at h;split at h
  ·rename_i hl;cases h
   exact⟨_,ev he hg rfl hl,rfl⟩
  ·cases h
 | assign x=>
  simp only[Ah,Bp]at h;split at h
  ·rename_i hl;cases h
   exact⟨_,ev he hg rfl hl,rfl⟩
  ·cases h
 | pick c x y=>
  simp only[Ah,Bp]at h;split at h
  ·rename_i hc
   split at h
   ·rename_i hl;cases h
    exact⟨_,ev he hg rfl hl,by simp[execOp,QF he hg hc,asBool]⟩
   ·cases h
  ·rename_i hc
   split at h
   ·rename_i hl;cases h
    exact⟨_,ev he hg rfl hl,by simp[execOp,QF he hg hc,asBool]⟩
   ·cases h
  ·cases h
 | build t ps=>
  simp only[Ah]at h;have hmap:∀(q:Array (Nat × Operand)),(q.map (λ(x:Nat × Operand)=>(x.1,a.eval x.2))).toList=q.toList.map (λ(x:Nat × Operand)=>(x.1,a.eval x.2)):=λq=>Array.toList_map;split at h
  ·rename_i fs z hu hz
   cases hp:Mw P fs.toList with
   | none=>rw[hp]at h;cases h | some pl=>
    rw[hp]at h;simp only at h;cases hc:E8 G (pl[·]?) ps.toList with
    | none=>rw[hc]at h;cases h | some l=>
     rw[hc]at h;simp only[Bp]at h;cases hf:I3 (LR e l) z with
     | none=>rw[hf]at h;cases h | some r=>
      rw[hf]at h;cases h;obtain⟨zv,hzr,hzc⟩:=Hf hz w;obtain⟨out,h1,h2,_⟩:=QD he hg ps.toList l z r zv.cells hc hzc hf;refine⟨_,EA h2,J ?_⟩;unfold Instr.build;simp only[Sem.run_bind,hzr,Result.andThen_ok,run_underlying hu,ANH,Sem.run_map,S4 w hp,Sem.run_pure,hmap];have:(λ(x:Nat)=>(pl.toArray)[x]?)=(λx=>pl[x]?):=by funext x;simp
      simp only[this,h1,Sem.run_pure,Array.toArray_toList]
  ·rename_i n el z hu hz
   cases hp:HU P el with
   | none=>rw[hp]at h;cases h | some s=>
    rw[hp]at h;simp only at h;cases hc:E8 G (λi=>some (i*s,s)) ps.toList with
    | none=>rw[hc]at h;cases h | some l=>
     rw[hc]at h;simp only[Bp]at h;cases hf:I3 (LR e l) z with
     | none=>rw[hf]at h;cases h | some r=>
      rw[hf]at h;cases h;obtain⟨zv,hzr,hzc⟩:=Hf hz w;obtain⟨out,h1,h2,_⟩:=QD he hg ps.toList l z r zv.cells hc hzc hf;refine⟨_,EA h2,J ?_⟩;unfold Instr.build;simp only[Sem.run_bind,hzr,Result.andThen_ok,run_underlying hu,E1 hp w,hmap,h1,Sem.run_pure,Array.toArray_toList]
  ·cases h
 | nilCheck x=>
  simp only[Ah,Bp]at h;split at h
  ·rename_i b off hx
   cases h;obtain⟨i,hi,hev⟩:=JZ he hg hx;refine⟨_,DX hi,?_⟩;simp[execOp,hev]
  ·cases h
 | binOp op t x y t'=>
  simp only[Ah,Bp]at h;obtain⟨r,hr,hrun⟩:=wR he hg h w;exact⟨r,hr,J hrun⟩
 | unOp op t x=>
  simp only[Ah,Bp]at h;unfold unV at h;split at h
  ·rename_i k n hx;cases h
   refine⟨_,rfl,J ?_⟩;rw[HD he hg hx];rfl
  ·rename_i k n hx;cases h
   refine⟨_,rfl,J ?_⟩;rw[HD he hg hx];rfl
  ·rename_i b hx;cases h
   refine⟨_,rfl,J ?_⟩;rw[QF he hg hx];rfl
  ·cases h
 | convert s d x=>
  simp only[Ah]at h;unfold wN at h;split at h
  ·rename_i ds k hs hd
   simp only[Bp]at h;split at h
   ·rename_i k' n hx;cases h
    refine⟨_,rfl,J ?_⟩;rw[HD he hg hx];simp[convert,run_underlying hs,run_underlying hd,Conv.intToInt]
   ·cases h
  ·rename_i hs hd
   simp only[Bp]at h;split at h
   ·rename_i l hx;cases h
    refine⟨_,rfl,J ?_⟩;rw[M3 he hg hx];simp[convert,run_underlying hs,run_underlying hd]
   ·cases h
  ·split at h<;>(simp only[Bp]at h;cases h)
  ·split at h<;>(simp only[Bp]at h;cases h)
  ·simp only[Bp]at h;cases h
 | makeInterface t x=>
  simp only[Ah]at h;split at h
  ·cases h
  ·rename_i d hni hu
   simp only[Bp]at h;split at h
   ·rename_i hl;cases h
    have hc:=ev he hg rfl hl;refine⟨.iface t (a.eval x),by simp only[BE,hc],J ?_⟩;unfold Instr.makeInterface;rw[Sem.run_bind,run_underlying hu,Result.andThen_ok];split
    ·rename_i m;exact(hni m rfl).elim
    ·rfl
   ·cases h
  ·cases h
 | makeFunc fn f c=>
  cases fn with
  | func f'=>
   simp only[Ah,Bp]at h;split at h
   ·rename_i hl
    simp only[AI]at hl;cases h;have h1:=evs he hg f.toList hl.1;have h2:=evs he hg c.toList hl.2;refine⟨_,ZU h1 h2,J ?_⟩;have e1:∀q:Array Operand,AAJ a.eval q=(List.map a.eval q.toList).toArray:=λq=>by apply Hq;simp
    simp[Instr.makeFunc,e1]
   ·cases h
  | _=>simp only[Ah,Bp]at h;cases h
 | slice t x lo hi mx=>
  simp only[Ah]at h;split at h
  ·cases h
  ·rename_i hmx
   have hmx':mx.isSome=true->hi.isSome=true:=by
    intro hm;cases hh:hi.isSome<;>simp_all
   split at h
   ·rename_i hu
    split at h
    ·obtain⟨r,hr,hrun⟩:=Ut he hg hu h w
     exact⟨r,hr,J hrun⟩
    ·cases h
   ·rename_i el hu
    cases hs:HU P el with
    | none=>rw[hs]at h;cases h | some s=>
     rw[hs]at h;obtain⟨r,hr,hrun⟩:=iq he hg hu hs hmx' h w;exact⟨r,hr,J hrun⟩
   ·rename_i n el hu
    cases hs:HU P el with
    | none=>rw[hs]at h;cases h | some s=>
     rw[hs]at h;obtain⟨r,hr,hrun⟩:=Uu he hg hu hs hmx' h w;exact⟨r,hr,J hrun⟩
   ·cases h
 | fieldAddr s x f=>
  simp only[Ah]at h;split at h
  ·rename_i fs hu
   split at h
   ·rename_i fd hf
    split at h
    ·split at h<;>(simp only[Bp]at h;cases h)
    ·rename_i n hn hs
     simp only[Bp]at h;split at h
     ·rename_i b off hx;cases h
      obtain⟨i,hi,hev⟩:=JZ he hg hx;refine⟨_,DX hi,J ?_⟩;unfold Instr.fieldAt fieldPlace;have hn':n≠0:=λe=>hn (e ▸ rfl);simp[run_underlying hu,hf,Instr.sureAddr,hev,E1 hs w,hn',add_eq,JI]
     ·cases h
    ·cases h
   ·cases h
  ·cases h
 | field s x f=>
  simp only[Ah]at h;split at h
  ·rename_i fs hu
   split at h
   ·rename_i fd hf
    split at h
    ·rename_i n hs
     cases hx:Cv e (Aw G x)with
     | agg l=>
      obtain⟨y,hy,hev⟩:=VW he hg hx;have h':M2 l fd.offset n=some v:=by
       cases n<;>simpa only [Bp,hx,M2]using h
      obtain⟨r,hr,hrun⟩:=cU hs hy h' w;refine⟨r,hr,J ?_⟩;unfold Instr.field;simp[run_underlying hu,hf,asAgg,hev,hrun]
     | _=>cases n<;>(simp only[Bp,hx]at h;cases h)
    ·cases h
   ·cases h
  ·cases h
 | indexAddr t x i=>
  simp only[Ah]at h;split at h
  ·rename_i el hu
   split at h
   ·rename_i s hs
    simp only[Bp]at h;split at h
    ·rename_i b off len c k n hx hi
     split at h
     ·rename_i hb;cases h
      have hc:=ev he hg hx rfl;obtain⟨j,m,hj,hev,_⟩:=DW hc;refine⟨_,DX hj,J ?_⟩;unfold Instr.indexAt;simp[asIntOf,HD he hg hi,run_underlying hu,hev,hb,E1 hs w,add_eq,JI]
     ·cases h
    ·cases h
   ·cases h
  ·rename_i len el hu
   split at h
   ·rename_i s hs
    simp only[Bp]at h;split at h
    ·rename_i b off k n hx hi
     split at h
     ·rename_i hb;cases h
      obtain⟨j,hj,hev⟩:=JZ he hg hx;refine⟨_,DX hj,J ?_⟩;unfold Instr.indexAt;simp[asIntOf,HD he hg hi,run_underlying hu,hev,Instr.sureAddr,hb,E1 hs w,add_eq,JI]
     ·cases h
    ·cases h
   ·cases h
  ·cases h
 | index t x i=>
  simp only[Ah]at h;split at h
  ·rename_i hu
   simp only[Bp]at h;split at h
   ·rename_i s k n hx hi
    split at h
    ·rename_i h0
     split at h
     ·rename_i hc;cases h
      simp only[Cs]at hc;refine⟨_,rfl,J ?_⟩;unfold Instr.index;have hb:(ByteArray.mk s.toList.toArray)[n.toNat]? = some (UInt8.ofNat (s.get n.toNat)):=by
       have hlt:n.toNat<s.toList.length:=by rw[BS.length_toList];exact hc
       have hsz:(ByteArray.mk s.toList.toArray).size=s.toList.length:=by simp[ByteArray.size]
       have hcc:=BS.getElem?_toList s n.toNat;rw[if_pos hc]at hcc;rw[getElem?_pos (ByteArray.mk s.toList.toArray) n.toNat (by omega)];rw[AV hlt]at hcc;simp only[AP.injEq]at hcc ⊢;rw[<-hcc];rfl
      have hgl:s.get n.toNat % 256=s.get n.toNat:=Fy (s.get_lt _)
      simp[asIntOf,HD he hg hi,run_underlying hu,M3 he hg hx,h0,hb,hgl]
     ·cases h
    ·cases h
   ·cases h
  ·rename_i n el hu
   split at h
   ·rename_i z s hz hs
    simp only[Bp]at h
    split at h
    ·rename_i l k m hx hi
     split at h
     ·rename_i hc
      obtain⟨y,hy,hev⟩:=VW he hg hx
      obtain⟨r,hr,hrun⟩:=cU hs hy h w
      refine⟨r,hr,J ?_⟩
      unfold Instr.index
      simp[asIntOf,HD he hg hi,run_underlying hu,hev,hc,E1 hz w,hrun]
     ·cases h
    ·cases h
   ·simp only[Bp]at h;cases h
  ·simp only[Bp]at h;cases h
 | extract x i=>
  simp only[Ah,Bp]at h
  split at h
  ·rename_i l hx
   obtain⟨y,hy,hev⟩:=ABU he hg hx
   obtain⟨r,hr,hk⟩:=E6 hy h
   refine⟨r,hr,J ?_⟩
   unfold Instr.extract
   rw[hev]
   simp[hk]
  ·cases h
 | call c=>
  obtain⟨callee,args,argTypes⟩:=c
  cases callee with
  | value f=>cases f<;>(simp only[Ah,Bp]at h;cases h)
  | invoke r m=>simp only[Ah,Bp]at h;cases h
  | builtin b=>
   simp only[Ah]at h
   obtain⟨r,hr,hrun⟩:=oF he hg b argTypes ty (args.map fun|.const _=>true|_=>false) args h w
   refine⟨r,hr,?_⟩
   simp only[execOp,resolve,Sem.run_bind,Sem.run_pure,Result.andThen_ok,invoke]
   exact hrun
 | buildSlice t n ps=>simp only[Ah]at h;(repeat' split at h)<;>(simp only[Bp]at h;cases h)
 | makeSlice t l c=>simp only[Ah]at h;(repeat' split at h)<;>(simp only[Bp]at h;cases h)
 | alloc t=>simp only[Ah]at h;(repeat' split at h)<;>(simp only[Bp]at h;cases h)
 | load t x=>
  simp only[Ah]at h
  split at h
  ·rename_i hs
   simp only[Bp]at h
   split at h
   ·rename_i b off hx
    simp only[AP.injEq]at h;subst h
    obtain⟨i,hi,hev⟩:=JZ he hg hx
    obtain⟨h1,h2⟩:=MA hs w
    refine⟨_,EA rfl,J ?_⟩
    unfold Instr.loadAt loadVar
    have h0:∀b:Addr,(loadCells b 0).run P w = .ok #[] w:=λb=>rfl
    simp[Instr.sureAddr,hev,h1,h2 0 rfl,h0]
   ·cases h
  ·simp only[Bp]at h;cases h
  ·simp only[Bp]at h;cases h
 | store t x y=>simp only[Ah]at h;(repeat' split at h)<;>(simp only[Bp]at h;cases h)
 | box t x=>simp only[Ah]at h;(repeat' split at h)<;>(simp only[Bp]at h;cases h)
 | makeMap t r=>cases r<;>(simp only[Ah,Bp]at h;cases h)
 | lookup t x y ok=>cases ok<;>simp only[Ah]at h<;>first | (simp only[Bp]at h;cases h;done) | ((repeat' split at h)<;>(simp only[Bp]at h;cases h))
 | mapUpdate t x y z=>simp only[Ah]at h;(repeat' split at h)<;>(simp only[Bp]at h;cases h)
 | _=>simp only[Ah,Bp]at h;cases h
end Go.Og
namespace Go.Og
variable {P:Program}{G:Nat->Bool}{R:Ren}{e:Cb}{a:Act}{C:Cx}{U:H}{w:World}
theorem ER.globOk(h:ER C R U w):EV C.G R:=h.glob
theorem QH{b k a e d}(h:w.heap[b]? = some (.cells a e d)):w.cell? ⟨b,k,none⟩=a[k]? := by
 simp[World.cell?,h]
theorem Ly.cells{l:List V}{s off n o}(h:Ly R s l o)(I:off+n<=l.length):
  ∃xs,BL R ((l.drop off).take n)=some xs/\(∀x∈xs,x.oneCell'=true)/\∀j v,xs[j]? = some v->o[s+off+j]? = some v:=by
 induction n generalizing off with
 | zero=>exact⟨[],by simp[BL],by simp,by simp⟩ | succ n F=>
  obtain⟨xs,C,G,E⟩:=F (off:=off+1) (by omega);have i:off<l.length:=by omega
  obtain⟨x,B,k,z⟩:=h off l[off] (AV i);refine⟨x::xs,?_,?_,?_⟩
  ·rw[EE i,th]
   exact Bm.2 ⟨x,xs,B,C,rfl⟩
  ·intro y t
   rcases BK.1 t with rfl|t
   ·exact k
   ·exact G y t
  ·intro j v p
   cases j with
   | zero=>simp at p;subst p;simpa using z | succ j=>simp at p;have:=E j v p;rw[show s+off+(j+1)=s+(off+1)+j by omega];exact this
theorem ER.readN(h:ER C R U w){id off n}{l:List V}(c:Sb C.E U id off n=some l):
  ∃i xs,R id=some i/\BL R l=some xs/\(∀x∈xs,x.oneCell'=true)/\xs.length=n/\l.length=n/\∀j v,xs[j]? = some v->w.cell? ((⟨i.blk,i.shift+off,none⟩:Addr).add j)=some v:=by
 unfold Sb at c;cases y:rd C.E U id with
 | none=>rw[y]at c;cases c | some m=>
  rw[y]at c;simp only at c;split at c
  ·rename_i z
   simp only[Ag]at z;cases c;obtain⟨i,G,J,I,D,k,g⟩:=h.read y;obtain⟨xs,A,E,B⟩:=g.cells z;have d:((m.drop off).take n).length=n:=by simp;omega
   refine⟨i,xs,D,A,E,by rw[B4 A,d],d,λj v F=>?_⟩;rw[add_eq,QH k];exact B j v F
  ·cases c
theorem RR:∀{l s xs},GX l=some s->BL R l=some xs ->
  ∃m:List Int,xs=m.map (Value.int .u8)/\s=m.map λn=>UInt8.ofNat n.toNat
 | [],s,xs,h,j=>by
  simp only[GX,AP.injEq]at h;subst h;simp only[BL,AP.injEq]at j;subst j;exact⟨[],rfl,rfl⟩
 | v::l,s,xs,h,j=>by
  unfold GX at h;split at h
  ·rename_i f;cases f
  ·rename_i n l' f
   cases f;simp only[BC]at h;obtain⟨r,p,rfl⟩:=h;obtain⟨x,z,y,w,rfl⟩:=Bm.1 j;cases y;obtain⟨m,t,u⟩:=RR p w;exact⟨n::m,by rw[t];rfl,by rw[u];rfl⟩
  ·cases h
theorem OX{t l}(h:Sd P t = .flat l):∃d,P.underlying t=some (.struct d)/\P.stoodInHeld t=false/\IL P d.toList=some l:=by
 unfold Sd at h;split at h
 ·rename_i d p
  refine⟨d,p,?_⟩;unfold GR at h;cases i:(P.stoodInHeld t || P.eqGuardType P.depth t)with
  | true=>rw[i]at h;cases h | false=>
   rw[i]at h;simp only[Ba]at i;cases o:IL P d.toList with
   | none=>rw[o]at h;cases h | some l'=>
    rw[o]at h;simp only[Gx.flat.injEq]at h;subst h;exact⟨i.1,rfl⟩
 ·cases h
theorem Oe{g x y b}(h:eqM g x y=some b):∃l xs f,g = .flat l/\x = .agg xs/\y = .agg f/\FX l xs f=some b:=by
 unfold eqM at h;split at h
 ·exact⟨_,_,_,rfl,rfl,rfl,h⟩
 ·cases h
theorem ABV{t x y b}(h:eqM (Sd P t) x y=some b){u v}(q:BE R x=some u)(r:BE R y=some v) w:
  (Op.equal t u v).run P w = .ok b w:=by
 obtain⟨l,xs,s,g,rfl,rfl,o⟩:=Oe h;obtain⟨j,e,p,f⟩:=OX g;obtain⟨X,n,rfl⟩:=I8 q;obtain⟨Y,k,rfl⟩:=I8 r;have d:P.fieldsOf t=j:=by simp[Program.fieldsOf,e]
 show (Op.equalIn 10000 t (.agg X.toArray) (.agg Y.toArray)).run P w = .ok b w;rw[run_equalIn_agg w 9999 t _ _ (by rw[d];exact e) p,d];exact ML n k 9998 w f o
theorem nS{t d k}(l:P.underlying t=some d)(j:nT d k=true) i n x w:
  (Instr.checkKey i (n+1) t x).run P w = .ok () w:=by
 unfold Instr.checkKey;simp only[Sem.run_bind,run_underlying l,Result.andThen_ok];cases d<;>first | (cases k<;>cases j;done) | simp
theorem Oa{xs v}{X Y:List Value}(C:BL R xs=some X)(N:BL R v=some Y):∀{z l b},
  IL P z=some l->FX l xs v=some b->∀s w,∀f∈z,f.name ≠ "_" -> ∃y,(part f.type X.toArray f.offset).run P w = .ok y w/\(Instr.checkKey s 9999 f.type y).run P w = .ok () w
 | [],l,b,n,h,s,w,f,p,_=>by cases p
 | g::z,l,b,n,h,s,w,f,p,K=>by
  simp only[IL]at n;by_cases M:g.name = "_"
  ·have B:(g.name == "_")=true:=by simp[M]
   rw[B]at n;rcases BK.1 p with rfl|p
   ·exact absurd M K
   ·exact Oa C N n h s w f p K
  ·have B:(g.name == "_")=false:=by simp[M]
   rw[B]at n;cases J:IL P z with
   | none=>rw[J]at n;cases n | some r=>
    rw[J]at n;cases A:P.underlying g.type with
    | none=>simp only[A]at n;cases n | some d=>
     simp only[A]at n;have u:∃k,l=(g.offset,k)::r/\nT d k=true:=by
      cases d<;>simp only[AP.injEq,reduceCtorEq]at n<;>subst n<;>exact⟨_,rfl,rfl⟩
     obtain⟨k,rfl,u⟩:=u;simp only[FX]at h;cases G:Ja k (IN xs g.offset) (IN v g.offset)with
     | none=>simp only[G]at h;cases h | some a=>
      simp only[G]at h;cases t:FX r xs v with
      | none=>simp only[t]at h;cases h | some S=>
       obtain⟨E,O⟩:=O9 G;rcases BK.1 p with rfl|p
       ·obtain⟨x,Q,L⟩:=OS A u C rfl E w
        exact⟨x,L,nS A u s 9998 x w⟩
       ·exact Oa C N J t s w f p K
theorem PA{t x}(h:S8 (Sd P t) x=true){u}(J:BE R x=some u) A w:
  (Instr.checkKey A 10000 t u).run P w = .ok () w:=by
 unfold S8 at h;split at h
 ·rename_i b G
  obtain⟨l,xs,U,q,rfl,B,Q⟩:=Oe G;cases B;obtain⟨K,s,N,F⟩:=OX q;obtain⟨X,I,rfl⟩:=I8 J;have r:=s;clear q G h s N J;have D:(Instr.checkKey A (9999+1) t (.agg X.toArray)).run P w = .ok () w:=by
   unfold Instr.checkKey;simp only[Sem.run_bind,run_underlying r,Result.andThen_ok];rw[<-Array.forIn_toList];have d:=Oa I I F Q A w;generalize K.toList=L at d;induction L with
   | nil=>simp | cons f L v=>
    have v:=v (λy B=>d y (by simp[B]));by_cases C:f.name = "_"
    ·simp only[List.forIn_cons,Sem.run_bind,C,ne_eq,not_true_eq_false,if_false,Result.andThen_ok,Sem.run_pure]
     exact v
    ·obtain⟨y,S,M⟩:=d f (by simp) C
     simp only[List.forIn_cons,Sem.run_bind,C,ne_eq,not_false_eq_true,if_true,Result.andThen_ok,S,M,Sem.run_pure];exact v
  exact D
 ·cases h
theorem Nl{t E}(z:P.underlying t=some (.struct E)){k u}(C:BE R k=some u) w:∀{l p r} (i:Nat),
  TG (Sd P t) k l=some r->FA R l p ->
  (match r with
   | none=>(Instr.findAsking t u p i).run P w = .ok none w | some v=>∃j x,BE R v=some x/\(Instr.findAsking t u p i).run P w = .ok (some (j,x)) w)
 | [],[],r,i,h,_=>by
  simp only[TG,AP.injEq]at h;subst h;simp[Instr.findAsking]
 | (q,v)::l,e::p,r,i,h,g=>by
  obtain⟨D,F,g⟩:=g;simp only[TG]at h;cases s:eqM (Sd P t) k q with
  | none=>rw[s]at h;cases h | some b=>
   rw[s]at h;have A:=ABV s C D w;cases b with
   | true=>
    simp only[AP.injEq]at h;subst h;exact⟨i,e.val,F,by simp[Instr.findAsking,A]⟩
   | false=>
    simp only at h;have B:=Nl z C w (i+1) h g;cases r with
    | none=>simpa[Instr.findAsking,A]using B | some I=>simpa[Instr.findAsking,A]using B
 | [],_::_,_,_,_,g=>g.elim | _::_,[],_,_,_,g=>g.elim
theorem M1{t g}(c:P.underlying t=some (.struct g)) x d w:
  (Instr.findKey t x d).run P w=(Instr.findAsking t x d).run P w:=by
 cases d with
 | nil=>simp[Instr.findKey,run_underlying c,Instr.findNow,Instr.findAsking] | cons e d=>simp[Instr.findKey,run_underlying c,Instr.findNow,Instr.sameNow]
theorem Q3{t}{x:V}(h:S8 (Sd P t) x=true):x.live=true/\∃f,P.underlying t=some (.struct f):=by
 unfold S8 at h;split at h
 ·rename_i b m
  obtain⟨l,xs,n,k,rfl,o,p⟩:=Oe m;obtain⟨f,g,_⟩:=OX k;exact⟨rfl,f,g⟩
 ·cases h
theorem ij{t}(h:(QS P t).live=true) w:∃z,(zeroValue t).run P w = .ok z w/\BE R (QS P t)=some z:=by
 unfold QS at h ⊢;cases g:P.info? t with
 | none=>rw[g]at h;cases h | some i=>
  rw[g]at h;cases d:i.zero with
  | none=>simp only[d]at h;cases h | some z=>
   simp only[d]at h;exact⟨z,by simp[zeroValue,typeInfo,g,d],by simpa only [d]using dQ R z h⟩
theorem ER.mapAt(h:ER C R U w){b l}(j:look U.bl b=some (.map l)):∃i c a,R b=some i/\w.heap[i.blk]? = some (.map c a)/\FA R l c.toList:=by
 obtain⟨i,g,_,c,a,f,k⟩:=h.own b _ j;exact⟨i,c,a,g,f,k⟩
theorem jE(F:ER C R U w){t k Q}(I:P.underlying t=some (.map k Q)){m x v:V}(h:NY (Sd P k) (QS P Q) m x U=some v)
  {T S} (Y:m.live=true->BE R m=some T) (Z:x.live=true->BE R x=some S) :
  ∃y,BE R v=some y/\(Instr.lookup t T S true).run P w = .ok y w:=by
 unfold NY at h;split at h
 ·rename_i b
  split at h
  ·rename_i l hl
   split at h
   ·rename_i O
    obtain⟨K,fs,q⟩:=Q3 O;have B:=Z K;obtain⟨i,X,A,hi,hw,G⟩:=F.mapAt hl;obtain⟨j,W,M⟩:=JS (Y rfl);rw[hi]at W;cases W;subst M;have s:(getObj i.blk).run P w = .ok (.map X A) w:=by simp[getObj,Sem.run,hw]
    have E:=PA O B X.isEmpty w;unfold Instr.lookup;split at h
    ·rename_i u N
     simp only[AP.injEq]at h;subst h;obtain⟨j,y,hy,p⟩:=Nl q B w 0 N G;refine⟨_,Ll (Bm.2 ⟨y,_,hy,Bm.2 ⟨.bool true,[],rfl,rfl,rfl⟩,rfl⟩),?_⟩;simp[run_underlying I,s,E,M1 q,p]
    ·rename_i N
     split at h
     ·rename_i hz
      simp only[AP.injEq]at h;subst h;obtain⟨z,L,J⟩:=ij hz w;have p:=Nl q B w 0 N G;simp only at p;refine⟨_,Ll (Bm.2 ⟨z,_,J,Bm.2 ⟨.bool false,[],rfl,rfl,rfl⟩,rfl⟩),?_⟩;simp[run_underlying I,s,E,M1 q,p,L]
     ·cases h
    ·cases h
   ·cases h
  ·cases h
 ·cases h
theorem XF{s k f}{g:Field}(p:P.underlying s=some (.struct k))(n:k[f]? = some g)(x:HU P g.type=some 0)
  (m:g.offset=0) (t:g.byteOffset=0) (q:P.cellsOf s=0) {v a l} (u:v = .pointer (some ⟨a,l,none⟩)) {r} (e:w.heap[a]? = some (.cells #[] s r)) :
  (Instr.fieldAt s v f).run P w = .ok (.pointer (some ⟨a,l,none⟩)) w:=by
 subst u;have i:∀o,(byteOf ⟨a,o,none⟩).run P w = .ok 0 w:=λo=>by
  have h:w.shape? a=some (s,0):=by simp[World.shape?,e]
  unfold byteOf noView viewAt;simp[h,q]
 unfold Instr.fieldAt fieldPlace partAt;simp[run_underlying p,n,Instr.sureAddr,E1 x w,m,t,i]
theorem Nx(J:ER C R U w)(he:Ch R e a.tmps)(o:Oper){v}(h:Cy C.E (Ah P C.G o.op) e U=some v):
  ∃x,BE R v=some x/\(execOp a.eval o).run P w = .ok (.value x) w:=by
 have hg:=J.globOk;have val:∀{s:Sem Value}{x},s.run P w = .ok x w->(do pure (Next.value (<-s)):Sem Next).run P w = .ok (.value x) w:=λhs=>by simp[hs]
 obtain⟨dst,op,ty,pos,after,guard⟩:=o;simp only at h;cases op with
 | load t x=>
  simp only[Ah]at h;cases hs:Hr P t with
  | none=>rw[hs]at h;cases h | some s=>
   rw[hs]at h;have h:Cy C.E (match s with | some 0=>Eg.load0 (Aw C.G x) | s=>Eg.load s (Aw C.G x)) e U=some v:=by
    cases s with
    | none=>exact h | some n=>cases n<;>exact h
   obtain⟨h1,h2⟩:=MA hs w;cases s with
   | none=>
    simp only[Cy]at h;split at h
    ·rename_i b off hx
     split at h
     ·rename_i l hr
      obtain⟨j,hj,K⟩:=JZ he hg hx;obtain⟨i,arr,el,fr,hi,hblk,hold⟩:=J.read hr;rw[hj]at hi;cases hi;obtain⟨y,hy,hone,hay⟩:=hold off v h;refine⟨y,hy,val ?_⟩;have hc:w.cell? ⟨j.blk,j.shift+off,none⟩=some y:=by rw[QH hblk];exact hay
      unfold Instr.loadAt loadVar;simp[Instr.sureAddr,K,h1,hc]
     ·cases h
    ·cases h
   | some n=>
    cases n with
    | zero=>simp only[Cy]at h;cases h | succ n=>
    simp only[Cy]at h;split at h
    ·rename_i b off hx
     split at h
     ·rename_i l hr;cases h
      obtain⟨j,hj,K⟩:=JZ he hg hx;obtain⟨i,xs,hi,hc,_,hlen,_,N⟩:=J.readN hr;rw[hj]at hi;cases hi;refine⟨_,EA hc,val ?_⟩;have hl:=run_loadCells_list (P:=P) w ⟨j.blk,j.shift+off,none⟩ xs N;rw[hlen]at hl;unfold Instr.loadAt loadVar;simp[Instr.sureAddr,K,h1,h2 _ rfl,hl]
     ·cases h
    ·cases h
 | convert s d x=>
  simp only[Ah]at h;unfold wN at h;split at h
  ·simp only[Cy]at h;cases h
  ·simp only[Cy]at h;cases h
  ·split at h<;>(simp only[Cy]at h;cases h)
  ·rename_i el hs hd
   split at h
   ·rename_i hel
    simp only[Cy]at h;split at h
    ·cases h
    rename_i hnostr;split at h
    ·rename_i q l I
     split at h
     ·rename_i str hb
      cases h;refine⟨_,rfl,val ?_⟩;unfold C1 at I;split at I
      ·rename_i hx
       have hc:=ev (a:=a) he hg hx rfl;simp only[BE,AP.injEq]at hc;cases I;simp only[GX,AP.injEq]at hb;subst hb;rw[<-hc,run_convert_bytes_nil w s el hs hel 0 0 d hd];rfl
      ·rename_i b off k z hx
       obtain⟨i,_,_,K⟩:=FJ (ev (a:=a) he hg hx rfl);cases I;simp only[GX,AP.injEq]at hb;subst hb;rw[K,run_convert_bytes_string w s d el _ 0 _ hs hel hd,run_bytesToString w _ 0 _ [] (by simp[loadCells,loadCellsFrom])];rfl
      ·rename_i b off len c hx
       simp only[BC]at I;obtain⟨l',hrd,heq⟩:=I;cases heq;obtain⟨i,m,hi,K,_⟩:=DW (ev (a:=a) he hg hx rfl);obtain⟨i',xs,hi',hc,_,hlen,_,N⟩:=J.readN hrd;rw[hi]at hi';cases hi';obtain⟨ns,rfl,rfl⟩:=RR hb hc;have hl:=run_loadCells_list (P:=P) w ⟨i.blk,i.shift+off,none⟩ _ N;rw[hlen,DO]at hl;rw[K,run_convert_bytes_string w s d el _ _ _ hs hel hd,run_bytesToString w _ _ _ ns hl,foldl_push_bytes];congr 2;apply ByteArray.ext;show #[]++_=_;simp[BS.toList_ofList]
      ·rename_i l' hx
       exact(hnostr (by rw[hx];rfl)).elim
      ·cases I
     ·cases h
    ·cases h
   ·simp only[Cy]at h;cases h
  ·simp only[Cy]at h;cases h
 | call c=>
  obtain⟨callee,args,argTypes⟩:=c;cases callee with
  | value f=>cases f<;>(simp only[Ah,Cy]at h;cases h) | invoke r m=>simp only[Ah,Cy]at h;cases h | builtin b=>
   simp only[Ah,Me]at h;have hno:∀q e1 n m x y,Cy C.E (if q=true then Eg.bad else Eg.append e1 n m x y) e U≠some v:=by
    intro q e1 n m x y;cases q<;>simp[Cy]
   split at h
   ·(repeat' split at h)<;>(simp only[Cy]at h;cases h)
   ·(repeat' split at h)<;>(simp only[Cy]at h;cases h)
   ·split at h
    ·split at h
     ·split at h
      ·exact(hno _ _ _ _ _ _ h).elim
      ·simp only[Cy]at h;cases h
     ·simp only[Cy]at h;cases h
    ·simp only[Cy]at h;cases h
   ·(repeat' split at h)<;>(simp only[Cy]at h;cases h)
   ·simp only[Cy]at h;cases h
   ·simp only[Cy]at h;cases h
   ·simp only[Cy]at h;cases h
 | fieldAddr st x f=>
  simp only[Ah]at h;split at h
  ·rename_i fs hu
   split at h
   ·rename_i fd hf
    split at h
    ·rename_i hz
     split at h
     ·rename_i hc
      simp only[AI,beq_iff_eq]at hc;simp only[Cy]at h;unfold QE at h;split at h
      ·rename_i b hx
       split at h
       ·rename_i t' hb
        split at h
        ·rename_i ht
         have ht:=CJ ht;subst ht;simp only[AP.injEq]at h;subst h;obtain⟨i,hi,_,fr,hblk⟩:=J.own b _ hb;obtain⟨j,hj,K⟩:=JZ (a:=a) he hg hx;rw[hi]at hj;cases hj;refine⟨_,DX hi,val ?_⟩;exact XF hu hf hz hc.1.1 hc.1.2 hc.2 K hblk
        ·cases h
       ·cases h
      ·cases h
     ·simp only[Cy]at h;cases h
    ·simp only[Cy]at h;cases h
    ·simp only[Cy]at h;cases h
   ·simp only[Cy]at h;cases h
  ·simp only[Cy]at h;cases h
 | lookup t x y ok=>
  cases ok with
  | false=>simp only[Ah,Cy]at h;cases h | true=>
   simp only[Ah]at h;split at h
   ·rename_i k el hut
    simp only[Cy]at h;obtain⟨z,hz,hrun⟩:=jE (P:=P) J hut h (λhl=>ev (a:=a) he hg rfl hl) (λhl=>ev (a:=a) he hg rfl hl);exact⟨z,hz,val hrun⟩
   ·simp only[Cy]at h;cases h
 | makeMap t r=>cases r<;>(simp only[Ah,Cy]at h;cases h) | move x=>simp only[Ah,Cy]at h;cases h | assign x=>simp only[Ah,Cy]at h;cases h | makeFunc f x y=>cases f<;>(simp only[Ah,Cy]at h;cases h) | _=>simp only[Ah]at h;first | (simp only[Cy]at h;cases h;done) | ((repeat' split at h)<;>(simp only[Cy]at h;cases h))
theorem Ly.of_concs{l}{xs:List Value}{c}(h:BL R l=some xs)(o:∀x∈xs,x.oneCell'=true)(m:∀k,k<xs.length->c[k]? = xs[k]?):Ly R 0 l c:=by
 intro k v j;obtain⟨x,p,b⟩:=E6 h j;have i:k<xs.length:=by
  rcases Av k xs.length with h|h
  ·exact h
  ·rw[Ae h]at b;cases b
 exact⟨x,p,o x (Il b),by rw[BQ,m k i];exact b⟩
theorem Iq:∀{l xs},BM l=true->BL R l=some xs->∀x∈xs,x.oneCell'=true
 | [],xs,_,f=>by simp only[BL,AP.injEq]at f;subst f;simp
 | v::l,xs,h,f=>by
  obtain⟨x,n,m,k,rfl⟩:=Bm.1 f;simp only[BM,AI]at h;intro y i;rcases BK.1 i with rfl|i
  ·exact(XN h.1 m).2
  ·exact Iq h.2 k y i
theorem Im{w':World}{l:List V}{xs:List Value}{a:Array Value}{e lo c b n}(o:w'.heap[n]? = some (.cells a e (lo,c)))
  (h:BL R l=some xs) (m:∀x∈xs,x.oneCell'=true) (j:∀k,k<xs.length->a[k]? = xs[k]?) (i:b<=a.size) (f:l.length<=b)
  (g:∀off,off<a.size->¬(lo<=off/\off<c)):JC R ⟨n,0,b⟩ (.cells l) w':=
 ⟨a,e,lo,c,o,Ly.of_concs h m j,by simpa using i,f,g⟩
theorem XZ{x}(h:(Fb x).live=true):(Fb x).one=true:=by
 unfold Fb at h ⊢;split at h<;>first | rfl | (cases h)
theorem oX{x:Value}{l}(h:oY x=some l):BM l=true:=by
 unfold oY at h;split at h
 ·rename_i a
  cases h;generalize x.cells.toList=m at a ⊢;induction m with
  | nil=>rfl | cons y m n=>
   simp only[Cf,ig,AI,BM]at a ⊢;exact⟨XZ a.1,n a.2⟩
 ·cases h
theorem So{t l}(h:Ky P t=some l):BM l=true:=by
 unfold Ky at h;cases g:P.info? t with
 | none=>rw[g]at h;cases h | some i=>
  rw[g]at h;cases f:i.zero with
  | none=>simp only[f]at h;cases h | some z=>simp only[f]at h;exact oX h
theorem D8(w:World) o:(w.alloc o).heap[w.heap.size]? = some o:=by simp[World.alloc,-World.alloc_eq]
theorem E7{z d}(h:BL R z=some d):∀n,BL R (Bo n z).flatten=some (Bo n d).flatten
 | 0=>rfl | n+1=>by simp only[tj,ANz];exact Ie h (E7 h n)
theorem Mf:∀{l m},BM l=true->BM m=true->BM (l++m)=true
 | [],m,_,c=>c | v::l,m,a,c=>by
  simp only[BM,Ji,AI]at a ⊢;exact⟨a.1,Mf a.2 c⟩
theorem GS{z}(h:BM z=true):∀n,BM (Bo n z).flatten=true
 | 0=>rfl | n+1=>by simp only[tj,ANz];exact Mf h (GS h n)
theorem vM(b:List Value) n k (p:k<n*b.length):(Bo n b).flatten[k]? = b[k % b.length]? := by
 induction n generalizing k with
 | zero=>omega | succ n q=>
  simp only[tj,ANz];have r:0<b.length:=by
   rcases SV b.length with h|h
   ·rw[h]at p;omega
   ·exact h
  by_cases h:k<b.length
  ·rw[Cu h,Fy h]
  ·have m:(n+1)*b.length=n*b.length+b.length:=Nat.succ_mul n b.length
   rw[Ck (by omega),q _ (by omega)];congr 1;exact(Nat.mod_eq_sub_mod (by omega)).symm
theorem Sy(c:Array Value) n:(Array.range (n*c.size)).map (λi=>c[i % c.size]!)=(Bo n c.toList).flatten.toArray:=by
 apply Hq;apply GZ;intro k;simp only[Array.toList_map,Array.toList_range,BR];by_cases l:k<n*c.size
 ·rw[O2 l,vM _ _ _ (by simpa using l)]
  simp only[CH,FQ];have r:0<c.size:=by
   rcases SV c.size with h|h
   ·rw[h]at l;omega
   ·exact h
  have m:k % c.size<c.size:=AFa _ r;simp[m]
 ·rw[Ae (by simp;omega),Ae (by simp;omega)]
  rfl
end Go.Og
namespace Go.Og
variable {P:Program}{G:Nat->Bool}{R:Ren}{e:Cb}{a:Act}{C:Cx}{U:H}{w:World}
theorem GI.bytes w c s:GI w (Lib.bytesWorld w c s):=
 ⟨λk d=>Lib.bytesWorld_at_old w c s k d,Lib.bytesWorld_size w c s,by simp[Lib.bytesWorld,World.freeze,World.alloc,World.drew,-World.alloc_eq,-World.drew_eq],by simp[Lib.bytesWorld,World.freeze,World.alloc,World.drew,-World.alloc_eq,-World.drew_eq],by simp[Lib.bytesWorld,World.freeze,World.alloc,World.drew,-World.alloc_eq,-World.drew_eq]⟩
theorem M0 R:∀l,BL R (Pu l)=some (l.map λb=>Value.int .u8 b.toNat)
 | []=>rfl | _::l=>Bm.2 ⟨_,_,rfl,M0 R l,rfl⟩
theorem M5{b off n c}{i:BI}(h:R b=some i):BE R (.sl b off n (.ex c))=some (.slice (some ⟨i.blk,i.shift+off,none⟩) n c):=by
 simp only[BE,h,CH]
theorem I6{b off n z}{i:BI}(h:R b=some i)(d:n<=i.cap z off/\i.cap z off<=9223372036854775807):BE R (.sl b off n (.op z))=some (.slice (some ⟨i.blk,i.shift+off,none⟩) n (i.cap z off)):=by
 simp only[BE,h,OG,if_pos d]
theorem mj a old c t:a<=(Question.appendCap a old c).cut t:=by simp[Question.cut]
theorem oD a old c t (h:a<=9223372036854775807):(Question.appendCap a old c).cut t<=9223372036854775807:=by
 show a+t % (2 ^ 63-a)<=_;have:=AFa t (show 0<2 ^ 63-a by omega);omega
theorem QI(he:Ch R e a.tmps)(hg:EV G R)(o:Oper){id:Nat}{v:V}{b:MP}(h:Cz (Ah P G o.op) e id=some (v,b))(hid:R id=none)(w:World):
  ∃x w' i,(execOp a.eval o).run P w = .ok (.value x) w'/\GI w w'/\i.blk=w.heap.size/\BE (JJ R id i) v=some x/\JC (JJ R id i) i b w':=by
 have val:∀{s:Sem Value}{x:Value}{w':World},s.run P w = .ok x w'->(do pure (Next.value (<-s)):Sem Next).run P w = .ok (.value x) w':=λhs=>by simp[hs]
 have hle:∀i,Le R (JJ R id i):=λi k j hk=>by
  by_cases he:k=id
  ·subst he;rw[hid]at hk;cases hk
  ·rw[Bv he];exact hk
 obtain⟨dst,op,ty,pos,after,guard⟩:=o;simp only at h;cases op with
 | alloc t=>
  simp only[Ah]at h;cases hz:Ky P t with
  | none=>rw[hz]at h;simp only[Cz]at h;cases h | some z=>
   rw[hz]at h;cases z with
   | nil=>
    simp only[Cz,AP.injEq,Prod.mk.injEq]at h;obtain⟨rfl,rfl⟩:=h;obtain⟨zv,hzr,hzc⟩:=Hf (P:=P) (R:=R) hz w;have hz0:zv.cells=#[]:=by
     have:=B4 hzc;simp at this;simpa using this
    refine⟨_,_,⟨w.heap.size,0,0⟩,val ?_,GI.of_alloc w (.cells zv.cells t),rfl,DX (CT _ _ _),?_⟩
    ·unfold Instr.alloc
     simp[hzr,newVar,newRow]
    ·exact⟨(0,0),by rw[D8,hz0]⟩
   | cons z0 z=>
   simp only[Cz,AP.injEq,Prod.mk.injEq]at h;obtain⟨rfl,rfl⟩:=h;obtain⟨zv,hzr,_⟩:=Hf (P:=P) (R:=R) hz w;obtain⟨zv',hzr',hzc⟩:=Hf (P:=P) (R:=JJ R id ⟨w.heap.size,0,zv.cells.size⟩) hz w;rw[hzr]at hzr';cases hzr';refine⟨_,_,⟨w.heap.size,0,zv.cells.size⟩,val ?_,GI.of_alloc w (.cells zv.cells t),rfl,DX (CT _ _ _),?_⟩
   ·unfold Instr.alloc
    simp[hzr,newVar,newRow]
   ·refine Im (D8 w _) hzc (Iq (So hz) hzc) (λk _=>by simp) (AL _) ?_ (λ_ _ h=>by omega)
    have:=B4 hzc;simp at this ⊢;omega
 | box t x=>
  simp only[Ah]at h;split at h
  ·simp only[Cz]at h
   split at h
   ·rename_i hx
    simp only[AP.injEq,Prod.mk.injEq]at h;obtain⟨rfl,rfl⟩:=h;obtain⟨l,hl,hev⟩:=VW (a:=a) he hg hx;simp only[BL,AP.injEq]at hl;subst hl;refine⟨_,_,⟨w.heap.size,0,0⟩,val ?_,GI.of_alloc w (.cells #[] t),rfl,DX (CT _ _ _),?_⟩
    ·unfold Instr.box
     simp[hev,newVar,newRow,Value.cells]
    ·exact⟨(0,0),by rw[D8]⟩
   ·cases h
  ·simp only[Cz]at h
   split at h
   ·rename_i hl
    simp only[AI]at hl;simp only[AP.injEq,Prod.mk.injEq]at h;obtain⟨rfl,rfl⟩:=h;have hc:=ev (a:=a) he hg rfl hl.1;have hcs:=I7 hc;refine⟨_,_,⟨w.heap.size,0,(a.eval x).cells.size⟩,val ?_,GI.of_alloc w (.cells (a.eval x).cells t),rfl,DX (CT _ _ _),?_⟩
    ·unfold Instr.box
     simp[newVar,newRow]
    ·have hcs':=FI (hle ⟨w.heap.size,0,(a.eval x).cells.size⟩) _ _ hcs
     refine Im (D8 w _) hcs' (Iq hl.2 hcs') (λk _=>by simp) (AL _) ?_ (λ_ _ h=>by omega);have:=B4 hcs;simp at this;omega
   ·cases h
 | buildSlice t n ps=>
  simp only[Ah]at h;split at h
  ·rename_i el hu
   split at h
   ·rename_i s z hs hz
    cases hc:E8 G (λi=>some (i*s,s)) ps.toList with
    | none=>rw[hc]at h;simp only[Cz]at h;cases h | some l=>
     rw[hc]at h;simp only at h;split at h
     ·simp only[Cz]at h;cases h
     ·rename_i hcond
      simp only[HR,Ba,decide_eq_false_iff_not,bne_eq_false_iff_eq]at hcond;obtain⟨hsmall,hzl⟩:=hcond;simp only[Cz]at h;cases hf:I3 (LR e l) (Bo n z).flatten with
      | none=>rw[hf]at h;cases h | some r=>
       rw[hf]at h;simp only at h;split at h
       ·rename_i hone
        simp only[AP.injEq,Prod.mk.injEq]at h;obtain⟨rfl,rfl⟩:=h;obtain⟨zv,hzr,hzc⟩:=Hf (P:=P) (R:=R) hz w;have J:zv.cells.size=s:=by have:=B4 hzc;simp at this;omega
        have hzz:=E7 hzc n;obtain⟨out,h1,h2,h3⟩:=QD (a:=a) he hg ps.toList l _ r (Bo n zv.cells.toList).flatten.toArray hc (by simpa using hzz) hf;have hrun:(Instr.buildSlice t n (ps.map λ(i,x)=>(i,a.eval x))).run P w = .ok (.slice (some ⟨w.heap.size,0,none⟩) n n) (w.alloc (.cells out el)):=by
         have hmap:(ps.map (λ(x:Nat × Operand)=>(x.1,a.eval x.2))).toList=ps.toList.map (λ(x:Nat × Operand)=>(x.1,a.eval x.2)):=Array.toList_map;unfold Instr.buildSlice;simp only[Sem.run_bind,run_underlying hu,Result.andThen_ok,E1 hs w];rw[if_neg (by simpa using hsmall)];by_cases h0:n*s=0
         ·rw[if_pos h0]
          simp only[Sem.run_pure,Result.andThen_ok,hmap];have hemp:(Bo n zv.cells.toList).flatten.toArray=#[]:=by
           apply Hq;apply Bc;simp[J,h0]
          rw[hemp]at h1;have hr0:∀f:Nat->Value,(Array.range (n*s)).map f=#[]:=λf=>by rw[h0];apply Hq;simp
          simp only[Sem.run_pure,Result.andThen_ok,hmap,hr0,h1,Sem.run_bind,newRow,run_newObj];rfl
         ·rw[if_neg h0]
          simp only[Sem.run_bind,hzr,Result.andThen_ok,Sem.run_pure,hmap];have hr:=Sy zv.cells n;rw[J]at hr;simp only[J,hr,h1,Sem.run_bind,newRow,run_newObj,Result.andThen_ok,Sem.run_pure];rfl
        refine⟨_,_,⟨w.heap.size,0,out.size⟩,val hrun,GI.of_alloc w _,rfl,?_,?_⟩
        ·exact M5 (CT _ _ _)
        ·have hcs':=FI (hle ⟨w.heap.size,0,out.size⟩) _ _ h2
         refine Im (D8 w _) hcs' (Iq hone hcs') (λk _=>by simp) (AL _) ?_ (λ_ _ h=>by omega);have:=B4 h2;simp at this;omega
       ·cases h
   ·simp only[Cz]at h;cases h
  ·simp only[Cz]at h;cases h
 | convert s d x=>
  simp only[Ah]at h;unfold wN at h;split at h
  ·simp only[Cz]at h;cases h
  ·simp only[Cz]at h;cases h
  ·rename_i el hs hd
   split at h
   ·rename_i hel
    simp only[Cz]at h;split at h
    ·rename_i l hx
     split at h
     ·rename_i hble
      have hl12:l.toList.length<=9223372036854775807:=by rw[BS.length_toList];have:=Nat.le_of_ble_eq_true hble;omega
      simp only[AP.injEq,Prod.mk.injEq]at h;obtain⟨rfl,rfl⟩:=h;have hev:=M3 (a:=a) he hg hx;rw[<-BS.length_toList];generalize l.toList=l at *;have hsz:(ByteArray.mk l.toArray).size=l.length:=by simp[ByteArray.size]
      have hcap:l.length<=grownCap w l.length 0 el:=mj _ _ _ _;have hcap2:grownCap w l.length 0 el<=9223372036854775807:=oD _ _ _ _ hl12;have hcells:(Lib.bytesCells w el ⟨l.toArray⟩).size=grownCap w l.length 0 el:=by
       simp[Lib.bytesCells,hsz];omega
      refine⟨_,_,⟨w.heap.size,0,(Lib.bytesCells w el ⟨l.toArray⟩).size⟩,val (by rw[hev];exact Lib.run_convert_string_bytes w s d el _ hs hd hel),GI.bytes w el _,rfl,?_,?_⟩
      ·rw[I6 (CT _ _ _) (by simp[BI.cap,hcells];exact⟨hcap,hcap2⟩)]
       simp[BI.cap,hcells,hsz]
      ·refine Im (Lib.bytesWorld_at_new w el _) (M0 _ l) (by simp;intro x _;rfl) (λk hk=>?_) (AL _) (by rw[hcells];simpa[Pu]using hcap) (λoff h1 h2=>by omega)
       simp only[DD]at hk;simp[Lib.bytesCells,Array.getElem?_append,hk]
     ·cases h
    ·cases h
   ·simp only[Cz]at h;cases h
  ·split at h<;>(simp only[Cz]at h;cases h)
  ·simp only[Cz]at h;cases h
 | makeMap t r=>
  cases r with
  | some r=>simp only[Ah,Cz]at h;cases h | none=>
   simp only[Ah,Cz,AP.injEq,Prod.mk.injEq]at h;obtain⟨rfl,rfl⟩:=h;refine⟨.map (some w.heap.size),w.alloc (.map #[] 0),⟨w.heap.size,0,0⟩,val ?_,GI.of_alloc w (.map #[] 0),rfl,by simp only[BE,CT,CH],⟨#[],0,D8 w _,trivial⟩⟩;simp[Instr.makeMap]
 | makeSlice t ln cp=>
  simp only[Ah]at h;split at h
  ·rename_i el hu
   split at h
   ·rename_i i z hi hz
    split at h
    ·simp only[Cz]at h;cases h
    ·rename_i hzl
     simp only[HR,bne_eq_false_iff_eq]at hzl;simp only[Cz]at h;split at h
     ·rename_i n c hn hc
      split at h
      ·rename_i hcond
       obtain⟨h0,h1,h2,h3⟩:=hcond;simp only[AP.injEq,Prod.mk.injEq]at h;obtain⟨rfl,rfl⟩:=h;obtain⟨zv,hzr,hzc⟩:=Hf (P:=P) (R:=R) hz w;have J:zv.cells.size=i.size:=by have:=B4 hzc;simp at this;omega
       have hzz:=E7 hzc c.toNat
       have hwn:IntKind.i64.wrap n=n:=IntWalk.i64_in n ⟨by omega,by omega⟩
       have hwc:IntKind.i64.wrap c=c:=IntWalk.i64_in c ⟨by omega,by omega⟩
       have hrun:(Instr.makeSlice t (a.eval ln) (a.eval cp)).run P w = .ok (.slice (some ⟨w.heap.size,0,none⟩) n.toNat c.toNat) (w.alloc (.cells (Bo c.toNat zv.cells.toList).flatten.toArray el)):=by
        rw[HD (a:=a) he hg hn,HD (a:=a) he hg hc]
        unfold Instr.makeSlice
        have hti:(typeInfo el).run P w = .ok i w:=by simp[typeInfo,hi]
        have hsz:(sizeOf el).run P w = .ok i.size w:=by simp[sizeOf,typeInfo,hi]
        simp only[Sem.run_bind,run_underlying hu,Result.andThen_ok,asInt,asIntOf,Sem.run_pure,hti,hwn,hwc]
        have ht1:(decide (c<0) || decide ((i.bytes:Int)*c > 2 ^ 48))=false:=by
         rw[Int.mul_comm]at h2
         simp;omega
        have ht2:decide (n<0)=false:=by simp;omega
        have ht3:decide (n > c)=false:=by simp;omega
        simp only[ht1,ht2,ht3,EW,C7,CF,if_false,Sem.run_bind,run_askRoom,Result.andThen_ok,hsz]
        by_cases hz0:c.toNat*i.size=0
        ·rw[if_pos hz0]
         simp only[Sem.run_pure,Result.andThen_ok,newRow,Sem.run_bind,run_newObj,hz0]
         have hemp:(Bo c.toNat zv.cells.toList).flatten.toArray=#[]:=by
          apply Hq
          apply Bc
          simp[J,hz0]
         rw[hemp]
         have hr0:∀f:Nat->Value,(Array.range 0).map f=#[]:=λf=>by apply Hq;simp
         rw[hr0];rfl
        ·rw[if_neg hz0]
         have hr:=Sy zv.cells c.toNat
         rw[J]at hr
         simp only[Sem.run_bind,hzr,Result.andThen_ok,Sem.run_pure,newRow,run_newObj,J,hr]
         rfl
       refine⟨_,_,⟨w.heap.size,0,(Bo c.toNat zv.cells.toList).flatten.length⟩,val hrun,GI.of_alloc w _,rfl,M5 (CT _ _ _),?_⟩
       have hcs':=FI (hle ⟨w.heap.size,0,(Bo c.toNat zv.cells.toList).flatten.length⟩) _ _ hzz
       refine Im (D8 w _) hcs' (Iq (GS (So hz) _) hcs') (λk _=>by simp) (by simp) ?_ (λ_ _ h=>by omega)
       have:=B4 hzz
       omega
      ·cases h
     ·cases h
   ·simp only[Cz]at h;cases h
  ·simp only[Cz]at h;cases h
 | call c=>
  obtain⟨callee,args,argTypes⟩:=c
  cases callee with
  | value f=>cases f<;>(simp only[Ah,Cz]at h;cases h)
  | invoke r m=>simp only[Ah,Cz]at h;cases h
  | builtin b'=>
   simp only[Ah,Me]at h
   have hno:∀(q:Bool) (e1:TypeId) (n m:Nat) (x y:AO),Cz (if q=true then Eg.bad else Eg.append e1 n m x y) e id≠some (v,b):=by
    intro q e1 n m x y;cases q<;>simp[Cz]
   split at h
   ·(repeat' split at h)<;>(simp only[Cz]at h;cases h)
   ·(repeat' split at h)<;>(simp only[Cz]at h;cases h)
   ·split at h
    ·split at h
     ·split at h
      ·exact(hno _ _ _ _ _ _ h).elim
      ·simp only[Cz]at h;cases h
     ·simp only[Cz]at h;cases h
    ·simp only[Cz]at h;cases h
   ·(repeat' split at h)<;>(simp only[Cz]at h;cases h)
   ·simp only[Cz]at h;cases h
   ·simp only[Cz]at h;cases h
   ·simp only[Cz]at h;cases h
 | lookup t x y ok=>cases ok<;>simp only[Ah]at h<;>first | (simp only[Cz]at h;cases h;done) | ((repeat' split at h)<;>(simp only[Cz]at h;cases h))
 | move x=>simp only[Ah,Cz]at h;cases h
 | assign x=>simp only[Ah,Cz]at h;cases h
 | makeFunc f x y=>cases f<;>(simp only[Ah,Cz]at h;cases h)
 | _=>simp only[Ah]at h;first | (simp only[Cz]at h;cases h;done) | ((repeat' split at h)<;>(simp only[Cz]at h;cases h))
end Go.Og
namespace Go.Og
variable {P:Program}{G:Nat->Bool}{R:Ren}{e:Cb}{a:Act}{C:Cx}{U:H}{w:World}
structure qs(b:Nat)(w w':World):Prop where
 old:∀k,k≠b->w'.heap[k]? = w.heap[k]?
 size:w'.heap.size=w.heap.size
 os:w'.os=w.os
 tape:w'.tape=w.tape
 output:w'.output=w.output
theorem MZ b:∀(vs:List Value) o (w:World) (c:Array Value) i j,w.heap[b]? = some (.cells c i j) ->
  qs b w (w.setCells b o vs)/\∃f,(w.setCells b o vs).heap[b]? = some (.cells f i j)/\f.size=c.size /\
   ∀k,f[k]? = if o<=k/\k<o+vs.length/\k<c.size then vs[k-o]? else c[k]?
 | [],o,w,c,i,j,h=>⟨⟨λ_ _=>rfl,rfl,rfl,rfl,rfl⟩,c,h,rfl,λk=>by rw[if_neg (by simp;omega)]⟩ | v::vs,o,w,c,i,j,h=>by
  have u:(w.setCell ⟨b,o,none⟩ v).heap[b]? = some (.cells (c.setIfInBounds o v) i j):=by
   simp[World.setCell,Array.getElem?_modify,h]
  obtain⟨m,f,x,z,y⟩:=MZ b vs (o+1) _ _ i j u;refine⟨⟨λk l=>?_,?_,m.os,m.tape,m.output⟩,f,x,by rw[z,EY],λk=>?_⟩
  ·rw[World.setCells,m.old k l]
   simp[World.setCell,Array.getElem?_modify,Ne.symm l]
  ·rw[World.setCells,m.size,World.size_setCell]
  ·rw[y,EY,BN]
   by_cases l:o=k
   ·subst l
    rw[if_neg (by omega),if_pos rfl];by_cases s:o<c.size
    ·rw[if_pos s,if_pos (by simp;omega)];simp
    ·rw[if_neg s,if_neg (by omega),CO (by omega)]
   ·rw[if_neg l]
    by_cases r:o+1<=k/\k<o+1+vs.length/\k<c.size
    ·rw[if_pos r,if_pos (by simp;omega)]
     have:k-o=(k-(o+1))+1:=by omega
     rw[this,DH]
    ·rw[if_neg r,if_neg (by simp only[AK];omega)]
theorem Qd{b o lo n}{d:Array Value}{q}(h:w.heap[b]? = some (.cells d q (lo,n)))(A:∀off,off<d.size->¬(lo<=off/\off<n))
  {xs:List Value} (u:∀x∈xs,x.oneCell'=true) (t:o+xs.length<=d.size) :
  ∃w',(storeCells ⟨b,o,none⟩ xs).run P w = .ok () w'/\qs b w w'/\∃c,w'.heap[b]? = some (.cells c q (lo,n))/\c.size=d.size /\
   ∀k,c[k]? = if o<=k/\k<o+xs.length then xs[k-o]? else d[k]? := by
 have g:=run_storeCells_cells (P:=P) b o xs 0 w
  (λj C=>by
   rw[QH h,OJ];have:o+j<d.size:=by omega
   simp[this])
  (λj C=>by
   have r:o+j<d.size:=by omega
   simp only[World.frozen?,h,OJ];have:=A (o+j) r;simp;omega) u
 obtain⟨B,c,z,y,v⟩:=MZ b xs (o+0) w d q (lo,n) h;refine⟨_,g,B,c,z,y,λk=>?_⟩;rw[v];simp only[OJ];by_cases s:o<=k/\k<o+xs.length
 ·rw[if_pos s,if_pos (by omega)]
 ·rw[if_neg s,if_neg (by omega)]
theorem QW(g:ER C R U w){b off}{l y:List V}{xs}(K:look U.bl b=some (.cells l))(n:BL R y=some xs)(T:BM y=true)
  (W:off+y.length<=l.length) {i:BI} (J:R b=some i) :
  ∃w',(storeCells ⟨i.blk,i.shift+off,none⟩ xs).run P w = .ok () w'/\ER C R (U.set b (.cells (Gj l off y))) w':=by
 obtain⟨j,O,hO,X,Y,lo,D,t,q,G,A,I⟩:=g.own b _ K;rw[J]at O;cases O;have S:=B4 n;have h:=Iq T n;obtain⟨w',s,z,u,Q,Z,N⟩:=Qd (o:=i.shift+off) t I h (by omega);refine⟨w',s,g.write K J ?_ z.old z.size z.os z.tape z.output⟩;refine⟨u,Y,lo,D,Q,?_,by omega,by rw[Iv];exact A,λo L=>I o (by omega)⟩;intro k v r;rw[NM]at r;by_cases M:off<=k/\k<off+y.length
 ·rw[if_pos M,if_pos (by omega)]at r
  obtain⟨x,E,f⟩:=E6 n r;refine⟨x,E,h x (Il f),?_⟩;rw[N,if_pos (by omega)];rw[show i.shift+k-(i.shift+off)=k-off by omega];exact f
 ·rw[if_neg M]at r
  obtain⟨x,E,L,f⟩:=q k v r;refine⟨x,E,L,?_⟩;rw[N,if_neg (by omega)];exact f
theorem Qg(F:ER C R U w){p n x l u}(h:C1 C.E U p x=some (n,l))(G:BE R x=some u):
  ∃xs,BL R l=some xs/\(∀y∈xs,y.oneCell'=true)/\(Builtin.lenOf u).run P w = .ok n w/\xs.length=n*p /\
   ∀m,m<=n->(Builtin.firstCells p m u).run P w = .ok (xs.take (m*p)).toArray w:=by
 unfold C1 at h;split at h
 ·cases h;cases G
  exact⟨[],rfl,by simp,rfl,by simp,λm W=>by simp[Builtin.firstCells]⟩
 ·cases h
  obtain⟨i,_,_,rfl⟩:=FJ G;refine⟨[],rfl,by simp,rfl,by simp,λm W=>?_⟩;have:m=0:=by omega
  subst this;simp[Builtin.firstCells,loadCells,loadCellsFrom]
 ·rename_i b off len c
  simp only[BC]at h;obtain⟨l',T,O⟩:=h;cases O;obtain⟨i,m,Z,rfl,_⟩:=DW G;obtain⟨i',xs,D,hc,E,r,_,A⟩:=F.readN T;rw[Z]at D;cases D;refine⟨xs,hc,E,rfl,r,λk hk=>?_⟩;have N:k*p<=xs.length:=by rw[r];exact Et _ hk
  have X:=run_loadCells_list (P:=P) w ⟨i.blk,i.shift+off,none⟩ (xs.take (k*p)) (λj v I=>by
   rw[CY]at I;split at I
   ·exact A j v I
   ·cases I)
  rw[Bn,Gi N]at X;simp only[Builtin.firstCells];exact X
 ·rename_i s
  split at h
  ·rename_i Y
   cases h;cases G;rw[<-BS.length_toList];generalize s.toList=s at *;have L:(ByteArray.mk s.toArray).size=s.length:=by simp[ByteArray.size]
   refine⟨_,M0 R s,by simp;intro x _;rfl,by simp[Builtin.lenOf,L],by simp[Y],λm W=>?_⟩;simp only[Builtin.firstCells,Sem.run_pure];congr 1;apply Hq;rw[Y,DO,ByteArray.data_extract];simp[List.map_take]
  ·cases h
 ·cases h
theorem ZG{a old bytes}(h:old<a)(d:CX a bytes=true):Builtin.nextslicecap a old*bytes<=281474976710656/\(a:Int)<=9223372036854775807:=by
 simp only[CX,AI,Ag]at d;exact⟨growslice_fits h d.1,by omega⟩
set_option maxHeartbeats 800000 in
theorem VP(hrel:ER C R U w){t u ty el:TypeId}{i:TypeInfo}{z:Value}(ht:P.underlying t=some (.slice el)){du:TypeDesc}(hu:P.underlying u=some du)
  (hnot:du = .string\/∃d,du = .slice d) (hi:P.info? el=some i) (hz:i.zero=some z) (hzs:z.cells.size=i.size)
  {base:Option Addr}{sLen sCap n:Nat}{x:Value}{old new:List Value}{lo ln:List V}
  (hlo:BL R lo=some old) (hln:BL R ln=some new) (h1o:∀y∈old,y.oneCell'=true) (h1n:∀y∈new,y.oneCell'=true)
  (hold:old.length=sLen*i.size) (hnew:new.length=n*i.size)
  (hlen:(Builtin.lenOf x).run P w = .ok n w) (hgo:∀d,(Builtin.firstCells i.size sLen (.slice base sLen sCap)).run P { w with drawn:=d } = .ok old.toArray { w with drawn:=d })
  (hgn:∀d,(Builtin.firstCells i.size n x).run P { w with drawn:=d } = .ok new.toArray { w with drawn:=d })
  (hlt:sCap<sLen+n) (hgr:CX (sLen+n) i.bytes=true) (_hpos:0<i.size) :
  ∃w' c,(Builtin.append_ #[t,u] ty #[.slice base sLen sCap,x]).run P w = .ok (.slice (some ⟨w.heap.size,0,none⟩) (sLen+n) c) w' /\
   ER C (JJ R U.next ⟨w.heap.size,0,c*i.size⟩) (U.add (.cells (lo++ln))) w'/\sLen+n<=c/\c<=9223372036854775807:=by
 obtain⟨hfit,h63⟩:=ZG hlt hgr
 have hzero:∀d,(zeroValue el).run P { w with drawn:=d } = .ok z { w with drawn:=d }:=λd=>by simp[zeroValue,typeInfo,hi,hz]
 let c:=(Question.appendCap (sLen+n) sCap el).cut (w.tape w.drawn (.appendCap (sLen+n) sCap el))
 have hc:sLen+n<=c:=mj _ _ _ _
 let arr:=old.toArray++new.toArray++Builtin.zeroCells z.cells (c-(sLen+n))
 let w1:World:={ w with drawn:=w.drawn+1 }
 have hrun:(Builtin.append_ #[t,u] ty #[.slice base sLen sCap,x]).run P w = .ok (.slice (some ⟨w.heap.size,0,none⟩) (sLen+n) c) (w1.alloc (.cells arr el)):=by
  have hn1:¬(sLen+n<=sCap):=by omega
  have h63':¬(9223372036854775807<((sLen:Int)+(n:Int))):=by omega
  have hfit':¬(281474976710656<Builtin.nextslicecap (sLen+n) sCap*i.bytes):=by omega
  have hgo':(Builtin.firstCells i.size sLen (.slice base sLen sCap)).run P w.drew = .ok old.toArray w.drew:=hgo _
  have hgn':(Builtin.firstCells i.size n x).run P w.drew = .ok new.toArray w.drew:=hgn _
  rcases hnot with rfl|⟨d,rfl⟩
  all_goals simp[Builtin.append_,run_underlying ht,run_underlying hu,sizeOf,typeInfo,zeroValue,hi,hz,hlen,hn1,h63',hfit',Question.forced,hgo',hgn',newRow,c,arr,w1]
 refine⟨_,c,hrun,?_,hc,oD _ _ _ _ (by omega)⟩
 have hrel1:ER C R U w1:=hrel.drawn _
 refine hrel1.alloc (GI.of_alloc w1 _) _ _ rfl ?_
 have hcs:=Ie hlo hln
 have hle:Le R (JJ R U.next ⟨w.heap.size,0,c*i.size⟩):=(FD R U.next _).le hrel.fresh
 have hlen2:=B4 hcs
 have hmul:(sLen+n)*i.size=sLen*i.size+n*i.size:=jz _ _ _
 have hml:(sLen+n)*i.size<=c*i.size:=Et _ hc
 refine Im (D8 w1 _) (FI hle _ _ hcs) (λy hy=>?_) (λk hk=>?_) ?_ ?_ (λ_ _ h=>by omega)
 ·rcases Dw.1 hy with h|h
  ·exact h1o y h
  ·exact h1n y h
 ·have:arr=(old++new).toArray++Builtin.zeroCells z.cells (c-(sLen+n)):=by apply Hq;simp[arr]
  rw[this,AFg (by simpa using hk)]
  simp
 ·simp only[arr,Array.size_append,List.size_toArray,Builtin.zeroCells,Array.size_map,Array.size_range,hzs]
  have:c*i.size=(sLen+n)*i.size+(c-(sLen+n))*i.size:=by rw[<-jz];congr 1;omega
  omega
 ·show (lo++ln).length<=c*i.size
  rw[<-hlen2,AY];omega
end Go.Og
namespace Go.Og
variable {P:Program}{G:Nat->Bool}{R:Ren}{e:Cb}{a:Act}{C:Cx}{U:H}{w:World}
set_option maxHeartbeats 800000 in
theorem EZ{t u ty el:TypeId}{i:TypeInfo}(ht:P.underlying t=some (.slice el)){du:TypeDesc}(hu:P.underlying u=some du)
  (hnot:du = .string\/∃d,du = .slice d) (hi:P.info? el=some i) {base:Option Addr}{sLen sCap n:Nat}{x:Value}{new:Array Value}
  (hlen:(Builtin.lenOf x).run P w = .ok n w) (hle:sLen+n<=sCap) (hgn:(Builtin.firstCells i.size n x).run P w = .ok new w) {w':World}
  (hst:∀b,base=some b->(storeCells (b.add (sLen*i.size)) new.toList).run P w = .ok () w') (hno:base=none->w'=w) :
  (Builtin.append_ #[t,u] ty #[.slice base sLen sCap,x]).run P w = .ok (.slice base (sLen+n) sCap) w':=by
 cases base with
 | none=>
  obtain rfl:=hno rfl
  rcases hnot with rfl|⟨d,rfl⟩
  all_goals simp[Builtin.append_,run_underlying ht,run_underlying hu,sizeOf,typeInfo,zeroValue,hi,hlen,hle,hgn]
 | some b=>
  have hst':=hst b rfl
  rcases hnot with rfl|⟨d,rfl⟩
  all_goals simp[Builtin.append_,run_underlying ht,run_underlying hu,sizeOf,typeInfo,zeroValue,hi,hlen,hle,hgn,hst']
theorem Iu b:(storeCells b []).run P w = .ok () w:=rfl
def KOk(P:Program)(C:Cx)(R:Ren)(U:H)(s:Sem Next)(w:World)(v:V)(U':H):Prop:=
 ∃a w' x,Jf U.next R a/\U.next<=U'.next/\ER C a U' w'/\(v = .dead\/BE a v=some x)/\(s.run P w = .ok (.value x) w'\/(s.run P w = .ok .skip w'/\v = .dead))
theorem ZZ(D:ER C R U w){t u ty el}{i:TypeInfo}{z:Value}(ht:P.underlying t=some (.slice el)){du:TypeDesc}(hu:P.underlying u=some du)
  (I:du = .string\/∃d,du = .slice d) (hi:P.info? el=some i) (hz:i.zero=some z) (hzs:z.cells.size=i.size) (K:0<i.size)
  {s x:V}{sv xv:Value} (hs:s.live=true->BE R s=some sv) (hx:x.live=true->BE R x=some xv) {v:V}{U':H}
  (h:Ex C.E i.size i.bytes s x U=some (v,U')) :
  ∃R' w' y,Jf U.next R R'/\U.next<=U'.next/\ER C R' U' w'/\BE R' v=some y/\(Builtin.append_ #[t,u] ty #[sv,xv]).run P w = .ok y w':=by
 unfold Ex at h;cases Q:C1 C.E U i.size x with
 | none=>rw[Q]at h;cases h | some q=>
  obtain⟨n,new⟩:=q;rw[Q]at h;simp only at h;have hxl:x.live=true:=by unfold C1 at Q;split at Q<;>first | rfl | cases Q
  have hxc:=hx hxl;obtain⟨xs,hnc,O,J,hxlen,hfirst⟩:=Qg (P:=P) D Q hxc;have hfn:=hfirst n (AL _);rw[HM (by omega)]at hfn;have hfd:∀d,(Builtin.firstCells i.size n xv).run P { w with drawn:=d } = .ok xs.toArray { w with drawn:=d }:=λd=>by
   obtain⟨xs',hnc',_,_,hxlen',hfirst'⟩:=Qg (D.drawn d) Q hxc;rw[hnc]at hnc';cases hnc';have:=hfirst' n (AL _);rwa [HM (by omega)]at this
  have hnl:=B4 hnc;split at h
  ·
   have L:=hs rfl;simp only[BE,AP.injEq]at L;subst L;split at h
   ·rename_i hn0
    cases h;subst hn0;have hxs:xs=[]:=Bc (by omega);subst hxs;refine⟨R,w,_,Jf.refl _ _,AL _,D,rfl,?_⟩;have:=EZ (ty:=ty) (base:=none) (sLen:=0) (sCap:=0) ht hu I hi J (AL _) hfn (w':=w) (λb e=>by cases e) (λ_=>rfl);exact this
   ·rename_i hn0
    split at h
    ·rename_i hg
     cases h;obtain⟨w',c,hrun,F,hc⟩:=VP (P:=P) (ty:=ty) (base:=none) (sLen:=0) (sCap:=0) (old:=[]) (lo:=[]) D ht hu I hi hz hzs rfl hnc (by simp) O (by simp) hxlen J (λd=>by simp[Builtin.firstCells]) hfd (by omega) (by simpa using hg) K;simp only[IW,BQ]at F hrun hc;refine⟨_,w',_,FD _ _ _,C9 _,F,I6 (CT _ _ _) (by simp[BI.cap,Hp _ K];exact hc),?_⟩;rw[hrun];simp[BI.cap,Hp _ K]
    ·cases h
  ·
   rename_i b off len c;have L:=hs rfl;obtain⟨j,m,hj,rfl,hex,_⟩:=DW L;obtain rfl:=hex c rfl;split at h
   ·rename_i hle
    simp only[Ag]at hle;split at h
    ·rename_i hn0
     cases h;subst hn0;have hxs:xs=[]:=Bc (by omega);subst hxs;exact⟨R,w,_,Jf.refl _ _,AL _,D,L,EZ (P:=P) (ty:=ty) ht hu I hi J hle hfn (w':=w) (λb e=>rfl) (λe=>by cases e)⟩
    ·split at h
     ·rename_i l hl
      split at h
      ·rename_i M
       simp only[AI,Ag]at M;cases h;have hmul:(len+n)*i.size=len*i.size+n*i.size:=jz _ _ _;obtain⟨w',hst,F⟩:=QW (P:=P) D (off:=off+len*i.size) hl hnc M.2 (by omega) hj;refine⟨R,w',_,Jf.refl _ _,AL _,F,M5 hj,EZ (P:=P) (ty:=ty) ht hu I hi J hle hfn (w':=w') (λb e=>?_) (λe=>by cases e)⟩;cases e;rw[add_eq,JI];exact hst
      ·cases h
     ·cases h
   ·rename_i hle
    simp only[Ag]at hle;split at h
    ·rename_i hg
     split at h
     ·rename_i old hold
      cases h;obtain⟨j',ys,hj',hyc,hyone,hyl,_,hcell⟩:=D.readN hold;rw[hj]at hj';cases hj';obtain⟨w',c',hrun,F,hc⟩:=VP (P:=P) (ty:=ty) (base:=some ⟨j.blk,j.shift+off,none⟩) (sLen:=len) (sCap:=m) D ht hu I hi hz hzs hyc hnc hyone O hyl hxlen J (λd=>by
       have:=run_firstCells_some (P:=P) { w with drawn:=d } i.size len ⟨j.blk,j.shift+off,none⟩ len m ys hyl (λk v hk=>hcell k v hk);exact this) hfd (by omega) hg K
      refine⟨_,w',_,FD _ _ _,C9 _,F,I6 (CT _ _ _) (by simp[BI.cap,Hp _ K];exact hc),?_⟩;rw[hrun];simp[BI.cap,Hp _ K]
     ·cases h
    ·cases h
  ·
   rename_i b len z';have L:=hs rfl;obtain⟨j,m,hj,rfl,_,hop⟩:=DW L;obtain⟨hm,hlm⟩:=hop z' rfl;split at h
   ·rename_i hn0
    cases h;subst hn0;have hxs:xs=[]:=Bc (by omega);subst hxs;exact⟨R,w,_,Jf.refl _ _,AL _,D,L,EZ (P:=P) (ty:=ty) ht hu I hi J hlm hfn (w':=w) (λb e=>rfl) (λe=>by cases e)⟩
   ·rename_i hn0
    split at h
    ·rename_i l hl
     split at h
     ·rename_i M
      simp only[AI,AW]at M;obtain⟨⟨⟨hll,hze⟩,hg⟩,hone⟩:=M;subst hze;cases h;obtain⟨j',hj',hO,arr,el',lo,hi',hblk,hold,hend,hlen',hf⟩:=D.own b _ hl;rw[hj]at hj';cases hj';by_cases hfit:len+n<=m
      ·
       have hmul:(len+n)*i.size=len*i.size+n*i.size:=jz _ _ _;have hroom:(len+n)*i.size<=j.endc:=by
        have h1:(len+n)*i.size<=m*i.size:=Et _ hfit;have h2:m*i.size<=j.endc:=by rw[hm];simpa[BI.cap]using Nat.div_mul_le_self j.endc i.size
        omega
       obtain⟨w',hst,hw,arr',h3,h4,h5⟩:=Qd (P:=P) (o:=j.shift+len*i.size) hblk hf O (by omega);have hle:Le R (JJ R U.next j):=(FD R U.next j).le D.fresh;have F:ER C (JJ R U.next j) ((U.del b).add (.cells (l++new))) w':=by
        refine D.rename hl hj ?_ hw.old hw.size hw.os hw.tape hw.output;refine⟨arr',el',lo,hi',h3,?_,by omega,by rw[AY];omega,λo ho=>hf o (by omega)⟩;intro k v hk;by_cases hkl:k<l.length
        ·rw[Cu hkl]at hk
         obtain⟨y,hy,ho,hky⟩:=hold k v hk;refine⟨y,C8 hle _ _ hy,ho,?_⟩;rw[h5,if_neg (by omega)];exact hky
        ·rw[Ck (by omega)]at hk
         obtain⟨y,hy,hky⟩:=E6 hnc hk;have hlt:k-l.length<xs.length:=by
          rcases Av (k-l.length) xs.length with h|h
          ·exact h
          ·rw[Ae h]at hky;cases hky
         refine⟨y,C8 hle _ _ hy,O y (Il hky),?_⟩;rw[h5,if_pos (by omega)];rw[show j.shift+k-(j.shift+len*i.size)=k-l.length by omega];exact hky
       refine⟨_,w',_,FD _ _ _,C9 _,F,I6 (CT _ _ _) (by have hbd:=RN L hj;simp only[<-hm]at hbd ⊢;exact⟨hfit,hbd⟩),?_⟩;have:=EZ (P:=P) (ty:=ty) (base:=some ⟨j.blk,j.shift+0,none⟩) ht hu I hi J hfit hfn (w':=w') (λb e=>by cases e;rw[add_eq,OJ];exact hst) (λe=>by cases e);rw[this];simp[hm]
      ·
       have hrd:Sb C.E U b 0 (len*i.size)=some l:=by
        simp[Sb,rd,hl,hll,HM (Nat.le_of_eq hll)]
       obtain⟨j',ys,hj',hyc,hyone,hyl,_,hcell⟩:=D.readN hrd;rw[hj]at hj';cases hj';obtain⟨w',c',hrun,F,hc⟩:=VP (P:=P) (ty:=ty) (base:=some ⟨j.blk,j.shift+0,none⟩) (sLen:=len) (sCap:=m) D ht hu I hi hz hzs hyc hnc hyone O hyl hxlen J (λd=>by
        have:=run_firstCells_some (P:=P) { w with drawn:=d } i.size len ⟨j.blk,j.shift+0,none⟩ len m ys hyl (λk v hk=>hcell k v hk);exact this) hfd (by omega) hg K
       have hrel'':ER C (JJ R U.next ⟨w.heap.size,0,c'*i.size⟩) ((U.del b).add (.cells (l++new))) w':=by
        have:=F.del b;have hne:¬U.next=b:=by have:=D.next_of_own hl;omega
        simpa[H.del,H.add,drop,hne]using this
       refine⟨_,w',_,FD _ _ _,C9 _,hrel'',I6 (CT _ _ _) (by simp[BI.cap,Hp _ K];exact hc),?_⟩;rw[hrun];simp[BI.cap,Hp _ K]
     ·cases h
    ·cases h
  ·rename_i b off len z' _
   have L:=hs rfl;obtain⟨j,m,hj,rfl,_,hop⟩:=DW L;obtain⟨hm,hlm⟩:=hop z' rfl;split at h
   ·rename_i hn0
    cases h;subst hn0;have hxs:xs=[]:=Bc (by omega);subst hxs;exact⟨R,w,_,Jf.refl _ _,AL _,D,L,EZ (P:=P) (ty:=ty) ht hu I hi J hlm hfn (w':=w) (λb e=>rfl) (λe=>by cases e)⟩
   ·cases h
  ·cases h
theorem kv{E e n}{x:V}{l}(h:C1 E U e x=some (n,l)):x.live=true:=by
 unfold C1 at h;split at h<;>first | rfl | cases h
theorem KOk.value{s:Sem Value}{v}{U':H}(h:∃a w' x,Jf U.next R a/\U.next<=U'.next/\ER C a U' w'/\BE a v=some x/\s.run P w = .ok x w'):
  KOk P C R U (do pure (Next.value (<-s)):Sem Next) w v U':=by
 obtain⟨a,w',x,e,i,g,j,f⟩:=h;exact⟨a,w',x,e,i,g,.inr j,.inl (by simp[f])⟩
theorem FA.snoc{R k v}{e:MapEntry}(b:BE R k=some e.key)(a:BE R v=some e.val):∀{l c},FA R l c->FA R (l++[(k,v)]) (c++[e])
 | [],[],_=>⟨b,a,trivial⟩ | (_,_)::_,_::_,⟨g,f,d⟩=>⟨g,f,FA.snoc b a d⟩ | [],_::_,h=>h.elim | _::_,[],h=>h.elim
theorem wk(D:ER C R U w)(he:Ch R e a.tmps)(o:Oper){v:V}{U':H}(h:FY C.E (Ah P C.G o.op) e U=some (v,U')):
  KOk P C R U (execOp a.eval o) w v U':=by
 have hg:=D.globOk;obtain⟨dst,op,ty,pos,after,guard⟩:=o;simp only at h;cases op with
 | store t x y=>
  simp only[Ah]at h;cases hs:HU P t with
  | none=>rw[hs]at h;simp only[FY]at h;cases h | some n=>
   rw[hs]at h;cases n with
   | zero=>
    simp only[FY]at h;split at h
    ·rename_i b off hx hy
     simp only[AP.injEq,Prod.mk.injEq]at h;obtain⟨rfl,rfl⟩:=h;obtain⟨j,hj,hev⟩:=JZ (a:=a) he hg hx;obtain⟨l,hl,hevy⟩:=VW (a:=a) he hg hy;simp only[BL,AP.injEq]at hl;subst hl;refine⟨R,w,undef,Jf.refl _ _,AL _,D,.inl rfl,.inr ⟨?_,rfl⟩⟩;simp only[execOp];unfold Instr.storeAt storeVar;simp[hev,hevy,Instr.sureAddr,E1 hs w,Value.cells,Iu]
    ·cases h
   | succ n=>
   simp only[FY]at h;split at h
   ·rename_i b off hx
    split at h
    ·rename_i l hl
     split at h
     ·rename_i F
      simp only[AI,AW,Ag]at F;obtain⟨⟨hn,hle⟩,hone⟩:=F;cases h;obtain⟨j,hj,hev⟩:=JZ (a:=a) he hg hx;have hyl:(Cv e (Aw C.G y)).live=true:=by
       cases hy:Cv e (Aw C.G y)with
       | dead=>rw[hy]at hone;simp[V.cells,BM,V.one]at hone | _=>rfl
      have hcs:=I7 (ev (a:=a) he hg rfl hyl);have hlen:=B4 hcs;obtain⟨w',hst,hrel'⟩:=QW (P:=P) D (off:=off) hl hcs hone (by omega) hj;refine⟨R,w',undef,Jf.refl _ _,AL _,hrel',.inl rfl,.inr ⟨?_,rfl⟩⟩;simp only[FQ]at hlen;have hsz:¬((a.eval y).cells.size≠n+1):=by omega
      simp only[execOp];unfold Instr.storeAt storeVar;simp only[Sem.run_bind,hev,Instr.sureAddr,Sem.run_pure,Result.andThen_ok,E1 hs w];rw[if_neg hsz];simp[hst]
     ·cases h
    ·cases h
   ·cases h
 | call c=>
  obtain⟨callee,args,G⟩:=c;cases callee with
  | value f=>cases f<;>(simp only[Ah,FY]at h;cases h) | invoke r m=>simp only[Ah,FY]at h;cases h | builtin b=>
   have hcall:∀{v U'},KOk P C R U (builtin b G ty (args.map fun | .const _=>true | _=>false) (args.map a.eval)) w v U'->KOk P C R U (execOp a.eval ⟨dst,.call ⟨.builtin b,args,G⟩,ty,pos,after,guard⟩) w v U':=by
    rintro v U' ⟨R',w',x,h1,h2,h3,h4,h5⟩;refine⟨R',w',x,h1,h2,h3,h4,?_⟩;simp only[execOp,resolve,Sem.run_bind,Sem.run_pure,Result.andThen_ok,invoke];exact h5
   apply hcall;simp only[Ah]at h;obtain⟨args⟩:=args;obtain⟨G⟩:=G;generalize (AAJ (fun | Operand.const _=>true | _=>false) (⟨args⟩:Array Operand))=lits;unfold Me at h;split at h
   ·(repeat' split at h)<;>(simp only[FY]at h;cases h)
   ·(repeat' split at h)<;>(simp only[FY]at h;cases h)
   ·
    rename_i t u os ox hts has;simp only at hts has;subst hts has;split at h
    ·rename_i el du hu hdu
     split at h
     ·rename_i i hi
      split at h
      ·rename_i z hz
       split at h
       ·simp only[FY]at h;cases h
       ·rename_i F
        simp only[HR,Ba,Bool.not_eq_false',bne_eq_false_iff_eq,beq_eq_false_iff_ne]at F;obtain⟨⟨hseq,hpos⟩,hzs⟩:=F;have hnot:du = .string\/∃d,du = .slice d:=by
         cases du<;>first | exact .inl rfl | exact .inr ⟨_,rfl⟩ | cases hseq
        simp only[FY]at h;simp only[builtin];rw[show AAJ a.eval ⟨[os,ox]⟩=#[a.eval os,a.eval ox] from by simp];apply KOk.value;exact ZZ (P:=P) (ty:=ty) D hu hdu hnot hi hz hzs (by omega) (λhl=>ev (a:=a) he hg rfl hl) (λhl=>ev (a:=a) he hg rfl hl) h
      ·simp only[FY]at h;cases h
     ·simp only[FY]at h;cases h
    ·simp only[FY]at h;cases h
   ·
    rename_i t u od os hts has;simp only at hts has;subst hts has;split at h
    ·rename_i el du hu hdu
     split at h
     ·rename_i i hi
      simp only[FY]at h;simp only[builtin];rw[show AAJ a.eval ⟨[od,os]⟩=#[a.eval od,a.eval os] from by simp];apply KOk.value;have hsz:(sizeOf el).run P w = .ok i.size w:=by simp[sizeOf,typeInfo,hi]
      have hsrcl:∀{n l},C1 C.E U i.size (Cv e (Aw C.G os))=some (n,l)->(Cv e (Aw C.G os)).live=true:=kv;split at h
      ·rename_i n l hd hsrc
       cases h;have hdc:=ev (a:=a) he hg hd rfl;simp only[BE,AP.injEq]at hdc;obtain⟨xs,_,_,hlen,_,hfirst⟩:=Qg (P:=P) D hsrc (ev (a:=a) he hg rfl (hsrcl hsrc));refine⟨R,w,_,Jf.refl _ _,AL _,D,rfl,?_⟩;have h0:=hfirst 0 (BF _);rw[<-hdc];simp[Builtin.copy_,run_underlying hu,hlen,hsz,h0,goInt]
      ·rename_i b off k z n l hd hsrc
       cases h;obtain⟨j,_,_,hev⟩:=FJ (ev (a:=a) he hg hd rfl);obtain⟨xs,_,_,hlen,_,hfirst⟩:=Qg (P:=P) D hsrc (ev (a:=a) he hg rfl (hsrcl hsrc));refine⟨R,w,_,Jf.refl _ _,AL _,D,rfl,?_⟩;have h0:=hfirst 0 (BF _);rw[hev];simp[Builtin.copy_,run_underlying hu,hlen,hsz,h0,goInt,Iu]
      ·rename_i b off len c n src hd hsrc
       obtain⟨j,m,hj,hev,_⟩:=DW (ev (a:=a) he hg hd rfl);obtain⟨xs,hxc,hxone,hlen,hxlen,hfirst⟩:=Qg (P:=P) D hsrc (ev (a:=a) he hg rfl (hsrcl hsrc));have hf:=hfirst (HL n len) (Nat.min_le_left _ _);split at h
       ·rename_i h0
        cases h;rw[h0]at hf;refine⟨R,w,_,Jf.refl _ _,AL _,D,rfl,?_⟩;rw[hev];simp[Builtin.copy_,run_underlying hu,hlen,hsz,h0,hf,goInt,Iu]
       ·split at h
        ·rename_i l hl
         split at h
         ·rename_i F
          simp only[AI,Ag]at F;cases h;have htk:=RM hxc (HL n len*i.size)
          have htl:=B4 hxc
          have hmm:HL n len*i.size<=n*i.size:=Et _ (Nat.min_le_left _ _)
          obtain⟨w',hst,hrel'⟩:=QW (P:=P) D (off:=off) hl htk F.2 (by rw[Bn];omega) hj
          refine⟨R,w',_,Jf.refl _ _,AL _,hrel',rfl,?_⟩
          rw[hev]
          simp[Builtin.copy_,run_underlying hu,hlen,hsz,hf,goInt,hst]
         ·cases h
        ·cases h
      ·cases h
     ·simp only[FY]at h;cases h
    ·simp only[FY]at h;cases h
   ·simp only[FY]at h;cases h
   ·simp only[FY]at h;cases h
   ·simp only[FY]at h;cases h
 | mapUpdate t x y z=>
  simp only[Ah]at h
  split at h
  ·rename_i kt vt hut
   simp only[FY]at h
   unfold VL at h
   split at h
   ·rename_i b hb
    split at h
    ·rename_i l hl
     split at h
     ·rename_i hc
      simp only[AI]at hc
      split at h
      ·rename_i hf
       simp only[AP.injEq,Prod.mk.injEq]at h
       obtain⟨rfl,rfl⟩:=h
       obtain⟨hlk,fs,hfs⟩:=Q3 hc.1
       have hkv:=ev (a:=a) he hg rfl hlk
       have hvv:=ev (a:=a) he hg rfl hc.2
       obtain⟨i,es,clock,hi,hw,hmh⟩:=D.mapAt hl
       obtain⟨j,hj,hmv⟩:=JS (ev (a:=a) he hg hb rfl)
       rw[hi]at hj;cases hj
       have hget:(getObj i.blk).run P w = .ok (.map es clock) w:=by simp[getObj,Sem.run,hw]
       have hck:=PA (P:=P) hc.1 hkv false w
       have hfa:=Nl hfs hkv w 0 hf hmh
       simp only at hfa
       have hset:∀o,(setObj i.blk o).run P w = .ok () { w with heap:=w.heap.setIfInBounds i.blk o }:=λo=>by simp[setObj,Sem.run,hw]
       have hlt:i.blk<w.heap.size:=(AFf.1 hw).1
       refine⟨R,{ w with heap:=w.heap.setIfInBounds i.blk (.map (es.push { key:=a.eval y,val:=a.eval z,born:=clock }) (clock+1)) },undef,Jf.refl _ _,AL _,D.write hl hi ?_ ?_ ?_ rfl rfl rfl,.inl rfl,.inr ⟨?_,rfl⟩⟩
       ·exact⟨es.push { key:=a.eval y,val:=a.eval z,born:=clock },clock+1,by simp[hlt],by simpa using FA.snoc (e:={ key:=a.eval y,val:=a.eval z,born:=clock }) hkv hvv hmh⟩
       ·intro k hk
        simp[Ne.symm hk]
       ·simp
       ·simp only[execOp]
        unfold Instr.mapUpdate
        simp[hmv,run_underlying hut,hget,hck,M1 hfs,hfa,hset]
      ·cases h
     ·cases h
    ·cases h
   ·cases h
  ·simp only[FY]at h;cases h
 | makeMap t r=>cases r<;>(simp only[Ah,FY]at h;cases h)
 | lookup t x y ok=>cases ok<;>simp only[Ah]at h<;>first | (simp only[FY]at h;cases h;done) | ((repeat' split at h)<;>(simp only[FY]at h;cases h))
 | move x=>simp only[Ah,FY]at h;cases h
 | assign x=>simp only[Ah,FY]at h;cases h
 | makeFunc f x y=>cases f<;>(simp only[Ah,FY]at h;cases h)
 | _=>simp only[Ah]at h;first | (simp only[FY]at h;cases h;done) | ((repeat' split at h)<;>(simp only[FY]at h;cases h))
end Go.Og
namespace Go.Og
abbrev AJ:=List Bf->List DP->Cb->H->Option (Cb × H)
def Pr(E:EB)(e:Cb)(U:H):List AR->Option (List V)
 | []=>some []
 | .tmp t::l=>match (H4 e t).live,Pr E e U l with
  | true,some r=>some (H4 e t::r)
  | _,_=>none
 | .cell t n::l=>match H4 e t,Pr E e U l with
  | .ptr b off,some r=>match n with
   | none=>match rd E U b with
    | some a=>match a[off]? with
     | some v=>some (v::r)
     | none=>none
    | none=>none
   | some n=>match Sb E U b off n with
    | some a=>some (.agg a::r)
    | none=>none
  | _,_=>none
def Ek:List V->V
 | [v]=>v
 | l => .tup l
def je:Nat->List V->Cb
 | _,[]=>[]
 | k,v::l=>(k,v)::je (k+1) l
variable {P:Program}{G:Nat->Bool}{E:EB}
def DB(P:Program)(E:EB)(G:Nat->Bool)(f:FuncId)(D:List V->H->Option (V × H)):Prop:=
 ∀(C:Cx),C.E=E->C.G=G->∀R (U:H) w a (xs:List Value) v (U':H),D a U=some (v,U')->ER C R U w->BL R a=some xs ->
  Ln P f=true/\Calls P f xs.toArray w λc w'=>∃b x,Jf U.next R b/\U.next<=U'.next/\ER C b U' w'/\BE b v=some x/\c = .returned x
theorem I0 k e t v (h:look (B7 k e) t=some v):look e t=some v/\B2 k t=true:=by
 induction k with
 | nil=>simp[B7,look]at h | cons a k p=>
  simp only[B7]at h;simp only[B2,B5,AW];cases o:look e a with
  | none=>rw[o]at h;exact(p h).imp id .inr | some u=>
   rw[o]at h;simp only[look]at h;by_cases j:a=t
   ·subst j
    rw[if_pos (by simp)]at h;cases h;exact⟨o,.inl rfl⟩
   ·rw[if_neg (by simpa using j)]at h
    exact(p h).imp id .inr
theorem NN(a:Act)(b:Option Nat) x:(a.put b x).tmps.size=a.tmps.size:=by cases b<;>simp[Act.put]
theorem Hm(a:Act)(b:Option Nat) x:(a.put b x).defers=a.defers:=by cases b<;>rfl
theorem VY{D}(hD:∀f,DB P E G f (D f)){C:Cx}(hE:C.E=E)(hG:C.G=G){R:Ren}{U:H}{w:World}{e:Cb}{a:Act}(hrel:ER C R U w)(he:Ch R e a.tmps)
  (o:Oper) {v:V}{U':H} (h:FW E D (Ah P G o.op) e U=some (v,U')) (K:Act->World->Prop) (Q:Exit->Act->World->Prop)
  (hK:∀R' w' x,Jf U.next R R'->U.next<=U'.next->ER C R' U' w'->(v = .dead\/BE R' v=some x)->K (a.put o.dst x) w'):o.wp P a w K Q:=by
 subst hE hG;have hg:=hrel.globOk;have S3:∀(h:wm C.E (Ah P C.G o.op) e U=some (v,U')),o.wp P a w K Q:=by
  intro h;unfold wm at h
  split at h
  ·split at h
   ·rename_i v' hp
    cases h
    obtain⟨x,hx,hrun⟩:=Nv he hg o hp w
    unfold Oper.wp
    rw[hrun]
    exact hK R w x (Jf.refl _ _) (AL _) hrel (.inr hx)
   ·cases h
  ·split at h
   ·rename_i v' hp
    cases h
    obtain⟨x,hx,hrun⟩:=Nx hrel he o hp
    unfold Oper.wp
    rw[hrun]
    exact hK R w x (Jf.refl _ _) (AL _) hrel (.inr hx)
   ·cases h
  ·split at h
   ·rename_i v' b hp
    cases h
    obtain⟨x,w',i,hrun,hn,hi,hx,hok⟩:=QI he hg o hp (hrel.fresh _ (AL _)) w
    unfold Oper.wp
    rw[hrun]
    exact hK _ w' x (FD _ _ _) (C9 _) (hrel.alloc hn b i hi hok) (.inr hx)
   ·cases h
  ·obtain⟨R',w',x,h1,h2,h3,h4,h5⟩:=wk (P:=P) hrel he o h
   unfold Oper.wp
   rcases h5 with h5|⟨h5,hv⟩
   ·rw[h5];exact hK R' w' x h1 h2 h3 h4
   ·rw[h5];exact hK R' w' undef h1 h2 h3 (.inl hv)
 have hcallrun:∀(g:FuncId) (args:Array Value),Ln P g=true->(callFunc g args).run P w = .ok (.enter g args) w:=by
  intro g args hok
  unfold Ln at hok
  unfold callFunc
  simp only[Sem.run_bind,run_program,Result.andThen_ok]
  cases hf:P.funcs[g]? with
  | none=>rw[hf]at hok;cases hok
  | some fn=>
   rw[hf]at hok
   simp only[AI,bne_iff_ne]at hok
   have h1:(fn.name == "runtime.NumGoroutine")=false:=by simpa using hok.1
   have h2:fn.body.isNone=false:=by cases hb:fn.body<;>simp_all
   simp only[h1,h2,CF,if_false,Sem.run_pure]
 have enter:∀(g:FuncId) (vs:List V) (xs:List Value),BL R vs=some xs->D g vs U=some (v,U')->(execOp a.eval o).run P w=(callFunc g xs.toArray).run P w->o.wp P a w K Q:=by
  intro g vs xs hvs hd hrun
  obtain⟨hok,hc⟩:=hD g C rfl rfl R U w vs xs v U' hd hrel hvs
  unfold Oper.wp
  rw[hrun,hcallrun g _ hok,Oper.upon_enter]
  refine hc.mono ?_
  rintro en w' ⟨R',x,h1,h2,h3,h4,rfl⟩
  exact hK R' w' x h1 h2 h3 (.inr h4)
 cases k:Ah P C.G o.op with
 | call f args=>
  rw[k]at h
  simp only[FW]at h
  obtain⟨dst,op,ty,pos,after,guard⟩:=o
  have hsh:∃c,op = .call c/\c.callee = .value (.func f)/\args=c.args.toList.map (Aw C.G):=by
   simp only at k
   cases op<;>simp only[Ah]at k<;>(try (first | (cases k;done) | ((repeat' split at k)<;>(cases k;done))))
   ·rename_i fn _ _;cases fn<;>cases k
   ·rename_i r;cases r<;>cases k
   ·rename_i ok;cases ok
    ·cases k
    ·simp only at k;split at k<;>cases k
   ·rename_i c
    refine⟨c,rfl,?_⟩
    obtain⟨callee,cargs,u⟩:=c
    simp only at k
    split at k
    ·unfold Me at k;(repeat' split at k)<;>cases k
    ·cases k;exact⟨rfl,rfl⟩
    ·cases k
    ·cases k
  obtain⟨c,rfl,hcal,rfl⟩:=hsh
  split at h
  ·rename_i hl
   have hev:=evs (a:=a) he hg c.args.toList hl
   refine enter f _ _ hev h ?_
   obtain⟨callee,cargs,u⟩:=c
   simp only at hcal
   subst hcal
   simp only[execOp,resolve,Act.eval,Deferred.ofValue,Sem.run_bind,Sem.run_pure,Result.andThen_ok,invoke]
   congr 2
   apply Hq
   simp
  ·cases h
 | callv fo args=>
  rw[k]at h
  simp only[FW]at h
  obtain⟨dst,op,ty,pos,after,guard⟩:=o
  have hsh:∃c t,op = .call c/\c.callee = .value (.tmp t)/\fo = .tmp t/\args=c.args.toList.map (Aw C.G):=by
   simp only at k
   cases op<;>simp only[Ah]at k<;>(try (first | (cases k;done) | ((repeat' split at k)<;>(cases k;done))))
   ·rename_i fn _ _;cases fn<;>cases k
   ·rename_i r;cases r<;>cases k
   ·rename_i ok;cases ok
    ·cases k
    ·simp only at k;split at k<;>cases k
   ·rename_i c
    obtain⟨callee,cargs,u⟩:=c
    simp only at k
    split at k
    ·unfold Me at k;(repeat' split at k)<;>cases k
    ·cases k
    ·rename_i t;cases k;exact⟨_,t,rfl,rfl,rfl,rfl⟩
    ·cases k
  obtain⟨c,t,rfl,hcal,rfl,rfl⟩:=hsh
  split at h
  ·rename_i g first cap hf
   split at h
   ·rename_i hl
    have hev:=evs (a:=a) he hg c.args.toList hl
    have hfc:=ev (a:=a) (o := .tmp t) he hg (by simpa[Aw]using hf) rfl
    obtain⟨y,z,hy,hz,hfe⟩:=Lm hfc
    refine enter g _ _ (Ie (Ie hy hev) hz) h ?_
    obtain⟨callee,cargs,u⟩:=c
    simp only at hcal
    subst hcal
    simp only[execOp,resolve,hfe,Deferred.ofValue,Sem.run_bind,Sem.run_pure,Result.andThen_ok,invoke]
    congr 2
    apply Hq
    simp
   ·cases h
  ·cases h
 | _=>rw[k]at h;rw[k]at S3;exact S3 (by simpa only [FW]using h)
end Go.Og
namespace Go.Og
variable {P:Program}{G:Nat->Bool}{E:EB}{D:Am}{C:Cx}
def ANG(C:Cx)(c:Nat)(U U':H)(d:Cb)(R:Ren)(K:Act->World->Prop):Prop:=
 ∀b a w',Jf U.next R b->U.next<=U'.next->ER C b U' w'->Ch b d a.tmps->c<=a.tmps.size->a.defers=[]->K a w'
theorem Kf{n m d}(h:I4 n d=true)(f:n<=m):I4 m d=true:=by
 cases d with
 | none=>rfl | some d=>simp only[I4,Cs]at h ⊢;omega
theorem EC{R e}{a:Act}(A:Ch R e a.tmps){ops}{o:Oper}{g}(q:TL ops o.guard=some g){b}(h:B6 e g=some b):
  Region.wanted o (yielded ops a.tmps)=b:=by
 unfold TL at q;cases p:o.guard with
 | none=>
  rw[p]at q;simp only[AP.injEq]at q;subst q;simp only[B6,AP.injEq]at h;subst h;simp[Region.wanted,p]
 | some B=>
  obtain⟨j,z⟩:=B;rw[p]at q;simp only at q;split at q
  ·rename_i t y
   simp only[AP.injEq]at q;subst q;simp only[B6]at h;split at h
   ·rename_i c w
    simp only[AP.injEq]at h;subst h;obtain⟨x,v,r⟩:=A.get w rfl;cases r;simp[Region.wanted,p,yielded,y,v]
   ·rename_i w
    simp only[AP.injEq]at h;subst h;obtain⟨x,v,r⟩:=A.get w rfl;cases r;simp[Region.wanted,p,yielded,y,v]
   ·cases h
  ·cases q
def Zh(P:Program)(E:EB)(G:Nat->Bool)(W:AJ):Prop:=
 ∀(C:Cx),C.E=E->C.G=G->∀b id (ops:Array Oper) e U c U',Qp ops (ops.toList.map (Bj P G b ops)) (IJ ops)=true->W (ops.toList.map (Bj P G b ops)) (IJ ops) e U=some (c,U') ->
  ∀R (a:Act) w Q,ER C R U w->Ch R e a.tmps->b<=a.tmps.size->a.defers=[]->ANG C b U U' c R (Q .normal)->(Code.region id ops true).wp P Q a w
theorem VC{R U}{w:World}{e}{q:Array Value}(A:ER C R U w)(he:Ch R e q):∀(M:List ResultVar) Y l,IM P M=some Y->Pr C.E e U Y=some l ->
  ∃xs,BL R l=some xs/\(M.mapM (m:=Sem) fun
   | .tmp t=>pure (q.getD t undef) | .cell a t=>do loadVar t (<-asAddr (q.getD a undef))).run P w = .ok xs w
 | [],Y,l,B,h=>by
  simp only[IM,AP.injEq]at B;subst B;simp only[Pr,AP.injEq]at h;subst h;exact⟨[],rfl,rfl⟩
 | r::M,Y,l,B,h=>by
  have G:∀t (v:V),H4 e t=v->v.live=true->BE R v=some (q.getD t undef):=by
   intro t v hv N;obtain⟨x,hx,B⟩:=he.get hv N;rw[B,Ey,hx];rfl
  simp only[IM]at B;cases E:RO P r with
  | none=>rw[E]at B;cases B | some ar=>
   cases F:IM P M with
   | none=>rw[E,F]at B;cases B | some T=>
    rw[E,F]at B;simp only[AP.injEq]at B;subst B;cases r with
    | tmp t=>
     simp only[RO,AP.injEq]at E;subst E;simp only[Pr]at h;split at h
     ·rename_i l' N z
      cases h;obtain⟨xs,h1,Z⟩:=VC A he M T l' F z;refine⟨_,Bm.2 ⟨_,_,G t _ rfl N,h1,rfl⟩,?_⟩;rw[WO];simp only[Sem.run_bind,Sem.run_pure,Result.andThen_ok,Z]
     ·cases h
    | cell t ty=>
     simp only[RO]at E;cases hs:Hr P ty with
     | none=>rw[hs]at E;cases E | some n=>
      rw[hs]at E;simp only[AP.injEq]at E;subst E;simp only[Pr]at h;split at h
      ·rename_i b off l' hb z
       obtain⟨j,hj,Q⟩:=Kg (G t _ hb rfl);obtain⟨xs,h1,Z⟩:=VC A he M T l' F z;obtain⟨I,aa⟩:=MA hs w;split at h
       ·split at h
        ·rename_i cs J
         split at h
         ·rename_i v hk
          cases h;obtain⟨i,arr,el,fr,W,S,O⟩:=A.read J;rw[hj]at W;cases W;obtain⟨y,hy,_,ac⟩:=O off v hk;refine⟨_,Bm.2 ⟨_,_,hy,h1,rfl⟩,?_⟩;have u:w.cell? ⟨j.blk,j.shift+off,none⟩=some y:=by rw[QH S];exact ac
          have L:(do loadVar ty (<-asAddr (q.getD t undef)):Sem Value).run P w = .ok y w:=by
           simp only[Sem.run_bind,Q,asAddr,Sem.run_pure,Result.andThen_ok,loadVar,I,Option.isSome_none,CF,if_false,run_load,u]
          rw[WO];refine(Sem.run_bind P w _ _).trans ?_;refine(congrArg (λr=>Result.andThen r _) L).trans ?_;simp only[Sem.run_bind,Z,Sem.run_pure,Result.andThen_ok]
         ·cases h
        ·cases h
       ·rename_i n
        split at h
        ·rename_i cs J
         cases h;obtain⟨i,ys,W,ad,_,X,_,u⟩:=A.readN J;rw[hj]at W;cases W;refine⟨_,Bm.2 ⟨_,_,EA ad,h1,rfl⟩,?_⟩;have N:=run_loadCells_list (P:=P) w ⟨j.blk,j.shift+off,none⟩ ys u;rw[X]at N;have L:(do loadVar ty (<-asAddr (q.getD t undef)):Sem Value).run P w = .ok (.agg ys.toArray) w:=by
          simp only[Sem.run_bind,Q,asAddr,Sem.run_pure,Result.andThen_ok,loadVar,I,Option.isSome_some,if_true,aa n rfl,N]
         rw[WO];refine(Sem.run_bind P w _ _).trans ?_;refine(congrArg (λr=>Result.andThen r _) L).trans ?_;simp only[Sem.run_bind,Z,Sem.run_pure,Result.andThen_ok]
        ·cases h
      ·cases h
theorem vX{R l}{xs:List Value}(h:BL R l=some xs):BE R (Ek l)=some (if h:xs.toArray.size=1 then xs.toArray[0] else .tuple xs.toArray):=by
 match l,xs,h with
 | [],xs,h=>simp only[BL,AP.injEq]at h;subst h;rfl | [v],xs,h=>
  obtain⟨x,m,j,g,rfl⟩:=Bm.1 h;simp only[BL,AP.injEq]at g;subst g;simp[Ek,j]
 | u::v::l,xs,h=>
  have i:=B4 h;rw[dif_neg (by simp at i ⊢;omega)];exact Ll h
end Go.Og
