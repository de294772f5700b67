/- What the last text leans on, part 1 of 7: merged out of smaller texts. No condition. -/
import Derived.Tactics2
import Derived.Laws.Append
import Derived.Laws.Slices
import Derived.Laws.Build
import Derived.Laws.Pointers
import Derived.Laws.Small
import Derived.Laws.StructEq
import Derived.WalkSpells
import Derived.Laws.BytesArg
import Derived.Laws.IdiomCopy
import Derived.Lib.ConvBytes
import Derived.IntWalk
import Derived.LoopN
open Nat renaming le_refl -> AN,beq_eq -> AV,add -> Ac,le_trans -> Ae,lt_or_ge -> Al,beq -> Ax,ble -> A0,ble_eq -> BC,eq_of_beq_eq_true -> BO,mod_eq_of_lt -> Bw,zero_le -> CH,zero_add -> CJ,blt_eq -> C1,mul_one -> C8,blt -> DQ,mul_div_cancel -> D9,add_zero -> ES,le_succ -> Ec,min -> E9,add_assoc -> GI,le_of_ble_eq_true -> Gr,min_eq_left -> HD,mul_le_mul_right -> HS,mul_comm -> HT,eq_of_testBit_eq -> HU,zero_mul -> M5,sub_self -> M6,mod_lt -> Re,testBit_mod_two_pow -> Rk,add_mul -> Rl,testBit_or -> Ui,mul -> Zz,sub_zero -> qW,eq_zero_or_pos -> ye,add_lt_add_iff_right -> AI4
open Bool renaming and_eq_true -> AK,or_eq_false_iff -> B2,or_eq_true -> CB,false_or -> DL,false_eq_true -> E3,eq_false_iff -> HV,or_false -> Jj,not_eq_true -> M9,eq_iff_iff -> PQ
open List renaming length_append -> AL,getElem?_eq_getElem -> AZ,getElem?_eq_none -> Aa,length_cons -> Aj,mem_cons -> BJ,getElem?_map -> BM,replicate -> Bj,eq_nil_of_length_eq_zero -> Bu,map_cons -> B3,drop_eq_getElem_cons -> B4,getElem?_cons_succ -> CK,getElem?_append_right -> CY,range -> Cj,nil_append -> Cy,getElem?_drop -> DC,length_map -> DH,getElem?_append_left -> Dl,take_of_length_le -> ET,getElem?_take -> Ey,cons_append -> Ez,mem_append -> Fe,length_take -> IM,map_nil -> JO,all_cons -> Ji,ext_getElem? -> K0,replicate_succ -> OM,getElem?_range -> ON,mapM_cons -> Uk,mem_of_getElem? -> cC,flatten_cons -> AFL
open Option renaming some -> AP,map_eq_some_iff -> Aq,map_some -> CW,bind_eq_some_iff -> EC,bind_some -> M4,map_none -> ky
open Array renaming getElem?_setIfInBounds -> BE,getElem?_eq_none -> CE,size_setIfInBounds -> Dx,getD_eq_getD_getElem? -> EF,length_toList -> EU,ext' -> Gm,replicate -> HE,getElem?_append_left -> MD,mapM_eq_mapM_toList -> NC,getElem?_toList -> WK,map -> sn,getElem?_eq_some_iff -> yh
open BitVec renaming ofInt -> BU
namespace Go.Og
structure BS where
 len:Nat
 val:Nat
 deriving DecidableEq,Inhabited
def BS.get (s:BS) (i:Nat):Nat:=Nat.mod (Nat.shiftRight s.val (Zz 8 i)) 256
def BS.toList (s:BS):List UInt8:=(Cj s.len).map fun i=>UInt8.ofNat (s.get i)
def BS.low (s:BS):Nat:=Nat.mod s.val (Nat.pow 2 (Zz 8 s.len))
def BS.beq (a b:BS):Bool:=Ax a.len b.len&&Ax a.low b.low
def BS.cat (a b:BS):BS:=⟨Ac a.len b.len,Nat.lor a.low (Nat.shiftLeft b.val (Zz 8 a.len))⟩
def BS.sub (s:BS) (lo hi:Nat):BS:=⟨Nat.sub hi lo,Nat.mod (Nat.shiftRight s.val (Zz 8 lo)) (Nat.pow 2 (Zz 8 (Nat.sub hi lo)))⟩
def BS.ofList:List UInt8->BS
 | []=>⟨0,0⟩
 | c::l=>⟨Nat.succ (BS.ofList l).len,Ac c.toNat (Zz 256 (BS.ofList l).val)⟩
theorem BS.get_lt (s:BS) (i:Nat):s.get i<256:=Re _ (by decide)
theorem BS.length_toList (s:BS):s.toList.length=s.len:=by simp[BS.toList]
theorem BS.getElem?_toList (s:BS) (i:Nat):s.toList[i]? = if i<s.len then some (UInt8.ofNat (s.get i))else none:=by
 simp only[BS.toList,BM]
 by_cases h:i<s.len
 ·rw[if_pos h,ON h];rfl
 ·rw[if_neg h,Aa (by simpa using h)];rfl
theorem BS.ofNat_inj {a b:Nat} (ha:a<256) (hb:b<256) (h:UInt8.ofNat a=UInt8.ofNat b):a=b:=by
 have:=congrArg UInt8.toNat h
 simp only[UInt8.toNat_ofNat']at this
 omega
theorem BS.testBit_get (s:BS) (i j:Nat):(s.get i).testBit j=(decide (j<8)&&s.val.testBit (8*i+j)):=by
 show Nat.testBit ((s.val >>> (8*i)) % (2 ^ 8)) j=_
 rw[Rk,Nat.testBit_shiftRight]
theorem BS.testBit_low (s:BS) (j:Nat):s.low.testBit j=(decide (j<8*s.len)&&s.val.testBit j):=by
 show Nat.testBit (s.val % (2 ^ (8*s.len))) j=_
 rw[Rk]
theorem BS.ext_get {a b:BS} (hl:a.len=b.len) (h:∀i,i<a.len->a.get i=b.get i):a.toList=b.toList:=by
 apply K0
 intro i
 rw[BS.getElem?_toList,BS.getElem?_toList,hl]
 by_cases hi:i<b.len
 ·rw[if_pos hi,if_pos hi,h i (by omega)]
 ·rw[if_neg hi,if_neg hi]
theorem BS.get_eq {a b:BS} (h:a.toList=b.toList):a.len=b.len/\∀i,i<a.len->a.get i=b.get i:=by
 have hl:a.len=b.len:=by rw[<-BS.length_toList,h,BS.length_toList]
 refine⟨hl,fun i hi=>?_⟩
 have:=congrArg (·[i]?) h
 simp only[BS.getElem?_toList]at this
 rw[if_pos hi,if_pos (by omega)]at this
 exact BS.ofNat_inj (a.get_lt i) (b.get_lt i) (AP.inj this)
theorem BS.low_eq {a b:BS} (hl:a.len=b.len):a.low=b.low↔∀i,i<a.len->a.get i=b.get i:=by
 constructor
 ·intro h i hi
  apply HU
  intro j
  rw[BS.testBit_get,BS.testBit_get]
  by_cases hj:j<8
  ·have:=congrArg (fun n=>n.testBit (8*i+j)) h
   simp only[BS.testBit_low]at this
   have h1:(8*i+j<8*a.len):=by omega
   have h2:(8*i+j<8*b.len):=by omega
   simpa[hj,h1,h2]using this
  ·simp[hj]
 ·intro h
  apply HU
  intro j
  rw[BS.testBit_low,BS.testBit_low,<-hl]
  by_cases hj:j<8*a.len
  ·have:=congrArg (fun n=>n.testBit (j % 8)) (h (j / 8) (by omega))
   simp only[BS.testBit_get]at this
   have h1:j % 8<8:=by omega
   rw[Nat.div_add_mod]at this
   simpa[h1,hj]using this
  ·simp[hj]
theorem BS.beq_iff {a b:BS}:a.beq b=true↔a.toList=b.toList:=by
 simp only[BS.beq,AK,AV]
 constructor
 ·rintro⟨hl,h⟩;exact BS.ext_get hl ((BS.low_eq hl).1 h)
 ·intro h
  obtain⟨hl,hg⟩:=BS.get_eq h
  exact⟨hl,(BS.low_eq hl).2 hg⟩
theorem BS.beq_eq (a b:BS):a.beq b=decide (a.toList=b.toList):=by
 by_cases h:a.toList=b.toList
 ·rw[BS.beq_iff.2 h];simp[h]
 ·rw[decide_eq_false h,HV];exact fun hh=>h (BS.beq_iff.1 hh)
theorem BS.get_cat_left {a b:BS} {i:Nat} (h:i<a.len):(a.cat b).get i=a.get i:=by
 apply HU
 intro j
 rw[BS.testBit_get,BS.testBit_get]
 by_cases hj:j<8
 ·show (decide (j<8)&&Nat.testBit (a.low ||| b.val <<< (8*a.len)) (8*i+j))=_
  rw[Ui,BS.testBit_low,Nat.testBit_shiftLeft]
  have h1:8*i+j<8*a.len:=by omega
  have h2:¬(8*a.len<=8*i+j):=by omega
  simp[h1,h2]
 ·simp[hj]
theorem BS.get_cat_right {a b:BS} {i:Nat} (h:a.len<=i):(a.cat b).get i=b.get (i-a.len):=by
 apply HU
 intro j
 rw[BS.testBit_get,BS.testBit_get]
 by_cases hj:j<8
 ·show (decide (j<8)&&Nat.testBit (a.low ||| b.val <<< (8*a.len)) (8*i+j))=_
  rw[Ui,BS.testBit_low,Nat.testBit_shiftLeft]
  have h1:¬(8*i+j<8*a.len):=by omega
  have h2:8*i+j ≥ 8*a.len:=by omega
  have h3:8*i+j-8*a.len=8*(i-a.len)+j:=by omega
  simp[h1,h2,h3]
 ·simp[hj]
theorem BS.toList_cat (a b:BS):(a.cat b).toList=a.toList++b.toList:=by
 apply K0
 intro i
 rw[List.getElem?_append,BS.length_toList,BS.getElem?_toList,BS.getElem?_toList,BS.getElem?_toList]
 have hl:(a.cat b).len=a.len+b.len:=rfl
 rw[hl]
 by_cases h:i<a.len
 ·rw[if_pos h,if_pos (by omega),if_pos h,BS.get_cat_left h]
 ·rw[if_neg h]
  by_cases h2:i<a.len+b.len
  ·rw[if_pos h2,if_pos (by omega),BS.get_cat_right (by omega)]
  ·rw[if_neg h2,if_neg (by omega)]
theorem BS.get_sub {s:BS} {lo hi i:Nat} (h:i<hi-lo):(s.sub lo hi).get i=s.get (lo+i):=by
 apply HU
 intro j
 rw[BS.testBit_get,BS.testBit_get]
 by_cases hj:j<8
 ·show (decide (j<8)&&Nat.testBit ((s.val >>> (8*lo)) % (2 ^ (8*(hi-lo)))) (8*i+j))=_
  rw[Rk,Nat.testBit_shiftRight]
  have h1:8*i+j<8*(hi-lo):=by omega
  have h2:8*lo+(8*i+j)=8*(lo+i)+j:=by omega
  simp[h1,h2]
 ·simp[hj]
theorem BS.toList_sub {s:BS} {lo hi:Nat} (h:hi<=s.len):(s.sub lo hi).toList=(s.toList.drop lo).take (hi-lo):=by
 apply K0
 intro i
 rw[Ey,DC,BS.getElem?_toList,BS.getElem?_toList]
 have hl:(s.sub lo hi).len=hi-lo:=rfl
 rw[hl]
 by_cases h1:i<hi-lo
 ·rw[if_pos h1,if_pos h1,if_pos (by omega),BS.get_sub h1]
 ·rw[if_neg h1,if_neg h1]
theorem BS.len_ofList:∀l:List UInt8,(BS.ofList l).len=l.length
 | []=>rfl
 | _::l=>by simp[BS.ofList,BS.len_ofList l]
theorem BS.get_ofList:∀(l:List UInt8) (i:Nat) (c:UInt8),l[i]? = some c->(BS.ofList l).get i=c.toNat
 | [],i,c,h=>by simp at h
 | d::l,0,c,h=>by
  simp at h;subst h
  show ((d.toNat+256*(BS.ofList l).val) >>> (8*0)) % 256=_
  have:=d.toNat_lt
  rw[Nat.mul_zero,Nat.shiftRight_zero]
  omega
 | d::l,i+1,c,h=>by
  simp at h
  rw[<-BS.get_ofList l i c h]
  show ((d.toNat+256*(BS.ofList l).val) >>> (8*(i+1))) % 256=((BS.ofList l).val >>> (8*i)) % 256
  have hd:=d.toNat_lt
  rw[Nat.mul_succ,Nat.add_comm (8*i) 8,Nat.shiftRight_add]
  have:(d.toNat+256*(BS.ofList l).val) >>> 8=(BS.ofList l).val:=by
   rw[Nat.shiftRight_eq_div_pow];omega
  rw[this]
theorem BS.toList_ofList (l:List UInt8):(BS.ofList l).toList=l:=by
 apply K0
 intro i
 rw[BS.getElem?_toList,BS.len_ofList]
 by_cases h:i<l.length
 ·rw[if_pos h]
  have h2:l[i]? = some l[i]:=AZ h
  rw[BS.get_ofList l i _ h2,h2]
  simp
 ·rw[if_neg h,Aa (by omega)]
structure BI where
 blk:Nat
 shift:Nat
 endc:Nat
inductive Zy where
 | ex (c:Nat)
 | op (esz:Nat)
 deriving DecidableEq,Inhabited
abbrev Cz:=Nat->Option BI
inductive V where
 | dead
 | bool (b:Bool)
 | int (k:IntKind) (n:Int)
 | str (s:BS)
 | nilp
 | ptr (b off:Nat)
 | nils
 | sl (b off len:Nat) (cap:Zy)
 | sle (b off k esz:Nat)
 | nilm
 | mp (b:Nat)
 | fn (f:FuncId) (first captured:List V)
 | nilf
 | ifc (t:TypeId) (v:V)
 | nili
 | agg (l:List V)
 | tup (l:List V)
 deriving Inhabited
def BI.cap (i:BI) (esz off:Nat):Nat:=(i.endc-off) / esz
mutual
def Au (R:Cz):V->Option Value
 | .dead=>none
 | .bool b=>some (.bool b)
 | .int k n=>some (.int k n)
 | .str l=>some (.string ⟨l.toList.toArray⟩)
 | .nilp=>some (.pointer none)
 | .ptr b off=>(R b).map fun i => .pointer (some ⟨i.blk,i.shift+off,none⟩)
 | .nils=>some (.slice none 0 0)
 | .sl b off len (.ex c)=>(R b).map fun i => .slice (some ⟨i.blk,i.shift+off,none⟩) len c
 | .sl b off len (.op e)=>(R b).bind fun i=>if len<=i.cap e off/\i.cap e off<=9223372036854775807 then some (.slice (some ⟨i.blk,i.shift+off,none⟩) len (i.cap e off))else none
 | .sle b off k e=>(R b).bind fun i=>if k<=i.cap e off then some (.slice (some (if i.cap e off=k then⟨i.blk,i.shift+off,none⟩else(⟨i.blk,i.shift+off,none⟩:Addr).add (k*e))) 0 (i.cap e off-k))else none
 | .nilm=>some (.map none)
 | .mp b=>(R b).map fun i => .map (some i.blk)
 | .fn f a c=>match A5 R a,A5 R c with
  | some x,some y=>some (.func (.func f) x.toArray y.toArray)
  | _,_=>none
 | .nilf=>some .nilFunc
 | .ifc t v=>match Au R v with
  | some x=>some (.iface t x)
  | none=>none
 | .nili=>some .nilIface
 | .agg l=>match A5 R l with
  | some x=>some (.agg x.toArray)
  | none=>none
 | .tup l=>match A5 R l with
  | some x=>some (.tuple x.toArray)
  | none=>none
def A5 (R:Cz):List V->Option (List Value)
 | []=>some []
 | v::l=>match Au R v,A5 R l with
  | some x,some y=>some (x::y)
  | _,_=>none
end
def Le (R R':Cz):Prop:=∀b i,R b=some i->R' b=some i
theorem Le.refl (R:Cz):Le R R:=fun _ _ h=>h
theorem Le.trans {R S T:Cz} (h:Le R S) (k:Le S T):Le R T:=fun b i x=>k b i (h b i x)
mutual
theorem Cq {R R':Cz} (h:Le R R'):∀(v:V) (x:Value),Au R v=some x->Au R' v=some x
 | .dead,x,e=>by simp[Au]at e
 | .bool b,x,e=>by simpa[Au]using e
 | .int k n,x,e=>by simpa[Au]using e
 | .str l,x,e=>by simpa[Au]using e
 | .nilp,x,e=>by simpa[Au]using e
 | .ptr b off,x,e=>by
  simp only[Au,Aq]at e ⊢
  obtain⟨i,hi,rfl⟩:=e;exact⟨i,h b i hi,rfl⟩
 | .nils,x,e=>by simpa[Au]using e
 | .sl b off len (.ex c),x,e=>by
  simp only[Au,Aq]at e ⊢
  obtain⟨i,hi,rfl⟩:=e;exact⟨i,h b i hi,rfl⟩
 | .sl b off len (.op _),x,e=>by
  simp only[Au,EC]at e ⊢
  obtain⟨i,hi,e⟩:=e;exact⟨i,h b i hi,e⟩
 | .sle b off k _,x,e=>by
  simp only[Au,EC]at e ⊢
  obtain⟨i,hi,e⟩:=e;exact⟨i,h b i hi,e⟩
 | .nilm,x,e=>by simpa[Au]using e
 | .mp b,x,e=>by
  simp only[Au,Aq]at e ⊢
  obtain⟨i,hi,rfl⟩:=e;exact⟨i,h b i hi,rfl⟩
 | .fn f a c,x,e=>by
  simp only[Au]at e ⊢
  cases ha:A5 R a<;>simp only[ha]at e
  ·cases e
  ·cases hc:A5 R c<;>simp only[hc]at e
   ·cases e
   ·rw[EP h a _ ha,EP h c _ hc];exact e
 | .nilf,x,e=>by simpa[Au]using e
 | .ifc t v,x,e=>by
  simp only[Au]at e ⊢
  cases hv:Au R v<;>simp only[hv]at e
  ·cases e
  ·rw[Cq h v _ hv];exact e
 | .nili,x,e=>by simpa[Au]using e
 | .agg l,x,e=>by
  simp only[Au]at e ⊢
  cases hl:A5 R l<;>simp only[hl]at e
  ·cases e
  ·rw[EP h l _ hl];exact e
 | .tup l,x,e=>by
  simp only[Au]at e ⊢
  cases hl:A5 R l<;>simp only[hl]at e
  ·cases e
  ·rw[EP h l _ hl];exact e
theorem EP {R R':Cz} (h:Le R R'):∀(l:List V) (x:List Value),A5 R l=some x->A5 R' l=some x
 | [],x,e=>by simpa[A5]using e
 | v::l,x,e=>by
  simp only[A5]at e ⊢
  cases hv:Au R v<;>simp only[hv]at e
  ·cases e
  ·cases hl:A5 R l<;>simp only[hl]at e
   ·cases e
   ·rw[Cq h v _ hv,EP h l _ hl];exact e
end
theorem Bm {R:Cz}:∀{l:List V} {x:List Value},A5 R l=some x->x.length=l.length
 | [],x,e=>by simp only[A5,AP.injEq]at e;subst e;rfl
 | v::l,x,e=>by
  simp only[A5]at e
  cases hv:Au R v<;>simp only[hv]at e
  ·cases e
  ·cases hl:A5 R l<;>simp only[hl]at e
   ·cases e
   ·cases e;simp[Bm hl]
theorem Bh {R:Cz} {v:V} {l:List V} {x:List Value}:A5 R (v::l)=some x↔∃a b,Au R v=some a/\A5 R l=some b/\x=a::b:=by
 simp only[A5]
 cases hv:Au R v<;>cases hl:A5 R l<;>simp[eq_comm]
theorem EI {R:Cz}:∀{l:List V} {x:List Value},A5 R l=some x->∀{k:Nat} {v:V},l[k]? = some v->∃a,Au R v=some a/\x[k]? = some a
 | [],x,e,k,v,h=>by simp at h
 | v::l,x,e,k,u,h=>by
  obtain⟨a,b,ha,hb,rfl⟩:=Bh.1 e
  cases k with
  | zero=>simp at h;subst h;exact⟨a,ha,by simp⟩
  | succ k=>simp at h;obtain⟨c,hc,hk⟩:=EI hb h;exact⟨c,hc,by simpa using hk⟩
theorem Mi {R:Cz}:∀{l:List V} {x:List Value},x.length=l.length->(∀(k:Nat) (v:V),l[k]? = some v->∃a,Au R v=some a/\x[k]? = some a)->A5 R l=some x
 | [],x,e,h=>by simp at e;subst e;rfl
 | v::l,[],e,h=>by simp at e
 | v::l,a::x,e,h=>by
  obtain⟨b,hb,hx⟩:=h 0 v (by simp)
  simp at hx;subst hx
  refine Bh.2 ⟨a,x,hb,Mi (by simpa using e) (fun k u hu=>?_),rfl⟩
  obtain⟨c,hc,hk⟩:=h (k+1) u (by simpa using hu)
  exact⟨c,hc,by simpa using hk⟩
theorem HO {R:Cz} {l m:List V} {x y:List Value} (h:A5 R l=some x) (k:A5 R m=some y):A5 R (l++m)=some (x++y):=by
 induction l generalizing x with
 | nil=>simp only[A5,AP.injEq]at h;subst h;simpa using k
 | cons v l ih=>obtain⟨a,b,ha,hb,rfl⟩:=Bh.1 h;exact Bh.2 ⟨a,b++y,ha,ih hb,rfl⟩
theorem QQ {R:Cz} {l:List V} {x:List Value} (h:A5 R l=some x) (n:Nat):A5 R (l.take n)=some (x.take n):=by
 induction l generalizing x n with
 | nil=>simp only[A5,AP.injEq]at h;subst h;simp[A5]
 | cons v l ih=>
  obtain⟨a,b,ha,hb,rfl⟩:=Bh.1 h
  cases n with
  | zero=>simp[A5]
  | succ n=>exact Bh.2 ⟨a,b.take n,ha,ih hb n,rfl⟩
theorem Ws {R:Cz} {l:List V} {x:List Value} (h:A5 R l=some x) (n:Nat):A5 R (l.drop n)=some (x.drop n):=by
 induction l generalizing x n with
 | nil=>simp only[A5,AP.injEq]at h;subst h;simp[A5]
 | cons v l ih=>
  obtain⟨a,b,ha,hb,rfl⟩:=Bh.1 h
  cases n with
  | zero=>simpa using h
  | succ n=>simpa using ih hb n
def V.one:V->Bool
 | .agg _ | .tup _ | .dead=>false
 | _=>true
def V.cells:V->List V
 | .agg l=>l
 | v=>[v]
theorem Hq {R:Cz} {l:List V} {a:Value} (h:Au R (.agg l)=some a):∃x,A5 R l=some x/\a = .agg x.toArray:=by
 simp only[Au]at h
 cases hl:A5 R l<;>simp only[hl]at h
 ·cases h
 ·cases h;exact⟨_,rfl,rfl⟩
theorem VU {R:Cz} {l:List V} {a:Value} (h:Au R (.tup l)=some a):∃x,A5 R l=some x/\a = .tuple x.toArray:=by
 simp only[Au]at h
 cases hl:A5 R l<;>simp only[hl]at h
 ·cases h
 ·cases h;exact⟨_,rfl,rfl⟩
theorem Dj {R:Cz} {l:List V} {x:List Value} (h:A5 R l=some x):Au R (.agg l)=some (.agg x.toArray):=by simp only[Au,h]
theorem KB {R:Cz} {l:List V} {x:List Value} (h:A5 R l=some x):Au R (.tup l)=some (.tuple x.toArray):=by simp only[Au,h]
theorem VV {R:Cz} {v:V} {a:Value} (hv:v.one=true) (h:Au R v=some a):a.cells=#[a]/\a.oneCell'=true:=by
 cases v with
 | dead=>cases hv
 | agg l=>cases hv
 | tup l=>cases hv
 | bool b=>cases h;exact⟨rfl,rfl⟩
 | int k n=>cases h;exact⟨rfl,rfl⟩
 | str l=>cases h;exact⟨rfl,rfl⟩
 | nilp=>cases h;exact⟨rfl,rfl⟩
 | nils=>cases h;exact⟨rfl,rfl⟩
 | nilm=>cases h;exact⟨rfl,rfl⟩
 | nilf=>cases h;exact⟨rfl,rfl⟩
 | nili=>cases h;exact⟨rfl,rfl⟩
 | ptr b off=>
  simp only[Au,Aq]at h
  obtain⟨i,_,rfl⟩:=h;exact⟨rfl,rfl⟩
 | mp b=>
  simp only[Au,Aq]at h
  obtain⟨i,_,rfl⟩:=h;exact⟨rfl,rfl⟩
 | sl b off len cap=>
  cases cap with
  | ex c=>
   simp only[Au,Aq]at h
   obtain⟨i,_,rfl⟩:=h;exact⟨rfl,rfl⟩
  | op e=>
   simp only[Au,EC]at h
   obtain⟨i,_,h⟩:=h
   by_cases hc:len<=i.cap e off/\i.cap e off<=9223372036854775807
   ·rw[if_pos hc]at h;cases h;exact⟨rfl,rfl⟩
   ·rw[if_neg hc]at h;cases h
 | sle b off k e=>
  simp only[Au,EC]at h
  obtain⟨i,_,h⟩:=h
  by_cases hc:k<=i.cap e off
  ·rw[if_pos hc]at h;cases h;exact⟨rfl,rfl⟩
  ·rw[if_neg hc]at h;cases h
 | ifc t v=>
  simp only[Au]at h
  cases hx:Au R v<;>simp only[hx]at h
  ·cases h
  ·cases h;exact⟨rfl,rfl⟩
 | fn f x y=>
  simp only[Au]at h
  cases hx:A5 R x<;>simp only[hx]at h
  ·cases h
  ·cases hy:A5 R y<;>simp only[hy]at h
   ·cases h
   ·cases h;exact⟨rfl,rfl⟩
theorem Hp {R:Cz} {v:V} {a:Value} (h:Au R v=some a):A5 R v.cells=some a.cells.toList:=by
 cases v with
 | dead=>cases h
 | agg l=>obtain⟨x,hx,rfl⟩:=Hq h;simpa[V.cells,Value.cells]using hx
 | tup l=>
  obtain⟨x,hx,rfl⟩:=VU h
  exact Bh.2 ⟨_,[],h,rfl,rfl⟩
 | _=>
  rw[(VV rfl h).1]
  exact Bh.2 ⟨a,[],h,rfl,rfl⟩
inductive GL where
 | cells (l:List V)
 | map (l:List (V × V))
 | siter (s:List UInt8) (pos:Nat)
 | unit (t:TypeId)
 deriving Inhabited
def look {α:Type}:List (Nat × α)->Nat->Option α
 | [],_=>none
 | (k,b)::l,id=>if Ax k id then some b else look l id
def LC {α:Type}:List (Nat × α)->Nat->α->List (Nat × α)
 | [],_,_=>[]
 | (k,b)::l,id,c=>if Ax k id then(k,c)::l else(k,b)::LC l id c
def drop {α:Type}:List (Nat × α)->Nat->List (Nat × α)
 | [],_=>[]
 | (k,b)::l,id=>if Ax k id then drop l id else(k,b)::drop l id
theorem Ha {α:Type} (l:List (Nat × α)) (id id':Nat) (c:α):look (LC l id c) id'=if id=id' then(look l id').map (fun _=>c)else look l id':=by
 induction l with
 | nil=>simp[LC,look]
 | cons p l ih=>
  obtain⟨k,b⟩:=p
  by_cases h:k=id
  ·subst h
   by_cases h':k=id'
   ·simp[LC,look,h']
   ·simp[LC,look,h']
  ·simp only[LC,look,AV,h,if_false,ih]
   by_cases h':k=id'
   ·subst h';simp[Ne.symm h]
   ·simp[h']
theorem NN {α:Type} (l:List (Nat × α)) (id id':Nat):look (drop l id) id'=if id=id' then none else look l id':=by
 induction l with
 | nil=>simp[drop,look]
 | cons p l ih=>
  obtain⟨k,b⟩:=p
  by_cases h:k=id
  ·subst h
   simp only[drop,AV,if_true,ih,look]
   by_cases h':k=id'<;>simp[h']
  ·simp only[drop,look,AV,h,if_false,ih]
   by_cases h':k=id'
   ·subst h';simp[Ne.symm h]
   ·simp[h']
abbrev EB:=List (Nat × GL)
structure H where
 next:Nat
 bl:EB
 deriving Inhabited
def H.add (J:H) (b:GL):H:=⟨J.next+1,(J.next,b)::J.bl⟩
def H.set (J:H) (id:Nat) (b:GL):H:=⟨J.next,LC J.bl id b⟩
def H.del (J:H) (id:Nat):H:=⟨J.next,drop J.bl id⟩
def Hu (R:Cz) (s:Nat) (l:List V) (arr:Array Value):Prop:=
 ∀(k:Nat) (v:V),l[k]? = some v->∃a,Au R v=some a/\a.oneCell'=true/\arr[s+k]? = some a
theorem Hu.mono {R R':Cz} {s:Nat} {l:List V} {arr:Array Value} (h:Hu R s l arr) (hle:Le R R'):Hu R' s l arr:=fun k v hk=>
 let ⟨a,ha,h1,h2⟩:=h k v hk
 ⟨a,Cq hle v a ha,h1,h2⟩
def C3 (R:Cz):List (V × V)->List MapEntry->Prop
 | [],[]=>True
 | (k,v)::l,e::es=>Au R k=some e.key/\Au R v=some e.val/\C3 R l es
 | _,_=>False
theorem C3.mono {R R':Cz} (hle:Le R R'):∀{l:List (V × V)} {es:List MapEntry},C3 R l es->C3 R' l es
 | [],[],_=>trivial
 | (_,_)::_,_::_,⟨h1,h2,h3⟩=>⟨Cq hle _ _ h1,Cq hle _ _ h2,C3.mono hle h3⟩
 | [],_::_,h=>h.elim
 | _::_,[],h=>h.elim
def FD (R:Cz) (i:BI) (b:GL) (w:World):Prop:=
 match b with
 | .cells l=>∃arr el lo hi,w.heap[i.blk]? = some (.cells arr el (lo,hi))/\Hu R i.shift l arr/\i.shift+i.endc<=arr.size/\l.length<=i.endc /\
   (∀off,off<arr.size->¬(lo<=off/\off<hi))
 | .map l=>∃es clock,w.heap[i.blk]? = some (.map es clock)/\C3 R l es.toList
 | .siter s p=>w.heap[i.blk]? = some (.stringIter ⟨s.toArray⟩ p)
 | .unit t=>∃fr,w.heap[i.blk]? = some (.cells #[] t fr)
def HC (R:Cz) (i:BI) (b:GL) (w:World):Prop:=
 match b with
 | .cells l=>∃arr el fr,w.heap[i.blk]? = some (.cells arr el fr)/\Hu R i.shift l arr
 | _=>False
theorem FD.mono {R R':Cz} {i:BI} {b:GL} {w w':World} (h:FD R i b w) (hle:Le R R') (hw:w'.heap[i.blk]? = w.heap[i.blk]?):FD R' i b w':=by
 cases b with
 | cells l=>
  obtain⟨arr,el,lo,hi,h1,h2,h3,h4,h5⟩:=h
  exact⟨arr,el,lo,hi,hw.trans h1,h2.mono hle,h3,h4,h5⟩
 | map l=>
  obtain⟨es,c,h1,h2⟩:=h
  exact⟨es,c,hw.trans h1,h2.mono hle⟩
 | siter s p=>exact hw.trans h
 | unit t=>obtain⟨fr,h1⟩:=h;exact⟨fr,hw.trans h1⟩
theorem HC.mono {R R':Cz} {i:BI} {b:GL} {w w':World} (h:HC R i b w) (hle:Le R R') (hw:w'.heap[i.blk]? = w.heap[i.blk]?):HC R' i b w':=by
 cases b with
 | cells l=>
  obtain⟨arr,el,fr,h1,h2⟩:=h
  exact⟨arr,el,fr,hw.trans h1,h2.mono hle⟩
 | _=>exact h.elim
theorem FD.lt {R:Cz} {i:BI} {b:GL} {w:World} (h:FD R i b w):i.blk<w.heap.size:=by
 have:∃o,w.heap[i.blk]? = some o:=by
  cases b with
  | cells l=>obtain⟨arr,el,lo,hi,h1,_⟩:=h;exact⟨_,h1⟩
  | map l=>obtain⟨es,c,h1,_⟩:=h;exact⟨_,h1⟩
  | siter s p=>exact⟨_,h⟩
  | unit t=>obtain⟨fr,h1⟩:=h;exact⟨_,h1⟩
 obtain⟨o,ho⟩:=this
 rcases Al i.blk w.heap.size with h|h
 ·exact h
 ·simp[CE h]at ho
structure Cx where
 O:Nat->Prop
 w0:World
 E:EB
 G:Nat->Bool
structure Ds (C:Cx) (R:Cz) (J:H) (w:World):Prop where
 fresh:∀id,J.next<=id->R id=none
 own:∀id b,look J.bl id=some b->∃i,R id=some i/\C.O i.blk/\FD R i b w
 inj:∀id id' b b' i i',look J.bl id=some b->look J.bl id'=some b'->R id=some i->R id'=some i'->i.blk=i'.blk->id=id'
 ext:∀id b,look C.E id=some b->∃i,R id=some i/\¬C.O i.blk/\HC R i b w
 glob:∀g,C.G g=true->∃i,R g=some i/\i.blk=g/\i.shift=0
 fr:∀blk,¬C.O blk->w.heap[blk]? = C.w0.heap[blk]?
 size:C.w0.heap.size<=w.heap.size
 new:∀blk,C.w0.heap.size<=blk->C.O blk
 os:w.os=C.w0.os
 tape:w.tape=C.w0.tape
 output:w.output=C.w0.output
def G8 (n:Nat) (R R':Cz):Prop:=∀id,id<n->R' id=R id
theorem G8.refl (n:Nat) (R:Cz):G8 n R R:=fun _ _=>rfl
theorem G8.trans {n m:Nat} {R S T:Cz} (h:G8 n R S) (k:G8 m S T) (hn:n<=m):G8 n R T:=fun id hi=>(k id (by omega)).trans (h id hi)
theorem G8.le {n:Nat} {R R':Cz} (h:G8 n R R') (hf:∀id,n<=id->R id=none):Le R R':=fun id i hi=>by
 rcases Al id n with hl|hl
 ·rw[h id hl];exact hi
 ·rw[hf id hl]at hi;cases hi
def IS (R:Cz) (id:Nat) (i:BI):Cz:=fun k=>if k=id then some i else R k
theorem CL (R:Cz) (id:Nat) (i:BI):IS R id i id=some i:=by simp[IS]
theorem Bt {R:Cz} {id k:Nat} {i:BI} (h:k≠id):IS R id i k=R k:=by simp[IS,h]
theorem E5 (R:Cz) (n:Nat) (i:BI):G8 n R (IS R n i):=fun id hi=>Bt (by omega)
theorem Ds.next_of_own {C:Cx} {R:Cz} {J:H} {w:World} (h:Ds C R J w) {id:Nat} {b:GL} (hb:look J.bl id=some b):id<J.next:=by
 rcases Al id J.next with hl|hl
 ·exact hl
 ·obtain⟨i,hi,_⟩:=h.own id b hb
  rw[h.fresh id hl]at hi;cases hi
theorem Ds.drawn {C:Cx} {R:Cz} {J:H} {w:World} (h:Ds C R J w) (d:Nat):Ds C R J { w with drawn:=d }:=
 ⟨h.fresh,h.own,h.inj,h.ext,h.glob,h.fr,h.size,h.new,h.os,h.tape,h.output⟩
structure FF (w w':World):Prop where
 old:∀k,k<w.heap.size->w'.heap[k]? = w.heap[k]?
 size:w'.heap.size=w.heap.size+1
 os:w'.os=w.os
 tape:w'.tape=w.tape
 output:w'.output=w.output
theorem FF.of_alloc (w:World) (o:Obj):FF w (w.alloc o):=
 ⟨fun k hk=>by show (w.heap.push o)[k]? = _;rw[Array.getElem?_push,if_neg (by omega)],World.size_alloc w o,rfl,rfl,rfl⟩
theorem Ds.alloc {C:Cx} {R:Cz} {J:H} {w w':World} (h:Ds C R J w) (hn:FF w w') (b:GL) (i:BI) (hi:i.blk=w.heap.size)
  (hb:FD (IS R J.next i) i b w'):Ds C (IS R J.next i) (J.add b) w':=by
 have hle:Le R (IS R J.next i):=(E5 R J.next i).le h.fresh
 have hold:=hn.old
 have hO:C.O w.heap.size:=h.new _ h.size
 refine⟨?_,?_,?_,?_,?_,?_,?_,h.new,hn.os.trans h.os,hn.tape.trans h.tape,hn.output.trans h.output⟩
 ·intro id hid
  have hid':J.next+1<=id:=hid
  rw[Bt (by omega)];exact h.fresh id (by omega)
 ·intro id c hc
  by_cases he:id=J.next
  ·subst he
   simp only[H.add,look,AV,if_true,AP.injEq]at hc
   subst hc
   exact⟨i,CL _ _ _,hi ▸ hO,hb⟩
  ·simp only[H.add,look,AV,Ne.symm he,if_false]at hc
   obtain⟨j,hj,hOj,hok⟩:=h.own id c hc
   exact⟨j,by rw[Bt he];exact hj,hOj,hok.mono hle (hold _ hok.lt)⟩
 ·intro id id' c c' j j' hc hc' hj hj' hbl
  by_cases he:id=J.next
  ·by_cases he':id'=J.next
   ·rw[he,he']
   ·exfalso
    subst he
    rw[CL]at hj;cases hj
    simp only[H.add,look,AV,Ne.symm he',if_false]at hc'
    rw[Bt he']at hj'
    obtain⟨k,hk,_,hok⟩:=h.own id' c' hc'
    rw[hk]at hj';cases hj'
    have:=hok.lt
    omega
  ·by_cases he':id'=J.next
   ·exfalso
    subst he'
    rw[CL]at hj';cases hj'
    simp only[H.add,look,AV,Ne.symm he,if_false]at hc
    rw[Bt he]at hj
    obtain⟨k,hk,_,hok⟩:=h.own id c hc
    rw[hk]at hj;cases hj
    have:=hok.lt
    omega
   ·simp only[H.add,look,AV,Ne.symm he,Ne.symm he',if_false]at hc hc'
    rw[Bt he]at hj;rw[Bt he']at hj'
    exact h.inj id id' c c' j j' hc hc' hj hj' hbl
 ·intro id c hc
  obtain⟨j,hj,hno,hok⟩:=h.ext id c hc
  refine⟨j,hle _ _ hj,hno,hok.mono hle (hold _ ?_)⟩
  rcases Al j.blk w.heap.size with hl|hl
  ·exact hl
  ·exact absurd (h.new _ (Ae h.size hl)) hno
 ·intro g hg
  obtain⟨j,hj,hb⟩:=h.glob g hg
  exact⟨j,hle _ _ hj,hb⟩
 ·intro blk hno
  rw[<-h.fr blk hno]
  refine hold _ ?_
  rcases Al blk w.heap.size with hl|hl
  ·exact hl
  ·exact absurd (h.new _ (Ae h.size hl)) hno
 ·rw[hn.size];have:=h.size;omega
theorem Ds.write {C:Cx} {R:Cz} {J:H} {w w':World} (h:Ds C R J w) {id:Nat} {b c:GL} {i:BI} (hb:look J.bl id=some b) (hi:R id=some i)
  (hc:FD R i c w') (hold:∀k,k≠i.blk->w'.heap[k]? = w.heap[k]?) (hsz:w'.heap.size=w.heap.size)
  (hos:w'.os=w.os) (htape:w'.tape=w.tape) (hout:w'.output=w.output):Ds C R (J.set id c) w':=by
 have hlook:∀k,look (J.set id c).bl k=if id=k then(look J.bl k).map (fun _=>c)else look J.bl k:=fun k=>Ha J.bl id k c
 have hOi:C.O i.blk:=by obtain⟨j,hj,hO,_⟩:=h.own id b hb;rw[hi]at hj;cases hj;exact hO
 refine⟨h.fresh,?_,?_,?_,h.glob,?_,?_,h.new,hos.trans h.os,htape.trans h.tape,hout.trans h.output⟩
 ·intro k d hd
  rw[hlook]at hd
  by_cases he:id=k
  ·subst he
   rw[if_pos rfl,hb]at hd;cases hd
   exact⟨i,hi,hOi,hc⟩
  ·rw[if_neg he]at hd
   obtain⟨j,hj,hO,hok⟩:=h.own k d hd
   refine⟨j,hj,hO,hok.mono (Le.refl _) (hold _ fun hbl=>he (h.inj id k b d i j hb hd hi hj hbl.symm))⟩
 ·intro k k' d d' j j' hd hd' hj hj' hbl
  rw[hlook]at hd hd'
  have hs:∀m e,(if id=m then(look J.bl m).map (fun _=>c)else look J.bl m)=some e->∃f,look J.bl m=some f:=fun m e hm=>by
   by_cases he:id=m
   ·rw[if_pos he]at hm
    cases hl:look J.bl m with
    | none=>rw[hl]at hm;cases hm
    | some f=>exact⟨f,rfl⟩
   ·rw[if_neg he]at hm;exact⟨e,hm⟩
  obtain⟨f,hf⟩:=hs k d hd
  obtain⟨f',hf'⟩:=hs k' d' hd'
  exact h.inj k k' f f' j j' hf hf' hj hj' hbl
 ·intro k d hd
  obtain⟨j,hj,hn,hok⟩:=h.ext k d hd
  exact⟨j,hj,hn,hok.mono (Le.refl _) (hold _ fun hbl=>hn (hbl ▸ hOi))⟩
 ·intro blk hn
  rw[<-h.fr blk hn]
  exact hold _ fun hbl=>hn (hbl ▸ hOi)
 ·rw[hsz];exact h.size
theorem Ds.del {C:Cx} {R:Cz} {J:H} {w:World} (h:Ds C R J w) (id:Nat):Ds C R (J.del id) w:=by
 have hlook:∀k,look (J.del id).bl k=if id=k then none else look J.bl k:=fun k=>NN J.bl id k
 have hs:∀k c,look (J.del id).bl k=some c->look J.bl k=some c:=fun k c hk=>by
  rw[hlook]at hk
  by_cases he:id=k
  ·rw[if_pos he]at hk;cases hk
  ·rwa [if_neg he]at hk
 exact⟨h.fresh,fun k c hk=>h.own k c (hs k c hk),fun k k' c c' i i' hk hk'=>h.inj k k' c c' i i' (hs k c hk) (hs k' c' hk'),h.ext,h.glob,h.fr,h.size,h.new,h.os,h.tape,h.output⟩
theorem Ds.rename {C:Cx} {R:Cz} {J:H} {w w':World} (h:Ds C R J w) {id:Nat} {b c:GL} {i:BI} (hb:look J.bl id=some b) (hi:R id=some i)
  (hc:FD (IS R J.next i) i c w') (hold:∀k,k≠i.blk->w'.heap[k]? = w.heap[k]?) (hsz:w'.heap.size=w.heap.size)
  (hos:w'.os=w.os) (htape:w'.tape=w.tape) (hout:w'.output=w.output):Ds C (IS R J.next i) ((J.del id).add c) w':=by
 have hle:Le R (IS R J.next i):=(E5 R J.next i).le h.fresh
 have hOi:C.O i.blk:=by obtain⟨j,hj,hO,_⟩:=h.own id b hb;rw[hi]at hj;cases hj;exact hO
 have hlook:∀k,look (J.del id).bl k=if id=k then none else look J.bl k:=fun k=>NN J.bl id k
 have hs:∀k d,k≠J.next->look ((J.del id).add c).bl k=some d->id≠k/\look J.bl k=some d:=fun k d hk hd=>by
  simp only[H.add,H.del,look,AV,Ne.symm hk,if_false]at hd
  have hd':look (J.del id).bl k=some d:=hd
  rw[hlook]at hd'
  by_cases he:id=k
  ·rw[if_pos he]at hd';cases hd'
  ·rw[if_neg he]at hd';exact⟨he,hd'⟩
 refine⟨?_,?_,?_,?_,?_,?_,?_,h.new,hos.trans h.os,htape.trans h.tape,hout.trans h.output⟩
 ·intro k hk
  have hk':J.next+1<=k:=hk
  rw[Bt (by omega)];exact h.fresh k (by omega)
 ·intro k d hd
  by_cases he:k=J.next
  ·subst he
   simp only[H.add,H.del,look,AV,if_true,AP.injEq]at hd
   subst hd
   exact⟨i,CL _ _ _,hOi,hc⟩
  ·obtain⟨hne,hd'⟩:=hs k d he hd
   obtain⟨j,hj,hO,hok⟩:=h.own k d hd'
   refine⟨j,hle _ _ hj,hO,hok.mono hle (hold _ fun hbl=>hne (h.inj id k b d i j hb hd' hi hj hbl.symm))⟩
 ·intro k k' d d' j j' hd hd' hj hj' hbl
  by_cases he:k=J.next
  ·by_cases he':k'=J.next
   ·rw[he,he']
   ·exfalso
    subst he
    rw[CL]at hj;cases hj
    obtain⟨hne,hd2⟩:=hs k' d' he' hd'
    rw[Bt he']at hj'
    exact hne (h.inj id k' b d' _ j' hb hd2 hi hj' hbl)
  ·by_cases he':k'=J.next
   ·exfalso
    subst he'
    rw[CL]at hj';cases hj'
    obtain⟨hne,hd2⟩:=hs k d he hd
    rw[Bt he]at hj
    exact hne (h.inj id k b d _ j hb hd2 hi hj hbl.symm)
   ·obtain⟨_,hd2⟩:=hs k d he hd
    obtain⟨_,hd2'⟩:=hs k' d' he' hd'
    rw[Bt he]at hj;rw[Bt he']at hj'
    exact h.inj k k' d d' j j' hd2 hd2' hj hj' hbl
 ·intro k d hd
  obtain⟨j,hj,hn,hok⟩:=h.ext k d hd
  exact⟨j,hle _ _ hj,hn,hok.mono hle (hold _ fun hbl=>hn (hbl ▸ hOi))⟩
 ·intro g hg
  obtain⟨j,hj,hb⟩:=h.glob g hg
  exact⟨j,hle _ _ hj,hb⟩
 ·intro blk hn
  rw[<-h.fr blk hn]
  exact hold _ fun hbl=>hn (hbl ▸ hOi)
 ·rw[hsz];exact h.size
def rd (E:EB) (J:H) (id:Nat):Option (List V):=
 match look J.bl id with
 | some (.cells l)=>some l
 | some _=>none
 | none=>match look E id with
  | some (.cells l)=>some l
  | _=>none
theorem Ds.read {C:Cx} {R:Cz} {J:H} {w:World} (h:Ds C R J w) {id:Nat} {l:List V} (hl:rd C.E J id=some l) :
  ∃i arr el fr,R id=some i/\w.heap[i.blk]? = some (.cells arr el fr)/\Hu R i.shift l arr:=by
 unfold rd at hl
 cases hb:look J.bl id with
 | some b=>
  rw[hb]at hl
  obtain⟨i,hi,_,hok⟩:=h.own id b hb
  cases b with
  | cells m=>cases hl;obtain⟨arr,el,lo,hi',h1,h2,_⟩:=hok;exact⟨i,arr,el,_,hi,h1,h2⟩
  | map m=>cases hl
  | siter s p=>cases hl
  | unit t=>cases hl
 | none=>
  rw[hb]at hl
  cases he:look C.E id with
  | none=>rw[he]at hl;cases hl
  | some b=>
   rw[he]at hl
   obtain⟨i,hi,_,hok⟩:=h.ext id b he
   cases b with
   | cells m=>cases hl;obtain⟨arr,el,fr,h1,h2⟩:=hok;exact⟨i,arr,el,fr,hi,h1,h2⟩
   | map m=>cases hl
   | siter s p=>cases hl
   | unit t=>cases hl
inductive AO where
 | tmp (i:Nat)
 | con (v:V)
 deriving Inhabited
inductive FK where
 | int | bool | str
 deriving DecidableEq,Inhabited
inductive Fp where
 | bool | ptr | slice | map | func
 | iface (lit:Bool)
 | flat (l:List (Nat × FK))
 | none
 deriving DecidableEq,Inhabited
inductive AEW where
 | toInt (k:IntKind)
 | same
 | toBytes (el:TypeId)
 | toStr
 | bad
 deriving DecidableEq,Inhabited
inductive Ej where
 | mov (x:AO)
 | pick (c a b:AO)
 | alloc (el:TypeId) (z:List V)
 | box (el:TypeId) (x:AO)
 | build (z:List V) (Jv:List (Nat × Nat × AO))
 | buildSlice (el:TypeId) (n:Nat) (z:List V) (Jv:List (Nat × Nat × AO))
 | load (n:Option Nat) (x:AO)
 | store (n:Nat) (x v:AO)
 | nilck (x:AO)
 | bin (op:BinOp) (t:Fp) (x y:AO)
 | un (op:UnOp) (x:AO)
 | conv (t:AEW) (x:AO)
 | mkifc (t:TypeId) (x:AO)
 | mkfn (f:FuncId) (first captured:List AO)
 | mkslice (el:TypeId) (esz bytes:Nat) (z:List V) (len cap:AO)
 | sliceStr (x:AO) (lo hi:Option AO)
 | sliceSl (esz:Nat) (x:AO) (lo hi mx:Option AO)
 | sliceArr (n esz:Nat) (x:AO) (lo hi mx:Option AO)
 | faddr (off:Nat) (x:AO)
 | field (off:Nat) (n:Option Nat) (x:AO)
 | iaddrS (esz:Nat) (x i:AO)
 | iaddrA (n esz:Nat) (x i:AO)
 | idxStr (x i:AO)
 | extract (i:Nat) (x:AO)
 | len (str:Bool) (x:AO)
 | lenC (n:Nat)
 | cap (x:AO)
 | append (el:TypeId) (esz bytes:Nat) (s x:AO)
 | copy (esz:Nat) (d s:AO)
 | min (x:AO) (l:List AO)
 | max (x:AO) (l:List AO)
 | call (f:FuncId) (args:List AO)
 | callv (f:AO) (args:List AO)
 | mkmap
 | lookup (t:Fp) (z:V) (m x:AO)
 | mapset (t:Fp) (m k v:AO)
 | alloc0 (el:TypeId)
 | box0 (el:TypeId) (x:AO)
 | load0 (x:AO)
 | store0 (x v:AO)
 | faddr0 (t:TypeId) (x:AO)
 | idxArr (n esz:Nat) (s:Option Nat) (x i:AO)
 | bad
 deriving Inhabited
structure BY where
 dst:Option Nat
 op:Ej
 guard:Option (Nat × Bool)
 deriving Inhabited
structure DP where
 anc:Nat
 looks:List Nat
 deriving Inhabited
inductive AC where
 | skip
 | region (ops:List BY)
 | draw (ops:List BY) (plan:List DP)
 | seq (a b:AC)
 | cond (c:AO) (a b:AC)
 | block (id:Nat) (c:AC)
 | loop (c:AC)
 | exit (id:Nat)
 | ret
 | keep (ts:List Nat) (c:AC)
 | bad
 deriving Inhabited
inductive AR where
 | tmp (t:Nat)
 | cell (t:Nat) (n:Option Nat)
 deriving Inhabited
structure cB where
 ntmps:Nat
 results:List AR
 frees:List Nat
 body:AC
 deriving Inhabited
abbrev CF:=List (Nat × V)
def Gb (e:CF) (t:Nat):V:=
 match look e t with
 | some v=>v
 | none => .dead
def CZ (e:CF):AO->V
 | .tmp i=>Gb e i
 | .con v=>v
def Fm (e:CF) (l:List AO):List V:=l.map (CZ e)
def Df (e:CF):Option AO->Option V
 | some x=>some (CZ e x)
 | none=>none
def V.live:V->Bool
 | .dead=>false
 | _=>true
def Hg:List V->Nat->List V->List V
 | l,_,[]=>l
 | [],_,_::_=>[]
 | _::l,0,c::cs=>c::Hg l 0 cs
 | a::l,n+1,c::cs=>a::Hg l n (c::cs)
def FQ:List (Nat × Nat × V)->List V->Option (List V)
 | [],z=>some z
 | (off,size,v)::r,z=>
  if v.live&&Ax v.cells.length size&&A0 (off+size) z.length then FQ r (Hg z off v.cells)else none
def Jv (e:CF) (l:List (Nat × Nat × AO)):List (Nat × Nat × V):=l.map fun(o,s,x)=>(o,s,CZ e x)
def allOne:List V->Bool
 | []=>true
 | v::l=>v.one&&allOne l
def bi (b:Bool):V := .bool b
def Tl (op:BinOp) (a b:Int):Option Bool:=
 match op with
 | .eql=>some (a==b)
 | .neq=>some (a != b)
 | .lss=>some (decide (a<b))
 | .leq=>some (decide (a<=b))
 | .gtr=>some (decide (a > b))
 | .geq=>some (decide (a ≥ b))
 | _=>none
def ZO (op:BinOp) (k:IntKind) (a b:Int):Option Int:=
 match op with
 | .add=>some (k.wrap (a+b))
 | .sub=>some (k.wrap (a-b))
 | .mul=>some (k.wrap (a*b))
 | .quo=>if b=0 then none else some (k.wrap (a.tdiv b))
 | .rem=>if b=0 then none else some (a.tmod b)
 | .and=>some (k.wrap (BU k.bits a &&& BU k.bits b).toNat)
 | .or=>some (k.wrap (BU k.bits a ||| BU k.bits b).toNat)
 | .xor=>some (k.wrap (BU k.bits a ^^^ BU k.bits b).toNat)
 | .andNot=>some (k.wrap (BU k.bits a &&& ~~~BU k.bits b).toNat)
 | _=>none
def Pg (op:BinOp) (k:IntKind) (a b:Int):Option Int:=
 if b<0 then none else
 match op with
 | .shl=>some (k.wrap (a*2 ^ (E9 b.toNat k.bits)))
 | .shr=>some (a.fdiv (2 ^ (E9 b.toNat k.bits)))
 | _=>none
def cU (op:BinOp) (a b:BS):Option V:=
 match op with
 | .add=>match A0 (Ac a.len b.len) 1000000000000 with
  | true=>some (.str (a.cat b))
  | false=>none
 | .eql=>some (.bool (a.beq b))
 | .neq=>some (.bool (not (a.beq b)))
 | .lss=>some (.bool (Op.bytesLess a.toList b.toList))
 | .leq=>some (.bool (Op.bytesLess a.toList b.toList || a.beq b))
 | .gtr=>some (.bool (not (Op.bytesLess a.toList b.toList || a.beq b)))
 | .geq=>some (.bool (not (Op.bytesLess a.toList b.toList)))
 | _=>none
def Cu (a b:Int):Bool:=match a,b with
 | .ofNat m,.ofNat n=>Ax m n
 | .negSucc m,.negSucc n=>Ax m n
 | _,_=>false
theorem Lo (a b:Int):Cu a b=(a==b):=by
 cases a<;>cases b<;>simp only[Cu]<;>(rw[PQ];simp[AV])<;>omega
def Lp:FK->V->V->Option Bool
 | .int,.int k a,.int k' b=>if k=k' then some (Cu a b)else none
 | .bool,.bool a,.bool b=>some (a==b)
 | .str,.str a,.str b=>some (a.beq b)
 | _,_,_=>none
def I5:List V->Nat->V
 | [],_ => .dead
 | v::_,0=>v
 | _::l,n+1=>I5 l n
def G3:List (Nat × FK)->List V->List V->Option Bool
 | [],_,_=>some true
 | (o,k)::r,xs,ys=>match Lp k (I5 xs o) (I5 ys o)with
  | some a=>match G3 r xs ys with
   | some b=>some (a&&b)
   | none=>none
  | none=>none
def ym:Fp->V->V->Option Bool
 | .flat l,.agg xs,.agg ys=>G3 l xs ys
 | _,_,_=>none
def SP (t:Fp) (x:V):Bool:=match ym t x x with
 | some _=>true
 | none=>false
def SU (t:Fp) (k:V):List (V × V)->Option (Option V)
 | []=>some none
 | (q,v)::l=>match ym t k q with
  | some true=>some (some v)
  | some false=>SU t k l
  | none=>none
def LJ:Fp->V->V->Option Bool
 | .flat l,.agg xs,.agg ys=>G3 l xs ys
 | .bool,.bool a,.bool b=>some (a==b)
 | .ptr,.nilp,.nilp=>some true
 | .ptr,.nilp,.ptr _ _=>some false
 | .ptr,.ptr _ _,.nilp=>some false
 | .slice,.nils,.nils=>some true
 | .slice,.nils,.sl _ _ _ _=>some false
 | .slice,.sl _ _ _ _,.nils=>some false
 | .slice,.nils,.sle _ _ _ _=>some false
 | .slice,.sle _ _ _ _,.nils=>some false
 | .map,.nilm,.nilm=>some true
 | .map,.nilm,.mp _=>some false
 | .map,.mp _,.nilm=>some false
 | .func,.nilf,.nilf=>some true
 | .func,.nilf,.fn _ _ _=>some false
 | .func,.fn _ _ _,.nilf=>some false
 | .iface true,.nili,.nili=>some true
 | .iface _,.nili,.ifc _ _=>some false
 | .iface _,.ifc _ _,.nili=>some false
 | _,_,_=>none
def Ik (op:BinOp) (t:Fp) (x y:V):Option V:=
 match x,y with
 | .int k a,.int k' b=>
  match op with
  | .shl | .shr=>(Pg op k a b).map (.int k)
  | .add | .sub | .mul | .quo | .rem | .and | .or | .xor | .andNot=>if k=k' then(ZO op k a b).map (.int k)else none
  | _=>if k=k' then(Tl op a b).map .bool else none
 | .str a,.str b=>cU op a b
 | x,y=>
  match op with
  | .eql=>(LJ t x y).map .bool
  | .neq=>(LJ t x y).map fun b => .bool !b
  | _=>none
def unV (op:UnOp) (x:V):Option V:=
 match op,x with
 | .neg,.int k n=>some (.int k (k.wrap (0-n)))
 | .xor,.int k n=>some (.int k (k.wrap (BU k.bits (if k.signed then -1 else k.max) ^^^ BU k.bits n).toNat))
 | .not,.bool b=>some (.bool !b)
 | _,_=>none
def aO (l:List UInt8):List V:=l.map fun b => .int .u8 b.toNat
def FW:List V->Option (List UInt8)
 | []=>some []
 | .int .u8 n::l=>(FW l).map (UInt8.ofNat n.toNat::·)
 | _=>none
def NA (E:EB) (J:H) (b off n:Nat):Option (List V):=
 match rd E J b with
 | some l=>if A0 (off+n) l.length then some ((l.drop off).take n)else none
 | none=>none
def V.isStr:V->Bool
 | .str _=>true
 | _=>false
def Ch (E:EB) (J:H) (esz:Nat):V->Option (Nat × List V)
 | .nils=>some (0,[])
 | .sle _ _ _ _=>some (0,[])
 | .sl b off len _=>(NA E J b off (len*esz)).map fun l=>(len,l)
 | .str l=>if esz=1 then some (l.len,aO l.toList)else none
 | _=>none
def CV (need bytes:Nat):Bool:=A0 (need*bytes) 140737488355328&&A0 need 9223372036854775807
def EE (E:EB) (esz bytes:Nat) (s x:V) (J:H):Option (V × H):=
 match Ch E J esz x with
 | none=>none
 | some (n,new)=>
  match s with
  | .nils=>
   if n=0 then some (.nils,J)
   else if CV n bytes then some (.sl J.next 0 n (.op esz),J.add (.cells new))else none
  | .sl b off len (.ex c)=>
   if A0 (len+n) c then
    if n=0 then some (s,J)else
    match look J.bl b with
    | some (.cells l)=>if A0 (off+(len+n)*esz) l.length&&allOne new then some (.sl b off (len+n) (.ex c),J.set b (.cells (Hg l (off+len*esz) new)))else none
    | _=>none
   else if CV (len+n) bytes then
    match NA E J b off (len*esz)with
    | some old=>some (.sl J.next 0 (len+n) (.op esz),J.add (.cells (old++new)))
    | none=>none
   else none
  | .sl b 0 len (.op e)=>
   if n=0 then some (s,J)else
   match look J.bl b with
   | some (.cells l)=>
    if Ax l.length (len*esz)&&Ax e esz&&CV (len+n) bytes&&allOne new then some (.sl J.next 0 (len+n) (.op esz),(J.del b).add (.cells (l++new)))else none
   | _=>none
  | .sl _ _ _ (.op _)=>if n=0 then some (s,J)else none
  | _=>none
def G0:Option V->Nat->Option Nat
 | none,d=>some d
 | some (.int _ n),_=>if 0<=n then some n.toNat else none
 | _,_=>none
def CP (esz:Nat) (x:V) (lo hi mx:Option V):Option V:=
 match x with
 | .nils=>
  match G0 mx 0 with
  | none=>none
  | some m=>match G0 hi 0 with
   | none=>none
   | some h=>match G0 lo 0 with
    | none=>none
    | some l=>if A0 l h&&A0 h m&&Ax m 0 then some .nils else none
 | .sl b off len (.ex c)=>
  match G0 mx c with
  | none=>none
  | some m=>match G0 hi len with
   | none=>none
   | some h=>match G0 lo 0 with
    | none=>none
    | some l=>if A0 l h&&A0 h m&&(mx.isNone || A0 m c)then some (.sl b (if Ax m l then off else off+l*esz) (h-l) (.ex (m-l)))else none
 | .sl b off len (.op e)=>
  match G0 hi len with
  | none=>none
  | some h=>match G0 lo 0 with
   | none=>none
   | some l=>
    match mx with
    | none=>
     if A0 l h&&A0 h len&&Ax e esz then
      if Ax l len then(if Ax l 0 then some x else some (.sle b off l e))else some (.sl b (off+l*esz) (h-l) (.op e))
     else none
    | some v=>match G0 (some v) 0 with
     | none=>none
     | some m=>if A0 l h&&A0 h m&&A0 m len then some (.sl b (if Ax m l then off else off+l*esz) (h-l) (.ex (m-l)))else none
 | .sle _ _ _ _=>
  match G0 hi 0 with
  | none=>none
  | some h=>match G0 lo 0 with
   | none=>none
   | some l=>match mx with
    | none=>if Ax h 0&&Ax l 0 then some x else none
    | some _=>none
 | _=>none
def IV (n esz:Nat) (x:V) (lo hi mx:Option V):Option V:=
 match x with
 | .ptr b off=>
  match G0 mx n with
  | none=>none
  | some m=>match G0 hi n with
   | none=>none
   | some h=>match G0 lo 0 with
    | none=>none
    | some l=>if A0 l h&&A0 h m&&A0 m n then some (.sl b (if Ax m l then off else off+l*esz) (h-l) (.ex (m-l)))else none
 | _=>none
def IU (x:V) (lo hi:Option V):Option V:=
 match x with
 | .str s=>
  match G0 hi s.len with
  | none=>none
  | some h=>match G0 lo 0 with
   | none=>none
   | some l=>if A0 l h&&A0 h s.len then some (.str (s.sub l h))else none
 | _=>none
def VF:V->List V->Option V
 | x,[]=>some x
 | .int k a,.int k' b::l=>if k=k' then VF (.int k (if b<a then b else a)) l else none
 | _,_::_=>none
def VG:V->List V->Option V
 | x,[]=>some x
 | .int k a,.int k' b::l=>if k=k' then VG (.int k (if b > a then b else a)) l else none
 | _,_::_=>none
def Lm (l:List V) (off:Nat):Option Nat->Option V
 | none=>l[off]?
 | some n=>if A0 (off+n) l.length then some (.agg ((l.drop off).take n))else none
def Be (o:Ej) (e:CF):Option V:=
 match o with
 | .mov x=>let v:=CZ e x;if v.live then some v else none
 | .pick c a b=>
  match CZ e c with
  | .bool true=>let v:=CZ e a;if v.live then some v else none
  | .bool false=>let v:=CZ e b;if v.live then some v else none
  | _=>none
 | .build z ps=>match FQ (Jv e ps) z with
  | some l=>some (.agg l)
  | none=>none
 | .nilck x=>match CZ e x with
  | .ptr b off=>some (.ptr b off)
  | _=>none
 | .bin op t x y=>Ik op t (CZ e x) (CZ e y)
 | .un op x=>unV op (CZ e x)
 | .conv (.toInt k) x=>match CZ e x with
  | .int _ n=>some (.int k (k.wrap n))
  | _=>none
 | .conv .same x=>match CZ e x with
  | .str l=>some (.str l)
  | _=>none
 | .mkifc t x=>let v:=CZ e x;if v.live then some (.ifc t v)else none
 | .mkfn f a c=>if(Fm e a).all V.live&&(Fm e c).all V.live then some (.fn f (Fm e a) (Fm e c))else none
 | .sliceStr x lo hi=>IU (CZ e x) (Df e lo) (Df e hi)
 | .sliceSl esz x lo hi mx=>CP esz (CZ e x) (Df e lo) (Df e hi) (Df e mx)
 | .sliceArr n esz x lo hi mx=>IV n esz (CZ e x) (Df e lo) (Df e hi) (Df e mx)
 | .faddr off x=>match CZ e x with
  | .ptr b o=>some (.ptr b (o+off))
  | _=>none
 | .field off none x=>match CZ e x with
  | .agg l=>l[off]?
  | _=>none
 | .field off (some n) x=>match CZ e x with
  | .agg l=>if A0 (off+n) l.length then some (.agg ((l.drop off).take n))else none
  | _=>none
 | .iaddrS esz x i=>match CZ e x,CZ e i with
  | .sl b off len _,.int _ n=>if 0<=n/\n<len then some (.ptr b (off+n.toNat*esz))else none
  | _,_=>none
 | .iaddrA len esz x i=>match CZ e x,CZ e i with
  | .ptr b off,.int _ n=>if 0<=n/\n<len then some (.ptr b (off+n.toNat*esz))else none
  | _,_=>none
 | .idxStr x i=>match CZ e x,CZ e i with
  | .str s,.int _ n=>if 0<=n then(if DQ n.toNat s.len then some (.int .u8 (s.get n.toNat))else none)else none
  | _,_=>none
 | .extract i x=>match CZ e x with
  | .tup l=>l[i]?
  | _=>none
 | .load0 x=>match CZ e x with
  | .ptr _ _=>some (.agg [])
  | _=>none
 | .idxArr len esz s x i=>match CZ e x,CZ e i with
  | .agg l,.int _ n=>if 0<=n/\n<len then Lm l (n.toNat*esz) s else none
  | _,_=>none
 | .len true x=>match CZ e x with
  | .str s=>some (.int .i64 s.len)
  | _=>none
 | .len false x=>match CZ e x with
  | .nils=>some (.int .i64 0)
  | .sl _ _ n _=>some (.int .i64 n)
  | .sle _ _ _ _=>some (.int .i64 0)
  | _=>none
 | .lenC n=>some (.int .i64 n)
 | .cap x=>match CZ e x with
  | .nils=>some (.int .i64 0)
  | .sl _ _ _ (.ex c)=>some (.int .i64 c)
  | _=>none
 | .min x l=>match VF (CZ e x) (Fm e l)with
  | some (.int k n)=>some (.int k n)
  | _=>none
 | .max x l=>match VG (CZ e x) (Fm e l)with
  | some (.int k n)=>some (.int k n)
  | _=>none
 | _=>none
def MZ (t:Fp) (z m x:V) (J:H):Option V:=match m with
 | .mp b=>match look J.bl b with
  | some (.map l)=>if SP t x then(match SU t x l with
   | some (some v)=>some (.tup [v,.bool true])
   | some none=>if z.live then some (.tup [z,.bool false])else none
   | none=>none)else none
  | _=>none
 | _=>none
def TY (t:Fp) (m k v:V) (J:H):Option (V × H):=match m with
 | .mp b=>match look J.bl b with
  | some (.map l)=>if SP t k&&v.live then(match SU t k l with
   | some none=>some (.dead,J.set b (.map (l++[(k,v)])))
   | _=>none)else none
  | _=>none
 | _=>none
def O3 (t:TypeId) (x:V) (J:H):Option V:=match x with
 | .ptr b 0=>match look J.bl b with
  | some (.unit t')=>if Ax t t' then some (.ptr b 0)else none
  | _=>none
 | _=>none
def Cl (E:EB) (o:Ej) (e:CF) (J:H):Option V:=
 match o with
 | .load none x=>match CZ e x with
  | .ptr b off=>match rd E J b with
   | some l=>l[off]?
   | none=>none
  | _=>none
 | .load (some n) x=>match CZ e x with
  | .ptr b off=>match NA E J b off n with
   | some l=>some (.agg l)
   | none=>none
  | _=>none
 | .conv .toStr x=>if(CZ e x).isStr then none else match Ch E J 1 (CZ e x)with
  | some (_,l)=>match FW l with
   | some s=>some (.str (BS.ofList s))
   | none=>none
  | none=>none
 | .lookup t z m x=>MZ t z (CZ e m) (CZ e x) J
 | .faddr0 t x=>O3 t (CZ e x) J
 | _=>none
def Ce (o:Ej) (e:CF) (next:Nat):Option (V × GL):=
 match o with
 | .alloc _ z=>some (.ptr next 0,.cells z)
 | .box _ x=>let v:=CZ e x;if v.live&&allOne v.cells then some (.ptr next 0,.cells v.cells)else none
 | .buildSlice _ n z ps=>match FQ (Jv e ps) z with
  | some l=>if allOne l then some (.sl next 0 n (.ex n),.cells l)else none
  | none=>none
 | .conv (.toBytes _) x=>match CZ e x with
  | .str l=>if A0 l.len 1000000000000 then some (.sl next 0 l.len (.op 1),.cells (aO l.toList))else none
  | _=>none
 | .mkslice _ _ bytes z len cap=>match CZ e len,CZ e cap with
  | .int .i64 n,.int .i64 c=>
   if 0<=n/\n<=c/\c*bytes<=281474976710656/\c<=1000000000000 then some (.sl next 0 n.toNat (.ex c.toNat),.cells (Bj c.toNat z).flatten)else none
  | _,_=>none
 | .mkmap=>some (.mp next,.map [])
 | .alloc0 el=>some (.ptr next 0,.unit el)
 | .box0 el x=>match CZ e x with
  | .agg []=>some (.ptr next 0,.unit el)
  | _=>none
 | _=>none
def Ef (E:EB) (o:Ej) (e:CF) (J:H):Option (V × H):=
 match o with
 | .store n x v=>match CZ e x with
  | .ptr b off=>
   let cs:=(CZ e v).cells
   match look J.bl b with
   | some (.cells l)=>if Ax cs.length n&&A0 (off+n) l.length&&allOne cs then some (.dead,J.set b (.cells (Hg l off cs)))else none
   | _=>none
  | _=>none
 | .append _ esz bytes s x=>EE E esz bytes (CZ e s) (CZ e x) J
 | .copy esz d s=>match CZ e d,Ch E J esz (CZ e s)with
  | .nils,some (_,_)=>some (.int .i64 0,J)
  | .sle _ _ _ _,some (_,_)=>some (.int .i64 0,J)
  | .sl b off len _,some (n,src)=>
   let m:=E9 n len
   if m=0 then some (.int .i64 0,J)else
   match look J.bl b with
   | some (.cells l)=>if A0 (off+m*esz) l.length&&allOne (src.take (m*esz))then some (.int .i64 m,J.set b (.cells (Hg l off (src.take (m*esz)))))else none
   | _=>none
  | _,_=>none
 | .mapset t m k v=>TY t (CZ e m) (CZ e k) (CZ e v) J
 | .store0 x v=>match CZ e x,CZ e v with
  | .ptr _ _,.agg []=>some (.dead,J)
  | _,_=>none
 | _=>none
inductive Cls where
 | p | l | a | k
 deriving DecidableEq,Inhabited
def Ej.cls:Ej->Cls
 | .load _ _ | .conv .toStr _ | .lookup _ _ _ _ | .faddr0 _ _ => .l
 | .alloc _ _ | .box _ _ | .buildSlice _ _ _ _ | .conv (.toBytes _) _ | .mkslice _ _ _ _ _ _ | .mkmap | .alloc0 _ | .box0 _ _ => .a
 | .store _ _ _ | .append _ _ _ _ _ | .copy _ _ _ | .call _ _ | .callv _ _ | .mapset _ _ _ _ | .store0 _ _ => .k
 | _ => .p
def lF (E:EB) (o:Ej) (e:CF) (J:H):Option (V × H):=
 match o.cls with
 | .p=>match Be o e with
  | some v=>some (v,J)
  | none=>none
 | .l=>match Cl E o e J with
  | some v=>some (v,J)
  | none=>none
 | .a=>match Ce o e J.next with
  | some (v,b)=>some (v,J.add b)
  | none=>none
 | .k=>Ef E o e J
abbrev Az:=FuncId->List V->H->Option (V × H)
def Cr (e:CF):Option Nat->V->CF
 | some d,v=>(d,v)::e
 | none,_=>e
def EO (E:EB) (D:Az) (o:Ej) (e:CF) (J:H):Option (V × H):=
 match o with
 | .call f args=>if(Fm e args).all V.live then D f (Fm e args) J else none
 | .callv f args=>match CZ e f with
  | .fn g first cap=>if(Fm e args).all V.live then D g (first++Fm e args++cap) J else none
  | _=>none
 | o=>lF E o e J
def EG:V := .tup []
def Bv (e:CF):Option (Nat × Bool)->Option Bool
 | none=>some true
 | some (t,b)=>match Gb e t with
  | .bool c=>some (c==b)
  | .tup []=>some false
  | _=>none
def Lr (E:EB) (D:Az):List BY->CF->H->Option (CF × H)
 | [],e,J=>some (e,J)
 | o::r,e,J=>
  match Bv e o.guard with
  | none=>none
  | some false=>Lr E D r (Cr e o.dst EG) J
  | some true=>match EO E D o.op e J with
   | none=>none
   | some (v,J')=>Lr E D r (Cr e o.dst v) J'
def Bp:List Nat->Nat->Bool
 | [],_=>false
 | a::l,k=>Ax a k || Bp l k
def restr:List Nat->CF->CF
 | [],_=>[]
 | t::l,e=>match look e t with
  | some v=>(t,v)::restr l e
  | none=>restr l e
def C9 (n0 n:Nat) (p:Nat->Bool):EB->EB
 | []=>[]
 | (id,b)::l=>if A0 n0 id&&DQ id (n0+n) && !p (id-n0)then C9 n0 n p l else(id,b)::C9 n0 n p l
def FC (n0 n:Nat) (p:Nat->Bool):EB->EB
 | []=>[]
 | (id,b)::l=>if A0 n0 id&&DQ id (n0+n) && !p (id-n0)then(id,b)::FC n0 n p l else FC n0 n p l
structure DS where
 e:CF
 nx:Nat
 ss:List (EB)
 ks:List Nat
 am:Nat
 ls:List (Nat × Ej × CF × V)
def Dn (anc am:Nat) (k:Nat):Bool:=anc.testBit k&&am.testBit k
def FT (E:EB) (D:Az) (n0 n i:Nat) (o:BY) (p:DP) (s:DS):Option DS:=
 match Bv (restr p.looks s.e) o.guard with
 | none=>none
 | some false=>some { s with e:=Cr s.e o.dst EG }
 | some true=>
  match o.op.cls with
  | .p=>match Be o.op (restr p.looks s.e)with
   | none=>none
   | some v=>some { s with e:=Cr s.e o.dst v }
  | .l=>match s.ss with
   | []=>none
   | h::_=>match Cl E o.op (restr p.looks s.e) ⟨s.nx,C9 n0 n (Dn p.anc s.am) h⟩with
    | none=>none
    | some v=>some { s with e:=Cr s.e o.dst v,ls:=(i,o.op,restr p.looks s.e,v)::s.ls }
  | .a=>match Ce o.op (restr p.looks s.e) (n0+i)with
   | none=>none
   | some (v,b)=>some { s with e:=Cr s.e o.dst v,ss:=s.ss.map ((n0+i,b)::·),am:=s.am ||| 2 ^ i }
  | .k=>match s.ss with
   | []=>none
   | h::_=>match EO E D o.op (restr p.looks s.e) ⟨s.nx,C9 n0 n (Dn p.anc s.am) h⟩with
    | none=>none
    | some (v,J')=>some { s with e:=Cr s.e o.dst v,nx:=J'.next,ss:=(FC n0 n (Dn p.anc s.am) h++J'.bl)::s.ss,ks:=i::s.ks }
def Cd (E:EB) (D:Az) (n0 n:Nat):Nat->List BY->List DP->DS->Option DS
 | _,[],_,s=>some s
 | i,o::l,p::pl,s=>match FT E D n0 n i o p s with
  | none=>none
  | some s'=>Cd E D n0 n (i+1) l pl s'
 | _,_::_,[],_=>none
mutual
def V.beq:V->V->Bool
 | .bool a,.bool b=>a==b
 | .int k a,.int l b=>decide (k=l)&&a==b
 | .str a,.str b=>decide (a=b)
 | .nilp,.nilp=>true
 | .ptr a b,.ptr c d=>Ax a c&&Ax b d
 | .nils,.nils=>true
 | .sl a b c x,.sl d e f y=>Ax a d&&Ax b e&&Ax c f&&decide (x=y)
 | .sle a b c x,.sle d e f y=>Ax a d&&Ax b e&&Ax c f&&Ax x y
 | .nilm,.nilm=>true
 | .mp a,.mp b=>Ax a b
 | .fn f a b,.fn g c d=>Ax f g&&KF a c&&KF b d
 | .nilf,.nilf=>true
 | .ifc t v,.ifc u x=>Ax t u&&V.beq v x
 | .nili,.nili=>true
 | .agg l,.agg m=>KF l m
 | .tup l,.tup m=>KF l m
 | _,_=>false
def KF:List V->List V->Bool
 | [],[]=>true
 | a::l,b::m=>V.beq a b&&KF l m
 | _,_=>false
end
def Ie (pl:List DP) (j:Nat) (ks more:List Nat):Bool:=
 more.all (fun k=>!((pl.getD j ⟨0,[]⟩).anc.testBit k))&&ks.all (fun k=>!((pl.getD k ⟨0,[]⟩).anc.testBit j))
def Fa (E:EB) (n0 n:Nat) (pl:List DP) (am:Nat) (j:Nat) (op:Ej) (em:CF) (v:V):List (EB)->List Nat->List Nat->Bool
 | [],_,_=>true
 | h::ss,ks,more=>
  (!Ie pl j ks more || (match Cl E op em ⟨0,C9 n0 n (Dn (pl.getD j ⟨0,[]⟩).anc am) h⟩with
   | some u=>V.beq u v
   | none=>false)) &&
  (match ks with
   | []=>true
   | k::ks'=>Fa E n0 n pl am j op em v ss ks' (k::more))
def Ao (E:EB) (D:Az) (ops:List BY) (pl:List DP) (e:CF) (J:H):Option (CF × H):=
 match Cd E D J.next ops.length 0 ops pl ⟨e,J.next+ops.length,[J.bl],[],0,[]⟩with
 | none=>none
 | some s=>
  if s.ls.all (fun(j,op,em,v)=>Fa E J.next ops.length pl s.am j op em v s.ss s.ks [])then
   match s.ss with
   | h::_=>some (s.e,⟨s.nx,C9 J.next ops.length (fun k=>s.am.testBit k) h⟩)
   | []=>none
  else none
def Em:Value->V
 | .bool b => .bool b
 | .int k n => .int k n
 | .string s => .str (BS.ofList s.data.toList)
 | .pointer none => .nilp
 | .slice none 0 0 => .nils
 | .map none => .nilm
 | .nilFunc => .nilf
 | .nilIface => .nili
 | _ => .dead
def bP:Value->V
 | .agg cs=>if(cs.toList.map Em).all V.live then .agg (cs.toList.map Em)else .dead
 | v=>Em v
def fS (v:Value):Option (List V):=if(v.cells.toList.map Em).all V.live then some (v.cells.toList.map Em)else none
def Ap (G:Nat->Bool):Operand->AO
 | .tmp t => .tmp t
 | .const v => .con (bP v)
 | .global g=>if G g then .con (.ptr g 0)else .con .dead
 | .func f => .con (.fn f [] [])
def Gn (P:Program) (t:TypeId):Option (Option Nat):=
 match P.underlying t,P.info? t with
 | some (.struct _),some i=>some (some i.size)
 | some (.array _ _),some i=>some (some i.size)
 | some _,some _=>some none
 | _,_=>none
def GM (P:Program) (t:TypeId):Option Nat:=(P.info? t).map (·.size)
def Jk (P:Program) (t:TypeId):Option (List V):=
 match P.info? t with
 | some i=>match i.zero with
  | some z=>fS z
  | none=>none
 | none=>none
def Mb:Operand->Bool
 | .const _=>true
 | _=>false
def G2 (P:Program):List Field->Option (List (Nat × FK))
 | []=>some []
 | f::fs=>match f.name == "_",G2 P fs with
  | true,r=>r
  | false,some r=>match P.underlying f.type with
   | some (.int _)=>some ((f.offset,.int)::r)
   | some .bool=>some ((f.offset,.bool)::r)
   | some .string=>some ((f.offset,.str)::r)
   | _=>none
  | false,none=>none
def FR (P:Program) (t:TypeId) (fs:List Field):Fp:=
 match P.stoodInHeld t || P.eqGuardType P.depth t,G2 P fs with
 | false,some l => .flat l
 | _,_ => .none
def Rp (P:Program) (t:TypeId):Fp:=
 match P.underlying t with
 | some (.struct fs)=>FR P t fs.toList
 | _ => .none
def PS (P:Program) (t:TypeId):V:=
 match P.info? t with
 | some i=>match i.zero with
  | some z=>bP z
  | none => .dead
 | none => .dead
def aX (P:Program) (op:BinOp) (t:TypeId) (x y:Operand):Fp:=
 match op with
 | .eql | .neq=>
  match P.underlying t with
  | some .bool => .bool
  | some (.struct fs)=>FR P t fs.toList
  | some (.pointer _) => .ptr
  | some (.slice _) => .slice
  | some (.map _ _) => .map
  | some (.func _ _ _) => .func
  | some (.interface _) => .iface (Mb x || Mb y)
  | _ => .none
 | _ => .none
def nO (P:Program) (s d:TypeId):AEW:=
 match P.underlying s,P.underlying d with
 | some _,some (.int k) => .toInt k
 | some .string,some .string => .same
 | some .string,some (.slice e)=>match P.underlying e with
  | some (.int .u8) => .toBytes e
  | _ => .bad
 | some (.slice e),some .string=>match P.underlying e with
  | some (.int .u8) => .toStr
  | _ => .bad
 | _,_ => .bad
def I6 (P:Program) (f:FuncId):Bool:=
 match P.funcs[f]? with
 | some fn=>fn.name != "runtime.NumGoroutine" && fn.body.isSome
 | none=>false
def AAH:TypeDesc->Bool
 | .string=>true
 | .slice _=>true
 | _=>false
def LK (P:Program) (G:Nat->Bool) (b:Builtin) (ts:Array TypeId) (args:Array Operand):Ej:=
 match b,ts.toList,args.toList with
 | .len,[t],[x]=>match P.underlying t with
  | some .string => .len true (Ap G x)
  | some (.slice _) => .len false (Ap G x)
  | some (.array n _) => .lenC n
  | some (.pointer a)=>match P.underlying a with
   | some (.array n _) => .lenC n
   | _ => .bad
  | _ => .bad
 | .cap,[t],[x]=>match P.underlying t with
  | some (.slice _) => .cap (Ap G x)
  | _ => .bad
 | .append,[t,u],[s,x]=>match P.underlying t,P.underlying u with
  | some (.slice e),some du=>match P.info? e with
   | some i=>match i.zero with
    | some z=>if !(AAH du) || i.size==0 || z.cells.size != i.size then .bad else .append e i.size i.bytes (Ap G s) (Ap G x)
    | none => .bad
   | none => .bad
  | _,_ => .bad
 | .copy,[t,u],[d,s]=>match P.underlying t,P.underlying u with
  | some (.slice e),some _=>match P.info? e with
   | some i => .copy i.size (Ap G d) (Ap G s)
   | none => .bad
  | _,_ => .bad
 | .min,_,x::l => .min (Ap G x) (l.map (Ap G))
 | .max,_,x::l => .max (Ap G x) (l.map (Ap G))
 | _,_,_ => .bad
def La (P:Program):List Field->Option (List (Nat × Nat))
 | []=>some []
 | f::l=>match P.info? f.type,La P l with
  | some i,some r=>some ((f.offset,i.size)::r)
  | _,_=>none
def EK (G:Nat->Bool) (place:Nat->Option (Nat × Nat)):List (Nat × Operand)->Option (List (Nat × Nat × AO))
 | []=>some []
 | (i,x)::l=>match place i,EK G place l with
  | some (o,s),some r=>some ((o,s,Ap G x)::r)
  | _,_=>none
def Ag (P:Program) (G:Nat->Bool) (op:Op):Ej:=
 match op with
 | .move x | .assign x => .mov (Ap G x)
 | .pick c a b => .pick (Ap G c) (Ap G a) (Ap G b)
 | .alloc el=>match Jk P el with
  | some [] => .alloc0 el
  | some z => .alloc el z
  | none => .bad
 | .box el x=>match Jk P el with
  | some [] => .box0 el (Ap G x)
  | _ => .box el (Ap G x)
 | .build t ps=>
  match P.underlying t,Jk P t with
  | some (.struct fs),some z=>match La P fs.toList with
   | some pl=>match EK G (pl[·]?) ps.toList with
    | some l => .build z l
    | none => .bad
   | none => .bad
  | some (.array _ el),some z=>match GM P el with
   | some s=>match EK G (fun i=>some (i*s,s)) ps.toList with
    | some l => .build z l
    | none => .bad
   | none => .bad
  | _,_ => .bad
 | .buildSlice t n ps=>
  match P.underlying t with
  | some (.slice el)=>match GM P el,Jk P el with
   | some s,some z=>match EK G (fun i=>some (i*s,s)) ps.toList with
    | some l=>if n*s > 2 ^ 24 || z.length != s then .bad else .buildSlice el n (Bj n z).flatten l
    | none => .bad
   | _,_ => .bad
  | _ => .bad
 | .load t x=>match Gn P t with
  | some (some 0) => .load0 (Ap G x)
  | some s => .load s (Ap G x)
  | none => .bad
 | .store t x v=>match GM P t with
  | some 0 => .store0 (Ap G x) (Ap G v)
  | some n => .store n (Ap G x) (Ap G v)
  | none => .bad
 | .nilCheck x => .nilck (Ap G x)
 | .binOp o t x y _ => .bin o (aX P o t x y) (Ap G x) (Ap G y)
 | .unOp o _ x => .un o (Ap G x)
 | .convert s d x => .conv (nO P s d) (Ap G x)
 | .makeInterface t x=>match P.underlying t with
  | some (.interface _) => .bad
  | some _ => .mkifc t (Ap G x)
  | none => .bad
 | .makeFunc (.func f) a c => .mkfn f (a.toList.map (Ap G)) (c.toList.map (Ap G))
 | .makeSlice t l c=>match P.underlying t with
  | some (.slice el)=>match P.info? el,Jk P el with
   | some i,some z=>if z.length != i.size then .bad else .mkslice el i.size i.bytes z (Ap G l) (Ap G c)
   | _,_ => .bad
  | _ => .bad
 | .slice t x lo hi mx=>if mx.isSome && !hi.isSome then .bad else match P.underlying t with
  | some .string=>match mx with
   | none => .sliceStr (Ap G x) (lo.map (Ap G)) (hi.map (Ap G))
   | some _ => .bad
  | some (.slice el)=>match GM P el with
   | some s => .sliceSl s (Ap G x) (lo.map (Ap G)) (hi.map (Ap G)) (mx.map (Ap G))
   | none => .bad
  | some (.array n el)=>match GM P el with
   | some s => .sliceArr n s (Ap G x) (lo.map (Ap G)) (hi.map (Ap G)) (mx.map (Ap G))
   | none => .bad
  | _ => .bad
 | .fieldAddr s x f=>match P.underlying s with
  | some (.struct fs)=>match fs[f]? with
   | some fd=>match GM P fd.type with
    | some 0=>if fd.offset==0&&fd.byteOffset==0&&P.cellsOf s==0 then .faddr0 s (Ap G x)else .bad
    | some _ => .faddr fd.offset (Ap G x)
    | none => .bad
   | none => .bad
  | _ => .bad
 | .field s x f=>match P.underlying s with
  | some (.struct fs)=>match fs[f]? with
   | some fd=>match Gn P fd.type with
    | some n => .field fd.offset n (Ap G x)
    | none => .bad
   | none => .bad
  | _ => .bad
 | .indexAddr t x i=>match P.underlying t with
  | some (.slice el)=>match GM P el with
   | some s => .iaddrS s (Ap G x) (Ap G i)
   | none => .bad
  | some (.array n el)=>match GM P el with
   | some s => .iaddrA n s (Ap G x) (Ap G i)
   | none => .bad
  | _ => .bad
 | .index t x i=>match P.underlying t with
  | some .string => .idxStr (Ap G x) (Ap G i)
  | some (.array n el)=>match GM P el,Gn P el with
   | some z,some s => .idxArr n z s (Ap G x) (Ap G i)
   | _,_ => .bad
  | _ => .bad
 | .extract x i => .extract i (Ap G x)
 | .makeMap _ none => .mkmap
 | .lookup t m x true=>match P.underlying t with
  | some (.map k el) => .lookup (Rp P k) (PS P el) (Ap G m) (Ap G x)
  | _ => .bad
 | .mapUpdate t m k v=>match P.underlying t with
  | some (.map kt _) => .mapset (Rp P kt) (Ap G m) (Ap G k) (Ap G v)
  | _ => .bad
 | .call c=>match c.callee with
  | .builtin b=>LK P G b c.argTypes c.args
  | .value (.func f) => .call f (c.args.toList.map (Ap G))
  | .value (.tmp t) => .callv (.tmp t) (c.args.toList.map (Ap G))
  | _ => .bad
 | _ => .bad
def QT (ops:Array Oper) (g:Option (Nat × Bool)):Option (Option (Nat × Bool)):=
 match g with
 | none=>some none
 | some (j,b)=>match (ops[j]?).bind (·.dst)with
  | some t=>some (some (t,b))
  | none=>none
def GN (nt:Nat):Option Nat->Bool
 | some d=>DQ d nt
 | none=>true
def BN (P:Program) (G:Nat->Bool) (nt:Nat) (ops:Array Oper) (o:Oper):BY:=
 match QT ops o.guard,GN nt o.dst with
 | some g,true=>⟨o.dst,Ag P G o.op,g⟩
 | _,_=>⟨o.dst,.bad,none⟩
def mg (ops:Array Oper) (o:Oper):List Nat:=
 (o.op.operands.toList.filterMap fun | .tmp t=>some t | _=>none) ++
 (match o.guard with
  | some (g,_)=>((ops[g]?).bind (·.dst)).toList
  | none=>[])
def GS (ops:Array Oper):List DP:=(ops.toList.zip (Region.before ops).toList).map fun(o,m)=>⟨m,mg ops o⟩
def W3:Nat->(Nat->Bool)->Bool
 | 0,_=>true
 | n+1,p=>p n&&W3 n p
def G1 (pl:List DP) (i:Nat):Nat:=(pl.getD i ⟨0,[]⟩).anc
def Pp (ops:Array Oper) (l:List BY) (pl:List DP):Bool:=
 Ax pl.length ops.size &&
 W3 ops.size fun i=>
  match ops[i]?,l[i]?,pl[i]? with
  | some o,some ao,some p=>
   o.after.toList.all (fun e=>!Region.binds .any e || DQ e.on i) &&
   W3 ops.size fun k=>
    (!p.anc.testBit k || o.after.toList.any (fun e=>Region.binds .any e&&(Ax e.on k || (G1 pl e.on).testBit k))) &&
    (Ax i k || match ops[k]?,l[k]?,pl[k]? with
     | some o',some ao',some p'=>
      (match o.dst with
       | none=>true
       | some t=>(match o'.dst with | some t'=>!Ax t t' | none=>true)&&(!Bp p'.looks t || p'.anc.testBit i || p.anc.testBit k)) &&
      (match ao.op.cls,ao'.op.cls with
       | .k,.k=>!DQ i k || p'.anc.testBit i
       | _,_=>true)
     | _,_,_=>false)
  | _,_,_=>false
def CT (P:Program) (G:Nat->Bool) (nt:Nat):Code->AC
 | .skip => .skip
 | .region _ ops false => .region (ops.toList.map (BN P G nt ops))
 | .region _ ops true=>if Pp ops (ops.toList.map (BN P G nt ops)) (GS ops)then .draw (ops.toList.map (BN P G nt ops)) (GS ops)else .bad
 | .seq a b => .seq (CT P G nt a) (CT P G nt b)
 | .cond c a b => .cond (Ap G c) (CT P G nt a) (CT P G nt b)
 | .block id c => .block id (CT P G nt c)
 | .loop c => .loop (CT P G nt c)
 | .exit id => .exit id
 | .ret => .ret
 | _ => .bad
def QS (P:Program):ResultVar->Option AR
 | .tmp t=>some (.tmp t)
 | .cell t ty=>match Gn P ty with
  | some s=>some (.cell t s)
  | none=>none
def Ge (P:Program):List ResultVar->Option (List AR)
 | []=>some []
 | r::l=>match QS P r,Ge P l with
  | some a,some m=>some (a::m)
  | _,_=>none
def Mk (P:Program) (G:Nat->Bool) (fn:Func):Option cB:=
 match fn.body,Ge P fn.results.toList with
 | some c,some r=>some ⟨fn.ntmps,r,[],CT P G fn.ntmps c⟩
 | _,_=>none
def AC.strip:AC->AC
 | .seq a b => .seq a.strip b.strip
 | .cond c a b => .cond c a.strip b.strip
 | .block id c => .block id c.strip
 | .loop c => .loop c.strip
 | .keep _ c=>c.strip
 | c=>c
def cB.strip (f:cB):cB:=⟨f.ntmps,f.results,[],f.body.strip⟩
structure B9 (R:Cz) (e:CF) (tmps:Array Value):Prop where
 at_:∀(k:Nat) (v:V),look e k=some v->v = .dead\/∃x,tmps[k]? = some x/\Au R v=some x
theorem B9.mono {R R':Cz} {e:CF} {tmps:Array Value} (h:B9 R e tmps) (hle:Le R R'):B9 R' e tmps:=
 ⟨fun k v hk=>(h.at_ k v hk).imp id fun⟨x,h1,h2⟩=>⟨x,h1,Cq hle v x h2⟩⟩
theorem B9.get {R:Cz} {e:CF} {tmps:Array Value} (h:B9 R e tmps) {t:Nat} {v:V} (hv:Gb e t=v) (hl:v.live=true):∃x,tmps[t]? = some x/\Au R v=some x:=by
 unfold Gb at hv
 cases ht:look e t with
 | none=>rw[ht]at hv;subst hv;cases hl
 | some u=>
  rw[ht]at hv
  simp only at hv
  subst hv
  rcases h.at_ t _ ht with rfl|h
  ·cases hl
  ·exact h
def Dw (G:Nat->Bool) (R:Cz):Prop:=∀g,G g=true->∃i,R g=some i/\i.blk=g/\i.shift=0
theorem Ql (R:Cz) (x:Value) (h:(Em x).live=true):Au R (Em x)=some x:=by
 unfold Em at h ⊢
 split at h<;>first | rfl | (simp only[Au,BS.toList_ofList];done) | (cases h;done)
theorem KH (R:Cz):∀(l:List Value),(l.map Em).all V.live=true->A5 R (l.map Em)=some l
 | [],_=>rfl
 | x::l,h=>by
  simp only[B3,Ji,AK]at h
  exact Bh.2 ⟨x,l,Ql R x h.1,KH R l h.2,rfl⟩
theorem ZS (R:Cz) (x:Value) (h:(bP x).live=true):Au R (bP x)=some x:=by
 cases x with
 | agg cs=>
  simp only[bP]at h ⊢
  by_cases hl:(cs.toList.map Em).all V.live=true
  ·rw[if_pos hl];rw[Dj (KH R _ hl)]
  ·rw[if_neg hl]at h;cases h
 | _=>simp only[bP]at h ⊢;exact Ql R _ h
theorem ZR (R:Cz) {x:Value} {l:List V} (h:fS x=some l):A5 R l=some x.cells.toList:=by
 unfold fS at h
 split at h
 ·cases h;exact KH R _ ‹_›
 ·cases h
section
variable {G:Nat->Bool} {R:Cz} {e:CF} {a:Act}
theorem ev (he:B9 R e a.tmps) (hg:Dw G R) {o:Operand} {v:V} (h:CZ e (Ap G o)=v) (hl:v.live=true):Au R v=some (a.eval o):=by
 subst h
 cases o with
 | tmp t=>
  simp only[Ap,CZ]at hl ⊢
  obtain⟨x,hx,hc⟩:=he.get rfl hl
  simp only[hc,Act.eval,EF,hx,Option.getD_some]
 | const x=>exact ZS R x hl
 | global g=>
  simp only[Ap]at hl ⊢
  by_cases hG:G g=true
  ·rw[if_pos hG]
   obtain⟨i,hi,hb,hs⟩:=hg g hG
   simp[CZ,Au,hi,hb,hs,Act.eval]
  ·rw[if_neg hG]at hl;cases hl
 | func f=>simp[Ap,CZ,Au,A5,Act.eval]
theorem IF (he:B9 R e a.tmps) (hg:Dw G R) {o:Operand} {b off:Nat} (h:CZ e (Ap G o) = .ptr b off) :
  ∃i,R b=some i/\a.eval o = .pointer (some ⟨i.blk,i.shift+off,none⟩):=by
 have:=ev he hg h rfl
 simp only[Au,Aq]at this
 obtain⟨i,hi,hx⟩:=this
 exact⟨i,hi,hx.symm⟩
theorem Fw (he:B9 R e a.tmps) (hg:Dw G R) {o:Operand} {k:IntKind} {n:Int} (h:CZ e (Ap G o) = .int k n):a.eval o = .int k n:=by
 have:=ev he hg h rfl
 simp only[Au,AP.injEq]at this
 exact this.symm
theorem Ku (he:B9 R e a.tmps) (hg:Dw G R) {o:Operand} {n:Bool} (h:CZ e (Ap G o) = .bool n):a.eval o = .bool n:=by
 have:=ev he hg h rfl
 simp only[Au,AP.injEq]at this
 exact this.symm
theorem Ln (he:B9 R e a.tmps) (hg:Dw G R) {o:Operand} {l:BS} (h:CZ e (Ap G o) = .str l):a.eval o = .string ⟨l.toList.toArray⟩:=by
 have:=ev he hg h rfl
 simp only[Au,AP.injEq]at this
 exact this.symm
theorem Tj (he:B9 R e a.tmps) (hg:Dw G R) {o:Operand} {l:List V} (h:CZ e (Ap G o) = .agg l):∃x,A5 R l=some x/\a.eval o = .agg x.toArray:=by
 exact Hq (ev he hg h rfl)
theorem uV (he:B9 R e a.tmps) (hg:Dw G R) {o:Operand} {l:List V} (h:CZ e (Ap G o) = .tup l):∃x,A5 R l=some x/\a.eval o = .tuple x.toArray:=by
 exact VU (ev he hg h rfl)
theorem evs (he:B9 R e a.tmps) (hg:Dw G R):∀(l:List Operand),(Fm e (l.map (Ap G))).all V.live=true->A5 R (Fm e (l.map (Ap G)))=some (l.map a.eval)
 | [],_=>rfl
 | o::l,h=>by
  simp only[Fm,B3,Ji,AK]at h
  exact Bh.2 ⟨_,_,ev he hg rfl h.1,evs he hg l (by simpa[Fm]using h.2),rfl⟩
end
theorem Hf:∀(l:List V) (n:Nat) (cs:List V),(Hg l n cs).length=l.length
 | l,n,[]=>by cases l<;>simp[Hg]
 | [],n,c::cs=>by simp[Hg]
 | _::l,0,c::cs=>by simp[Hg,Hf l 0 cs]
 | _::l,n+1,c::cs=>by simp[Hg,Hf l n (c::cs)]
theorem MG:∀(l:List V) (n:Nat) (cs:List V) (k:Nat),(Hg l n cs)[k]? = if n<=k/\k<n+cs.length then(if k<l.length then cs[k-n]? else none)else l[k]?
 | l,n,[],k=>by cases l<;>simp[Hg]<;>omega
 | [],n,c::cs,k=>by simp[Hg]
 | b::l,0,c::cs,k=>by
  cases k with
  | zero=>simp[Hg]
  | succ k=>simp only[Hg,CK,MG l 0 cs k,CH,true_and,Aj,CJ,qW,AI4]
 | b::l,n+1,c::cs,k=>by
  cases k with
  | zero=>simp[Hg]
  | succ k=>
   simp only[Hg,CK,MG l n (c::cs) k,Aj,Nat.add_le_add_iff_right,AI4,Nat.add_sub_add_right]
   by_cases h:n<=k/\k<n+(cs.length+1)
   ·rw[if_pos h,if_pos (show n<=k/\k+1<n+1+(cs.length+1)by omega)]
   ·rw[if_neg h,if_neg (show ¬(n<=k/\k+1<n+1+(cs.length+1))by omega)]
theorem SS (off:Nat):∀(vs:List Value) (cs:Array Value) (i:Nat),
  ((vs.zipIdx i).foldl (fun cs (x:Value × Nat)=>cs.setIfInBounds (off+x.2) x.1) cs).size=cs.size /\
  ∀k,((vs.zipIdx i).foldl (fun cs (x:Value × Nat)=>cs.setIfInBounds (off+x.2) x.1) cs)[k]? =
   if off+i<=k/\k<off+i+vs.length/\k<cs.size then vs[k-(off+i)]? else cs[k]?
 | [],cs,i=>by
  refine⟨rfl,fun k=>?_⟩
  rw[if_neg (by simp;omega)]
  rfl
 | v::vs,cs,i=>by
  obtain⟨h1,h2⟩:=SS off vs (cs.setIfInBounds (off+i) v) (i+1)
  simp only[List.zipIdx_cons,List.foldl_cons]
  refine⟨by rw[h1,Dx],fun k=>?_⟩
  rw[h2,Dx,BE]
  by_cases hk:off+i=k
  ·subst hk
   rw[if_neg (by omega),if_pos rfl]
   by_cases hs:off+i<cs.size
   ·rw[if_pos hs,if_pos (by simp;omega)];simp
   ·rw[if_neg hs,if_neg (by omega),CE (by omega)]
  ·rw[if_neg hk]
   by_cases hc:off+(i+1)<=k/\k<off+(i+1)+vs.length/\k<cs.size
   ·rw[if_pos hc,if_pos (by simp;omega)]
    have:k-(off+i)=(k-(off+(i+1)))+1:=by omega
    rw[this,CK]
   ·rw[if_neg hc,if_neg (by simp only[Aj];omega)]
theorem bG {R:Cz} {z:List V} {arr:Array Value} (hz:A5 R z=some arr.toList) {v:V} {x:Value} (hv:Au R v=some x) {off:Nat}
  (hle:off+v.cells.length<=z.length) :
  A5 R (Hg z off v.cells)=some ((x.cells.zipIdx).foldl (fun cs (c,j)=>cs.setIfInBounds (off+j) c) arr).toList:=by
 have hcs:=Hp hv
 have hlen:=Bm hcs
 have hzl:=Bm hz
 have hf:(x.cells.zipIdx).foldl (fun cs (c,j)=>cs.setIfInBounds (off+j) c) arr=((x.cells.toList.zipIdx 0).foldl (fun cs (y:Value × Nat)=>cs.setIfInBounds (off+y.2) y.1) arr):=by
  rw[<-Array.foldl_toList,Array.toList_zipIdx]
 rw[hf]
 obtain⟨h1,h2⟩:=SS off x.cells.toList arr 0
 refine Mi ?_ ?_
 ·rw[Hf,EU,h1];simpa using hzl
 ·intro k u hk
  rw[MG]at hk
  rw[WK,h2]
  simp only[ES]
  simp only[EU]at hlen hzl
  by_cases hc:off<=k/\k<off+v.cells.length
  ·rw[if_pos hc,if_pos (by omega)]at hk
   obtain⟨b,hb,hx⟩:=EI hcs hk
   refine⟨b,hb,?_⟩
   rw[if_pos (by simp only[EU];omega)]
   exact hx
  ·rw[if_neg hc]at hk
   obtain⟨b,hb,hx⟩:=EI hz hk
   refine⟨b,hb,?_⟩
   rw[if_neg (by simp only[EU];omega)]
   simpa using hx
section
variable {G:Nat->Bool} {R:Cz} {e:CF} {a:Act}
theorem O2 (he:B9 R e a.tmps) (hg:Dw G R) {place:Nat->Option (Nat × Nat)}:∀(ps:List (Nat × Operand)) (l:List (Nat × Nat × AO)) (z r:List V) (arr:Array Value),
  EK G place ps=some l->A5 R z=some arr.toList->FQ (Jv e l) z=some r ->
  ∃out,Instr.fill place arr (ps.map fun(i,x)=>(i,a.eval x))=some out/\A5 R r=some out.toList/\r.length=z.length
 | [],l,z,r,arr,hc,hz,hf=>by
  simp only[EK,AP.injEq]at hc;subst hc
  simp only[Jv,JO,FQ,AP.injEq]at hf;subst hf
  exact⟨arr,rfl,hz,rfl⟩
 | (i,x)::ps,l,z,r,arr,hc,hz,hf=>by
  simp only[EK]at hc
  cases hp:place i with
  | none=>rw[hp]at hc;cases hc
  | some os=>
   obtain⟨off,size⟩:=os
   rw[hp]at hc
   cases hr:EK G place ps with
   | none=>rw[hr]at hc;cases hc
   | some l'=>
    rw[hr]at hc
    simp only[AP.injEq]at hc;subst hc
    simp only[Jv,B3,FQ]at hf
    split at hf
    ·rename_i hcond
     simp only[AK,AV,BC]at hcond
     obtain⟨⟨hl,hs⟩,hb⟩:=hcond
     have hv:=ev (a:=a) he hg rfl hl
     have hcs:=Hp hv
     have hlen:=Bm hcs
     have hzl:=Bm hz
     simp only[EU]at hlen hzl
     obtain⟨out,h1,h2,h3⟩:=O2 he hg ps l' _ r _ hr (bG hz hv (off:=off) (by omega)) hf
     refine⟨out,?_,h2,by rw[h3,Hf]⟩
     simp only[B3,Instr.fill,hp]
     rw[if_neg (by simp;omega)]
     exact h1
    ·cases hf
end
end Go.Og
set_option linter.unusedSimpArgs false
namespace Go.Og
variable {P:Program} {G:Nat->Bool} {R:Cz} {e:CF} {a:Act}
theorem EH {t:TypeId} {n:Nat} (h:GM P t=some n) (w:World):(sizeOf t).run P w = .ok n w:=by
 simp only[GM,Aq]at h
 obtain⟨i,hi,rfl⟩:=h
 simp[sizeOf,typeInfo,hi]
theorem GQ {t:TypeId} {l:List V} (h:Jk P t=some l) (w:World):∃z,(zeroValue t).run P w = .ok z w/\A5 R l=some z.cells.toList:=by
 unfold Jk at h
 cases hi:P.info? t with
 | none=>rw[hi]at h;cases h
 | some i=>
  rw[hi]at h
  cases hz:i.zero with
  | none=>simp only[hz]at h;cases h
  | some z=>
   simp only[hz]at h
   exact⟨z,by simp[zeroValue,typeInfo,hi,hz],ZR R h⟩
theorem Kh {t:TypeId} {s:Option Nat} (h:Gn P t=some s) (w:World) :
  (isAgg t).run P w = .ok s.isSome w/\∀n,s=some n->(sizeOf t).run P w = .ok n w:=by
 unfold Gn at h
 cases hu:P.underlying t with
 | none=>rw[hu]at h;cases h
 | some d=>
  cases hi:P.info? t with
  | none=>rw[hu,hi]at h;cases d<;>cases h
  | some i=>
   rw[hu,hi]at h
   cases d<;>(simp only[AP.injEq]at h;subst h;simp[isAgg,run_underlying hu,sizeOf,typeInfo,hi])
theorem SH:∀{fs:List Field} {pl:List (Nat × Nat)} (w:World),La P fs=some pl ->
  (fs.mapM (m:=Sem) fun f=>do pure (f.offset,<-sizeOf f.type)).run P w = .ok pl w
 | [],pl,w,h=>by simp only[La,AP.injEq]at h;subst h;rfl
 | f::fs,pl,w,h=>by
  simp only[La]at h
  cases hi:P.info? f.type with
  | none=>rw[hi]at h;cases h
  | some i=>
   rw[hi]at h
   cases hr:La P fs with
   | none=>rw[hr]at h;cases h
   | some r=>
    rw[hr]at h;simp only[AP.injEq]at h;subst h
    have ih:=SH w hr
    rw[Uk]
    simp only[Sem.run_bind,sizeOf,typeInfo,run_program,hi,Result.andThen_ok,Sem.run_pure]
    simp only[sizeOf,typeInfo,Sem.run_bind]at ih
    rw[ih]
    rfl
theorem Ft (op:BinOp) (t:TypeId) (x y:Operand) (u v:Value) (w:World)
  (h:∀z,(u = .agg z->False)) (h':u = .nilIface->v = .nilIface->False):(eqGuard op t x y u v).run P w = .ok () w:=by
 cases u with
 | agg z=>exact(h z rfl).elim
 | nilIface=>
  cases v with
  | nilIface=>exact(h' rfl rfl).elim
  | _=>cases op<;>rfl
 | _=>cases op<;>rfl
theorem aQ {op:BinOp} {x y:Int} {b:Bool} (h:Tl op x y=some b) (w:World):(Op.intCmp op x y).run P w = .ok (.bool b) w:=by
 unfold Tl at h
 split at h<;>first | (cases h;rfl) | (cases h)
theorem fJ {op:BinOp} {t:Fp} {k k':IntKind} {x y:Int} {v:V} (h:Ik op t (.int k x) (.int k' y)=some v) (ty:TypeId) (w:World) :
    ∃r,Au R v=some r/\(binOp op ty (.int k x) (.int k' y)).run P w = .ok r w:=by
  cases op
  case shl=>
    simp only[Ik,Aq]at h
    obtain⟨n,hn,rfl⟩:=h
    refine⟨_,rfl,?_⟩
    simp only[Pg]at hn
    split at hn
    · cases hn
    · cases hn
      simp only[binOp,Op.shift]
      rw[if_neg (by omega)]
      rfl
  case shr=>
    simp only[Ik,Aq]at h
    obtain⟨n,hn,rfl⟩:=h
    refine⟨_,rfl,?_⟩
    simp only[Pg]at hn
    split at hn
    · cases hn
    · cases hn
      simp only[binOp,Op.shift]
      rw[if_neg (by omega)]
      rfl
  all_goals
    simp only[Ik]at h
    split at h
    · rename_i hk
      subst hk
      simp only[Aq]at h
      obtain⟨n,hn,rfl⟩:=h
      refine⟨_,rfl,?_⟩
      simp only[binOp,ne_eq,not_true_eq_false,if_false]
      first
        | exact aQ hn w
        | (simp only[ZO]at hn
           first
             | (cases hn;rfl)
             | (split at hn
                · cases hn
                · rename_i h0
                  cases hn
                  simp only[Op.intDiv]
                  rw[if_neg h0]
                  rfl))
    · cases h
theorem fI {op:BinOp} {t:Fp} {a b:BS} {v:V} (h:Ik op t (.str a) (.str b)=some v) (ty:TypeId) (w:World) :
  ∃r,Au R v=some r/\(binOp op ty (.string ⟨a.toList.toArray⟩) (.string ⟨b.toList.toArray⟩)).run P w = .ok r w:=by
 have hq:a.beq b=(a.toList==b.toList):=by rw[BS.beq_eq];by_cases h:a.toList=b.toList<;>simp[h]
 have hca:=BS.toList_cat a b
 have hla:=BS.length_toList a
 have hlb:=BS.length_toList b
 simp only[Ik]at h
 cases op<;>simp only[cU,hq]at h
 all_goals
  generalize hx0:a.toList=x at *
  generalize hy0:b.toList=y at *
  have hx:(ByteArray.mk x.toArray).toList=x:=by rw[ByteArray.toList_eq]
  have hy:(ByteArray.mk y.toArray).toList=y:=by rw[ByteArray.toList_eq]
 case add=>
  split at h
  ·rename_i hl
   cases h
   refine⟨_,rfl,?_⟩
   rw[hca]
   simp only[BC,Nat.add_eq]at hl
   have h1:(ByteArray.mk x.toArray).size=x.length:=by simp[ByteArray.size]
   have h2:(ByteArray.mk y.toArray).size=y.length:=by simp[ByteArray.size]
   simp only[binOp,Op.stringOp,h1,h2]
   rw[if_neg (by simp[IntKind.max,IntKind.signed,IntKind.bits];omega)]
   have h3:(ByteArray.mk x.toArray)++(ByteArray.mk y.toArray)=⟨(x++y).toArray⟩:=by
    apply ByteArray.ext
    simp[ByteArray.data_append]
   rw[h3]
   rfl
  ·cases h
 all_goals first
  | (cases h;refine⟨_,rfl,?_⟩;simp only[binOp,Op.stringOp,hx,hy];rfl)
  | cases h
theorem I4 {b off:Nat} {x:Value} (h:Au R (.ptr b off)=some x):∃i,R b=some i/\x = .pointer (some ⟨i.blk,i.shift+off,none⟩):=by
 simp only[Au,Aq]at h
 obtain⟨i,hi,hx⟩:=h
 exact⟨i,hi,hx.symm⟩
theorem DF {b off n:Nat} {c:Zy} {x:Value} (h:Au R (.sl b off n c)=some x) :
  ∃i m,R b=some i/\x = .slice (some ⟨i.blk,i.shift+off,none⟩) n m/\(∀k,c = .ex k->m=k)/\(∀k,c = .op k->m=i.cap k off/\n<=m):=by
 cases c with
 | ex k=>
  simp only[Au,Aq]at h
  obtain⟨i,hi,hx⟩:=h
  exact⟨i,k,hi,hx.symm,fun _ e=>by cases e;rfl,fun _ e=>by cases e⟩
 | op k=>
  simp only[Au,EC]at h
  obtain⟨i,hi,hx⟩:=h
  by_cases hc:n<=i.cap k off/\i.cap k off<=9223372036854775807
  ·rw[if_pos hc]at hx;cases hx
   exact⟨i,_,hi,rfl,(fun _ e=>by cases e),(fun _ e=>by cases e;exact⟨rfl,hc.1⟩)⟩
  ·rw[if_neg hc]at hx;cases hx
theorem QR {b off n k:Nat} {x:Value} {i:BI} (h:Au R (.sl b off n (.op k))=some x) (hi:R b=some i):i.cap k off<=9223372036854775807:=by
 simp only[Au,hi,M4]at h
 by_cases hc:n<=i.cap k off/\i.cap k off<=9223372036854775807
 ·exact hc.2
 ·rw[if_neg hc]at h;cases h
theorem ER {b off k z:Nat} {x:Value} (h:Au R (.sle b off k z)=some x) :
  ∃i,R b=some i/\k<=i.cap z off/\x = .slice (some (if i.cap z off=k then⟨i.blk,i.shift+off,none⟩else(⟨i.blk,i.shift+off,none⟩:Addr).add (k*z))) 0 (i.cap z off-k):=by
 simp only[Au,EC]at h
 obtain⟨i,hi,hx⟩:=h
 by_cases hc:k<=i.cap z off
 ·rw[if_pos hc]at hx;cases hx;exact⟨i,hi,hc,rfl⟩
 ·rw[if_neg hc]at hx;cases hx
theorem Mj {t:TypeId} {v:V} {x:Value} (h:Au R (.ifc t v)=some x):∃y,Au R v=some y/\x = .iface t y:=by
 simp only[Au]at h
 cases hv:Au R v with
 | none=>rw[hv]at h;cases h
 | some y=>rw[hv]at h;cases h;exact⟨y,rfl,rfl⟩
theorem H4 {b:Nat} {x:Value} (h:Au R (.mp b)=some x):∃i,R b=some i/\x = .map (some i.blk):=by
 simp only[Au,Aq]at h
 obtain⟨i,hi,hx⟩:=h
 exact⟨i,hi,hx.symm⟩
theorem KC {f:FuncId} {l m:List V} {x:Value} (h:Au R (.fn f l m)=some x):∃y z,A5 R l=some y/\A5 R m=some z/\x = .func (.func f) y.toArray z.toArray:=by
 simp only[Au]at h
 cases hl:A5 R l with
 | none=>simp only[hl]at h;cases h
 | some y=>
  cases hm:A5 R m with
  | none=>simp only[hl,hm]at h;cases h
  | some z=>simp only[hl,hm]at h;cases h;exact⟨y,z,rfl,rfl,rfl⟩
theorem VO {t:TypeId} {u v:Value} {b:Bool} (w:World)
  (h:∀n,(Op.equalIn (n+1) t u v).run P w = .ok b w):(Op.equal t u v).run P w = .ok b w:=h 9999
theorem QV:∀{xs:List V} {o:Nat} {v:V},I5 xs o=v->v.live=true->xs[o]? = some v
 | [],_,v,h,hl=>by subst h;cases hl
 | a::l,0,v,h,_=>by subst h;rfl
 | a::l,n+1,v,h,hl=>by simpa using QV (xs:=l) (o:=n) h hl
def eE:TypeDesc->FK->Bool
 | .int _,.int=>true
 | .bool,.bool=>true
 | .string,.str=>true
 | _,_=>false
theorem NM {t:TypeId} {d:TypeDesc} {k:FK} (hu:P.underlying t=some d) (hd:eE d k=true)
  {xs:List V} {X:List Value} (hX:A5 R xs=some X) {o:Nat} {v:V} (hv:I5 xs o=v) (hl:v.live=true) (w:World) :
  ∃x,Au R v=some x/\(part t X.toArray o).run P w = .ok x w:=by
 obtain⟨x,hx,hg⟩:=EI hX (QV hv hl)
 refine⟨x,hx,?_⟩
 have hg':X.toArray[o]? = some x:=by simpa using hg
 have ha:(isAgg t).run P w = .ok false w:=by
  cases d<;>first | (cases k<;>cases hd;done) | simp[isAgg,run_underlying hu]
 simp only[part,Sem.run_bind,ha,Result.andThen_ok,E3,if_false,hg',Sem.run_pure]
theorem aY {t:TypeId} {d:TypeDesc} {k:FK} (hu:P.underlying t=some d) (hk:eE d k=true)
  {u v:V} {b:Bool} (h:Lp k u v=some b) {x y:Value} (hx:Au R u=some x) (hy:Au R v=some y) (n:Nat) (w:World):(Op.equalIn (n+1) t x y).run P w = .ok b w:=by
 unfold Lp at h
 split at h<;>(try (cases h;done))<;>(cases hx;cases hy)<;>(cases d<;>first | (cases hk;done) | skip)
 ·split at h
  ·rename_i he
   simp only[AP.injEq]at h;subst h;subst he
   rw[Lo];simp[Op.equalIn,run_underlying hu]
  ·cases h
 ·simp only[AP.injEq]at h;subst h
  simp[Op.equalIn,run_underlying hu]
 ·simp only[AP.injEq]at h;subst h
  rename_i p q
  rw[run_equalIn_string w n t _ _ hu,ByteArray.toList_eq,ByteArray.toList_eq,BS.beq_eq]
  by_cases e:p.toList=q.toList<;>simp[e]
theorem OV {k:FK} {u v:V} {b:Bool} (h:Lp k u v=some b):u.live=true/\v.live=true:=by
 unfold Lp at h
 split at h<;>first | exact⟨rfl,rfl⟩ | cases h
theorem Kv {xs ys:List V} {X Y:List Value} (hX:A5 R xs=some X) (hY:A5 R ys=some Y) (n:Nat) (w:World):∀{fs:List Field} {l:List (Nat × FK)} {b:Bool},
  G2 P fs=some l->G3 l xs ys=some b->(Op.eqFields (n+1) X.toArray Y.toArray fs).run P w = .ok b w
 | [],l,b,hl,h=>by
  simp only[G2,AP.injEq]at hl;subst hl
  simp only[G3,AP.injEq]at h;subst h
  rfl
 | f::fs,l,b,hl,h=>by
  simp only[G2]at hl
  by_cases hn:f.name = "_"
  ·have hb:(f.name == "_")=true:=by simp[hn]
   rw[hb]at hl
   simp only[Op.eqFields]
   rw[if_neg (by simp[hn])]
   exact Kv hX hY n w hl h
  ·have hb:(f.name == "_")=false:=by simp[hn]
   rw[hb]at hl
   cases hr:G2 P fs with
   | none=>rw[hr]at hl;cases hl
   | some r=>
    rw[hr]at hl
    cases hu:P.underlying f.type with
    | none=>simp only[hu]at hl;cases hl
    | some d=>
     simp only[hu]at hl
     have hk:∃k,l=(f.offset,k)::r/\eE d k=true:=by
      cases d<;>simp only[AP.injEq,reduceCtorEq]at hl<;>subst hl<;>exact⟨_,rfl,rfl⟩
     obtain⟨k,rfl,hk⟩:=hk
     simp only[G3]at h
     cases hc:Lp k (I5 xs f.offset) (I5 ys f.offset)with
     | none=>simp only[hc]at h;cases h
     | some a=>
      simp only[hc]at h
      cases hf:G3 r xs ys with
      | none=>simp only[hf]at h;cases h
      | some b'=>
       simp only[hf,AP.injEq]at h;subst h
       obtain⟨hlu,hlv⟩:=OV hc
       obtain⟨x,hx,hpx⟩:=NM (P:=P) hu hk hX rfl hlu w
       obtain⟨y,hy,hpy⟩:=NM (P:=P) hu hk hY rfl hlv w
       simp only[Op.eqFields]
       rw[if_pos hn]
       simp only[Sem.run_bind,hpx,hpy,Result.andThen_ok,aY hu hk hc hx hy n w]
       cases a
       ·simp
       ·simpa using Kv hX hY n w hr hf
theorem Wj {op:BinOp} (hop:op = .eql\/op = .neq) {t:TypeId} {ox oy:Operand} {fs:Array Field} (hut:P.underlying t=some (.struct fs)) {l:List (Nat × FK)} (htg:FR P t fs.toList = .flat l)
  {xs ys:List V} {b:Bool} (h:G3 l xs ys=some b) {u v:Value} (hu:Au R (.agg xs)=some u) (hv:Au R (.agg ys)=some v) (w:World) :
  (do eqGuard op t ox oy u v;binOp op t u v:Sem Value).run P w = .ok (.bool (if op = .eql then b else !b)) w:=by
 obtain⟨X,hX,rfl⟩:=Hq hu
 obtain⟨Y,hY,rfl⟩:=Hq hv
 have hfo:P.fieldsOf t=fs:=by simp[Program.fieldsOf,hut]
 unfold FR at htg
 cases hs:(P.stoodInHeld t || P.eqGuardType P.depth t)with
 | true=>rw[hs]at htg;cases htg
 | false=>
  rw[hs]at htg
  simp only[B2]at hs
  cases hfl:G2 P fs.toList with
  | none=>rw[hfl]at htg;cases htg
  | some l'=>
   rw[hfl]at htg
   simp only[Fp.flat.injEq]at htg;subst htg
   have he:(Op.equalIn 10000 t (.agg X.toArray) (.agg Y.toArray)).run P w = .ok b w:=by
    rw[run_equalIn_agg w 9999 t _ _ (by rw[hfo];exact hut) hs.1,hfo]
    exact Kv hX hY 9998 w hfl h
   rw[Sem.run_bind,run_eqGuard_agg w op t ox oy _ _ hs.2,Result.andThen_ok]
   rcases hop with rfl|rfl
   ·rw[run_eql_struct,he];rfl
   ·rw[run_neq_struct,he];rfl
theorem QM (t:TypeId) (fs:List Field):FR P t fs = .none\/∃l,FR P t fs = .flat l:=by
 unfold FR
 split
 ·exact .inr ⟨_,rfl⟩
 ·exact .inl rfl
set_option maxHeartbeats 2000000 in
theorem eI {op:BinOp} (hop:op = .eql\/op = .neq) {t:TypeId} {ox oy:Operand} {x y:V} {b:Bool} (h:LJ (aX P op t ox oy) x y=some b)
  {u v:Value} (hu:Au R x=some u) (hv:Au R y=some v) (w:World):(do eqGuard op t ox oy u v;binOp op t u v:Sem Value).run P w = .ok (.bool (if op = .eql then b else !b)) w:=by
 have htag:aX P op t ox oy=(match P.underlying t with
  | some .bool => .bool
  | some (.struct fs)=>FR P t fs.toList
  | some (.pointer _) => .ptr
  | some (.slice _) => .slice
  | some (.map _ _) => .map
  | some (.func _ _ _) => .func
  | some (.interface _) => .iface (Mb ox || Mb oy)
  | _ => .none):=by rcases hop with rfl | rfl<;>rfl
 rw[htag]at h
 clear htag
 generalize htg:(match P.underlying t with
  | some .bool=>Fp.bool
  | some (.struct fs)=>FR P t fs.toList
  | some (.pointer _) => .ptr
  | some (.slice _) => .slice
  | some (.map _ _) => .map
  | some (.func _ _ _) => .func
  | some (.interface _) => .iface (Mb ox || Mb oy)
  | _ => .none)=tg at h
 have hd:∃d,P.underlying t=some d:=by
  cases hut:P.underlying t with
  | none=>rw[hut]at htg;subst htg;cases h
  | some d=>exact⟨d,rfl⟩
 obtain⟨d,hut⟩:=hd
 rw[hut]at htg
 have hfin:(eqGuard op t ox oy u v).run P w = .ok () w->(Op.equal t u v).run P w = .ok b w ->
   binOp .eql t u v=(do pure (.bool (<-Op.equal t u v)))->binOp .neq t u v=(do pure (.bool (!(<-Op.equal t u v)))) ->
   (do eqGuard op t ox oy u v;binOp op t u v:Sem Value).run P w = .ok (.bool (if op = .eql then b else !b)) w:=fun h1 h2 h3 h4=>by
  rcases hop with rfl|rfl
  ·rw[Sem.run_bind,h1,Result.andThen_ok,h3,Sem.run_bind,h2];rfl
  ·rw[Sem.run_bind,h1,Result.andThen_ok,h4,Sem.run_bind,h2];rfl
 have hplain:∀(hn:∀z,u = .agg z->False) (hm:u = .nilIface->v = .nilIface->False) (hb:∀n,(Op.equalIn (n+1) t u v).run P w = .ok b w),
   binOp .eql t u v=(do pure (.bool (<-Op.equal t u v)))->binOp .neq t u v=(do pure (.bool (!(<-Op.equal t u v)))) ->
   (do eqGuard op t ox oy u v;binOp op t u v:Sem Value).run P w = .ok (.bool (if op = .eql then b else !b)) w:=fun hn hm hb h3 h4=>
  hfin (Ft op t ox oy u v w hn hm) (VO w hb) h3 h4
 by_cases hst:∃fs,d = .struct fs
 ·obtain⟨fs,rfl⟩:=hst
  simp only at htg
  rcases QM (P:=P) t fs.toList with h0|⟨l,h0⟩
  ·rw[h0]at htg;subst htg;cases h
  ·rw[h0]at htg;subst htg
   cases x<;>cases y<;>first
    | (exact Wj hop hut h0 h hu hv w)
    | cases h
 unfold LJ at h
 split at h<;>(try (cases h;done))<;>(try (simp only[AP.injEq]at h;subst h))
 all_goals (cases d<;>first | exact(hst ⟨_,rfl⟩).elim | simp only[reduceCtorEq]at htg)
 ·cases hu;cases hv
  exact hplain (fun _ e=>by cases e) (fun e=>by cases e) (fun n=>by simp[Op.equalIn,run_underlying hut]) rfl rfl
 ·cases hu;cases hv
  exact hplain (fun _ e=>by cases e) (fun e=>by cases e) (fun n=>by simp[Op.equalIn,run_underlying hut]) rfl rfl
 ·cases hu;obtain⟨i,_,rfl⟩:=I4 hv
  exact hplain (fun _ e=>by cases e) (fun e=>by cases e) (fun n=>by simp[Op.equalIn,run_underlying hut]) rfl rfl
 ·cases hv;obtain⟨i,_,rfl⟩:=I4 hu
  exact hplain (fun _ e=>by cases e) (fun e=>by cases e) (fun n=>by simp[Op.equalIn,run_underlying hut]) rfl rfl
 ·cases hu;cases hv
  exact hplain (fun _ e=>by cases e) (fun e=>by cases e) (fun n=>by simp[Op.equalIn,run_underlying hut]) rfl rfl
 ·cases hu;obtain⟨i,m,_,rfl,_⟩:=DF hv
  exact hplain (fun _ e=>by cases e) (fun e=>by cases e) (fun n=>by simp[Op.equalIn,run_underlying hut]) rfl rfl
 ·cases hv;obtain⟨i,m,_,rfl,_⟩:=DF hu
  exact hplain (fun _ e=>by cases e) (fun e=>by cases e) (fun n=>by simp[Op.equalIn,run_underlying hut]) rfl rfl
 ·cases hu;obtain⟨i,_,_,rfl⟩:=ER hv
  exact hplain (fun _ e=>by cases e) (fun e=>by cases e) (fun n=>by simp[Op.equalIn,run_underlying hut]) rfl rfl
 ·cases hv;obtain⟨i,_,_,rfl⟩:=ER hu
  exact hplain (fun _ e=>by cases e) (fun e=>by cases e) (fun n=>by simp[Op.equalIn,run_underlying hut]) rfl rfl
 ·cases hu;cases hv
  exact hplain (fun _ e=>by cases e) (fun e=>by cases e) (fun n=>by simp[Op.equalIn,run_underlying hut]) rfl rfl
 ·cases hu;obtain⟨i,_,rfl⟩:=H4 hv
  exact hplain (fun _ e=>by cases e) (fun e=>by cases e) (fun n=>by simp[Op.equalIn,run_underlying hut]) rfl rfl
 ·cases hv;obtain⟨i,_,rfl⟩:=H4 hu
  exact hplain (fun _ e=>by cases e) (fun e=>by cases e) (fun n=>by simp[Op.equalIn,run_underlying hut]) rfl rfl
 ·cases hu;cases hv
  exact hplain (fun _ e=>by cases e) (fun e=>by cases e) (fun n=>by simp[Op.equalIn,run_underlying hut]) rfl rfl
 ·cases hu;obtain⟨y,z,_,_,rfl⟩:=KC hv
  exact hplain (fun _ e=>by cases e) (fun e=>by cases e) (fun n=>by simp[Op.equalIn,run_underlying hut]) rfl rfl
 ·cases hv;obtain⟨y,z,_,_,rfl⟩:=KC hu
  exact hplain (fun _ e=>by cases e) (fun e=>by cases e) (fun n=>by simp[Op.equalIn,run_underlying hut]) rfl rfl
 ·cases hu;cases hv
  refine hfin ?_ (VO w (fun n=>by simp[Op.equalIn,run_underlying hut])) rfl rfl
  have hl:(Mb ox || Mb oy)=true:=by simpa using htg
  rcases hop with rfl|rfl<;>cases ox<;>cases oy<;>first|rfl|(exfalso;simp[Mb]at hl)
 ·cases hu;obtain⟨y,_,rfl⟩:=Mj hv
  exact hplain (fun _ e=>by cases e) (fun _ e=>by cases e) (fun n=>by simp[Op.equalIn,run_underlying hut]) rfl rfl
 ·cases hv;obtain⟨y,_,rfl⟩:=Mj hu
  exact hplain (fun _ e=>by cases e) (fun e=>by cases e) (fun n=>by simp[Op.equalIn,run_underlying hut]) rfl rfl
theorem nY {t:TypeId} {ox oy:Operand} {x y:V} {v:V} {op:BinOp} (hi:∀k n k' m,x = .int k n->y = .int k' m->False) (hs:∀l m,x = .str l->y = .str m->False)
  (h:Ik op (aX P op t ox oy) x y=some v):(op = .eql\/op = .neq)/\∃b,LJ (aX P op t ox oy) x y=some b/\v = .bool (if op = .eql then b else !b):=by
 unfold Ik at h
 split at h
 ·exact(hi _ _ _ _ rfl rfl).elim
 ·exact(hs _ _ rfl rfl).elim
 ·cases op<;>simp only[Aq]at h<;>first
   | (obtain⟨b,hb,rfl⟩:=h;exact⟨.inl rfl,b,hb,by simp⟩)
   | (obtain⟨b,hb,rfl⟩:=h;exact⟨.inr rfl,b,hb,by simp⟩)
   | cases h
theorem Wi {tg:Fp} {x y:V} {b:Bool} (h:LJ tg x y=some b):x.live=true/\y.live=true:=by
 unfold LJ at h
 split at h<;>first | exact⟨rfl,rfl⟩ | cases h
theorem nW {o:BinOp} {t:TypeId} {ox oy:Operand} {v:V} (he:B9 R e a.tmps) (hg:Dw G R)
  (h:Ik o (aX P o t ox oy) (CZ e (Ap G ox)) (CZ e (Ap G oy))=some v) (w:World) :
  ∃x,Au R v=some x/\(do eqGuard o t ox oy (a.eval ox) (a.eval oy);binOp o t (a.eval ox) (a.eval oy):Sem Value).run P w = .ok x w:=by
 by_cases hi:∃k n k' m,CZ e (Ap G ox) = .int k n/\CZ e (Ap G oy) = .int k' m
 ·obtain⟨k,n,k',m,hx,hy⟩:=hi
  rw[hx,hy]at h
  rw[Fw he hg hx,Fw he hg hy]
  obtain⟨r,hr,hrun⟩:=fJ (R:=R) (P:=P) h t w
  exact⟨r,hr,by rw[Sem.run_bind,Ft _ _ _ _ _ _ _ (fun _ e=>by cases e) (fun e=>by cases e)];exact hrun⟩
 ·by_cases hs:∃l m,CZ e (Ap G ox) = .str l/\CZ e (Ap G oy) = .str m
  ·obtain⟨l,m,hx,hy⟩:=hs
   rw[hx,hy]at h
   rw[Ln he hg hx,Ln he hg hy]
   obtain⟨r,hr,hrun⟩:=fI (R:=R) (P:=P) h t w
   exact⟨r,hr,by rw[Sem.run_bind,Ft _ _ _ _ _ _ _ (fun _ e=>by cases e) (fun e=>by cases e)];exact hrun⟩
  ·obtain⟨hop,b,hb,rfl⟩:=nY (fun k n k' m hx hy=>hi ⟨k,n,k',m,hx,hy⟩) (fun l m hx hy=>hs ⟨l,m,hx,hy⟩) h
   obtain⟨hlx,hly⟩:=Wi hb
   have hu:=ev (a:=a) he hg rfl hlx
   have hv:=ev (a:=a) he hg rfl hly
   exact⟨_,rfl,eI hop hb hu hv w⟩
end Go.Og
namespace Go.Og
variable {P:Program} {G:Nat->Bool} {R:Cz} {e:CF} {a:Act}
theorem NY {m l:Nat} (h:¬m=l):Ax m l=false:=HV.2 (by rw[ne_eq,AV];exact h)
theorem fE (x:V) (d d':Nat):G0 (some x) d=G0 (some x) d':=by cases x<;>rfl
theorem NV (he:B9 R e a.tmps) (hg:Dw G R) {o:Option Operand} {d n:Nat} (h:G0 (Df e (o.map (Ap G))) d=some n) (y:Nat) (hy:n<=y) (code:BoundsCode) (w:World) :
  (o=none/\n=d)\/∃x,o=some x/\(Instr.sliceBound (a.eval x) y code).run P w = .ok n w:=by
 cases o with
 | none=>simp only[ky,Df,G0,AP.injEq]at h;exact .inl ⟨rfl,h.symm⟩
 | some x=>
  right
  refine⟨x,rfl,?_⟩
  simp only[CW,Df]at h
  unfold G0 at h
  split at h
  ·rename_i heq;cases heq
  ·rename_i k m heq
   simp only[AP.injEq]at heq
   split at h
   ·rename_i h0
    simp only[AP.injEq]at h
    subst h
    rw[Fw he hg heq]
    exact run_sliceBound w k m y code h0 (by omega)
   ·cases h
  ·cases h
theorem Gf (he:B9 R e a.tmps) (hg:Dw G R) {lo hi mx:Option Operand} {len cap l h m:Nat} (isSlice:Bool)
  (hm:G0 (Df e (mx.map (Ap G))) cap=some m) (hh:G0 (Df e (hi.map (Ap G))) len=some h) (hl:G0 (Df e (lo.map (Ap G))) 0=some l)
  (h1:l<=h) (h2:h<=m) (h3:m<=cap) (hmx:mx.isSome=true->hi.isSome=true) (w:World) :
  (Instr.sliceBounds isSlice len cap (lo.map a.eval) (hi.map a.eval) (mx.map a.eval)).run P w = .ok (l,h,m) w:=by
 unfold Instr.sliceBounds
 rcases NV (P:=P) he hg hm cap h3 (if isSlice then .slice3Acap else .slice3Alen) w with ⟨rfl,rfl⟩|⟨x,rfl,hx⟩
 ·rcases NV (P:=P) he hg hh m h2 (if isSlice then .sliceAcap else .sliceAlen) w with ⟨rfl,rfl⟩|⟨y,rfl,hy⟩
  ·rcases NV (P:=P) he hg hl h h1 .sliceB w with ⟨rfl,rfl⟩|⟨z,rfl,hz⟩
   ·rfl
   ·simp[hz]
  ·rcases NV (P:=P) he hg hl h h1 .sliceB w with ⟨rfl,rfl⟩|⟨z,rfl,hz⟩
   ·simp[hy]
   ·simp[hy,hz]
 ·rcases NV (P:=P) he hg hh m h2 .slice3B w with ⟨rfl,rfl⟩|⟨y,rfl,hy⟩
  ·simp at hmx
  ·rcases NV (P:=P) he hg hl h h1 .slice3C w with ⟨rfl,rfl⟩|⟨z,rfl,hz⟩
   ·simp[hx,hy]
   ·simp[hx,hy,hz]
theorem add_eq (b o n:Nat):(⟨b,o,none⟩:Addr).add n=⟨b,o+n,none⟩:=by
 unfold Addr.add
 split
 ·rename_i h;subst h;rfl
 ·rfl
theorem nQ {i:BI} {z off l:Nat}:i.cap z (off+l*z)=i.cap z off-l:=by
 unfold BI.cap
 rw[<-Nat.sub_sub,HT l z]
 by_cases h:z*l<=i.endc-off
 ·exact Nat.sub_mul_div_of_le (i.endc-off) z l h
 ·have hz:i.endc-off<z*l:=by omega
  rw[Nat.sub_eq_zero_of_le (by omega),Nat.zero_div]
  have:=Nat.div_le_of_le_mul (m:=i.endc-off) (n:=l) (k:=z) (by omega)
  omega
theorem aD (he:B9 R e a.tmps) (hg:Dw G R) {t el:TypeId} {esz:Nat} (hu:P.underlying t=some (.slice el)) (hs:GM P el=some esz)
  {x:Operand} {lo hi mx:Option Operand} (hmx:mx.isSome=true->hi.isSome=true) {v:V}
  (h:CP esz (CZ e (Ap G x)) (Df e (lo.map (Ap G))) (Df e (hi.map (Ap G))) (Df e (mx.map (Ap G)))=some v) (w:World) :
  ∃r,Au R v=some r/\(Instr.sliceAt t (a.eval x) (lo.map a.eval) (hi.map a.eval) (mx.map a.eval)).run P w = .ok r w:=by
 have hat:∀u,(Instr.sliceAt t u (lo.map a.eval) (hi.map a.eval) (mx.map a.eval)).run P w=(Instr.slice t u (lo.map a.eval) (hi.map a.eval) (mx.map a.eval)).run P w:=fun u=>by
  unfold Instr.sliceAt;simp[run_underlying hu]
 rw[hat]
 have hsl:∀(b:Option Addr) (len cap l hh m:Nat),(Instr.sliceBounds true len cap (lo.map a.eval) (hi.map a.eval) (mx.map a.eval)).run P w = .ok (l,hh,m) w ->
   (Instr.slice t (.slice b len cap) (lo.map a.eval) (hi.map a.eval) (mx.map a.eval)).run P w = .ok (.slice (if m=l then b else b.map (·.add (l*esz))) (hh-l) (m-l)) w:=fun b len cap l hh m hb=>by
  unfold Instr.slice;simp[run_underlying hu,hb,EH hs w]
 cases hx:CZ e (Ap G x)with
 | nils=>
  rw[hx]at h
  have hc:=ev (a:=a) he hg hx rfl
  simp only[Au,AP.injEq]at hc
  rw[<-hc]
  simp only[CP]at h
  cases hm:G0 (Df e (mx.map (Ap G))) 0<;>simp only[hm]at h
  ·cases h
  rename_i m
  cases hh:G0 (Df e (hi.map (Ap G))) 0<;>simp only[hh]at h
  ·cases h
  rename_i h'
  cases hl:G0 (Df e (lo.map (Ap G))) 0<;>simp only[hl]at h
  ·cases h
  rename_i l
  split at h
  ·rename_i hcond
   simp only[AK,BC,AV]at hcond
   obtain⟨⟨h1,h2⟩,h3⟩:=hcond
   cases h
   refine⟨_,rfl,?_⟩
   rw[hsl none 0 0 l h' m (Gf he hg true hm hh hl h1 h2 (by omega) hmx w)]
   have:m=0:=h3
   have:h'=0:=by omega
   have:l=0:=by omega
   subst_vars;rfl
  ·cases h
 | sl b off len c=>
  rw[hx]at h
  have hc:=ev (a:=a) he hg hx rfl
  obtain⟨i,cap,hi',hev,hex,hop⟩:=DF hc
  rw[hev]
  cases c with
  | ex c=>
   obtain rfl:=hex c rfl
   simp only[CP]at h
   cases hm:G0 (Df e (mx.map (Ap G))) cap<;>simp only[hm]at h
   ·cases h
   rename_i m
   cases hh:G0 (Df e (hi.map (Ap G))) len<;>simp only[hh]at h
   ·cases h
   rename_i h'
   cases hl:G0 (Df e (lo.map (Ap G))) 0<;>simp only[hl]at h
   ·cases h
   rename_i l
   split at h
   ·rename_i hcond
    simp only[AK,BC,AV]at hcond
    obtain⟨⟨h1,h2⟩,h3⟩:=hcond
    have h3:m<=cap:=by
     rw[CB]at h3
     rcases h3 with h3|h3
     ·cases hq:Df e (mx.map (Ap G))with
      | none=>rw[hq]at hm;cases hm;exact AN _
      | some q=>rw[hq]at h3;cases h3
     ·exact Gr h3
    cases h
    refine⟨_,?_,hsl _ len cap l h' m (Gf he hg true hm hh hl h1 h2 h3 hmx w)⟩
    simp only[Au,hi',CW]
    by_cases hml:m=l
    ·simp[hml]
    ·have:Ax m l=false:=NY hml
     simp[hml,this,add_eq,GI]
   ·cases h
  | op z=>
   obtain⟨hcap,hlen⟩:=hop z rfl
   have hbd:=QR hc hi'
   rw[<-hcap]at hbd
   simp only[CP]at h
   cases hh:G0 (Df e (hi.map (Ap G))) len
   ·rw[hh]at h;cases h
   rename_i h'
   cases hl:G0 (Df e (lo.map (Ap G))) 0
   ·rw[hh,hl]at h;cases h
   rename_i l
   rw[hh,hl]at h
   simp only at h
   cases hmo:mx with
   | none=>
    subst hmo
    simp only[ky,Df]at h
    split at h
    ·rename_i hcond
     simp only[AK,BC,AV]at hcond
     obtain⟨⟨h1,h2⟩,h3⟩:=hcond
     subst h3
     have hb:=Gf (a:=a) (P:=P) (cap:=cap) (mx:=none) he hg true (by simp[Df,G0]) hh hl h1 (Ae h2 hlen) (AN _) hmx w
     refine⟨_,?_,hsl _ len cap l h' cap hb⟩
     split at h
     ·rename_i hll
      simp only[AV]at hll
      have hhl:h'=l:=by omega
      subst hhl
      split at h
      ·rename_i hl0
       simp only[AV]at hl0
       cases h
       subst hl0
       simp only[Au,hi',M4,<-hcap,hlen,hbd,and_self,if_true,qW,M5,CW,add_eq,ES,ite_self,<-hll,CH]
      ·cases h
       simp only[Au,hi',M4,<-hcap,M6,CW,if_pos (show h'<=cap by omega)]
       by_cases hcl:cap=h'<;>simp[hcl]
     ·rename_i hll
      simp only[AV]at hll
      cases h
      have hne:cap≠l:=by omega
      simp only[Au,hi',M4,nQ,<-hcap,if_neg hne,CW,add_eq,GI,if_pos (show h'-l<=cap-l/\cap-l<=9223372036854775807 by omega)]
    ·cases h
   | some mo=>
    subst hmo
    cases hm:G0 (Df e ((some mo).map (Ap G))) 0<;>simp only[CW,Df]at h hm<;>simp only[hm]at h
    ·cases h
    rename_i m
    split at h
    ·rename_i hcond
     simp only[AK,BC,AV]at hcond
     obtain⟨⟨h1,h2⟩,h3⟩:=hcond
     cases h
     have hm':G0 (Df e ((some mo).map (Ap G))) cap=some m:=by
      simp only[CW,Df]
      rw[fE _ cap 0];exact hm
     refine⟨_,?_,hsl _ len cap l h' m (Gf he hg true hm' hh hl h1 h2 (by omega) hmx w)⟩
     simp only[Au,hi',CW]
     by_cases hml:m=l
     ·simp[hml]
     ·have:Ax m l=false:=NY hml
      simp[hml,this,add_eq,GI]
    ·cases h
 | sle b off k z=>
  rw[hx]at h
  have hc:=ev (a:=a) he hg hx rfl
  obtain⟨i,hi',hk,hev⟩:=ER hc
  simp only[CP]at h
  cases hh:G0 (Df e (hi.map (Ap G))) 0
  ·rw[hh]at h;cases h
  rename_i h'
  cases hl:G0 (Df e (lo.map (Ap G))) 0
  ·rw[hh,hl]at h;cases h
  rename_i l
  rw[hh,hl]at h
  cases hmo:mx with
  | some mo=>subst hmo;simp only[CW,Df]at h;cases h
  | none=>
   subst hmo
   simp only[ky,Df]at h
   split at h
   ·rename_i hcond
    simp only[AK,AV]at hcond
    obtain⟨rfl,rfl⟩:=hcond
    cases h
    refine⟨_,hc,?_⟩
    rw[hev]
    have hb:=Gf (a:=a) (P:=P) (len:=0) (cap:=i.cap z off-k) (m:=i.cap z off-k) (mx:=none) he hg true (by simp[Df,G0]) hh hl (AN 0) (CH _) (AN _) hmx w
    rw[hsl _ 0 _ 0 0 _ hb]
    simp only[M5,qW,CW]
    split<;>split<;>simp[Addr.add]
   ·cases h
 | _=>rw[hx]at h;simp only[CP]at h;cases h
end Go.Og
namespace Go.Og
variable {P:Program} {G:Nat->Bool} {R:Cz} {e:CF} {a:Act}
theorem TK (he:B9 R e a.tmps) (hg:Dw G R) {t el:TypeId} {n esz:Nat} (hu:P.underlying t=some (.array n el)) (hs:GM P el=some esz)
  {x:Operand} {lo hi mx:Option Operand} (hmx:mx.isSome=true->hi.isSome=true) {v:V}
  (h:IV n esz (CZ e (Ap G x)) (Df e (lo.map (Ap G))) (Df e (hi.map (Ap G))) (Df e (mx.map (Ap G)))=some v) (w:World) :
  ∃r,Au R v=some r/\(Instr.sliceAt t (a.eval x) (lo.map a.eval) (hi.map a.eval) (mx.map a.eval)).run P w = .ok r w:=by
 cases hx:CZ e (Ap G x)with
 | ptr b off=>
  rw[hx]at h
  obtain⟨i,hi',hev⟩:=IF (a:=a) he hg hx
  simp only[IV]at h
  cases hm:G0 (Df e (mx.map (Ap G))) n
  ·rw[hm]at h;cases h
  rename_i m
  cases hh:G0 (Df e (hi.map (Ap G))) n
  ·rw[hm,hh]at h;cases h
  rename_i h'
  cases hl:G0 (Df e (lo.map (Ap G))) 0
  ·rw[hm,hh,hl]at h;cases h
  rename_i l
  rw[hm,hh,hl]at h
  simp only at h
  split at h
  ·rename_i hcond
   simp only[AK,BC,AV]at hcond
   obtain⟨⟨h1,h2⟩,h3⟩:=hcond
   cases h
   have hb:=Gf (P:=P) (a:=a) he hg false hm hh hl h1 h2 h3 hmx w
   refine⟨.slice (some (if m=l then⟨i.blk,i.shift+off,none⟩else(⟨i.blk,i.shift+off,none⟩:Addr).add (l*esz))) (h'-l) (m-l),?_,?_⟩
   ·simp only[Au,hi',CW]
    by_cases hml:m=l
    ·simp[hml]
    ·have:Ax m l=false:=NY hml
     simp[hml,this,add_eq,GI]
   ·rw[hev]
    unfold Instr.sliceAt
    simp[run_underlying hu,Instr.sureAddr,hb,EH hs w]
  ·cases h
 | _=>rw[hx]at h;simp only[IV]at h;cases h
theorem TJ (he:B9 R e a.tmps) (hg:Dw G R) {t:TypeId} (hu:P.underlying t=some .string)
  {x:Operand} {lo hi:Option Operand} {v:V}
  (h:IU (CZ e (Ap G x)) (Df e (lo.map (Ap G))) (Df e (hi.map (Ap G)))=some v) (w:World) :
  ∃r,Au R v=some r/\(Instr.sliceAt t (a.eval x) (lo.map a.eval) (hi.map a.eval) none).run P w = .ok r w:=by
 cases hx:CZ e (Ap G x)with
 | str s=>
  rw[hx]at h
  have hev:=Ln (a:=a) he hg hx
  simp only[IU]at h
  cases hh:G0 (Df e (hi.map (Ap G))) s.len
  ·rw[hh]at h;cases h
  rename_i h'
  cases hl:G0 (Df e (lo.map (Ap G))) 0
  ·rw[hh,hl]at h;cases h
  rename_i l
  rw[hh,hl]at h
  simp only at h
  split at h
  ·rename_i hcond
   simp only[AK,BC,AV]at hcond
   obtain⟨h1,h2⟩:=hcond
   cases h
   have hsz:(ByteArray.mk s.toList.toArray).size=s.len:=by simp[ByteArray.size,BS.length_toList]
   have hb:=Gf (P:=P) (a:=a) (mx:=none) (cap:=s.len) (m:=s.len) he hg false (by simp[Df,G0]) hh hl h1 h2 (AN _) (fun e=>by cases e) w
   refine⟨_,rfl,?_⟩
   rw[hev]
   unfold Instr.sliceAt Instr.slice
   simp only[ky]at hb
   simp only[Sem.run_bind,run_underlying hu,Result.andThen_ok,Option.isSome_none,E3,if_false,hsz,hb,Sem.run_pure]
   congr 2
   rw[BS.toList_sub h2]
   apply ByteArray.ext
   rw[ByteArray.data_extract]
   apply Gm
   simp[List.drop_take]
  ·cases h
 | _=>rw[hx]at h;simp only[IU]at h;cases h
theorem DG {b off:Nat} {i:BI} (h:R b=some i):Au R (.ptr b off)=some (.pointer (some ⟨i.blk,i.shift+off,none⟩)):=by simp only[Au,h,CW]
theorem Wu {f:FuncId} {l m:List V} {y z:List Value} (h:A5 R l=some y) (k:A5 R m=some z):Au R (.fn f l m)=some (.func (.func f) y.toArray z.toArray):=by simp only[Au,h,k]
theorem Y4:∀(l:List Operand) (x:V) (u:Value) {k:IntKind} {n:Int} (_:B9 R e a.tmps) (_:Dw G R) (_:Au R x=some u) (_:∃k n,x = .int k n)
  (_:VF x (Fm e (l.map (Ap G)))=some (.int k n)) (w:World),((l.map a.eval).foldlM (m:=Sem) Builtin.min2 u).run P w = .ok (.int k n) w
 | [],x,u,k,n,_,_,hu,_,h,w=>by
  simp only[Fm,JO,VF,AP.injEq]at h
  subst h;cases hu;rfl
 | o::l,x,u,k,n,he,hg,hu,⟨k1,n1,hx⟩,h,w=>by
  subst hx
  simp only[Fm,B3]at h
  unfold VF at h
  split at h
  ·rename_i heq;cases heq
  ·rename_i heq1 heq
   cases heq1
   rename_i k2 n2 l2 _
   simp only[List.cons.injEq]at heq
   obtain⟨ho,hl⟩:=heq
   split at h
   ·rename_i hk
    subst hk
    subst hl
    cases hu
    rw[B3,List.foldlM_cons,Fw he hg ho]
    simp only[Builtin.min2,Sem.run_bind,Sem.run_pure,Result.andThen_ok]
    exact Y4 l _ _ he hg rfl ⟨_,_,rfl⟩ h w
   ·cases h
  ·cases h
theorem Y5:∀(l:List Operand) (x:V) (u:Value) {k:IntKind} {n:Int} (_:B9 R e a.tmps) (_:Dw G R) (_:Au R x=some u) (_:∃k n,x = .int k n)
  (_:VG x (Fm e (l.map (Ap G)))=some (.int k n)) (w:World),((l.map a.eval).foldlM (m:=Sem) Builtin.max2 u).run P w = .ok (.int k n) w
 | [],x,u,k,n,_,_,hu,_,h,w=>by
  simp only[Fm,JO,VG,AP.injEq]at h
  subst h;cases hu;rfl
 | o::l,x,u,k,n,he,hg,hu,⟨k1,n1,hx⟩,h,w=>by
  subst hx
  simp only[Fm,B3]at h
  unfold VG at h
  split at h
  ·rename_i heq;cases heq
  ·rename_i heq1 heq
   cases heq1
   rename_i k2 n2 l2 _
   simp only[List.cons.injEq]at heq
   obtain⟨ho,hl⟩:=heq
   split at h
   ·rename_i hk
    subst hk
    subst hl
    cases hu
    rw[B3,List.foldlM_cons,Fw he hg ho]
    simp only[Builtin.max2,Sem.run_bind,Sem.run_pure,Result.andThen_ok]
    exact Y5 l _ _ he hg rfl ⟨_,_,rfl⟩ h w
   ·cases h
  ·cases h
theorem Yy {t:TypeId} {s:Option Nat} (hs:Gn P t=some s) {l:List V} {x:List Value} (hx:A5 R l=some x) {off:Nat} {v:V}
  (h:Lm l off s=some v) (w:World) :
  ∃r,Au R v=some r/\(part t x.toArray off).run P w = .ok r w:=by
 obtain⟨h1,h2⟩:=Kh (P:=P) hs w
 cases s with
 | none=>
  obtain⟨r,hr,hk⟩:=EI hx h
  refine⟨r,hr,?_⟩
  unfold part
  simp[h1,hk]
 | some n=>
  simp only[Lm]at h
  split at h
  ·cases h
   refine⟨_,Dj (QQ (Ws hx off) n),?_⟩
   unfold part
   simp only[Sem.run_bind,h1,Result.andThen_ok,Option.isSome_some,if_true,h2 n rfl,Sem.run_pure]
   congr 2
   apply Gm
   simp[List.drop_take]
  ·cases h
theorem eu (he:B9 R e a.tmps) (hg:Dw G R) (b:Builtin) (ts:Array TypeId) (ty:TypeId) (lits:Array Bool) (args:Array Operand) {v:V}
  (h:Be (LK P G b ts args) e=some v) (w:World):∃x,Au R v=some x/\(builtin b ts ty lits (args.map a.eval)).run P w = .ok (.value x) w:=by
 have val:∀{s:Sem Value} {x:Value},s.run P w = .ok x w->(do pure (Next.value (<-s)):Sem Next).run P w = .ok (.value x) w:=fun hs=>by simp[hs]
 obtain⟨ts⟩:=ts
 obtain⟨args⟩:=args
 unfold LK at h
 split at h
 ·
  rename_i t x hts has
  simp only at hts has
  subst hts has
  split at h
  ·rename_i hu
   simp only[Be]at h
   split at h
   ·rename_i s hx;cases h
    refine⟨_,rfl,?_⟩
    simp only[builtin]
    have hsz:(ByteArray.mk s.toList.toArray).size=s.len:=by simp[ByteArray.size,BS.length_toList]
    exact val (by rw[show sn a.eval ⟨[x]⟩=#[a.eval x] from by simp];rw[Ln (a:=a) he hg hx];unfold Builtin.len_;simp[run_underlying hu,goInt,hsz])
   ·cases h
  ·rename_i el hu
   simp only[Be]at h
   split at h
   ·rename_i hx;cases h
    have hc:=ev (a:=a) he hg hx rfl
    simp only[Au,AP.injEq]at hc
    refine⟨_,rfl,?_⟩
    simp only[builtin]
    exact val (by rw[show sn a.eval ⟨[x]⟩=#[a.eval x] from by simp];rw[<-hc];unfold Builtin.len_;simp[run_underlying hu,goInt])
   ·rename_i b off n c hx;cases h
    obtain⟨i,m,_,hev,_⟩:=DF (ev (a:=a) he hg hx rfl)
    refine⟨_,rfl,?_⟩
    simp only[builtin]
    exact val (by unfold Builtin.len_;simp[run_underlying hu,hev,goInt])
   ·rename_i b off n c hx;cases h
    obtain⟨i,_,_,hev⟩:=ER (ev (a:=a) he hg hx rfl)
    refine⟨_,rfl,?_⟩
    simp only[builtin]
    exact val (by unfold Builtin.len_;simp[run_underlying hu,hev,goInt])
   ·cases h
  ·rename_i n el hu
   simp only[Be,AP.injEq]at h
   subst h
   refine⟨_,rfl,?_⟩
   simp only[builtin]
   exact val (by unfold Builtin.len_;simp[run_underlying hu,goInt])
  ·rename_i el hu
   split at h
   ·rename_i n el' hu'
    simp only[Be,AP.injEq]at h
    subst h
    refine⟨_,rfl,?_⟩
    simp only[builtin]
    exact val (by unfold Builtin.len_;simp[run_underlying hu,run_underlying hu',goInt])
   ·cases h
  ·cases h
 ·
  rename_i t x hts has
  simp only at hts has
  subst hts has
  split at h
  ·rename_i el hu
   simp only[Be]at h
   split at h
   ·rename_i hx;cases h
    have hc:=ev (a:=a) he hg hx rfl
    simp only[Au,AP.injEq]at hc
    refine⟨_,rfl,?_⟩
    simp only[builtin]
    exact val (by rw[show sn a.eval ⟨[x]⟩=#[a.eval x] from by simp];rw[<-hc];unfold Builtin.cap_;simp[run_underlying hu,goInt])
   ·rename_i b off n c hx;cases h
    obtain⟨i,m,_,hev,hex,_⟩:=DF (ev (a:=a) he hg hx rfl)
    obtain rfl:=hex _ rfl
    refine⟨_,rfl,?_⟩
    simp only[builtin]
    exact val (by unfold Builtin.cap_;simp[run_underlying hu,hev,goInt])
   ·cases h
  ·cases h
 ·
  split at h
  ·split at h
   ·split at h
    ·have hno:∀(q:Bool) (e1:TypeId) (n m:Nat) (x y:AO),Be (if q=true then Ej.bad else Ej.append e1 n m x y) e≠some v:=by
      intro q e1 n m x y;cases q<;>simp[Be]
     exact(hno _ _ _ _ _ _ h).elim
    ·cases h
   ·cases h
  ·cases h
 ·
  split at h
  ·split at h
   ·simp only[Be]at h;cases h
   ·cases h
  ·cases h
 ·
  rename_i x l has
  simp only at has
  subst has
  simp only[Be]at h
  split at h
  ·rename_i k n hm;cases h
   refine⟨_,rfl,?_⟩
   simp only[builtin]
   refine val ?_
   have hx:∃k n,CZ e (Ap G x) = .int k n:=by
    cases l with
    | nil=>simp only[Fm,JO,VF,AP.injEq]at hm;exact⟨k,n,hm⟩
    | cons y l=>
     simp only[Fm,B3]at hm
     unfold VF at hm
     split at hm
     ·rename_i heq;cases heq
     ·rename_i heq _;exact⟨_,_,heq⟩
     ·cases hm
   obtain⟨k1,n1,hx1⟩:=hx
   have:=Y4 (P:=P) l _ _ he hg (ev (a:=a) he hg hx1 rfl) ⟨k1,n1,rfl⟩ (hx1 ▸ hm) w
   simpa[Builtin.min_]using this
  ·cases h
 ·
  rename_i x l has
  simp only at has
  subst has
  simp only[Be]at h
  split at h
  ·rename_i k n hm;cases h
   refine⟨_,rfl,?_⟩
   simp only[builtin]
   refine val ?_
   have hx:∃k n,CZ e (Ap G x) = .int k n:=by
    cases l with
    | nil=>simp only[Fm,JO,VG,AP.injEq]at hm;exact⟨k,n,hm⟩
    | cons y l=>
     simp only[Fm,B3]at hm
     unfold VG at hm
     split at hm
     ·rename_i heq;cases heq
     ·rename_i heq _;exact⟨_,_,heq⟩
     ·cases hm
   obtain⟨k1,n1,hx1⟩:=hx
   have:=Y5 (P:=P) l _ _ he hg (ev (a:=a) he hg hx1 rfl) ⟨k1,n1,rfl⟩ (hx1 ▸ hm) w
   simpa[Builtin.max_]using this
  ·cases h
 ·cases h
theorem Mm (he:B9 R e a.tmps) (hg:Dw G R) (o:Oper) {v:V} (h:Be (Ag P G o.op) e=some v) (w:World) :
  ∃x,Au R v=some x/\(execOp a.eval o).run P w = .ok (.value x) w:=by
 have val:∀{s:Sem Value} {x:Value},s.run P w = .ok x w->(do pure (Next.value (<-s)):Sem Next).run P w = .ok (.value x) w:=fun hs=>by simp[hs]
 obtain⟨dst,op,ty,pos,after,guard⟩:=o
 simp only at h
 cases op with
 | move x=>
  simp only[Ag,Be]at h
  split at h
  ·rename_i hl;cases h
   exact⟨_,ev he hg rfl hl,rfl⟩
  ·cases h
 | assign x=>
  simp only[Ag,Be]at h
  split at h
  ·rename_i hl;cases h
   exact⟨_,ev he hg rfl hl,rfl⟩
  ·cases h
 | pick c x y=>
  simp only[Ag,Be]at h
  split at h
  ·rename_i hc
   split at h
   ·rename_i hl;cases h
    exact⟨_,ev he hg rfl hl,by simp[execOp,Ku (a:=a) he hg hc,asBool]⟩
   ·cases h
  ·rename_i hc
   split at h
   ·rename_i hl;cases h
    exact⟨_,ev he hg rfl hl,by simp[execOp,Ku (a:=a) he hg hc,asBool]⟩
   ·cases h
  ·cases h
 | build t ps=>
  simp only[Ag]at h
  have hmap:∀(q:Array (Nat × Operand)),(q.map (fun(x:Nat × Operand)=>(x.1,a.eval x.2))).toList=q.toList.map (fun(x:Nat × Operand)=>(x.1,a.eval x.2)):=fun q=>Array.toList_map
  split at h
  ·rename_i fs z hu hz
   cases hp:La P fs.toList with
   | none=>rw[hp]at h;cases h
   | some pl=>
    rw[hp]at h
    simp only at h
    cases hc:EK G (pl[·]?) ps.toList with
    | none=>rw[hc]at h;cases h
    | some l=>
     rw[hc]at h
     simp only[Be]at h
     cases hf:FQ (Jv e l) z with
     | none=>rw[hf]at h;cases h
     | some r=>
      rw[hf]at h;cases h
      obtain⟨zv,hzr,hzc⟩:=GQ (P:=P) (R:=R) hz w
      obtain⟨out,h1,h2,_⟩:=O2 (a:=a) he hg ps.toList l z r zv.cells hc hzc hf
      refine⟨_,Dj h2,val ?_⟩
      unfold Instr.build
      simp only[Sem.run_bind,hzr,Result.andThen_ok,run_underlying hu,NC,Sem.run_map,SH w hp,Sem.run_pure,hmap]
      have:(fun(x:Nat)=>(pl.toArray)[x]?)=(fun x=>pl[x]?):=by funext x;simp
      simp only[this,h1,Sem.run_pure,Array.toArray_toList]
  ·rename_i n el z hu hz
   cases hp:GM P el with
   | none=>rw[hp]at h;cases h
   | some s=>
    rw[hp]at h
    simp only at h
    cases hc:EK G (fun i=>some (i*s,s)) ps.toList with
    | none=>rw[hc]at h;cases h
    | some l=>
     rw[hc]at h
     simp only[Be]at h
     cases hf:FQ (Jv e l) z with
     | none=>rw[hf]at h;cases h
     | some r=>
      rw[hf]at h;cases h
      obtain⟨zv,hzr,hzc⟩:=GQ (P:=P) (R:=R) hz w
      obtain⟨out,h1,h2,_⟩:=O2 (a:=a) he hg ps.toList l z r zv.cells hc hzc hf
      refine⟨_,Dj h2,val ?_⟩
      unfold Instr.build
      simp only[Sem.run_bind,hzr,Result.andThen_ok,run_underlying hu,EH hp w,hmap,h1,Sem.run_pure,Array.toArray_toList]
  ·cases h
 | nilCheck x=>
  simp only[Ag,Be]at h
  split at h
  ·rename_i b off hx
   cases h
   obtain⟨i,hi,hev⟩:=IF (a:=a) he hg hx
   refine⟨_,DG hi,?_⟩
   simp[execOp,hev]
  ·cases h
 | binOp op t x y t'=>
  simp only[Ag,Be]at h
  obtain⟨r,hr,hrun⟩:=nW (a:=a) (P:=P) he hg h w
  exact⟨r,hr,val hrun⟩
 | unOp op t x=>
  simp only[Ag,Be]at h
  unfold unV at h
  split at h
  ·rename_i k n hx;cases h
   refine⟨_,rfl,val ?_⟩
   rw[Fw he hg hx];rfl
  ·rename_i k n hx;cases h
   refine⟨_,rfl,val ?_⟩
   rw[Fw he hg hx];rfl
  ·rename_i b hx;cases h
   refine⟨_,rfl,val ?_⟩
   rw[Ku he hg hx];rfl
  ·cases h
 | convert s d x=>
  simp only[Ag]at h
  unfold nO at h
  split at h
  ·rename_i ds k hs hd
   simp only[Be]at h
   split at h
   ·rename_i k' n hx;cases h
    refine⟨_,rfl,val ?_⟩
    rw[Fw he hg hx]
    simp[convert,run_underlying hs,run_underlying hd,Conv.intToInt]
   ·cases h
  ·rename_i hs hd
   simp only[Be]at h
   split at h
   ·rename_i l hx;cases h
    refine⟨_,rfl,val ?_⟩
    rw[Ln he hg hx]
    simp[convert,run_underlying hs,run_underlying hd]
   ·cases h
  ·split at h<;>(simp only[Be]at h;cases h)
  ·split at h<;>(simp only[Be]at h;cases h)
  ·simp only[Be]at h;cases h
 | makeInterface t x=>
  simp only[Ag]at h
  split at h
  ·cases h
  ·rename_i d hni hu
   simp only[Be]at h
   split at h
   ·rename_i hl;cases h
    have hc:=ev (a:=a) he hg rfl hl
    refine⟨.iface t (a.eval x),by simp only[Au,hc],val ?_⟩
    unfold Instr.makeInterface
    rw[Sem.run_bind,run_underlying hu,Result.andThen_ok]
    split
    ·rename_i m;exact(hni m rfl).elim
    ·rfl
   ·cases h
  ·cases h
 | makeFunc fn f c=>
  cases fn with
  | func f'=>
   simp only[Ag,Be]at h
   split at h
   ·rename_i hl
    simp only[AK]at hl
    cases h
    have h1:=evs (a:=a) he hg f.toList hl.1
    have h2:=evs (a:=a) he hg c.toList hl.2
    refine⟨_,Wu h1 h2,val ?_⟩
    have e1:∀q:Array Operand,sn a.eval q=(List.map a.eval q.toList).toArray:=fun q=>by apply Gm;simp
    simp[Instr.makeFunc,e1]
   ·cases h
  | _=>simp only[Ag,Be]at h;cases h
 | slice t x lo hi mx=>
  simp only[Ag]at h
  split at h
  ·cases h
  ·rename_i hmx
   have hmx':mx.isSome=true->hi.isSome=true:=by
    intro hm;cases hh:hi.isSome<;>simp_all
   split at h
   ·rename_i hu
    split at h
    ·obtain⟨r,hr,hrun⟩:=TJ (a:=a) (P:=P) he hg hu h w
     exact⟨r,hr,val hrun⟩
    ·cases h
   ·rename_i el hu
    cases hs:GM P el with
    | none=>rw[hs]at h;cases h
    | some s=>
     rw[hs]at h
     obtain⟨r,hr,hrun⟩:=aD (a:=a) (P:=P) he hg hu hs hmx' h w
     exact⟨r,hr,val hrun⟩
   ·rename_i n el hu
    cases hs:GM P el with
    | none=>rw[hs]at h;cases h
    | some s=>
     rw[hs]at h
     obtain⟨r,hr,hrun⟩:=TK (a:=a) (P:=P) he hg hu hs hmx' h w
     exact⟨r,hr,val hrun⟩
   ·cases h
 | fieldAddr s x f=>
  simp only[Ag]at h
  split at h
  ·rename_i fs hu
   split at h
   ·rename_i fd hf
    split at h
    ·split at h<;>(simp only[Be]at h;cases h)
    ·rename_i n hn hs
     simp only[Be]at h
     split at h
     ·rename_i b off hx;cases h
      obtain⟨i,hi,hev⟩:=IF (a:=a) he hg hx
      refine⟨_,DG hi,val ?_⟩
      unfold Instr.fieldAt fieldPlace
      have hn':n≠0:=fun e=>hn (e ▸ rfl)
      simp[run_underlying hu,hf,Instr.sureAddr,hev,EH hs w,hn',add_eq,GI]
     ·cases h
    ·cases h
   ·cases h
  ·cases h
 | field s x f=>
  simp only[Ag]at h
  split at h
  ·rename_i fs hu
   split at h
   ·rename_i fd hf
    split at h
    ·rename_i n hs
     cases hx:CZ e (Ap G x)with
     | agg l=>
      obtain⟨y,hy,hev⟩:=Tj (a:=a) he hg hx
      have h':Lm l fd.offset n=some v:=by
       cases n<;>simpa only [Be,hx,Lm]using h
      obtain⟨r,hr,hrun⟩:=Yy hs hy h' w
      refine⟨r,hr,val ?_⟩
      unfold Instr.field
      simp[run_underlying hu,hf,asAgg,hev,hrun]
     | _=>cases n<;>(simp only[Be,hx]at h;cases h)
    ·cases h
   ·cases h
  ·cases h
 | indexAddr t x i=>
  simp only[Ag]at h
  split at h
  ·rename_i el hu
   split at h
   ·rename_i s hs
    simp only[Be]at h
    split at h
    ·rename_i b off len c k n hx hi
     split at h
     ·rename_i hb;cases h
      have hc:=ev (a:=a) he hg hx rfl
      obtain⟨j,m,hj,hev,_⟩:=DF hc
      refine⟨_,DG hj,val ?_⟩
      unfold Instr.indexAt
      simp[asIntOf,Fw (a:=a) he hg hi,run_underlying hu,hev,hb,EH hs w,add_eq,GI]
     ·cases h
    ·cases h
   ·cases h
  ·rename_i len el hu
   split at h
   ·rename_i s hs
    simp only[Be]at h
    split at h
    ·rename_i b off k n hx hi
     split at h
     ·rename_i hb;cases h
      obtain⟨j,hj,hev⟩:=IF (a:=a) he hg hx
      refine⟨_,DG hj,val ?_⟩
      unfold Instr.indexAt
      simp[asIntOf,Fw (a:=a) he hg hi,run_underlying hu,hev,Instr.sureAddr,hb,EH hs w,add_eq,GI]
     ·cases h
    ·cases h
   ·cases h
  ·cases h
 | index t x i=>
  simp only[Ag]at h
  split at h
  ·rename_i hu
   simp only[Be]at h
   split at h
   ·rename_i s k n hx hi
    split at h
    ·rename_i h0
     split at h
     ·rename_i hc;cases h
      simp only[C1]at hc
      refine⟨_,rfl,val ?_⟩
      unfold Instr.index
      have hb:(ByteArray.mk s.toList.toArray)[n.toNat]? = some (UInt8.ofNat (s.get n.toNat)):=by
       have hlt:n.toNat<s.toList.length:=by rw[BS.length_toList];exact hc
       have hsz:(ByteArray.mk s.toList.toArray).size=s.toList.length:=by simp[ByteArray.size]
       have hcc:=BS.getElem?_toList s n.toNat
       rw[if_pos hc]at hcc
       rw[getElem?_pos (ByteArray.mk s.toList.toArray) n.toNat (by omega)]
       rw[AZ hlt]at hcc
       simp only[AP.injEq]at hcc ⊢
       rw[<-hcc]
       rfl
      have hgl:s.get n.toNat % 256=s.get n.toNat:=Bw (s.get_lt _)
      simp[asIntOf,Fw (a:=a) he hg hi,run_underlying hu,Ln (a:=a) he hg hx,h0,hb,hgl]
     ·cases h
    ·cases h
   ·cases h
  ·rename_i n el hu
   split at h
   ·rename_i z s hz hs
    simp only[Be]at h
    split at h
    ·rename_i l k m hx hi
     split at h
     ·rename_i hc
      obtain⟨y,hy,hev⟩:=Tj (a:=a) he hg hx
      obtain⟨r,hr,hrun⟩:=Yy hs hy h w
      refine⟨r,hr,val ?_⟩
      unfold Instr.index
      simp[asIntOf,Fw (a:=a) he hg hi,run_underlying hu,hev,hc,EH hz w,hrun]
     ·cases h
    ·cases h
   ·simp only[Be]at h;cases h
  ·simp only[Be]at h;cases h
 | extract x i=>
  simp only[Ag,Be]at h
  split at h
  ·rename_i l hx
   obtain⟨y,hy,hev⟩:=uV (a:=a) he hg hx
   obtain⟨r,hr,hk⟩:=EI hy h
   refine⟨r,hr,val ?_⟩
   unfold Instr.extract
   rw[hev]
   simp[hk]
  ·cases h
 | call c=>
  obtain⟨callee,args,argTypes⟩:=c
  cases callee with
  | value f=>cases f<;>(simp only[Ag,Be]at h;cases h)
  | invoke r m=>simp only[Ag,Be]at h;cases h
  | builtin b=>
   simp only[Ag]at h
   obtain⟨r,hr,hrun⟩:=eu (a:=a) (P:=P) he hg b argTypes ty (args.map fun|.const _=>true|_=>false) args h w
   refine⟨r,hr,?_⟩
   simp only[execOp,resolve,Sem.run_bind,Sem.run_pure,Result.andThen_ok,invoke]
   exact hrun
 | buildSlice t n ps=>simp only[Ag]at h;(repeat' split at h)<;>(simp only[Be]at h;cases h)
 | makeSlice t l c=>simp only[Ag]at h;(repeat' split at h)<;>(simp only[Be]at h;cases h)
 | alloc t=>simp only[Ag]at h;(repeat' split at h)<;>(simp only[Be]at h;cases h)
 | load t x=>
  simp only[Ag]at h
  split at h
  ·rename_i hs
   simp only[Be]at h
   split at h
   ·rename_i b off hx
    simp only[AP.injEq]at h;subst h
    obtain⟨i,hi,hev⟩:=IF (a:=a) he hg hx
    obtain⟨h1,h2⟩:=Kh (P:=P) hs w
    refine⟨_,Dj (x:=[]) rfl,val ?_⟩
    unfold Instr.loadAt loadVar
    have h0:∀b:Addr,(loadCells b 0).run P w = .ok #[] w:=fun b=>rfl
    simp[Instr.sureAddr,hev,h1,h2 0 rfl,h0]
   ·cases h
  ·simp only[Be]at h;cases h
  ·simp only[Be]at h;cases h
 | store t x y=>simp only[Ag]at h;(repeat' split at h)<;>(simp only[Be]at h;cases h)
 | box t x=>simp only[Ag]at h;(repeat' split at h)<;>(simp only[Be]at h;cases h)
 | makeMap t r=>cases r<;>(simp only[Ag,Be]at h;cases h)
 | lookup t x y ok=>cases ok<;>simp only[Ag]at h<;>first | (simp only[Be]at h;cases h;done) | ((repeat' split at h)<;>(simp only[Be]at h;cases h))
 | mapUpdate t x y z=>simp only[Ag]at h;(repeat' split at h)<;>(simp only[Be]at h;cases h)
 | _=>simp only[Ag,Be]at h;cases h
end Go.Og
namespace Go.Og
variable {P:Program} {G:Nat->Bool} {R:Cz} {e:CF} {a:Act} {C:Cx} {J:H} {w:World}
theorem Ds.globOk (h:Ds C R J w):Dw C.G R:=h.glob
theorem O5 {b k:Nat} {arr:Array Value} {el:TypeId} {fr:Nat × Nat} (h:w.heap[b]? = some (.cells arr el fr)):w.cell? ⟨b,k,none⟩=arr[k]? := by
 simp[World.cell?,h]
theorem Hu.cells {l:List V} {s off n:Nat} {arr:Array Value} (h:Hu R s l arr) (hn:off+n<=l.length) :
  ∃xs,A5 R ((l.drop off).take n)=some xs/\(∀x∈xs,x.oneCell'=true)/\∀j v,xs[j]? = some v->arr[s+off+j]? = some v:=by
 induction n generalizing off with
 | zero=>exact⟨[],by simp[A5],by simp,by simp⟩
 | succ n ih=>
  obtain⟨xs,h1,h2,h3⟩:=ih (off:=off+1) (by omega)
  have hlt:off<l.length:=by omega
  obtain⟨x,hx,hone,hax⟩:=h off l[off] (AZ hlt)
  refine⟨x::xs,?_,?_,?_⟩
  ·rw[B4 hlt,List.take_succ_cons]
   exact Bh.2 ⟨x,xs,hx,h1,rfl⟩
  ·intro y hy
   rcases BJ.1 hy with rfl|hy
   ·exact hone
   ·exact h2 y hy
  ·intro j v hj
   cases j with
   | zero=>simp at hj;subst hj;simpa using hax
   | succ j=>simp at hj;have:=h3 j v hj;rw[show s+off+(j+1)=s+(off+1)+j by omega];exact this
theorem Ds.readN (h:Ds C R J w) {id off n:Nat} {l:List V} (hl:NA C.E J id off n=some l) :
  ∃i xs,R id=some i/\A5 R l=some xs/\(∀x∈xs,x.oneCell'=true)/\xs.length=n/\l.length=n/\∀j v,xs[j]? = some v->w.cell? ((⟨i.blk,i.shift+off,none⟩:Addr).add j)=some v:=by
 unfold NA at hl
 cases hr:rd C.E J id with
 | none=>rw[hr]at hl;cases hl
 | some m=>
  rw[hr]at hl
  simp only at hl
  split at hl
  ·rename_i hb
   simp only[BC]at hb
   cases hl
   obtain⟨i,arr,el,fr,hi,hblk,hold⟩:=h.read hr
   obtain⟨xs,h1,h2,h3⟩:=hold.cells hb
   have hlen:((m.drop off).take n).length=n:=by simp;omega
   refine⟨i,xs,hi,h1,h2,by rw[Bm h1,hlen],hlen,fun j v hj=>?_⟩
   rw[add_eq,O5 hblk]
   exact h3 j v hj
  ·cases hl
theorem QW:∀{l:List V} {s:List UInt8} {xs:List Value},FW l=some s->A5 R l=some xs ->
  ∃ns:List Int,xs=ns.map (Value.int .u8)/\s=ns.map fun n=>UInt8.ofNat n.toNat
 | [],s,xs,h,hc=>by
  simp only[FW,AP.injEq]at h;subst h
  simp only[A5,AP.injEq]at hc;subst hc
  exact⟨[],rfl,rfl⟩
 | v::l,s,xs,h,hc=>by
  unfold FW at h
  split at h
  ·rename_i heq;cases heq
  ·rename_i n l' heq
   cases heq
   simp only[Aq]at h
   obtain⟨r,hr,rfl⟩:=h
   obtain⟨x,ys,hx,hy,rfl⟩:=Bh.1 hc
   cases hx
   obtain⟨ns,h1,h2⟩:=QW hr hy
   exact⟨n::ns,by rw[h1];rfl,by rw[h2];rfl⟩
  ·cases h
theorem NP {t:TypeId} {l:List (Nat × FK)} (h:Rp P t = .flat l):∃fs:Array Field,P.underlying t=some (.struct fs)/\P.stoodInHeld t=false/\G2 P fs.toList=some l:=by
 unfold Rp at h
 split at h
 ·rename_i fs hu
  refine⟨fs,hu,?_⟩
  unfold FR at h
  cases hs:(P.stoodInHeld t || P.eqGuardType P.depth t)with
  | true=>rw[hs]at h;cases h
  | false=>
   rw[hs]at h
   simp only[B2]at hs
   cases hf:G2 P fs.toList with
   | none=>rw[hf]at h;cases h
   | some l'=>
    rw[hf]at h
    simp only[Fp.flat.injEq]at h;subst h
    exact⟨hs.1,rfl⟩
 ·cases h
theorem NR {tg:Fp} {x y:V} {b:Bool} (h:ym tg x y=some b):∃l xs ys,tg = .flat l/\x = .agg xs/\y = .agg ys/\G3 l xs ys=some b:=by
 unfold ym at h
 split at h
 ·exact⟨_,_,_,rfl,rfl,rfl,h⟩
 ·cases h
theorem uW {t:TypeId} {x y:V} {b:Bool} (h:ym (Rp P t) x y=some b) {u v:Value} (hu:Au R x=some u) (hv:Au R y=some v) (w:World) :
  (Op.equal t u v).run P w = .ok b w:=by
 obtain⟨l,xs,ys,htg,rfl,rfl,he⟩:=NR h
 obtain⟨fs,hut,hs,hfl⟩:=NP htg
 obtain⟨X,hX,rfl⟩:=Hq hu
 obtain⟨Y,hY,rfl⟩:=Hq hv
 have hfo:P.fieldsOf t=fs:=by simp[Program.fieldsOf,hut]
 show (Op.equalIn 10000 t (.agg X.toArray) (.agg Y.toArray)).run P w = .ok b w
 rw[run_equalIn_agg w 9999 t _ _ (by rw[hfo];exact hut) hs,hfo]
 exact Kv hX hY 9998 w hfl he
theorem eD {t:TypeId} {d:TypeDesc} {k:FK} (hu:P.underlying t=some d) (hd:eE d k=true) (em:Bool) (n:Nat) (x:Value) (w:World) :
  (Instr.checkKey em (n+1) t x).run P w = .ok () w:=by
 unfold Instr.checkKey
 simp only[Sem.run_bind,run_underlying hu,Result.andThen_ok]
 cases d<;>first | (cases k<;>cases hd;done) | simp
theorem NQ {xs ys:List V} {X Y:List Value} (hX:A5 R xs=some X) (hY:A5 R ys=some Y):∀{fs:List Field} {l:List (Nat × FK)} {b:Bool},
  G2 P fs=some l->G3 l xs ys=some b->∀(em:Bool) (w:World),∀f∈fs,f.name ≠ "_" -> ∃y,(part f.type X.toArray f.offset).run P w = .ok y w/\(Instr.checkKey em 9999 f.type y).run P w = .ok () w
 | [],l,b,hl,h,em,w,f,hf,_=>by cases hf
 | g::fs,l,b,hl,h,em,w,f,hf,hn=>by
  simp only[G2]at hl
  by_cases hg:g.name = "_"
  ·have hb:(g.name == "_")=true:=by simp[hg]
   rw[hb]at hl
   rcases BJ.1 hf with rfl|hf
   ·exact absurd hg hn
   ·exact NQ hX hY hl h em w f hf hn
  ·have hb:(g.name == "_")=false:=by simp[hg]
   rw[hb]at hl
   cases hr:G2 P fs with
   | none=>rw[hr]at hl;cases hl
   | some r=>
    rw[hr]at hl
    cases hu:P.underlying g.type with
    | none=>simp only[hu]at hl;cases hl
    | some d=>
     simp only[hu]at hl
     have hk:∃k,l=(g.offset,k)::r/\eE d k=true:=by
      cases d<;>simp only[AP.injEq,reduceCtorEq]at hl<;>subst hl<;>exact⟨_,rfl,rfl⟩
     obtain⟨k,rfl,hk⟩:=hk
     simp only[G3]at h
     cases hc:Lp k (I5 xs g.offset) (I5 ys g.offset)with
     | none=>simp only[hc]at h;cases h
     | some a=>
      simp only[hc]at h
      cases hf':G3 r xs ys with
      | none=>simp only[hf']at h;cases h
      | some b'=>
       obtain⟨hlu,hlv⟩:=OV hc
       rcases BJ.1 hf with rfl|hf
       ·obtain⟨x,hx,hpx⟩:=NM (P:=P) hu hk hX rfl hlu w
        exact⟨x,hpx,eD hu hk em 9998 x w⟩
       ·exact NQ hX hY hr hf' em w f hf hn
theorem OW {t:TypeId} {x:V} (h:SP (Rp P t) x=true) {u:Value} (hu:Au R x=some u) (em:Bool) (w:World) :
  (Instr.checkKey em 10000 t u).run P w = .ok () w:=by
 unfold SP at h
 split at h
 ·rename_i b hb
  obtain⟨l,xs,ys,htg,rfl,hy,he⟩:=NR hb
  cases hy
  obtain⟨fs,hut,hs,hfl⟩:=NP htg
  obtain⟨X,hX,rfl⟩:=Hq hu
  have hut':=hut
  clear htg hb h hut hs hu
  have key:(Instr.checkKey em (9999+1) t (.agg X.toArray)).run P w = .ok () w:=by
   unfold Instr.checkKey
   simp only[Sem.run_bind,run_underlying hut',Result.andThen_ok]
   rw[<-Array.forIn_toList]
   have hall:∀f∈fs.toList,f.name ≠ "_" -> ∃y,(part f.type X.toArray f.offset).run P w = .ok y w/\(Instr.checkKey em 9999 f.type y).run P w = .ok () w:=NQ hX hX hfl he em w
   generalize fs.toList=L at hall
   induction L with
   | nil=>simp
   | cons f L ih=>
    have ih:=ih (fun y hy=>hall y (by simp[hy]))
    by_cases hn:f.name = "_"
    ·simp only[List.forIn_cons,Sem.run_bind,hn,ne_eq,not_true_eq_false,if_false,Result.andThen_ok,Sem.run_pure]
     exact ih
    ·obtain⟨y,p1,p2⟩:=hall f (by simp) hn
     simp only[List.forIn_cons,Sem.run_bind,hn,ne_eq,not_false_eq_true,if_true,Result.andThen_ok,p1,p2,Sem.run_pure]
     exact ih
  exact key
 ·cases h
theorem Mg {t:TypeId} {fs:Array Field} (hut:P.underlying t=some (.struct fs)) {k:V} {u:Value} (hu:Au R k=some u) (w:World):∀{l:List (V × V)} {es:List MapEntry} {r:Option V} (i:Nat),
  SU (Rp P t) k l=some r->C3 R l es ->
  (match r with
   | none=>(Instr.findAsking t u es i).run P w = .ok none w
   | some v=>∃j x,Au R v=some x/\(Instr.findAsking t u es i).run P w = .ok (some (j,x)) w)
 | [],[],r,i,h,_=>by
  simp only[SU,AP.injEq]at h;subst h
  simp[Instr.findAsking]
 | (q,v)::l,e::es,r,i,h,hm=>by
  obtain⟨hq,hv,hm⟩:=hm
  simp only[SU]at h
  cases hb:ym (Rp P t) k q with
  | none=>rw[hb]at h;cases h
  | some b=>
   rw[hb]at h
   have he:=uW (P:=P) hb hu hq w
   cases b with
   | true=>
    simp only[AP.injEq]at h;subst h
    exact⟨i,e.val,hv,by simp[Instr.findAsking,he]⟩
   | false=>
    simp only at h
    have ih:=Mg hut hu w (i+1) h hm
    cases r with
    | none=>simpa[Instr.findAsking,he]using ih
    | some v'=>simpa[Instr.findAsking,he]using ih
 | [],_::_,_,_,_,hm=>hm.elim
 | _::_,[],_,_,_,hm=>hm.elim
theorem Ll {t:TypeId} {fs:Array Field} (hut:P.underlying t=some (.struct fs)) (x:Value) (es:List MapEntry) (w:World) :
  (Instr.findKey t x es).run P w=(Instr.findAsking t x es).run P w:=by
 cases es with
 | nil=>simp[Instr.findKey,run_underlying hut,Instr.findNow,Instr.findAsking]
 | cons e es=>simp[Instr.findKey,run_underlying hut,Instr.findNow,Instr.sameNow]
theorem QC {t:TypeId} {x:V} (h:SP (Rp P t) x=true):x.live=true/\∃fs:Array Field,P.underlying t=some (.struct fs):=by
 unfold SP at h
 split at h
 ·rename_i b hb
  obtain⟨l,xs,ys,htg,rfl,hy,he⟩:=NR hb
  obtain⟨fs,hut,_⟩:=NP htg
  exact⟨rfl,fs,hut⟩
 ·cases h
theorem Z0 {t:TypeId} (h:(PS P t).live=true) (w:World):∃z,(zeroValue t).run P w = .ok z w/\Au R (PS P t)=some z:=by
 unfold PS at h ⊢
 cases hi:P.info? t with
 | none=>rw[hi]at h;cases h
 | some i=>
  rw[hi]at h
  cases hz:i.zero with
  | none=>simp only[hz]at h;cases h
  | some z=>
   simp only[hz]at h
   exact⟨z,by simp[zeroValue,typeInfo,hi,hz],by simpa only [hz]using ZS R z h⟩
theorem Ds.mapAt (h:Ds C R J w) {b:Nat} {l:List (V × V)} (hl:look J.bl b=some (.map l)):∃i es clock,R b=some i/\w.heap[i.blk]? = some (.map es clock)/\C3 R l es.toList:=by
 obtain⟨i,hi,_,es,clock,hw,hm⟩:=h.own b _ hl
 exact⟨i,es,clock,hi,hw,hm⟩
theorem aL (hrel:Ds C R J w) {t k el:TypeId} (hut:P.underlying t=some (.map k el)) {m x v:V} (h:MZ (Rp P k) (PS P el) m x J=some v)
  {mv xv:Value} (hm:m.live=true->Au R m=some mv) (hx:x.live=true->Au R x=some xv) :
  ∃y,Au R v=some y/\(Instr.lookup t mv xv true).run P w = .ok y w:=by
 unfold MZ at h
 split at h
 ·rename_i b
  split at h
  ·rename_i l hl
   split at h
   ·rename_i hk
    obtain⟨hlx,fs,hfs⟩:=QC hk
    have hxv:=hx hlx
    obtain⟨i,es,clock,hi,hw,hmh⟩:=hrel.mapAt hl
    obtain⟨j,hj,hmv⟩:=H4 (hm rfl)
    rw[hi]at hj;cases hj
    subst hmv
    have hget:(getObj i.blk).run P w = .ok (.map es clock) w:=by simp[getObj,Sem.run,hw]
    have hck:=OW (P:=P) hk hxv es.isEmpty w
    unfold Instr.lookup
    split at h
    ·rename_i u hf
     simp only[AP.injEq]at h;subst h
     obtain⟨j,y,hy,hfa⟩:=Mg hfs hxv w 0 hf hmh
     refine⟨_,KB (Bh.2 ⟨y,_,hy,Bh.2 ⟨.bool true,[],rfl,rfl,rfl⟩,rfl⟩),?_⟩
     simp[run_underlying hut,hget,hck,Ll hfs,hfa]
    ·rename_i hf
     split at h
     ·rename_i hz
      simp only[AP.injEq]at h;subst h
      obtain⟨z,hzr,hzc⟩:=Z0 (P:=P) (R:=R) hz w
      have hfa:=Mg hfs hxv w 0 hf hmh
      simp only at hfa
      refine⟨_,KB (Bh.2 ⟨z,_,hzc,Bh.2 ⟨.bool false,[],rfl,rfl,rfl⟩,rfl⟩),?_⟩
      simp[run_underlying hut,hget,hck,Ll hfs,hfa,hzr]
     ·cases h
    ·cases h
   ·cases h
  ·cases h
 ·cases h
theorem VN {s:TypeId} {fs:Array Field} {f:Nat} {fd:Field} (hu:P.underlying s=some (.struct fs)) (hf:fs[f]? = some fd) (hz:GM P fd.type=some 0)
  (ho:fd.offset=0) (hb:fd.byteOffset=0) (hc:P.cellsOf s=0) {v:Value} {blk sh:Nat} (hv:v = .pointer (some ⟨blk,sh,none⟩)) {fr:Nat × Nat} (hblk:w.heap[blk]? = some (.cells #[] s fr)) :
  (Instr.fieldAt s v f).run P w = .ok (.pointer (some ⟨blk,sh,none⟩)) w:=by
 subst hv
 have hby:∀o,(byteOf ⟨blk,o,none⟩).run P w = .ok 0 w:=fun o=>by
  have hsh:w.shape? blk=some (s,0):=by simp[World.shape?,hblk]
  unfold byteOf noView viewAt
  simp[hsh,hc]
 unfold Instr.fieldAt fieldPlace partAt
 simp[run_underlying hu,hf,Instr.sureAddr,EH hz w,ho,hb,hby]
theorem Mn (hrel:Ds C R J w) (he:B9 R e a.tmps) (o:Oper) {v:V} (h:Cl C.E (Ag P C.G o.op) e J=some v) :
  ∃x,Au R v=some x/\(execOp a.eval o).run P w = .ok (.value x) w:=by
 have hg:=hrel.globOk
 have val:∀{s:Sem Value} {x:Value},s.run P w = .ok x w->(do pure (Next.value (<-s)):Sem Next).run P w = .ok (.value x) w:=fun hs=>by simp[hs]
 obtain⟨dst,op,ty,pos,after,guard⟩:=o
 simp only at h
 cases op with
 | load t x=>
  simp only[Ag]at h
  cases hs:Gn P t with
  | none=>rw[hs]at h;cases h
  | some s=>
   rw[hs]at h
   have h:Cl C.E (match s with | some 0=>Ej.load0 (Ap C.G x) | s=>Ej.load s (Ap C.G x)) e J=some v:=by
    cases s with
    | none=>exact h
    | some n=>cases n<;>exact h
   obtain⟨h1,h2⟩:=Kh (P:=P) hs w
   cases s with
   | none=>
    simp only[Cl]at h
    split at h
    ·rename_i b off hx
     split at h
     ·rename_i l hr
      obtain⟨j,hj,hev⟩:=IF (a:=a) he hg hx
      obtain⟨i,arr,el,fr,hi,hblk,hold⟩:=hrel.read hr
      rw[hj]at hi;cases hi
      obtain⟨y,hy,hone,hay⟩:=hold off v h
      refine⟨y,hy,val ?_⟩
      have hc:w.cell? ⟨j.blk,j.shift+off,none⟩=some y:=by rw[O5 hblk];exact hay
      unfold Instr.loadAt loadVar
      simp[Instr.sureAddr,hev,h1,hc]
     ·cases h
    ·cases h
   | some n=>
    cases n with
    | zero=>simp only[Cl]at h;cases h
    | succ n=>
    simp only[Cl]at h
    split at h
    ·rename_i b off hx
     split at h
     ·rename_i l hr;cases h
      obtain⟨j,hj,hev⟩:=IF (a:=a) he hg hx
      obtain⟨i,xs,hi,hc,_,hlen,_,hcell⟩:=hrel.readN hr
      rw[hj]at hi;cases hi
      refine⟨_,Dj hc,val ?_⟩
      have hl:=run_loadCells_list (P:=P) w ⟨j.blk,j.shift+off,none⟩ xs hcell
      rw[hlen]at hl
      unfold Instr.loadAt loadVar
      simp[Instr.sureAddr,hev,h1,h2 _ rfl,hl]
     ·cases h
    ·cases h
 | convert s d x=>
  simp only[Ag]at h
  unfold nO at h
  split at h
  ·simp only[Cl]at h;cases h
  ·simp only[Cl]at h;cases h
  ·split at h<;>(simp only[Cl]at h;cases h)
  ·rename_i el hs hd
   split at h
   ·rename_i hel
    simp only[Cl]at h
    split at h
    ·cases h
    rename_i hnostr
    split at h
    ·rename_i q l hsrc
     split at h
     ·rename_i str hb
      cases h
      refine⟨_,rfl,val ?_⟩
      unfold Ch at hsrc
      split at hsrc
      ·rename_i hx
       have hc:=ev (a:=a) he hg hx rfl
       simp only[Au,AP.injEq]at hc
       cases hsrc
       simp only[FW,AP.injEq]at hb;subst hb
       rw[<-hc,run_convert_bytes_nil w s el hs hel 0 0 d hd];rfl
      ·rename_i b off k z hx
       obtain⟨i,_,_,hev⟩:=ER (ev (a:=a) he hg hx rfl)
       cases hsrc
       simp only[FW,AP.injEq]at hb;subst hb
       rw[hev,run_convert_bytes_string w s d el _ 0 _ hs hel hd,run_bytesToString w _ 0 _ [] (by simp[loadCells,loadCellsFrom])]
       rfl
      ·rename_i b off len c hx
       simp only[Aq]at hsrc
       obtain⟨l',hrd,heq⟩:=hsrc
       cases heq
       obtain⟨i,m,hi,hev,_⟩:=DF (ev (a:=a) he hg hx rfl)
       obtain⟨i',xs,hi',hc,_,hlen,_,hcell⟩:=hrel.readN hrd
       rw[hi]at hi';cases hi'
       obtain⟨ns,rfl,rfl⟩:=QW hb hc
       have hl:=run_loadCells_list (P:=P) w ⟨i.blk,i.shift+off,none⟩ _ hcell
       rw[hlen,C8]at hl
       rw[hev,run_convert_bytes_string w s d el _ _ _ hs hel hd,run_bytesToString w _ _ _ ns hl,foldl_push_bytes]
       congr 2
       apply ByteArray.ext
       show #[]++_=_
       simp[BS.toList_ofList]
      ·rename_i l' hx
       exact(hnostr (by rw[hx];rfl)).elim
      ·cases hsrc
     ·cases h
    ·cases h
   ·simp only[Cl]at h;cases h
  ·simp only[Cl]at h;cases h
 | call c=>
  obtain⟨callee,args,argTypes⟩:=c
  cases callee with
  | value f=>cases f<;>(simp only[Ag,Cl]at h;cases h)
  | invoke r m=>simp only[Ag,Cl]at h;cases h
  | builtin b=>
   simp only[Ag,LK]at h
   have hno:∀(q:Bool) (e1:TypeId) (n m:Nat) (x y:AO),Cl C.E (if q=true then Ej.bad else Ej.append e1 n m x y) e J≠some v:=by
    intro q e1 n m x y;cases q<;>simp[Cl]
   split at h
   ·(repeat' split at h)<;>(simp only[Cl]at h;cases h)
   ·(repeat' split at h)<;>(simp only[Cl]at h;cases h)
   ·split at h
    ·split at h
     ·split at h
      ·exact(hno _ _ _ _ _ _ h).elim
      ·simp only[Cl]at h;cases h
     ·simp only[Cl]at h;cases h
    ·simp only[Cl]at h;cases h
   ·(repeat' split at h)<;>(simp only[Cl]at h;cases h)
   ·simp only[Cl]at h;cases h
   ·simp only[Cl]at h;cases h
   ·simp only[Cl]at h;cases h
 | fieldAddr st x f=>
  simp only[Ag]at h
  split at h
  ·rename_i fs hu
   split at h
   ·rename_i fd hf
    split at h
    ·rename_i hz
     split at h
     ·rename_i hc
      simp only[AK,beq_iff_eq]at hc
      simp only[Cl]at h
      unfold O3 at h
      split at h
      ·rename_i b hx
       split at h
       ·rename_i t' hb
        split at h
        ·rename_i ht
         have ht:=BO ht
         subst ht
         simp only[AP.injEq]at h;subst h
         obtain⟨i,hi,_,fr,hblk⟩:=hrel.own b _ hb
         obtain⟨j,hj,hev⟩:=IF (a:=a) he hg hx
         rw[hi]at hj;cases hj
         refine⟨_,DG hi,val ?_⟩
         exact VN hu hf hz hc.1.1 hc.1.2 hc.2 hev hblk
        ·cases h
       ·cases h
      ·cases h
     ·simp only[Cl]at h;cases h
    ·simp only[Cl]at h;cases h
    ·simp only[Cl]at h;cases h
   ·simp only[Cl]at h;cases h
  ·simp only[Cl]at h;cases h
 | lookup t x y ok=>
  cases ok with
  | false=>simp only[Ag,Cl]at h;cases h
  | true=>
   simp only[Ag]at h
   split at h
   ·rename_i k el hut
    simp only[Cl]at h
    obtain⟨z,hz,hrun⟩:=aL (P:=P) hrel hut h (fun hl=>ev (a:=a) he hg rfl hl) (fun hl=>ev (a:=a) he hg rfl hl)
    exact⟨z,hz,val hrun⟩
   ·simp only[Cl]at h;cases h
 | makeMap t r=>cases r<;>(simp only[Ag,Cl]at h;cases h)
 | move x=>simp only[Ag,Cl]at h;cases h
 | assign x=>simp only[Ag,Cl]at h;cases h
 | makeFunc f x y=>cases f<;>(simp only[Ag,Cl]at h;cases h)
 | _=>simp only[Ag]at h;first | (simp only[Cl]at h;cases h;done) | ((repeat' split at h)<;>(simp only[Cl]at h;cases h))
theorem Hu.of_concs {l:List V} {xs:List Value} {arr:Array Value} (h:A5 R l=some xs) (h1:∀x∈xs,x.oneCell'=true) (ha:∀k,k<xs.length->arr[k]? = xs[k]?):Hu R 0 l arr:=by
 intro k v hk
 obtain⟨x,hx,hkx⟩:=EI h hk
 have hlt:k<xs.length:=by
  rcases Al k xs.length with h|h
  ·exact h
  ·rw[Aa h]at hkx;cases hkx
 exact⟨x,hx,h1 x (cC hkx),by rw[CJ,ha k hlt];exact hkx⟩
theorem Hc:∀{l:List V} {xs:List Value},allOne l=true->A5 R l=some xs->∀x∈xs,x.oneCell'=true
 | [],xs,_,hc=>by simp only[A5,AP.injEq]at hc;subst hc;simp
 | v::l,xs,h,hc=>by
  obtain⟨x,ys,hx,hy,rfl⟩:=Bh.1 hc
  simp only[allOne,AK]at h
  intro y hm
  rcases BJ.1 hm with rfl|hm
  ·exact(VV h.1 hx).2
  ·exact Hc h.2 hy y hm
theorem HZ {w':World} {l:List V} {xs:List Value} {arr:Array Value} {el:TypeId} {lo hi endc n:Nat} (hb:w'.heap[n]? = some (.cells arr el (lo,hi)))
  (h:A5 R l=some xs) (h1:∀x∈xs,x.oneCell'=true) (ha:∀k,k<xs.length->arr[k]? = xs[k]?) (he:endc<=arr.size) (hl:l.length<=endc)
  (hf:∀off,off<arr.size->¬(lo<=off/\off<hi)):FD R ⟨n,0,endc⟩ (.cells l) w':=
 ⟨arr,el,lo,hi,hb,Hu.of_concs h h1 ha,by simpa using he,hl,hf⟩
theorem Vk {x:Value} (h:(Em x).live=true):(Em x).one=true:=by
 unfold Em at h ⊢
 split at h<;>first | rfl | (cases h)
theorem fR {x:Value} {l:List V} (h:fS x=some l):allOne l=true:=by
 unfold fS at h
 split at h
 ·rename_i hall
  cases h
  generalize x.cells.toList=m at hall ⊢
  induction m with
  | nil=>rfl
  | cons y m ih=>
   simp only[B3,Ji,AK,allOne]at hall ⊢
   exact⟨Vk hall.1,ih hall.2⟩
 ·cases h
theorem Ru {t:TypeId} {l:List V} (h:Jk P t=some l):allOne l=true:=by
 unfold Jk at h
 cases hi:P.info? t with
 | none=>rw[hi]at h;cases h
 | some i=>
  rw[hi]at h
  cases hz:i.zero with
  | none=>simp only[hz]at h;cases h
  | some z=>simp only[hz]at h;exact fR h
theorem Dh (w:World) (o:Obj):(w.alloc o).heap[w.heap.size]? = some o:=by simp[World.alloc,-World.alloc_eq]
theorem EJ {z:List V} {zs:List Value} (h:A5 R z=some zs):∀n,A5 R (Bj n z).flatten=some (Bj n zs).flatten
 | 0=>rfl
 | n+1=>by simp only[OM,AFL];exact HO h (EJ h n)
theorem LL:∀{l m:List V},allOne l=true->allOne m=true->allOne (l++m)=true
 | [],m,_,hm=>hm
 | v::l,m,hl,hm=>by
  simp only[allOne,Ez,AK]at hl ⊢
  exact⟨hl.1,LL hl.2 hm⟩
theorem FU {z:List V} (h:allOne z=true):∀n,allOne (Bj n z).flatten=true
 | 0=>rfl
 | n+1=>by simp only[OM,AFL];exact LL h (FU h n)
theorem mJ (zs:List Value) (n k:Nat) (hk:k<n*zs.length):(Bj n zs).flatten[k]? = zs[k % zs.length]? := by
 induction n generalizing k with
 | zero=>omega
 | succ n ih=>
  simp only[OM,AFL]
  have hz:0<zs.length:=by
   rcases ye zs.length with h|h
   ·rw[h]at hk;omega
   ·exact h
  by_cases h:k<zs.length
  ·rw[Dl h,Bw h]
  ·have hmul:(n+1)*zs.length=n*zs.length+zs.length:=Nat.succ_mul n zs.length
   rw[CY (by omega),ih _ (by omega)]
   congr 1
   exact(Nat.mod_eq_sub_mod (by omega)).symm
theorem SD (zs:Array Value) (n:Nat):(Array.range (n*zs.size)).map (fun i=>zs[i % zs.size]!)=(Bj n zs.toList).flatten.toArray:=by
 apply Gm
 apply K0
 intro k
 simp only[Array.toList_map,Array.toList_range,BM]
 by_cases hk:k<n*zs.size
 ·rw[ON hk,mJ _ _ _ (by simpa using hk)]
  simp only[CW,EU]
  have hz:0<zs.size:=by
   rcases ye zs.size with h|h
   ·rw[h]at hk;omega
   ·exact h
  have hlt:k % zs.size<zs.size:=Re _ hz
  simp[hlt]
 ·rw[Aa (by simp;omega),Aa (by simp;omega)]
  rfl
end Go.Og
namespace Go.Og
variable {P:Program} {G:Nat->Bool} {R:Cz} {e:CF} {a:Act} {C:Cx} {J:H} {w:World}
theorem FF.bytes (w:World) (el:TypeId) (s:ByteArray):FF w (Lib.bytesWorld w el s):=
 ⟨fun k hk=>Lib.bytesWorld_at_old w el s k hk,Lib.bytesWorld_size w el s,by simp[Lib.bytesWorld,World.freeze,World.alloc,World.drew,-World.alloc_eq,-World.drew_eq],by simp[Lib.bytesWorld,World.freeze,World.alloc,World.drew,-World.alloc_eq,-World.drew_eq],by simp[Lib.bytesWorld,World.freeze,World.alloc,World.drew,-World.alloc_eq,-World.drew_eq]⟩
theorem Li (R:Cz):∀l:List UInt8,A5 R (aO l)=some (l.map fun b=>Value.int .u8 b.toNat)
 | []=>rfl
 | _::l=>Bh.2 ⟨_,_,rfl,Li R l,rfl⟩
theorem Ls {b off n c:Nat} {i:BI} (h:R b=some i):Au R (.sl b off n (.ex c))=some (.slice (some ⟨i.blk,i.shift+off,none⟩) n c):=by
 simp only[Au,h,CW]
theorem Ho {b off n z:Nat} {i:BI} (h:R b=some i) (hn:n<=i.cap z off/\i.cap z off<=9223372036854775807):Au R (.sl b off n (.op z))=some (.slice (some ⟨i.blk,i.shift+off,none⟩) n (i.cap z off)):=by
 simp only[Au,h,M4,if_pos hn]
theorem dq (need old:Nat) (el:TypeId) (t:Nat):need<=(Question.appendCap need old el).cut t:=by simp[Question.cut]
theorem ej (need old:Nat) (el:TypeId) (t:Nat) (h:need<=9223372036854775807):(Question.appendCap need old el).cut t<=9223372036854775807:=by
 show need+t % (2 ^ 63-need)<=_
 have:=Re t (show 0<2 ^ 63-need by omega)
 omega
theorem O7 (he:B9 R e a.tmps) (hg:Dw G R) (o:Oper) {id:Nat} {v:V} {b:GL} (h:Ce (Ag P G o.op) e id=some (v,b)) (hid:R id=none) (w:World) :
  ∃x w' i,(execOp a.eval o).run P w = .ok (.value x) w'/\FF w w'/\i.blk=w.heap.size/\Au (IS R id i) v=some x/\FD (IS R id i) i b w':=by
 have val:∀{s:Sem Value} {x:Value} {w':World},s.run P w = .ok x w'->(do pure (Next.value (<-s)):Sem Next).run P w = .ok (.value x) w':=fun hs=>by simp[hs]
 have hle:∀i,Le R (IS R id i):=fun i k j hk=>by
  by_cases he:k=id
  ·subst he;rw[hid]at hk;cases hk
  ·rw[Bt he];exact hk
 obtain⟨dst,op,ty,pos,after,guard⟩:=o
 simp only at h
 cases op with
 | alloc t=>
  simp only[Ag]at h
  cases hz:Jk P t with
  | none=>rw[hz]at h;simp only[Ce]at h;cases h
  | some z=>
   rw[hz]at h
   cases z with
   | nil=>
    simp only[Ce,AP.injEq,Prod.mk.injEq]at h
    obtain⟨rfl,rfl⟩:=h
    obtain⟨zv,hzr,hzc⟩:=GQ (P:=P) (R:=R) hz w
    have hz0:zv.cells=#[]:=by
     have:=Bm hzc
     simp at this;simpa using this
    refine⟨_,_,⟨w.heap.size,0,0⟩,val ?_,FF.of_alloc w (.cells zv.cells t),rfl,DG (CL _ _ _),?_⟩
    ·unfold Instr.alloc
     simp[hzr,newVar,newRow]
    ·exact⟨(0,0),by rw[Dh,hz0]⟩
   | cons z0 z=>
   simp only[Ce,AP.injEq,Prod.mk.injEq]at h
   obtain⟨rfl,rfl⟩:=h
   obtain⟨zv,hzr,_⟩:=GQ (P:=P) (R:=R) hz w
   obtain⟨zv',hzr',hzc⟩:=GQ (P:=P) (R:=IS R id ⟨w.heap.size,0,zv.cells.size⟩) hz w
   rw[hzr]at hzr';cases hzr'
   refine⟨_,_,⟨w.heap.size,0,zv.cells.size⟩,val ?_,FF.of_alloc w (.cells zv.cells t),rfl,DG (CL _ _ _),?_⟩
   ·unfold Instr.alloc
    simp[hzr,newVar,newRow]
   ·refine HZ (Dh w _) hzc (Hc (Ru hz) hzc) (fun k _=>by simp) (AN _) ?_ (fun _ _ h=>by omega)
    have:=Bm hzc
    simp at this ⊢;omega
 | box t x=>
  simp only[Ag]at h
  split at h
  ·simp only[Ce]at h
   split at h
   ·rename_i hx
    simp only[AP.injEq,Prod.mk.injEq]at h
    obtain⟨rfl,rfl⟩:=h
    obtain⟨l,hl,hev⟩:=Tj (a:=a) he hg hx
    simp only[A5,AP.injEq]at hl;subst hl
    refine⟨_,_,⟨w.heap.size,0,0⟩,val ?_,FF.of_alloc w (.cells #[] t),rfl,DG (CL _ _ _),?_⟩
    ·unfold Instr.box
     simp[hev,newVar,newRow,Value.cells]
    ·exact⟨(0,0),by rw[Dh]⟩
   ·cases h
  ·simp only[Ce]at h
   split at h
   ·rename_i hl
    simp only[AK]at hl
    simp only[AP.injEq,Prod.mk.injEq]at h
    obtain⟨rfl,rfl⟩:=h
    have hc:=ev (a:=a) he hg rfl hl.1
    have hcs:=Hp hc
    refine⟨_,_,⟨w.heap.size,0,(a.eval x).cells.size⟩,val ?_,FF.of_alloc w (.cells (a.eval x).cells t),rfl,DG (CL _ _ _),?_⟩
    ·unfold Instr.box
     simp[newVar,newRow]
    ·have hcs':=EP (hle ⟨w.heap.size,0,(a.eval x).cells.size⟩) _ _ hcs
     refine HZ (Dh w _) hcs' (Hc hl.2 hcs') (fun k _=>by simp) (AN _) ?_ (fun _ _ h=>by omega)
     have:=Bm hcs
     simp at this;omega
   ·cases h
 | buildSlice t n ps=>
  simp only[Ag]at h
  split at h
  ·rename_i el hu
   split at h
   ·rename_i s z hs hz
    cases hc:EK G (fun i=>some (i*s,s)) ps.toList with
    | none=>rw[hc]at h;simp only[Ce]at h;cases h
    | some l=>
     rw[hc]at h
     simp only at h
     split at h
     ·simp only[Ce]at h;cases h
     ·rename_i hcond
      simp only[M9,B2,decide_eq_false_iff_not,bne_eq_false_iff_eq]at hcond
      obtain⟨hsmall,hzl⟩:=hcond
      simp only[Ce]at h
      cases hf:FQ (Jv e l) (Bj n z).flatten with
      | none=>rw[hf]at h;cases h
      | some r=>
       rw[hf]at h
       simp only at h
       split at h
       ·rename_i hone
        simp only[AP.injEq,Prod.mk.injEq]at h
        obtain⟨rfl,rfl⟩:=h
        obtain⟨zv,hzr,hzc⟩:=GQ (P:=P) (R:=R) hz w
        have hzlen:zv.cells.size=s:=by have:=Bm hzc;simp at this;omega
        have hzz:=EJ hzc n
        obtain⟨out,h1,h2,h3⟩:=O2 (a:=a) he hg ps.toList l _ r (Bj n zv.cells.toList).flatten.toArray hc (by simpa using hzz) hf
        have hrun:(Instr.buildSlice t n (ps.map fun(i,x)=>(i,a.eval x))).run P w = .ok (.slice (some ⟨w.heap.size,0,none⟩) n n) (w.alloc (.cells out el)):=by
         have hmap:(ps.map (fun(x:Nat × Operand)=>(x.1,a.eval x.2))).toList=ps.toList.map (fun(x:Nat × Operand)=>(x.1,a.eval x.2)):=Array.toList_map
         unfold Instr.buildSlice
         simp only[Sem.run_bind,run_underlying hu,Result.andThen_ok,EH hs w]
         rw[if_neg (by simpa using hsmall)]
         by_cases h0:n*s=0
         ·rw[if_pos h0]
          simp only[Sem.run_pure,Result.andThen_ok,hmap]
          have hemp:(Bj n zv.cells.toList).flatten.toArray=#[]:=by
           apply Gm
           apply Bu
           simp[hzlen,h0]
          rw[hemp]at h1
          have hr0:∀f:Nat->Value,(Array.range (n*s)).map f=#[]:=fun f=>by rw[h0];apply Gm;simp
          simp only[Sem.run_pure,Result.andThen_ok,hmap,hr0,h1,Sem.run_bind,newRow,run_newObj]
          rfl
         ·rw[if_neg h0]
          simp only[Sem.run_bind,hzr,Result.andThen_ok,Sem.run_pure,hmap]
          have hr:=SD zv.cells n
          rw[hzlen]at hr
          simp only[hzlen,hr,h1,Sem.run_bind,newRow,run_newObj,Result.andThen_ok,Sem.run_pure]
          rfl
        refine⟨_,_,⟨w.heap.size,0,out.size⟩,val hrun,FF.of_alloc w _,rfl,?_,?_⟩
        ·exact Ls (CL _ _ _)
        ·have hcs':=EP (hle ⟨w.heap.size,0,out.size⟩) _ _ h2
         refine HZ (Dh w _) hcs' (Hc hone hcs') (fun k _=>by simp) (AN _) ?_ (fun _ _ h=>by omega)
         have:=Bm h2
         simp at this;omega
       ·cases h
   ·simp only[Ce]at h;cases h
  ·simp only[Ce]at h;cases h
 | convert s d x=>
  simp only[Ag]at h
  unfold nO at h
  split at h
  ·simp only[Ce]at h;cases h
  ·simp only[Ce]at h;cases h
  ·rename_i el hs hd
   split at h
   ·rename_i hel
    simp only[Ce]at h
    split at h
    ·rename_i l hx
     split at h
     ·rename_i hble
      have hl12:l.toList.length<=9223372036854775807:=by rw[BS.length_toList];have:=Gr hble;omega
      simp only[AP.injEq,Prod.mk.injEq]at h
      obtain⟨rfl,rfl⟩:=h
      have hev:=Ln (a:=a) he hg hx
      rw[<-BS.length_toList]
      generalize l.toList=l at *
      have hsz:(ByteArray.mk l.toArray).size=l.length:=by simp[ByteArray.size]
      have hcap:l.length<=grownCap w l.length 0 el:=dq _ _ _ _
      have hcap2:grownCap w l.length 0 el<=9223372036854775807:=ej _ _ _ _ hl12
      have hcells:(Lib.bytesCells w el ⟨l.toArray⟩).size=grownCap w l.length 0 el:=by
       simp[Lib.bytesCells,hsz];omega
      refine⟨_,_,⟨w.heap.size,0,(Lib.bytesCells w el ⟨l.toArray⟩).size⟩,val (by rw[hev];exact Lib.run_convert_string_bytes w s d el _ hs hd hel),FF.bytes w el _,rfl,?_,?_⟩
      ·rw[Ho (CL _ _ _) (by simp[BI.cap,hcells];exact⟨hcap,hcap2⟩)]
       simp[BI.cap,hcells,hsz]
      ·refine HZ (Lib.bytesWorld_at_new w el _) (Li _ l) (by simp;intro x _;rfl) (fun k hk=>?_) (AN _) (by rw[hcells];simpa[aO]using hcap) (fun off h1 h2=>by omega)
       simp only[DH]at hk
       simp[Lib.bytesCells,Array.getElem?_append,hk]
     ·cases h
    ·cases h
   ·simp only[Ce]at h;cases h
  ·split at h<;>(simp only[Ce]at h;cases h)
  ·simp only[Ce]at h;cases h
 | makeMap t r=>
  cases r with
  | some r=>simp only[Ag,Ce]at h;cases h
  | none=>
   simp only[Ag,Ce,AP.injEq,Prod.mk.injEq]at h
   obtain⟨rfl,rfl⟩:=h
   refine⟨.map (some w.heap.size),w.alloc (.map #[] 0),⟨w.heap.size,0,0⟩,val ?_,FF.of_alloc w (.map #[] 0),rfl,by simp only[Au,CL,CW],⟨#[],0,Dh w _,trivial⟩⟩
   simp[Instr.makeMap]
 | makeSlice t ln cp=>
  simp only[Ag]at h
  split at h
  ·rename_i el hu
   split at h
   ·rename_i i z hi hz
    split at h
    ·simp only[Ce]at h;cases h
    ·rename_i hzl
     simp only[M9,bne_eq_false_iff_eq]at hzl
     simp only[Ce]at h
     split at h
     ·rename_i n c hn hc
      split at h
      ·rename_i hcond
       obtain⟨h0,h1,h2,h3⟩:=hcond
       simp only[AP.injEq,Prod.mk.injEq]at h
       obtain⟨rfl,rfl⟩:=h
       obtain⟨zv,hzr,hzc⟩:=GQ (P:=P) (R:=R) hz w
       have hzlen:zv.cells.size=i.size:=by have:=Bm hzc;simp at this;omega
       have hzz:=EJ hzc c.toNat
       have hwn:IntKind.i64.wrap n=n:=IntWalk.i64_in n ⟨by omega,by omega⟩
       have hwc:IntKind.i64.wrap c=c:=IntWalk.i64_in c ⟨by omega,by omega⟩
       have hrun:(Instr.makeSlice t (a.eval ln) (a.eval cp)).run P w = .ok (.slice (some ⟨w.heap.size,0,none⟩) n.toNat c.toNat) (w.alloc (.cells (Bj c.toNat zv.cells.toList).flatten.toArray el)):=by
        rw[Fw (a:=a) he hg hn,Fw (a:=a) he hg hc]
        unfold Instr.makeSlice
        have hti:(typeInfo el).run P w = .ok i w:=by simp[typeInfo,hi]
        have hsz:(sizeOf el).run P w = .ok i.size w:=by simp[sizeOf,typeInfo,hi]
        simp only[Sem.run_bind,run_underlying hu,Result.andThen_ok,asInt,asIntOf,Sem.run_pure,hti,hwn,hwc]
        have ht1:(decide (c<0) || decide ((i.bytes:Int)*c > 2 ^ 48))=false:=by
         rw[Int.mul_comm]at h2
         simp;omega
        have ht2:decide (n<0)=false:=by simp;omega
        have ht3:decide (n > c)=false:=by simp;omega
        simp only[ht1,ht2,ht3,Jj,DL,E3,if_false,Sem.run_bind,run_askRoom,Result.andThen_ok,hsz]
        by_cases hz0:c.toNat*i.size=0
        ·rw[if_pos hz0]
         simp only[Sem.run_pure,Result.andThen_ok,newRow,Sem.run_bind,run_newObj,hz0]
         have hemp:(Bj c.toNat zv.cells.toList).flatten.toArray=#[]:=by
          apply Gm
          apply Bu
          simp[hzlen,hz0]
         rw[hemp]
         have hr0:∀f:Nat->Value,(Array.range 0).map f=#[]:=fun f=>by apply Gm;simp
         rw[hr0];rfl
        ·rw[if_neg hz0]
         have hr:=SD zv.cells c.toNat
         rw[hzlen]at hr
         simp only[Sem.run_bind,hzr,Result.andThen_ok,Sem.run_pure,newRow,run_newObj,hzlen,hr]
         rfl
       refine⟨_,_,⟨w.heap.size,0,(Bj c.toNat zv.cells.toList).flatten.length⟩,val hrun,FF.of_alloc w _,rfl,Ls (CL _ _ _),?_⟩
       have hcs':=EP (hle ⟨w.heap.size,0,(Bj c.toNat zv.cells.toList).flatten.length⟩) _ _ hzz
       refine HZ (Dh w _) hcs' (Hc (FU (Ru hz) _) hcs') (fun k _=>by simp) (by simp) ?_ (fun _ _ h=>by omega)
       have:=Bm hzz
       omega
      ·cases h
     ·cases h
   ·simp only[Ce]at h;cases h
  ·simp only[Ce]at h;cases h
 | call c=>
  obtain⟨callee,args,argTypes⟩:=c
  cases callee with
  | value f=>cases f<;>(simp only[Ag,Ce]at h;cases h)
  | invoke r m=>simp only[Ag,Ce]at h;cases h
  | builtin b'=>
   simp only[Ag,LK]at h
   have hno:∀(q:Bool) (e1:TypeId) (n m:Nat) (x y:AO),Ce (if q=true then Ej.bad else Ej.append e1 n m x y) e id≠some (v,b):=by
    intro q e1 n m x y;cases q<;>simp[Ce]
   split at h
   ·(repeat' split at h)<;>(simp only[Ce]at h;cases h)
   ·(repeat' split at h)<;>(simp only[Ce]at h;cases h)
   ·split at h
    ·split at h
     ·split at h
      ·exact(hno _ _ _ _ _ _ h).elim
      ·simp only[Ce]at h;cases h
     ·simp only[Ce]at h;cases h
    ·simp only[Ce]at h;cases h
   ·(repeat' split at h)<;>(simp only[Ce]at h;cases h)
   ·simp only[Ce]at h;cases h
   ·simp only[Ce]at h;cases h
   ·simp only[Ce]at h;cases h
 | lookup t x y ok=>cases ok<;>simp only[Ag]at h<;>first | (simp only[Ce]at h;cases h;done) | ((repeat' split at h)<;>(simp only[Ce]at h;cases h))
 | move x=>simp only[Ag,Ce]at h;cases h
 | assign x=>simp only[Ag,Ce]at h;cases h
 | makeFunc f x y=>cases f<;>(simp only[Ag,Ce]at h;cases h)
 | _=>simp only[Ag]at h;first | (simp only[Ce]at h;cases h;done) | ((repeat' split at h)<;>(simp only[Ce]at h;cases h))
end Go.Og
namespace Go.Og
variable {P:Program} {G:Nat->Bool} {R:Cz} {e:CF} {a:Act} {C:Cx} {J:H} {w:World}
structure iz (b:Nat) (w w':World):Prop where
 old:∀k,k≠b->w'.heap[k]? = w.heap[k]?
 size:w'.heap.size=w.heap.size
 os:w'.os=w.os
 tape:w'.tape=w.tape
 output:w'.output=w.output
theorem LD (b:Nat):∀(vs:List Value) (o:Nat) (w:World) (arr:Array Value) (el:TypeId) (fr:Nat × Nat),w.heap[b]? = some (.cells arr el fr) ->
  iz b w (w.setCells b o vs)/\∃arr':Array Value,(w.setCells b o vs).heap[b]? = some (.cells arr' el fr)/\arr'.size=arr.size /\
   ∀k,arr'[k]? = if o<=k/\k<o+vs.length/\k<arr.size then vs[k-o]? else arr[k]?
 | [],o,w,arr,el,fr,h=>⟨⟨fun _ _=>rfl,rfl,rfl,rfl,rfl⟩,arr,h,rfl,fun k=>by rw[if_neg (by simp;omega)]⟩
 | v::vs,o,w,arr,el,fr,h=>by
  have h1:(w.setCell ⟨b,o,none⟩ v).heap[b]? = some (.cells (arr.setIfInBounds o v) el fr):=by
   simp[World.setCell,Array.getElem?_modify,h]
  obtain⟨h2,arr',h3,h4,h5⟩:=LD b vs (o+1) _ _ el fr h1
  refine⟨⟨fun k hk=>?_,?_,h2.os,h2.tape,h2.output⟩,arr',h3,by rw[h4,Dx],fun k=>?_⟩
  ·rw[World.setCells,h2.old k hk]
   simp[World.setCell,Array.getElem?_modify,Ne.symm hk]
  ·rw[World.setCells,h2.size,World.size_setCell]
  ·rw[h5,Dx,BE]
   by_cases hk:o=k
   ·subst hk
    rw[if_neg (by omega),if_pos rfl]
    by_cases hs:o<arr.size
    ·rw[if_pos hs,if_pos (by simp;omega)];simp
    ·rw[if_neg hs,if_neg (by omega),CE (by omega)]
   ·rw[if_neg hk]
    by_cases hc:o+1<=k/\k<o+1+vs.length/\k<arr.size
    ·rw[if_pos hc,if_pos (by simp;omega)]
     have:k-o=(k-(o+1))+1:=by omega
     rw[this,CK]
    ·rw[if_neg hc,if_neg (by simp only[Aj];omega)]
theorem Pa {b o lo hi:Nat} {arr:Array Value} {el:TypeId} (h:w.heap[b]? = some (.cells arr el (lo,hi))) (hf:∀off,off<arr.size->¬(lo<=off/\off<hi))
  {xs:List Value} (h1:∀x∈xs,x.oneCell'=true) (hle:o+xs.length<=arr.size) :
  ∃w',(storeCells ⟨b,o,none⟩ xs).run P w = .ok () w'/\iz b w w'/\∃arr':Array Value,w'.heap[b]? = some (.cells arr' el (lo,hi))/\arr'.size=arr.size /\
   ∀k,arr'[k]? = if o<=k/\k<o+xs.length then xs[k-o]? else arr[k]? := by
 have hrun:=run_storeCells_cells (P:=P) b o xs 0 w
  (fun j hj=>by
   rw[O5 h,ES]
   have:o+j<arr.size:=by omega
   simp[this])
  (fun j hj=>by
   have hlt:o+j<arr.size:=by omega
   simp only[World.frozen?,h,ES]
   have:=hf (o+j) hlt
   simp;omega) h1
 obtain⟨h2,arr',h3,h4,h5⟩:=LD b xs (o+0) w arr el (lo,hi) h
 refine⟨_,hrun,h2,arr',h3,h4,fun k=>?_⟩
 rw[h5]
 simp only[ES]
 by_cases hc:o<=k/\k<o+xs.length
 ·rw[if_pos hc,if_pos (by omega)]
 ·rw[if_neg hc,if_neg (by omega)]
theorem PU (hrel:Ds C R J w) {b off:Nat} {l cs:List V} {xs:List Value} (hb:look J.bl b=some (.cells l)) (hcs:A5 R cs=some xs) (h1:allOne cs=true)
  (hle:off+cs.length<=l.length) {i:BI} (hi:R b=some i) :
  ∃w',(storeCells ⟨i.blk,i.shift+off,none⟩ xs).run P w = .ok () w'/\Ds C R (J.set b (.cells (Hg l off cs))) w':=by
 obtain⟨j,hj,hO,arr,el,lo,hi',hblk,hold,hend,hlen,hf⟩:=hrel.own b _ hb
 rw[hi]at hj;cases hj
 have hxl:=Bm hcs
 have hone:=Hc h1 hcs
 obtain⟨w',hrun,hw,arr',h3,h4,h5⟩:=Pa (P:=P) (o:=i.shift+off) hblk hf hone (by omega)
 refine⟨w',hrun,hrel.write hb hi ?_ hw.old hw.size hw.os hw.tape hw.output⟩
 refine⟨arr',el,lo,hi',h3,?_,by omega,by rw[Hf];exact hlen,fun o ho=>hf o (by omega)⟩
 intro k v hk
 rw[MG]at hk
 by_cases hc:off<=k/\k<off+cs.length
 ·rw[if_pos hc,if_pos (by omega)]at hk
  obtain⟨x,hx,hkx⟩:=EI hcs hk
  refine⟨x,hx,hone x (cC hkx),?_⟩
  rw[h5,if_pos (by omega)]
  rw[show i.shift+k-(i.shift+off)=k-off by omega]
  exact hkx
 ·rw[if_neg hc]at hk
  obtain⟨x,hx,ho,hkx⟩:=hold k v hk
  refine⟨x,hx,ho,?_⟩
  rw[h5,if_neg (by omega)]
  exact hkx
theorem Pc (hrel:Ds C R J w) {esz n:Nat} {x:V} {l:List V} {u:Value} (h:Ch C.E J esz x=some (n,l)) (hu:Au R x=some u) :
  ∃xs,A5 R l=some xs/\(∀y∈xs,y.oneCell'=true)/\(Builtin.lenOf u).run P w = .ok n w/\xs.length=n*esz /\
   ∀m,m<=n->(Builtin.firstCells esz m u).run P w = .ok (xs.take (m*esz)).toArray w:=by
 unfold Ch at h
 split at h
 ·cases h;cases hu
  exact⟨[],rfl,by simp,rfl,by simp,fun m hm=>by simp[Builtin.firstCells]⟩
 ·cases h
  obtain⟨i,_,_,rfl⟩:=ER hu
  refine⟨[],rfl,by simp,rfl,by simp,fun m hm=>?_⟩
  have:m=0:=by omega
  subst this
  simp[Builtin.firstCells,loadCells,loadCellsFrom]
 ·rename_i b off len c
  simp only[Aq]at h
  obtain⟨l',hrd,heq⟩:=h
  cases heq
  obtain⟨i,m,hi,rfl,_⟩:=DF hu
  obtain⟨i',xs,hi',hc,hone,hlen,_,hcell⟩:=hrel.readN hrd
  rw[hi]at hi';cases hi'
  refine⟨xs,hc,hone,rfl,hlen,fun k hk=>?_⟩
  have hkl:k*esz<=xs.length:=by rw[hlen];exact HS _ hk
  have hl:=run_loadCells_list (P:=P) w ⟨i.blk,i.shift+off,none⟩ (xs.take (k*esz)) (fun j v hj=>by
   rw[Ey]at hj
   split at hj
   ·exact hcell j v hj
   ·cases hj)
  rw[IM,HD hkl]at hl
  simp only[Builtin.firstCells]
  exact hl
 ·rename_i s
  split at h
  ·rename_i he
   cases h;cases hu
   rw[<-BS.length_toList]
   generalize s.toList=s at *
   have hsz:(ByteArray.mk s.toArray).size=s.length:=by simp[ByteArray.size]
   refine⟨_,Li R s,by simp;intro x _;rfl,by simp[Builtin.lenOf,hsz],by simp[he],fun m hm=>?_⟩
   simp only[Builtin.firstCells,Sem.run_pure]
   congr 1
   apply Gm
   rw[he,C8,ByteArray.data_extract]
   simp[List.map_take]
  ·cases h
 ·cases h
theorem We {need old bytes:Nat} (h:old<need) (hg:CV need bytes=true):Builtin.nextslicecap need old*bytes<=281474976710656/\(need:Int)<=9223372036854775807:=by
 simp only[CV,AK,BC]at hg
 exact⟨growslice_fits h hg.1,by omega⟩
set_option maxHeartbeats 800000 in
theorem Tg (hrel:Ds C R J w) {t u ty el:TypeId} {i:TypeInfo} {z:Value} (ht:P.underlying t=some (.slice el)) {du:TypeDesc} (hu:P.underlying u=some du)
  (hnot:du = .string\/∃d,du = .slice d) (hi:P.info? el=some i) (hz:i.zero=some z) (hzs:z.cells.size=i.size)
  {base:Option Addr} {sLen sCap n:Nat} {x:Value} {old new:List Value} {lo ln:List V}
  (hlo:A5 R lo=some old) (hln:A5 R ln=some new) (h1o:∀y∈old,y.oneCell'=true) (h1n:∀y∈new,y.oneCell'=true)
  (hold:old.length=sLen*i.size) (hnew:new.length=n*i.size)
  (hlen:(Builtin.lenOf x).run P w = .ok n w) (hgo:∀d,(Builtin.firstCells i.size sLen (.slice base sLen sCap)).run P { w with drawn:=d } = .ok old.toArray { w with drawn:=d })
  (hgn:∀d,(Builtin.firstCells i.size n x).run P { w with drawn:=d } = .ok new.toArray { w with drawn:=d })
  (hlt:sCap<sLen+n) (hgr:CV (sLen+n) i.bytes=true) (_hpos:0<i.size) :
  ∃w' c,(Builtin.append_ #[t,u] ty #[.slice base sLen sCap,x]).run P w = .ok (.slice (some ⟨w.heap.size,0,none⟩) (sLen+n) c) w' /\
   Ds C (IS R J.next ⟨w.heap.size,0,c*i.size⟩) (J.add (.cells (lo++ln))) w'/\sLen+n<=c/\c<=9223372036854775807:=by
 obtain⟨hfit,h63⟩:=We hlt hgr
 have hzero:∀d,(zeroValue el).run P { w with drawn:=d } = .ok z { w with drawn:=d }:=fun d=>by simp[zeroValue,typeInfo,hi,hz]
 let c:=(Question.appendCap (sLen+n) sCap el).cut (w.tape w.drawn (.appendCap (sLen+n) sCap el))
 have hc:sLen+n<=c:=dq _ _ _ _
 let arr:=old.toArray++new.toArray++Builtin.zeroCells z.cells (c-(sLen+n))
 let w1:World:={ w with drawn:=w.drawn+1 }
 have hrun:(Builtin.append_ #[t,u] ty #[.slice base sLen sCap,x]).run P w = .ok (.slice (some ⟨w.heap.size,0,none⟩) (sLen+n) c) (w1.alloc (.cells arr el)):=by
  have hn1:¬(sLen+n<=sCap):=by omega
  have h63':¬(9223372036854775807<((sLen:Int)+(n:Int))):=by omega
  have hfit':¬(281474976710656<Builtin.nextslicecap (sLen+n) sCap*i.bytes):=by omega
  have hgo':(Builtin.firstCells i.size sLen (.slice base sLen sCap)).run P w.drew = .ok old.toArray w.drew:=hgo _
  have hgn':(Builtin.firstCells i.size n x).run P w.drew = .ok new.toArray w.drew:=hgn _
  rcases hnot with rfl|⟨d,rfl⟩
  all_goals simp[Builtin.append_,run_underlying ht,run_underlying hu,sizeOf,typeInfo,zeroValue,hi,hz,hlen,hn1,h63',hfit',Question.forced,hgo',hgn',newRow,c,arr,w1]
 refine⟨_,c,hrun,?_,hc,ej _ _ _ _ (by omega)⟩
 have hrel1:Ds C R J w1:=hrel.drawn _
 refine hrel1.alloc (FF.of_alloc w1 _) _ _ rfl ?_
 have hcs:=HO hlo hln
 have hle:Le R (IS R J.next ⟨w.heap.size,0,c*i.size⟩):=(E5 R J.next _).le hrel.fresh
 have hlen2:=Bm hcs
 have hmul:(sLen+n)*i.size=sLen*i.size+n*i.size:=Rl _ _ _
 have hml:(sLen+n)*i.size<=c*i.size:=HS _ hc
 refine HZ (Dh w1 _) (EP hle _ _ hcs) (fun y hy=>?_) (fun k hk=>?_) ?_ ?_ (fun _ _ h=>by omega)
 ·rcases Fe.1 hy with h|h
  ·exact h1o y h
  ·exact h1n y h
 ·have:arr=(old++new).toArray++Builtin.zeroCells z.cells (c-(sLen+n)):=by apply Gm;simp[arr]
  rw[this,MD (by simpa using hk)]
  simp
 ·simp only[arr,Array.size_append,List.size_toArray,Builtin.zeroCells,Array.size_map,Array.size_range,hzs]
  have:c*i.size=(sLen+n)*i.size+(c-(sLen+n))*i.size:=by rw[<-Rl];congr 1;omega
  omega
 ·show (lo++ln).length<=c*i.size
  rw[<-hlen2,AL];omega
end Go.Og
namespace Go.Og
variable {P:Program} {G:Nat->Bool} {R:Cz} {e:CF} {a:Act} {C:Cx} {J:H} {w:World}
set_option maxHeartbeats 800000 in
theorem Dz {t u ty el:TypeId} {i:TypeInfo} (ht:P.underlying t=some (.slice el)) {du:TypeDesc} (hu:P.underlying u=some du)
  (hnot:du = .string\/∃d,du = .slice d) (hi:P.info? el=some i) {base:Option Addr} {sLen sCap n:Nat} {x:Value} {new:Array Value}
  (hlen:(Builtin.lenOf x).run P w = .ok n w) (hle:sLen+n<=sCap) (hgn:(Builtin.firstCells i.size n x).run P w = .ok new w) {w':World}
  (hst:∀b,base=some b->(storeCells (b.add (sLen*i.size)) new.toList).run P w = .ok () w') (hno:base=none->w'=w) :
  (Builtin.append_ #[t,u] ty #[.slice base sLen sCap,x]).run P w = .ok (.slice base (sLen+n) sCap) w':=by
 cases base with
 | none=>
  obtain rfl:=hno rfl
  rcases hnot with rfl|⟨d,rfl⟩
  all_goals simp[Builtin.append_,run_underlying ht,run_underlying hu,sizeOf,typeInfo,zeroValue,hi,hlen,hle,hgn]
 | some b=>
  have hst':=hst b rfl
  rcases hnot with rfl|⟨d,rfl⟩
  all_goals simp[Builtin.append_,run_underlying ht,run_underlying hu,sizeOf,typeInfo,zeroValue,hi,hlen,hle,hgn,hst']
theorem He (b:Addr):(storeCells b []).run P w = .ok () w:=rfl
def xC (P:Program) (C:Cx) (R:Cz) (J:H) (s:Sem Next) (w:World) (v:V) (J':H):Prop:=
 ∃R' w' x,G8 J.next R R'/\J.next<=J'.next/\Ds C R' J' w'/\(v = .dead\/Au R' v=some x)/\(s.run P w = .ok (.value x) w'\/(s.run P w = .ok .skip w'/\v = .dead))
theorem W1 (hrel:Ds C R J w) {t u ty el:TypeId} {i:TypeInfo} {z:Value} (ht:P.underlying t=some (.slice el)) {du:TypeDesc} (hu:P.underlying u=some du)
  (hnot:du = .string\/∃d,du = .slice d) (hi:P.info? el=some i) (hz:i.zero=some z) (hzs:z.cells.size=i.size) (hpos:0<i.size)
  {s x:V} {sv xv:Value} (hs:s.live=true->Au R s=some sv) (hx:x.live=true->Au R x=some xv) {v:V} {J':H}
  (h:EE C.E i.size i.bytes s x J=some (v,J')) :
  ∃R' w' y,G8 J.next R R'/\J.next<=J'.next/\Ds C R' J' w'/\Au R' v=some y/\(Builtin.append_ #[t,u] ty #[sv,xv]).run P w = .ok y w':=by
 unfold EE at h
 cases hsrc:Ch C.E J i.size x with
 | none=>rw[hsrc]at h;cases h
 | some q=>
  obtain⟨n,new⟩:=q
  rw[hsrc]at h
  simp only at h
  have hxl:x.live=true:=by unfold Ch at hsrc;split at hsrc<;>first | rfl | cases hsrc
  have hxc:=hx hxl
  obtain⟨xs,hnc,hnone,hlen,hxlen,hfirst⟩:=Pc (P:=P) hrel hsrc hxc
  have hfn:=hfirst n (AN _)
  rw[ET (by omega)]at hfn
  have hfd:∀d,(Builtin.firstCells i.size n xv).run P { w with drawn:=d } = .ok xs.toArray { w with drawn:=d }:=fun d=>by
   obtain⟨xs',hnc',_,_,hxlen',hfirst'⟩:=Pc (P:=P) (hrel.drawn d) hsrc hxc
   rw[hnc]at hnc';cases hnc'
   have:=hfirst' n (AN _)
   rwa [ET (by omega)]at this
  have hnl:=Bm hnc
  split at h
  ·
   have hsv:=hs rfl
   simp only[Au,AP.injEq]at hsv
   subst hsv
   split at h
   ·rename_i hn0
    cases h
    subst hn0
    have hxs:xs=[]:=Bu (by omega)
    subst hxs
    refine⟨R,w,_,G8.refl _ _,AN _,hrel,rfl,?_⟩
    have:=Dz (P:=P) (ty:=ty) (base:=none) (sLen:=0) (sCap:=0) ht hu hnot hi hlen (AN _) hfn (w':=w) (fun b e=>by cases e) (fun _=>rfl)
    exact this
   ·rename_i hn0
    split at h
    ·rename_i hg
     cases h
     obtain⟨w',c,hrun,hrel',hc⟩:=Tg (P:=P) (ty:=ty) (base:=none) (sLen:=0) (sCap:=0) (old:=[]) (lo:=[]) hrel ht hu hnot hi hz hzs rfl hnc (by simp) hnone (by simp) hxlen hlen (fun d=>by simp[Builtin.firstCells]) hfd (by omega) (by simpa using hg) hpos
     simp only[Cy,CJ]at hrel' hrun hc
     refine⟨_,w',_,E5 _ _ _,Ec _,hrel',Ho (CL _ _ _) (by simp[BI.cap,D9 _ hpos];exact hc),?_⟩
     rw[hrun]
     simp[BI.cap,D9 _ hpos]
    ·cases h
  ·
   rename_i b off len c
   have hsv:=hs rfl
   obtain⟨j,m,hj,rfl,hex,_⟩:=DF hsv
   obtain rfl:=hex c rfl
   split at h
   ·rename_i hle
    simp only[BC]at hle
    split at h
    ·rename_i hn0
     cases h
     subst hn0
     have hxs:xs=[]:=Bu (by omega)
     subst hxs
     exact⟨R,w,_,G8.refl _ _,AN _,hrel,hsv,Dz (P:=P) (ty:=ty) ht hu hnot hi hlen hle hfn (w':=w) (fun b e=>rfl) (fun e=>by cases e)⟩
    ·split at h
     ·rename_i l hl
      split at h
      ·rename_i hcond
       simp only[AK,BC]at hcond
       cases h
       have hmul:(len+n)*i.size=len*i.size+n*i.size:=Rl _ _ _
       obtain⟨w',hst,hrel'⟩:=PU (P:=P) hrel (off:=off+len*i.size) hl hnc hcond.2 (by omega) hj
       refine⟨R,w',_,G8.refl _ _,AN _,hrel',Ls hj,Dz (P:=P) (ty:=ty) ht hu hnot hi hlen hle hfn (w':=w') (fun b e=>?_) (fun e=>by cases e)⟩
       cases e
       rw[add_eq,GI]
       exact hst
      ·cases h
     ·cases h
   ·rename_i hle
    simp only[BC]at hle
    split at h
    ·rename_i hg
     split at h
     ·rename_i old hold
      cases h
      obtain⟨j',ys,hj',hyc,hyone,hyl,_,hcell⟩:=hrel.readN hold
      rw[hj]at hj';cases hj'
      obtain⟨w',c',hrun,hrel',hc⟩:=Tg (P:=P) (ty:=ty) (base:=some ⟨j.blk,j.shift+off,none⟩) (sLen:=len) (sCap:=m) hrel ht hu hnot hi hz hzs hyc hnc hyone hnone hyl hxlen hlen (fun d=>by
       have:=run_firstCells_some (P:=P) { w with drawn:=d } i.size len ⟨j.blk,j.shift+off,none⟩ len m ys hyl (fun k v hk=>hcell k v hk)
       exact this) hfd (by omega) hg hpos
      refine⟨_,w',_,E5 _ _ _,Ec _,hrel',Ho (CL _ _ _) (by simp[BI.cap,D9 _ hpos];exact hc),?_⟩
      rw[hrun]
      simp[BI.cap,D9 _ hpos]
     ·cases h
    ·cases h
  ·
   rename_i b len z'
   have hsv:=hs rfl
   obtain⟨j,m,hj,rfl,_,hop⟩:=DF hsv
   obtain⟨hm,hlm⟩:=hop z' rfl
   split at h
   ·rename_i hn0
    cases h
    subst hn0
    have hxs:xs=[]:=Bu (by omega)
    subst hxs
    exact⟨R,w,_,G8.refl _ _,AN _,hrel,hsv,Dz (P:=P) (ty:=ty) ht hu hnot hi hlen hlm hfn (w':=w) (fun b e=>rfl) (fun e=>by cases e)⟩
   ·rename_i hn0
    split at h
    ·rename_i l hl
     split at h
     ·rename_i hcond
      simp only[AK,AV]at hcond
      obtain⟨⟨⟨hll,hze⟩,hg⟩,hone⟩:=hcond
      subst hze
      cases h
      obtain⟨j',hj',hO,arr,el',lo,hi',hblk,hold,hend,hlen',hf⟩:=hrel.own b _ hl
      rw[hj]at hj';cases hj'
      by_cases hfit:len+n<=m
      ·
       have hmul:(len+n)*i.size=len*i.size+n*i.size:=Rl _ _ _
       have hroom:(len+n)*i.size<=j.endc:=by
        have h1:(len+n)*i.size<=m*i.size:=HS _ hfit
        have h2:m*i.size<=j.endc:=by rw[hm];simpa[BI.cap]using Nat.div_mul_le_self j.endc i.size
        omega
       obtain⟨w',hst,hw,arr',h3,h4,h5⟩:=Pa (P:=P) (o:=j.shift+len*i.size) hblk hf hnone (by omega)
       have hle:Le R (IS R J.next j):=(E5 R J.next j).le hrel.fresh
       have hrel':Ds C (IS R J.next j) ((J.del b).add (.cells (l++new))) w':=by
        refine hrel.rename hl hj ?_ hw.old hw.size hw.os hw.tape hw.output
        refine⟨arr',el',lo,hi',h3,?_,by omega,by rw[AL];omega,fun o ho=>hf o (by omega)⟩
        intro k v hk
        by_cases hkl:k<l.length
        ·rw[Dl hkl]at hk
         obtain⟨y,hy,ho,hky⟩:=hold k v hk
         refine⟨y,Cq hle _ _ hy,ho,?_⟩
         rw[h5,if_neg (by omega)]
         exact hky
        ·rw[CY (by omega)]at hk
         obtain⟨y,hy,hky⟩:=EI hnc hk
         have hlt:k-l.length<xs.length:=by
          rcases Al (k-l.length) xs.length with h|h
          ·exact h
          ·rw[Aa h]at hky;cases hky
         refine⟨y,Cq hle _ _ hy,hnone y (cC hky),?_⟩
         rw[h5,if_pos (by omega)]
         rw[show j.shift+k-(j.shift+len*i.size)=k-l.length by omega]
         exact hky
       refine⟨_,w',_,E5 _ _ _,Ec _,hrel',Ho (CL _ _ _) (by have hbd:=QR hsv hj;simp only[<-hm]at hbd ⊢;exact⟨hfit,hbd⟩),?_⟩
       have:=Dz (P:=P) (ty:=ty) (base:=some ⟨j.blk,j.shift+0,none⟩) ht hu hnot hi hlen hfit hfn (w':=w') (fun b e=>by cases e;rw[add_eq,ES];exact hst) (fun e=>by cases e)
       rw[this]
       simp[hm]
      ·
       have hrd:NA C.E J b 0 (len*i.size)=some l:=by
        simp[NA,rd,hl,hll,ET (Nat.le_of_eq hll)]
       obtain⟨j',ys,hj',hyc,hyone,hyl,_,hcell⟩:=hrel.readN hrd
       rw[hj]at hj';cases hj'
       obtain⟨w',c',hrun,hrel',hc⟩:=Tg (P:=P) (ty:=ty) (base:=some ⟨j.blk,j.shift+0,none⟩) (sLen:=len) (sCap:=m) hrel ht hu hnot hi hz hzs hyc hnc hyone hnone hyl hxlen hlen (fun d=>by
        have:=run_firstCells_some (P:=P) { w with drawn:=d } i.size len ⟨j.blk,j.shift+0,none⟩ len m ys hyl (fun k v hk=>hcell k v hk)
        exact this) hfd (by omega) hg hpos
       have hrel'':Ds C (IS R J.next ⟨w.heap.size,0,c'*i.size⟩) ((J.del b).add (.cells (l++new))) w':=by
        have:=hrel'.del b
        have hne:¬J.next=b:=by have:=hrel.next_of_own hl;omega
        simpa[H.del,H.add,drop,hne]using this
       refine⟨_,w',_,E5 _ _ _,Ec _,hrel'',Ho (CL _ _ _) (by simp[BI.cap,D9 _ hpos];exact hc),?_⟩
       rw[hrun]
       simp[BI.cap,D9 _ hpos]
     ·cases h
    ·cases h
  ·rename_i b off len z' _
   have hsv:=hs rfl
   obtain⟨j,m,hj,rfl,_,hop⟩:=DF hsv
   obtain⟨hm,hlm⟩:=hop z' rfl
   split at h
   ·rename_i hn0
    cases h
    subst hn0
    have hxs:xs=[]:=Bu (by omega)
    subst hxs
    exact⟨R,w,_,G8.refl _ _,AN _,hrel,hsv,Dz (P:=P) (ty:=ty) ht hu hnot hi hlen hlm hfn (w':=w) (fun b e=>rfl) (fun e=>by cases e)⟩
   ·cases h
  ·cases h
theorem cX {E:EB} {esz n:Nat} {x:V} {l:List V} (h:Ch E J esz x=some (n,l)):x.live=true:=by
 unfold Ch at h
 split at h<;>first | rfl | cases h
theorem xC.value {s:Sem Value} {v:V} {J':H} (h:∃R' w' x,G8 J.next R R'/\J.next<=J'.next/\Ds C R' J' w'/\Au R' v=some x/\s.run P w = .ok x w') :
  xC P C R J (do pure (Next.value (<-s)):Sem Next) w v J':=by
 obtain⟨R',w',x,h1,h2,h3,h4,h5⟩:=h
 exact⟨R',w',x,h1,h2,h3,.inr h4,.inl (by simp[h5])⟩
theorem C3.snoc {R:Cz} {k v:V} {e:MapEntry} (hk:Au R k=some e.key) (hv:Au R v=some e.val):∀{l:List (V × V)} {es:List MapEntry},C3 R l es->C3 R (l++[(k,v)]) (es++[e])
 | [],[],_=>⟨hk,hv,trivial⟩
 | (_,_)::_,_::_,⟨h1,h2,h3⟩=>⟨h1,h2,C3.snoc hk hv h3⟩
 | [],_::_,h=>h.elim
 | _::_,[],h=>h.elim
theorem oC (hrel:Ds C R J w) (he:B9 R e a.tmps) (o:Oper) {v:V} {J':H} (h:Ef C.E (Ag P C.G o.op) e J=some (v,J')) :
  xC P C R J (execOp a.eval o) w v J':=by
 have hg:=hrel.globOk
 obtain⟨dst,op,ty,pos,after,guard⟩:=o
 simp only at h
 cases op with
 | store t x y=>
  simp only[Ag]at h
  cases hs:GM P t with
  | none=>rw[hs]at h;simp only[Ef]at h;cases h
  | some n=>
   rw[hs]at h
   cases n with
   | zero=>
    simp only[Ef]at h
    split at h
    ·rename_i b off hx hy
     simp only[AP.injEq,Prod.mk.injEq]at h
     obtain⟨rfl,rfl⟩:=h
     obtain⟨j,hj,hev⟩:=IF (a:=a) he hg hx
     obtain⟨l,hl,hevy⟩:=Tj (a:=a) he hg hy
     simp only[A5,AP.injEq]at hl;subst hl
     refine⟨R,w,undef,G8.refl _ _,AN _,hrel,.inl rfl,.inr ⟨?_,rfl⟩⟩
     simp only[execOp]
     unfold Instr.storeAt storeVar
     simp[hev,hevy,Instr.sureAddr,EH hs w,Value.cells,He]
    ·cases h
   | succ n=>
   simp only[Ef]at h
   split at h
   ·rename_i b off hx
    split at h
    ·rename_i l hl
     split at h
     ·rename_i hcond
      simp only[AK,AV,BC]at hcond
      obtain⟨⟨hn,hle⟩,hone⟩:=hcond
      cases h
      obtain⟨j,hj,hev⟩:=IF (a:=a) he hg hx
      have hyl:(CZ e (Ap C.G y)).live=true:=by
       cases hy:CZ e (Ap C.G y)with
       | dead=>rw[hy]at hone;simp[V.cells,allOne,V.one]at hone
       | _=>rfl
      have hcs:=Hp (ev (a:=a) he hg rfl hyl)
      have hlen:=Bm hcs
      obtain⟨w',hst,hrel'⟩:=PU (P:=P) hrel (off:=off) hl hcs hone (by omega) hj
      refine⟨R,w',undef,G8.refl _ _,AN _,hrel',.inl rfl,.inr ⟨?_,rfl⟩⟩
      simp only[EU]at hlen
      have hsz:¬((a.eval y).cells.size≠n+1):=by omega
      simp only[execOp]
      unfold Instr.storeAt storeVar
      simp only[Sem.run_bind,hev,Instr.sureAddr,Sem.run_pure,Result.andThen_ok,EH hs w]
      rw[if_neg hsz]
      simp[hst]
     ·cases h
    ·cases h
   ·cases h
 | call c=>
  obtain⟨callee,args,argTypes⟩:=c
  cases callee with
  | value f=>cases f<;>(simp only[Ag,Ef]at h;cases h)
  | invoke r m=>simp only[Ag,Ef]at h;cases h
  | builtin b=>
   have hcall:∀{v J'},xC P C R J (builtin b argTypes ty (args.map fun | .const _=>true | _=>false) (args.map a.eval)) w v J'->xC P C R J (execOp a.eval ⟨dst,.call ⟨.builtin b,args,argTypes⟩,ty,pos,after,guard⟩) w v J':=by
    rintro v J' ⟨R',w',x,h1,h2,h3,h4,h5⟩
    refine⟨R',w',x,h1,h2,h3,h4,?_⟩
    simp only[execOp,resolve,Sem.run_bind,Sem.run_pure,Result.andThen_ok,invoke]
    exact h5
   apply hcall
   simp only[Ag]at h
   obtain⟨args⟩:=args
   obtain⟨argTypes⟩:=argTypes
   generalize (sn (fun | Operand.const _=>true | _=>false) (⟨args⟩:Array Operand))=lits
   unfold LK at h
   split at h
   ·(repeat' split at h)<;>(simp only[Ef]at h;cases h)
   ·(repeat' split at h)<;>(simp only[Ef]at h;cases h)
   ·
    rename_i t u os ox hts has
    simp only at hts has
    subst hts has
    split at h
    ·rename_i el du hu hdu
     split at h
     ·rename_i i hi
      split at h
      ·rename_i z hz
       split at h
       ·simp only[Ef]at h;cases h
       ·rename_i hcond
        simp only[M9,B2,Bool.not_eq_false',bne_eq_false_iff_eq,beq_eq_false_iff_ne]at hcond
        obtain⟨⟨hseq,hpos⟩,hzs⟩:=hcond
        have hnot:du = .string\/∃d,du = .slice d:=by
         cases du<;>first | exact .inl rfl | exact .inr ⟨_,rfl⟩ | cases hseq
        simp only[Ef]at h
        simp only[builtin]
        rw[show sn a.eval ⟨[os,ox]⟩=#[a.eval os,a.eval ox] from by simp]
        apply xC.value
        exact W1 (P:=P) (ty:=ty) hrel hu hdu hnot hi hz hzs (by omega) (fun hl=>ev (a:=a) he hg rfl hl) (fun hl=>ev (a:=a) he hg rfl hl) h
      ·simp only[Ef]at h;cases h
     ·simp only[Ef]at h;cases h
    ·simp only[Ef]at h;cases h
   ·
    rename_i t u od os hts has
    simp only at hts has
    subst hts has
    split at h
    ·rename_i el du hu hdu
     split at h
     ·rename_i i hi
      simp only[Ef]at h
      simp only[builtin]
      rw[show sn a.eval ⟨[od,os]⟩=#[a.eval od,a.eval os] from by simp]
      apply xC.value
      have hsz:(sizeOf el).run P w = .ok i.size w:=by simp[sizeOf,typeInfo,hi]
      have hsrcl:∀{n l},Ch C.E J i.size (CZ e (Ap C.G os))=some (n,l)->(CZ e (Ap C.G os)).live=true:=cX
      split at h
      ·rename_i n l hd hsrc
       cases h
       have hdc:=ev (a:=a) he hg hd rfl
       simp only[Au,AP.injEq]at hdc
       obtain⟨xs,_,_,hlen,_,hfirst⟩:=Pc (P:=P) hrel hsrc (ev (a:=a) he hg rfl (hsrcl hsrc))
       refine⟨R,w,_,G8.refl _ _,AN _,hrel,rfl,?_⟩
       have h0:=hfirst 0 (CH _)
       rw[<-hdc]
       simp[Builtin.copy_,run_underlying hu,hlen,hsz,h0,goInt]
      ·rename_i b off k z n l hd hsrc
       cases h
       obtain⟨j,_,_,hev⟩:=ER (ev (a:=a) he hg hd rfl)
       obtain⟨xs,_,_,hlen,_,hfirst⟩:=Pc (P:=P) hrel hsrc (ev (a:=a) he hg rfl (hsrcl hsrc))
       refine⟨R,w,_,G8.refl _ _,AN _,hrel,rfl,?_⟩
       have h0:=hfirst 0 (CH _)
       rw[hev]
       simp[Builtin.copy_,run_underlying hu,hlen,hsz,h0,goInt,He]
      ·rename_i b off len c n src hd hsrc
       obtain⟨j,m,hj,hev,_⟩:=DF (ev (a:=a) he hg hd rfl)
       obtain⟨xs,hxc,hxone,hlen,hxlen,hfirst⟩:=Pc (P:=P) hrel hsrc (ev (a:=a) he hg rfl (hsrcl hsrc))
       have hf:=hfirst (E9 n len) (Nat.min_le_left _ _)
       split at h
       ·rename_i h0
        cases h
        rw[h0]at hf
        refine⟨R,w,_,G8.refl _ _,AN _,hrel,rfl,?_⟩
        rw[hev]
        simp[Builtin.copy_,run_underlying hu,hlen,hsz,h0,hf,goInt,He]
       ·split at h
        ·rename_i l hl
         split at h
         ·rename_i hcond
          simp only[AK,BC]at hcond
          cases h
          have htk:=QQ hxc (E9 n len*i.size)
          have htl:=Bm hxc
          have hmm:E9 n len*i.size<=n*i.size:=HS _ (Nat.min_le_left _ _)
          obtain⟨w',hst,hrel'⟩:=PU (P:=P) hrel (off:=off) hl htk hcond.2 (by rw[IM];omega) hj
          refine⟨R,w',_,G8.refl _ _,AN _,hrel',rfl,?_⟩
          rw[hev]
          simp[Builtin.copy_,run_underlying hu,hlen,hsz,hf,goInt,hst]
         ·cases h
        ·cases h
      ·cases h
     ·simp only[Ef]at h;cases h
    ·simp only[Ef]at h;cases h
   ·simp only[Ef]at h;cases h
   ·simp only[Ef]at h;cases h
   ·simp only[Ef]at h;cases h
 | mapUpdate t x y z=>
  simp only[Ag]at h
  split at h
  ·rename_i kt vt hut
   simp only[Ef]at h
   unfold TY at h
   split at h
   ·rename_i b hb
    split at h
    ·rename_i l hl
     split at h
     ·rename_i hc
      simp only[AK]at hc
      split at h
      ·rename_i hf
       simp only[AP.injEq,Prod.mk.injEq]at h
       obtain⟨rfl,rfl⟩:=h
       obtain⟨hlk,fs,hfs⟩:=QC hc.1
       have hkv:=ev (a:=a) he hg rfl hlk
       have hvv:=ev (a:=a) he hg rfl hc.2
       obtain⟨i,es,clock,hi,hw,hmh⟩:=hrel.mapAt hl
       obtain⟨j,hj,hmv⟩:=H4 (ev (a:=a) he hg hb rfl)
       rw[hi]at hj;cases hj
       have hget:(getObj i.blk).run P w = .ok (.map es clock) w:=by simp[getObj,Sem.run,hw]
       have hck:=OW (P:=P) hc.1 hkv false w
       have hfa:=Mg hfs hkv w 0 hf hmh
       simp only at hfa
       have hset:∀o,(setObj i.blk o).run P w = .ok () { w with heap:=w.heap.setIfInBounds i.blk o }:=fun o=>by simp[setObj,Sem.run,hw]
       have hlt:i.blk<w.heap.size:=(yh.1 hw).1
       refine⟨R,{ w with heap:=w.heap.setIfInBounds i.blk (.map (es.push { key:=a.eval y,val:=a.eval z,born:=clock }) (clock+1)) },undef,G8.refl _ _,AN _,hrel.write hl hi ?_ ?_ ?_ rfl rfl rfl,.inl rfl,.inr ⟨?_,rfl⟩⟩
       ·exact⟨es.push { key:=a.eval y,val:=a.eval z,born:=clock },clock+1,by simp[hlt],by simpa using C3.snoc (e:={ key:=a.eval y,val:=a.eval z,born:=clock }) hkv hvv hmh⟩
       ·intro k hk
        simp[Ne.symm hk]
       ·simp
       ·simp only[execOp]
        unfold Instr.mapUpdate
        simp[hmv,run_underlying hut,hget,hck,Ll hfs,hfa,hset]
      ·cases h
     ·cases h
    ·cases h
   ·cases h
  ·simp only[Ef]at h;cases h
 | makeMap t r=>cases r<;>(simp only[Ag,Ef]at h;cases h)
 | lookup t x y ok=>cases ok<;>simp only[Ag]at h<;>first | (simp only[Ef]at h;cases h;done) | ((repeat' split at h)<;>(simp only[Ef]at h;cases h))
 | move x=>simp only[Ag,Ef]at h;cases h
 | assign x=>simp only[Ag,Ef]at h;cases h
 | makeFunc f x y=>cases f<;>(simp only[Ag,Ef]at h;cases h)
 | _=>simp only[Ag]at h;first | (simp only[Ef]at h;cases h;done) | ((repeat' split at h)<;>(simp only[Ef]at h;cases h))
end Go.Og
namespace Go.Og
inductive AX where
 | normal | exit (id:Nat) | ret
 deriving DecidableEq,Inhabited
def mu (f:CF->H->Option (AX × CF × H)):Nat->CF->H->Option (AX × CF × H)
 | 0,_,_=>none
 | n+1,e,J=>match f e J with
  | none=>none
  | some (.normal,e',J')=>mu f n e' J'
  | some (x,e',J')=>some (x,e',J')
abbrev AM:=List BY->List DP->CF->H->Option (CF × H)
def Sa (E:EB) (D:Az) (W:AM) (N:Nat):AC->CF->H->Option (AX × CF × H)
 | .skip,e,J=>some (.normal,e,J)
 | .region ops,e,J=>match Lr E D ops e J with
  | some (e',J')=>some (.normal,e',J')
  | none=>none
 | .draw ops ms,e,J=>match W ops ms e J with
  | some (e',J')=>some (.normal,e',J')
  | none=>none
 | .seq a b,e,J=>match Sa E D W N a e J with
  | some (.normal,e',J')=>Sa E D W N b e' J'
  | some (x,e',J')=>some (x,e',J')
  | none=>none
 | .cond c a b,e,J=>match CZ e c with
  | .bool true=>Sa E D W N a e J
  | .bool false=>Sa E D W N b e J
  | _=>none
 | .block id c,e,J=>match Sa E D W N c e J with
  | some (.exit j,e',J')=>if Ax j id then some (.normal,e',J')else some (.exit j,e',J')
  | some (x,e',J')=>some (x,e',J')
  | none=>none
 | .loop c,e,J=>mu (Sa E D W N c) N e J
 | .exit id,e,J=>some (.exit id,e,J)
 | .ret,e,J=>some (.ret,e,J)
 | .keep ts c,e,J=>Sa E D W N c (restr ts e) J
 | .bad,_,_=>none
def LY (E:EB) (e:CF) (J:H):List AR->Option (List V)
 | []=>some []
 | .tmp t::l=>match (Gb e t).live,LY E e J l with
  | true,some r=>some (Gb e t::r)
  | _,_=>none
 | .cell t n::l=>match Gb e t,LY E e J l with
  | .ptr b off,some r=>match n with
   | none=>match rd E J b with
    | some cs=>match cs[off]? with
     | some v=>some (v::r)
     | none=>none
    | none=>none
   | some n=>match NA E J b off n with
    | some cs=>some (.agg cs::r)
    | none=>none
  | _,_=>none
def H3:List Nat->CF->H->H
 | [],_,J=>J
 | t::l,e,J=>H3 l e (match Gb e t with
  | .ptr b 0=>J.del b
  | _=>J)
def EW:List V->V
 | [v]=>v
 | l => .tup l
def Oj:Nat->List V->CF
 | _,[]=>[]
 | k,v::l=>(k,v)::Oj (k+1) l
def cd (E:EB) (D:Az) (W:AM) (N:Nat) (f:cB) (args:List V) (J:H):Option (V × H):=
 match Sa E D W N f.body (Oj 0 args) J with
 | some (.exit _,_,_)=>none
 | some (_,e,J')=>match LY E e J' f.results with
  | some l=>some (EW l,H3 f.frees e J')
  | none=>none
 | none=>none
variable {P:Program} {G:Nat->Bool} {E:EB}
def Cb (P:Program) (E:EB) (G:Nat->Bool) (f:FuncId) (D:List V->H->Option (V × H)):Prop:=
 ∀(C:Cx),C.E=E->C.G=G->∀(R:Cz) (J:H) (w:World) (args:List V) (xs:List Value) (v:V) (J':H),D args J=some (v,J')->Ds C R J w->A5 R args=some xs ->
  I6 P f=true/\Calls P f xs.toArray w fun en w'=>∃R' x,G8 J.next R R'/\J.next<=J'.next/\Ds C R' J' w'/\Au R' v=some x/\en = .returned x
theorem B9.put {R:Cz} {e:CF} {a:Act} (h:B9 R e a.tmps) {dst:Option Nat} (hd:GN a.tmps.size dst=true) {v:V} {x:Value} (hv:v = .dead\/Au R v=some x):B9 R (Cr e dst v) (a.put dst x).tmps:=by
 cases dst with
 | none=>exact h
 | some d=>
  simp only[GN,C1]at hd
  refine⟨fun k u hk=>?_⟩
  simp only[Cr,look]at hk
  simp only[Act.put,BE]
  by_cases hdk:d=k
  ·subst hdk
   rw[if_pos (by simp)]at hk
   cases hk
   rw[if_pos rfl,if_pos hd]
   exact hv.imp id fun h=>⟨x,rfl,h⟩
  ·rw[if_neg (by simpa using hdk)]at hk
   rw[if_neg hdk]
   exact h.at_ k u hk
theorem GX (ls:List Nat) (e:CF) (t:Nat) (v:V) (h:look (restr ls e) t=some v):look e t=some v/\Bp ls t=true:=by
 induction ls with
 | nil=>simp[restr,look]at h
 | cons a ls ih=>
  simp only[restr]at h
  simp only[Bp,CB,AV]
  cases ha:look e a with
  | none=>rw[ha]at h;exact(ih h).imp id .inr
  | some u=>
   rw[ha]at h
   simp only[look]at h
   by_cases hat:a=t
   ·subst hat
    rw[if_pos (by simp)]at h
    cases h
    exact⟨ha,.inl rfl⟩
   ·rw[if_neg (by simpa using hat)]at h
    exact(ih h).imp id .inr
theorem B9.restr {R:Cz} {tmps:Array Value} (ts:List Nat) {e:CF} (h:B9 R e tmps):B9 R (Og.restr ts e) tmps:=
 ⟨fun k v hk=>h.at_ k v (GX ts e k v hk).1⟩
theorem IW (a:Act) (dst:Option Nat) (x:Value):(a.put dst x).tmps.size=a.tmps.size:=by cases dst<;>simp[Act.put]
theorem Ev (a:Act) (dst:Option Nat) (x:Value):(a.put dst x).defers=a.defers:=by cases dst<;>rfl
theorem O4 {D:Az} (hD:∀f,Cb P E G f (D f)) {C:Cx} (hE:C.E=E) (hG:C.G=G) {R:Cz} {J:H} {w:World} {e:CF} {a:Act} (hrel:Ds C R J w) (he:B9 R e a.tmps)
  (o:Oper) {v:V} {J':H} (h:EO E D (Ag P G o.op) e J=some (v,J')) (K:Act->World->Prop) (Q:Exit->Act->World->Prop)
  (hK:∀R' w' x,G8 J.next R R'->J.next<=J'.next->Ds C R' J' w'->(v = .dead\/Au R' v=some x)->K (a.put o.dst x) w'):o.wp P a w K Q:=by
 subst hE hG
 have hg:=hrel.globOk
 have Yx:∀(h:lF C.E (Ag P C.G o.op) e J=some (v,J')),o.wp P a w K Q:=by
  intro h
  unfold lF at h
  split at h
  ·split at h
   ·rename_i v' hp
    cases h
    obtain⟨x,hx,hrun⟩:=Mm (a:=a) (P:=P) he hg o hp w
    unfold Oper.wp
    rw[hrun]
    exact hK R w x (G8.refl _ _) (AN _) hrel (.inr hx)
   ·cases h
  ·split at h
   ·rename_i v' hp
    cases h
    obtain⟨x,hx,hrun⟩:=Mn (P:=P) hrel he o hp
    unfold Oper.wp
    rw[hrun]
    exact hK R w x (G8.refl _ _) (AN _) hrel (.inr hx)
   ·cases h
  ·split at h
   ·rename_i v' b hp
    cases h
    obtain⟨x,w',i,hrun,hn,hi,hx,hok⟩:=O7 (a:=a) (P:=P) he hg o hp (hrel.fresh _ (AN _)) w
    unfold Oper.wp
    rw[hrun]
    exact hK _ w' x (E5 _ _ _) (Ec _) (hrel.alloc hn b i hi hok) (.inr hx)
   ·cases h
  ·obtain⟨R',w',x,h1,h2,h3,h4,h5⟩:=oC (P:=P) hrel he o h
   unfold Oper.wp
   rcases h5 with h5|⟨h5,hv⟩
   ·rw[h5];exact hK R' w' x h1 h2 h3 h4
   ·rw[h5];exact hK R' w' undef h1 h2 h3 (.inl hv)
 have hcallrun:∀(g:FuncId) (args:Array Value),I6 P g=true->(callFunc g args).run P w = .ok (.enter g args) w:=by
  intro g args hok
  unfold I6 at hok
  unfold callFunc
  simp only[Sem.run_bind,run_program,Result.andThen_ok]
  cases hf:P.funcs[g]? with
  | none=>rw[hf]at hok;cases hok
  | some fn=>
   rw[hf]at hok
   simp only[AK,bne_iff_ne]at hok
   have h1:(fn.name == "runtime.NumGoroutine")=false:=by simpa using hok.1
   have h2:fn.body.isNone=false:=by cases hb:fn.body<;>simp_all
   simp only[h1,h2,E3,if_false,Sem.run_pure]
 have enter:∀(g:FuncId) (vs:List V) (xs:List Value),A5 R vs=some xs->D g vs J=some (v,J')->(execOp a.eval o).run P w=(callFunc g xs.toArray).run P w->o.wp P a w K Q:=by
  intro g vs xs hvs hd hrun
  obtain⟨hok,hc⟩:=hD g C rfl rfl R J w vs xs v J' hd hrel hvs
  unfold Oper.wp
  rw[hrun,hcallrun g _ hok,Oper.upon_enter]
  refine hc.mono ?_
  rintro en w' ⟨R',x,h1,h2,h3,h4,rfl⟩
  exact hK R' w' x h1 h2 h3 (.inr h4)
 cases hop:Ag P C.G o.op with
 | call f args=>
  rw[hop]at h
  simp only[EO]at h
  obtain⟨dst,op,ty,pos,after,guard⟩:=o
  have hsh:∃c,op = .call c/\c.callee = .value (.func f)/\args=c.args.toList.map (Ap C.G):=by
   simp only at hop
   cases op<;>simp only[Ag]at hop<;>(try (first | (cases hop;done) | ((repeat' split at hop)<;>(cases hop;done))))
   ·rename_i fn _ _;cases fn<;>cases hop
   ·rename_i r;cases r<;>cases hop
   ·rename_i ok;cases ok
    ·cases hop
    ·simp only at hop;split at hop<;>cases hop
   ·rename_i c
    refine⟨c,rfl,?_⟩
    obtain⟨callee,cargs,argTypes⟩:=c
    simp only at hop
    split at hop
    ·unfold LK at hop;(repeat' split at hop)<;>cases hop
    ·cases hop;exact⟨rfl,rfl⟩
    ·cases hop
    ·cases hop
  obtain⟨c,rfl,hcal,rfl⟩:=hsh
  split at h
  ·rename_i hl
   have hev:=evs (a:=a) he hg c.args.toList hl
   refine enter f _ _ hev h ?_
   obtain⟨callee,cargs,argTypes⟩:=c
   simp only at hcal
   subst hcal
   simp only[execOp,resolve,Act.eval,Deferred.ofValue,Sem.run_bind,Sem.run_pure,Result.andThen_ok,invoke]
   congr 2
   apply Gm
   simp
  ·cases h
 | callv fo args=>
  rw[hop]at h
  simp only[EO]at h
  obtain⟨dst,op,ty,pos,after,guard⟩:=o
  have hsh:∃c t,op = .call c/\c.callee = .value (.tmp t)/\fo = .tmp t/\args=c.args.toList.map (Ap C.G):=by
   simp only at hop
   cases op<;>simp only[Ag]at hop<;>(try (first | (cases hop;done) | ((repeat' split at hop)<;>(cases hop;done))))
   ·rename_i fn _ _;cases fn<;>cases hop
   ·rename_i r;cases r<;>cases hop
   ·rename_i ok;cases ok
    ·cases hop
    ·simp only at hop;split at hop<;>cases hop
   ·rename_i c
    obtain⟨callee,cargs,argTypes⟩:=c
    simp only at hop
    split at hop
    ·unfold LK at hop;(repeat' split at hop)<;>cases hop
    ·cases hop
    ·rename_i t;cases hop;exact⟨_,t,rfl,rfl,rfl,rfl⟩
    ·cases hop
  obtain⟨c,t,rfl,hcal,rfl,rfl⟩:=hsh
  split at h
  ·rename_i g first cap hf
   split at h
   ·rename_i hl
    have hev:=evs (a:=a) he hg c.args.toList hl
    have hfc:=ev (a:=a) (o := .tmp t) he hg (by simpa[Ap]using hf) rfl
    obtain⟨y,z,hy,hz,hfe⟩:=KC hfc
    refine enter g _ _ (HO (HO hy hev) hz) h ?_
    obtain⟨callee,cargs,argTypes⟩:=c
    simp only at hcal
    subst hcal
    simp only[execOp,resolve,hfe,Deferred.ofValue,Sem.run_bind,Sem.run_pure,Result.andThen_ok,invoke]
    congr 2
    apply Gm
    simp
   ·cases h
  ·cases h
 | _=>rw[hop]at h;rw[hop]at Yx;exact Yx (by simpa only [EO]using h)
end Go.Og
namespace Go.Og
variable {P:Program} {G:Nat->Bool} {E:EB} {D:Az} {C:Cx}
def Rd (C:Cx) (nt:Nat) (J J':H) (e':CF) (R:Cz) (K:Act->World->Prop):Prop:=
 ∀R' a' w',G8 J.next R R'->J.next<=J'.next->Ds C R' J' w'->B9 R' e' a'.tmps->nt<=a'.tmps.size->a'.defers=[]->K a' w'
theorem Rd.step {nt:Nat} {J J1 J':H} {e':CF} {R R1:Cz} {K:Act->World->Prop} (h:Rd C nt J J' e' R K) (he:G8 J.next R R1) (hn:J.next<=J1.next):Rd C nt J1 J' e' R1 K:=
 fun R' a' w' h1 h2 h3 h4 h5 h6=>h R' a' w' (he.trans h1 hn) (Ae hn h2) h3 h4 h5 h6
theorem Hl {n m:Nat} {d:Option Nat} (h:GN n d=true) (hnm:n<=m):GN m d=true:=by
 cases d with
 | none=>rfl
 | some d=>simp only[GN,C1]at h ⊢;omega
theorem DW {R:Cz} {e:CF} {a:Act} (he:B9 R e a.tmps) {ops:Array Oper} {o:Oper} {g:Option (Nat × Bool)} (hg:QT ops o.guard=some g) {b:Bool} (h:Bv e g=some b) :
  Region.wanted o (yielded ops a.tmps)=b:=by
 unfold QT at hg
 cases hgd:o.guard with
 | none=>
  rw[hgd]at hg
  simp only[AP.injEq]at hg
  subst hg
  simp only[Bv,AP.injEq]at h
  subst h
  simp[Region.wanted,hgd]
 | some jb=>
  obtain⟨j,want⟩:=jb
  rw[hgd]at hg
  simp only at hg
  split at hg
  ·rename_i t ht
   simp only[AP.injEq]at hg
   subst hg
   simp only[Bv]at h
   split at h
   ·rename_i c hc
    simp only[AP.injEq]at h
    subst h
    obtain⟨x,hx,hcx⟩:=he.get hc rfl
    cases hcx
    simp[Region.wanted,hgd,yielded,ht,hx]
   ·rename_i hc
    simp only[AP.injEq]at h
    subst h
    obtain⟨x,hx,hcx⟩:=he.get hc rfl
    cases hcx
    simp[Region.wanted,hgd,yielded,ht,hx]
   ·cases h
  ·cases hg
theorem NS (hD:∀f,Cb P E G f (D f)) (hE:C.E=E) (hG:C.G=G) (nt:Nat) (ops:Array Oper) (Q:Exit->Act->World->Prop) :
  ∀(l:List Oper) (e:CF) (J:H) (e':CF) (J':H) (R:Cz) (a:Act) (w:World),Lr E D (l.map (BN P G nt ops)) e J=some (e',J') ->
   Ds C R J w->B9 R e a.tmps->nt<=a.tmps.size->a.defers=[]->Rd C nt J J' e' R (Q .normal)->wpList P ops Q l a w
 | [],e,J,e',J',R,a,w,h,hrel,he,hsz,hd,hQ=>by
  simp only[JO,Lr,AP.injEq,Prod.mk.injEq]at h
  obtain⟨rfl,rfl⟩:=h
  exact hQ R a w (G8.refl _ _) (AN _) hrel he hsz hd
 | o::l,e,J,e',J',R,a,w,h,hrel,he,hsz,hd,hQ=>by
  simp only[B3,Lr]at h
  by_cases hgd:∃g,QT ops o.guard=some g/\GN nt o.dst=true
  ·obtain⟨g,hg,hdst⟩:=hgd
   have hco:BN P G nt ops o=⟨o.dst,Ag P G o.op,g⟩:=by simp only[BN,hg,hdst]
   rw[hco]at h
   simp only at h
   have hdst':=Hl hdst hsz
   cases hw:Bv e g with
   | none=>rw[hw]at h;cases h
   | some b=>
    rw[hw]at h
    have hwant:=DW he hg hw
    cases b with
    | false=>
     simp only at h
     unfold wpList
     rw[if_neg (by rw[hwant];simp)]
     exact NS hD hE hG nt ops Q l _ J e' J' R _ w h hrel (he.put hdst' (.inr rfl)) (by rw[IW];exact hsz) (by rw[Ev];exact hd) hQ
    | true=>
     simp only at h
     cases h1:EO E D (Ag P G o.op) e J with
     | none=>rw[h1]at h;cases h
     | some q=>
      obtain⟨v,J1⟩:=q
      rw[h1]at h
      simp only at h
      unfold wpList
      rw[if_pos hwant]
      left
      refine O4 hD hE hG hrel he o h1 _ _ (fun R1 w1 x he1 hn1 hrel1 hv=>?_)
      exact NS hD hE hG nt ops Q l _ J1 e' J' R1 _ w1 h hrel1 ((he.mono (he1.le hrel.fresh)).put hdst' hv) (by rw[IW];exact hsz) (by rw[Ev];exact hd) (hQ.step he1 hn1)
  ·have hco:BN P G nt ops o=⟨o.dst,.bad,none⟩:=by
    unfold BN
    split
    ·rename_i g h1 h2;exact(hgd ⟨g,h1,h2⟩).elim
    ·rfl
   rw[hco]at h
   simp[Bv,EO,lF,Ej.cls,Be]at h
def RD (P:Program) (E:EB) (G:Nat->Bool) (W:AM):Prop:=
 ∀(C:Cx),C.E=E->C.G=G->∀(nt:Nat) (id:Nat) (ops:Array Oper) (e:CF) (J:H) (e':CF) (J':H),Pp ops (ops.toList.map (BN P G nt ops)) (GS ops)=true->W (ops.toList.map (BN P G nt ops)) (GS ops) e J=some (e',J') ->
  ∀(R:Cz) (a:Act) (w:World) (Q:Exit->Act->World->Prop),Ds C R J w->B9 R e a.tmps->nt<=a.tmps.size->a.defers=[]->Rd C nt J J' e' R (Q .normal)->(Code.region id ops true).wp P Q a w
def AX.exit':AX->Exit
 | .normal => .normal
 | .exit id => .exit id
 | .ret => .ret
theorem uZ (hD:∀f,Cb P E G f (D f)) {W:AM} (hW:RD P E G W) (hE:C.E=E) (hG:C.G=G) (N nt:Nat) :
  ∀(ac:AC) (c:Code),ac.strip=CT P G nt c->∀(e:CF) (J:H) (x:AX) (e':CF) (J':H),Sa E D W N ac e J=some (x,e',J') ->
   ∀(R:Cz) (a:Act) (w:World) (Q:Exit->Act->World->Prop),Ds C R J w->B9 R e a.tmps->nt<=a.tmps.size->a.defers=[]->Rd C nt J J' e' R (Q x.exit')->c.wp P Q a w:=by
 intro ac
 induction ac with
 | bad=>intro c _ e J x e' J' h;cases h
 | keep ts ac ih=>
  intro c hs e J x e' J' h R a w Q hrel he hsz hd hQ
  exact ih c hs _ J x e' J' h R a w Q hrel (he.restr ts) hsz hd hQ
 | skip=>
  intro c hs e J x e' J' h R a w Q hrel he hsz hd hQ
  cases h
  cases c<;>simp only[AC.strip,CT]at hs<;>(try (cases hs;done))
  ·exact wp_skip (hQ R a w (G8.refl _ _) (AN _) hrel he hsz hd)
  ·rename_i i o d;cases d<;>(first | (cases hs;done) | (simp only[CT]at hs;split at hs<;>cases hs))
 | exit id=>
  intro c hs e J x e' J' h R a w Q hrel he hsz hd hQ
  cases h
  cases c<;>simp only[AC.strip,CT]at hs<;>(try (cases hs;done))
  ·rename_i i o d;cases d<;>(first | (cases hs;done) | (simp only[CT]at hs;split at hs<;>cases hs))
  ·cases hs;exact wp_exit (hQ R a w (G8.refl _ _) (AN _) hrel he hsz hd)
 | ret=>
  intro c hs e J x e' J' h R a w Q hrel he hsz hd hQ
  cases h
  cases c<;>simp only[AC.strip,CT]at hs<;>(try (cases hs;done))
  ·rename_i i o d;cases d<;>(first | (cases hs;done) | (simp only[CT]at hs;split at hs<;>cases hs))
  ·exact wp_ret (hQ R a w (G8.refl _ _) (AN _) hrel he hsz hd)
 | region ops=>
  intro c hs e J x e' J' h R a w Q hrel he hsz hd hQ
  cases c<;>simp only[AC.strip,CT]at hs<;>(try (cases hs;done))
  rename_i i o d
  cases d
  case true=>simp only[CT]at hs;split at hs<;>cases hs
  simp only[CT]at hs
  cases hs
  simp only[Sa]at h
  cases h1:Lr E D (o.toList.map (BN P G nt o)) e J with
  | none=>rw[h1]at h;cases h
  | some q=>
   obtain⟨e1,J1⟩:=q
   rw[h1]at h
   cases h
   exact wp_region_list (NS hD hE hG nt o Q o.toList e J _ _ R a w h1 hrel he hsz hd hQ)
 | draw ops ms=>
  intro c hs e J x e' J' h R a w Q hrel he hsz hd hQ
  cases c<;>simp only[AC.strip,CT]at hs<;>(try (cases hs;done))
  rename_i i o d
  cases d<;>simp only[CT]at hs<;>(try (cases hs;done))
  split at hs
  case isFalse=>cases hs
  rename_i hplan
  cases hs
  simp only[Sa]at h
  cases h1:W (o.toList.map (BN P G nt o)) (GS o) e J with
  | none=>rw[h1]at h;cases h
  | some q=>
   obtain⟨e1,J1⟩:=q
   rw[h1]at h
   cases h
   exact hW C hE hG nt i o e J _ _ hplan h1 R a w Q hrel he hsz hd hQ
 | seq p q ihp ihq=>
  intro c hs e J x e' J' h R a w Q hrel he hsz hd hQ
  cases c<;>simp only[AC.strip,CT]at hs<;>(try (cases hs;done))
  ·rename_i i o d;cases d<;>(first | (cases hs;done) | (simp only[CT]at hs;split at hs<;>cases hs))
  rename_i c1 c2
  simp only[AC.seq.injEq]at hs
  simp only[Sa]at h
  cases h1:Sa E D W N p e J with
  | none=>rw[h1]at h;cases h
  | some r=>
   obtain⟨x1,e1,J1⟩:=r
   rw[h1]at h
   refine wp_seq (ihp c1 hs.1 e J x1 e1 J1 h1 R a w _ hrel he hsz hd ?_)
   cases x1 with
   | normal=>
    simp only at h
    intro R1 a1 w1 hx1 hn1 hrel1 he1 hs1 hd1
    exact ihq c2 hs.2 e1 J1 x e' J' h R1 a1 w1 Q hrel1 he1 hs1 hd1 (hQ.step hx1 hn1)
   | exit id=>cases h;exact hQ
   | ret=>cases h;exact hQ
 | cond o p q ihp ihq=>
  intro c hs e J x e' J' h R a w Q hrel he hsz hd hQ
  cases c<;>simp only[AC.strip,CT]at hs<;>(try (cases hs;done))
  ·rename_i i o d;cases d<;>(first | (cases hs;done) | (simp only[CT]at hs;split at hs<;>cases hs))
  rename_i co c1 c2
  simp only[AC.cond.injEq]at hs
  obtain⟨rfl,h1,h2⟩:=hs
  simp only[Sa]at h
  split at h
  ·rename_i ho
   exact wp_cond_true (Ku he (hG ▸ hrel.globOk) ho) (ihp c1 h1 e J x e' J' h R a w Q hrel he hsz hd hQ)
  ·rename_i ho
   exact wp_cond_false (Ku he (hG ▸ hrel.globOk) ho) (ihq c2 h2 e J x e' J' h R a w Q hrel he hsz hd hQ)
  ·cases h
 | block id p ih=>
  intro c hs e J x e' J' h R a w Q hrel he hsz hd hQ
  cases c<;>simp only[AC.strip,CT]at hs<;>(try (cases hs;done))
  ·rename_i i o d;cases d<;>(first | (cases hs;done) | (simp only[CT]at hs;split at hs<;>cases hs))
  rename_i i c1
  simp only[AC.block.injEq]at hs
  obtain⟨rfl,hs⟩:=hs
  simp only[Sa]at h
  cases h1:Sa E D W N p e J with
  | none=>rw[h1]at h;cases h
  | some r=>
   obtain⟨x1,e1,J1⟩:=r
   rw[h1]at h
   refine wp_block (ih c1 hs e J x1 e1 J1 h1 R a w _ hrel he hsz hd ?_)
   cases x1 with
   | normal=>cases h;exact hQ
   | ret=>cases h;exact hQ
   | exit j=>
    simp only at h
    split at h
    ·rename_i hj
     simp only[AV]at hj
     cases h
     intro R1 a1 w1 h1 h2 h3 h4 h5 h6
     show Exit.inBlock id Q (.exit j) a1 w1
     simp only[Exit.inBlock]
     rw[if_pos hj]
     exact hQ R1 a1 w1 h1 h2 h3 h4 h5 h6
    ·rename_i hj
     simp only[AV]at hj
     cases h
     intro R1 a1 w1 h1 h2 h3 h4 h5 h6
     show Exit.inBlock id Q (.exit j) a1 w1
     simp only[Exit.inBlock]
     rw[if_neg hj]
     exact hQ R1 a1 w1 h1 h2 h3 h4 h5 h6
 | loop p ih=>
  intro c hs e J x e' J' h R a w Q hrel he hsz hd hQ
  cases c<;>simp only[AC.strip,CT]at hs<;>(try (cases hs;done))
  ·rename_i i o d;cases d<;>(first | (cases hs;done) | (simp only[CT]at hs;split at hs<;>cases hs))
  rename_i c1
  simp only[AC.loop.injEq]at hs
  simp only[Sa]at h
  have key:∀(n:Nat) (e:CF) (J:H) (R:Cz) (a:Act) (w:World),mu (Sa E D W N p) n e J=some (x,e',J')->Ds C R J w->B9 R e a.tmps->nt<=a.tmps.size->a.defers=[] ->
    Rd C nt J J' e' R (Q x.exit')->Code.rounds P c1 Q n a w:=by
   intro n
   induction n with
   | zero=>intro e J R a w h;cases h
   | succ n ihn=>
    intro e J R a w h hrel he hsz hd hQ
    simp only[mu]at h
    cases h1:Sa E D W N p e J with
    | none=>rw[h1]at h;cases h
    | some r=>
     obtain⟨x1,e1,J1⟩:=r
     rw[h1]at h
     rw[rounds_succ]
     refine ih c1 hs e J x1 e1 J1 h1 R a w _ hrel he hsz hd ?_
     cases x1 with
     | normal=>
      simp only at h
      intro R1 a1 w1 hx1 hn1 hrel1 he1 hs1 hd1
      exact ihn e1 J1 R1 a1 w1 h hrel1 he1 hs1 hd1 (hQ.step hx1 hn1)
     | exit id=>cases h;exact hQ
     | ret=>cases h;exact hQ
  exact wp_loop_rounds N (key N e J R a w h hrel he hsz hd hQ)
theorem Ox {R:Cz} {J:H} {w:World} {e:CF} {tmps:Array Value} (hrel:Ds C R J w) (he:B9 R e tmps):∀(rs:List ResultVar) (as:List AR) (l:List V),Ge P rs=some as->LY C.E e J as=some l ->
  ∃xs,A5 R l=some xs/\(rs.mapM (m:=Sem) fun
   | .tmp t=>pure (tmps.getD t undef)
   | .cell a t=>do loadVar t (<-asAddr (tmps.getD a undef))).run P w = .ok xs w
 | [],as,l,hc,h=>by
  simp only[Ge,AP.injEq]at hc;subst hc
  simp only[LY,AP.injEq]at h;subst h
  exact⟨[],rfl,rfl⟩
 | r::rs,as,l,hc,h=>by
  have hget:∀(t:Nat) (v:V),Gb e t=v->v.live=true->Au R v=some (tmps.getD t undef):=by
   intro t v hv hl
   obtain⟨x,hx,hc⟩:=he.get hv hl
   rw[hc,EF,hx];rfl
  simp only[Ge]at hc
  cases hr:QS P r with
  | none=>rw[hr]at hc;cases hc
  | some ar=>
   cases hrs:Ge P rs with
   | none=>rw[hr,hrs]at hc;cases hc
   | some as'=>
    rw[hr,hrs]at hc
    simp only[AP.injEq]at hc
    subst hc
    cases r with
    | tmp t=>
     simp only[QS,AP.injEq]at hr
     subst hr
     simp only[LY]at h
     split at h
     ·rename_i l' hl hrest
      cases h
      obtain⟨xs,h1,h2⟩:=Ox hrel he rs as' l' hrs hrest
      refine⟨_,Bh.2 ⟨_,_,hget t _ rfl hl,h1,rfl⟩,?_⟩
      rw[Uk]
      simp only[Sem.run_bind,Sem.run_pure,Result.andThen_ok,h2]
     ·cases h
    | cell t ty=>
     simp only[QS]at hr
     cases hs:Gn P ty with
     | none=>rw[hs]at hr;cases hr
     | some n=>
      rw[hs]at hr
      simp only[AP.injEq]at hr
      subst hr
      simp only[LY]at h
      split at h
      ·rename_i b off l' hb hrest
       obtain⟨j,hj,hev⟩:=I4 (hget t _ hb rfl)
       obtain⟨xs,h1,h2⟩:=Ox hrel he rs as' l' hrs hrest
       obtain⟨hagg,hsz⟩:=Kh (P:=P) hs w
       split at h
       ·split at h
        ·rename_i cs hrd
         split at h
         ·rename_i v hk
          cases h
          obtain⟨i,arr,el,fr,hi,hblk,hold⟩:=hrel.read hrd
          rw[hj]at hi;cases hi
          obtain⟨y,hy,_,hay⟩:=hold off v hk
          refine⟨_,Bh.2 ⟨_,_,hy,h1,rfl⟩,?_⟩
          have hcell:w.cell? ⟨j.blk,j.shift+off,none⟩=some y:=by rw[O5 hblk];exact hay
          have hla:(do loadVar ty (<-asAddr (tmps.getD t undef)):Sem Value).run P w = .ok y w:=by
           simp only[Sem.run_bind,hev,asAddr,Sem.run_pure,Result.andThen_ok,loadVar,hagg,Option.isSome_none,E3,if_false,run_load,hcell]
          rw[Uk]
          refine(Sem.run_bind P w _ _).trans ?_
          refine(congrArg (fun r=>Result.andThen r _) hla).trans ?_
          simp only[Sem.run_bind,h2,Sem.run_pure,Result.andThen_ok]
         ·cases h
        ·cases h
       ·rename_i n
        split at h
        ·rename_i cs hrd
         cases h
         obtain⟨i,ys,hi,hyc,_,hlen,_,hcell⟩:=hrel.readN hrd
         rw[hj]at hi;cases hi
         refine⟨_,Bh.2 ⟨_,_,Dj hyc,h1,rfl⟩,?_⟩
         have hl:=run_loadCells_list (P:=P) w ⟨j.blk,j.shift+off,none⟩ ys hcell
         rw[hlen]at hl
         have hla:(do loadVar ty (<-asAddr (tmps.getD t undef)):Sem Value).run P w = .ok (.agg ys.toArray) w:=by
          simp only[Sem.run_bind,hev,asAddr,Sem.run_pure,Result.andThen_ok,loadVar,hagg,Option.isSome_some,if_true,hsz n rfl,hl]
         rw[Uk]
         refine(Sem.run_bind P w _ _).trans ?_
         refine(congrArg (fun r=>Result.andThen r _) hla).trans ?_
         simp only[Sem.run_bind,h2,Sem.run_pure,Result.andThen_ok]
        ·cases h
      ·cases h
theorem Lk {R:Cz} {w:World}:∀(ts:List Nat) (e:CF) (J:H),Ds C R J w->Ds C R (H3 ts e J) w/\(H3 ts e J).next=J.next
 | [],_,_,h=>⟨h,rfl⟩
 | t::ts,e,J,h=>by
  simp only[H3]
  split
  ·obtain⟨h1,h2⟩:=Lk ts e _ (h.del _)
   exact⟨h1,h2⟩
  ·exact Lk ts e J h
theorem Y0 {R:Cz} {l:List V} {xs:List Value} (h:A5 R l=some xs):Au R (EW l)=some (if h:xs.toArray.size=1 then xs.toArray[0] else .tuple xs.toArray):=by
 match l,xs,h with
 | [],xs,h=>simp only[A5,AP.injEq]at h;subst h;rfl
 | [v],xs,h=>
  obtain⟨x,ys,hx,hy,rfl⟩:=Bh.1 h
  simp only[A5,AP.injEq]at hy;subst hy
  simp[EW,hx]
 | u::v::l,xs,h=>
  have hl:=Bm h
  rw[dif_neg (by simp at hl ⊢;omega)]
  exact KB h
theorem cc (hD:∀f,Cb P E G f (D f)) {W:AM} (hW:RD P E G W) (N:Nat) {f:FuncId} {fn:Func} (hf:P.funcs[f]? = some fn) {af af':cB} (hc:Mk P G fn=some af') (hs:af.strip=af')
  (hok:I6 P f=true):Cb P E G f (cd E D W N af):=by
 intro C hE hG R J w args xs v J' h hrel hxs
 refine⟨hok,?_⟩
 unfold Mk at hc
 cases hb:fn.body with
 | none=>rw[hb]at hc;cases hc
 | some c=>
  cases hr:Ge P fn.results.toList with
  | none=>rw[hb,hr]at hc;cases hc
  | some rs=>
   rw[hb,hr]at hc
   simp only[AP.injEq]at hc
   rw[<-hs]at hc
   obtain⟨nt,res,frees,body⟩:=af
   simp only[cB.strip,cB.mk.injEq]at hc
   obtain⟨rfl,rfl,_,hbody⟩:=hc
   unfold cd at h
   simp only at h
   have hlen:=Bm hxs
   refine calls_of_wp hf hb ?_
   have hsz:fn.ntmps<=(xs.toArray++HE (fn.ntmps-xs.toArray.size) undef).size:=by simp;omega
   have harg:∀(l:List V) (ys:List Value) (k:Nat),A5 R l=some ys->∀(t:Nat) (v:V),look (Oj k l) t=some v->∃y,k<=t/\ys[t-k]? = some y/\Au R v=some y:=by
    intro l
    induction l with
    | nil=>intro ys k _ t v h;simp[Oj,look]at h
    | cons u l ih=>
     intro ys k hc t v h
     obtain⟨y,zs,hy,hz,rfl⟩:=Bh.1 hc
     simp only[Oj,look]at h
     by_cases hk:k=t
     ·subst hk
      rw[if_pos (by simp)]at h
      cases h
      exact⟨y,AN _,by simp,hy⟩
     ·rw[if_neg (by simpa using hk)]at h
      obtain⟨q,h1,h2,h3⟩:=ih zs (k+1) hz t v h
      exact⟨q,by omega,by rw[show t-k=(t-(k+1))+1 by omega,CK];exact h2,h3⟩
   have he0:B9 R (Oj 0 args) (xs.toArray++HE (fn.ntmps-xs.toArray.size) undef):=by
    refine⟨fun k u hk=>?_⟩
    obtain⟨y,_,h2,h3⟩:=harg args xs 0 hxs k u hk
    refine .inr ⟨y,?_,h3⟩
    rw[qW]at h2
    have hlt:k<xs.length:=by
     rcases Al k xs.length with h|h
     ·exact h
     ·rw[Aa h]at h2;cases h2
    rw[MD (by simpa using hlt)]
    simpa using h2
   have fin:∀{x:AX} {e:CF} {J1:H},Sa E D W N body (Oj 0 args) J=some (x,e,J1)->(x = .normal\/x = .ret) ->
     (match LY E e J1 rs with | some l=>some (EW l,H3 frees e J1) | none=>none)=some (v,J') ->
     c.wp P (bodyPost P fn fun en w'=>∃R' x,G8 J.next R R'/\J.next<=J'.next/\Ds C R' J' w'/\Au R' v=some x/\en = .returned x)
      { tmps:=xs.toArray++HE (fn.ntmps-xs.toArray.size) undef,defers:=[] } w:=by
    intro x e J1 hden hx hres
    cases hrv:LY E e J1 rs with
    | none=>rw[hrv]at hres;cases hres
    | some l=>
     rw[hrv]at hres
     simp only[AP.injEq,Prod.mk.injEq]at hres
     obtain⟨rfl,rfl⟩:=hres
     refine uZ hD hW hE hG N fn.ntmps body c hbody.symm _ J x e J1 hden R _ w _ hrel he0 hsz rfl ?_
     intro R1 a1 w1 hx1 hn1 hrel1 he1 _ hd1
     obtain⟨ys,hyc,hyrun⟩:=Ox (P:=P) hrel1 he1 fn.results.toList _ l hr (hE ▸ hrv)
     obtain⟨hfree,hfn⟩:=Lk frees e J1 hrel1
     have hres:(results fn a1.tmps).run P w1 = .ok (if h:ys.toArray.size=1 then ys.toArray[0] else .tuple ys.toArray) w1:=by
      unfold results
      refine(Sem.run_bind P w1 _ _).trans ?_
      rw[NC,Sem.run_map]
      refine(congrArg (fun r=>Result.andThen (Result.andThen r _) _) hyrun).trans rfl
     have hR:∃R' x,G8 J.next R R'/\J.next<=(H3 frees e J1).next/\Ds C R' (H3 frees e J1) w1/\Au R' (EW l)=some x /\
       Ending.returned (if h:ys.toArray.size=1 then ys.toArray[0] else .tuple ys.toArray) = .returned x:=
      ⟨R1,_,hx1,by rw[hfn];exact hn1,hfree,Y0 hyc,rfl⟩
     rcases hx with rfl|rfl
     ·exact⟨hd1,_,hres,hR⟩
     ·exact⟨hd1,_,hres,hR⟩
   split at h
   ·cases h
   ·rename_i x e J1 hne hden
    refine fin hden ?_ h
    cases x with
    | normal=>exact .inl rfl
    | ret=>exact .inr rfl
    | exit id=>exact(hne id rfl).elim
   ·cases h
end Go.Og
